/-
  Functions of plain Lean beside functions of the program, printed by a program of the session. No condition.
-/
import Derived.Test.YtlnelldekejadaaTp
import Derived.Test.YtlnelldekejadaaMx24
set_option linter.all false
set_option maxRecDepth 100000
namespace Go.Eng
open Go
def T_inertia_Signs (q0_0:Int) (q0_1:Int) (l0_2:List Dy):Option (Int×Int×Int×Int):=
  signsDo q0_0 q0_1 l0_2
def T_inertia_Below (q0_0:Int) (q0_1:Int) (l0_2:List Dy) (q1_0:Bool) (l1_1:List Int) (q1_2:Int):Option (Int×Int):=
  belowDo q0_0 q0_1 l0_2 q1_0 l1_1 q1_2
def T_inertia_Poly (q0_0:Int) (q0_1:Int) (l0_2:List Dy):Option (List Dy×Int):=
  polyDo q0_0 q0_1 l0_2
def T_w16_awake  : Option Bool:=
  (some [1,2,2,1]).bind fun t1=>
  (T_w16_of 2 t1).bind fun o=>match o with
  | (t2,t3,t4)=>
  (T_inertia_Signs t2 t3 t4).bind fun o=>match o with
  | (t5,t6,t7,t8)=>
  (some [1,2,2,1]).bind fun t9=>
  (T_w16_of 2 t9).bind fun o=>match o with
  | (t10,t11,t12)=>
  (T_inertia_Poly t10 t11 t12).bind fun o=>match o with
  | (t13,t14)=>
  (some [1,2,2,1]).bind fun t15=>
  (T_w16_of 2 t15).bind fun o=>match o with
  | (t16,t17,t18)=>
  (T_r02_Int 4).bind fun o=>match o with
  | (t19,t20,t21)=>
  (T_inertia_Below t16 t17 t18 t19 t20 t21).bind fun o=>match o with
  | (t22,t23)=>
  cond (t8==0)
    (cond (t14==0)
        (cond (t23==0)
            (cond (t22==2)
                (cond (t5==1&&(t6==0&&t7==1))
                    ((some [(-3),(-2),1]).bind fun t24=>
                      (T_w16_of 3 t24).bind fun o=>match o with
                      | (t25,t26,t27)=>
                      (T_k_SameDyads t13 t27).bind fun t28=>
                      some t28)
                    (some false))
                (some false))
            (some false))
        (some false))
    (some false)
def T_w16_InertiaSylvester_b38 (t1:Int) (l1:List Int) (t10:Int) (l2:List Int) (t29:Int):(Int×Int)→Option ((Int×Int)⊕(Int)):=fun st=>match st with
| (t34,t35)=>
  cond (decide (t35<t1))
    ((T_w16_lower l1 t10 t35).bind fun t36=>
      (T_w16_part l2 t35 1000).bind fun t37=>
      (T_w16_lower l1 t29 t35).bind fun t38=>
      some (.inl ((IntKind.i64.wrap (t34+(IntKind.i64.wrap ((IntKind.i64.wrap (t36*t37))*t38)))),(IntKind.i64.wrap (t35+1)))))
    (some (.inr t34))
def T_w16_InertiaSylvester_b36 (t1:Int) (l1:List Int) (t10:Int) (l2:List Int) (t2:Int):(Int×List Dy×List Dy×List Dy)→Option ((Int×List Dy×List Dy×List Dy)⊕((List Dy×List Dy×List Dy)⊕Bool)):=fun st=>match st with
| (t29,t30,t31,t32)=>
  cond (decide (t29<t1))
    ((iter (T_w16_InertiaSylvester_b38 t1 l1 t10 l2 t29) FU (0,0)).bind fun t33=>
      (T_dyad_Int t33).bind fun o=>match o with
      | (t39,t40,t41)=>
      (T_dyad_Scale t39 t40 t41 (IntKind.i64.wrap (t2-60))).bind fun o=>match o with
      | (t42,t43,t44,t45)=>
      (T_dyad_Neg t42 t43 t44).bind fun o=>match o with
      | (t46,t47,t48,t49)=>
      (cond (!(t45 != 0))
          (some (t49 != 0))
          (some true)).bind fun t50=>
      cond t50
        (some (.inr (.inr false)))
        ((some ([(t42,t43,t44)]:List Dy)).bind fun t51=>
          (appL t32 t51).bind fun t52=>
          (some ([(t46,t47,t48)]:List Dy)).bind fun t53=>
          (appL t31 t53).bind fun t54=>
          (atI t30 (IntKind.i64.wrap ((IntKind.i64.wrap ((IntKind.i64.wrap ((IntKind.i64.wrap ((IntKind.i64.wrap ((IntKind.i64.wrap (t1-1))-t10))*t1))+t1))-1))-t29))).bind fun t55=>
          (some (t30.set ((IntKind.i64.wrap ((IntKind.i64.wrap ((IntKind.i64.wrap ((IntKind.i64.wrap ((IntKind.i64.wrap ((IntKind.i64.wrap (t1-1))-t10))*t1))+t1))-1))-t29))).toNat (t42,t43,t44))).bind fun t56=>
          some (.inl ((IntKind.i64.wrap (t29+1)),t56,t54,t52))))
    (some (.inr (.inl (t30,t31,t32))))
def T_w16_InertiaSylvester_b27 (t1:Int) (l2:List Int) (l1:List Int) (t2:Int):(Int×Int×Int×Int×List Dy×List Dy×List Dy)→Option ((Int×Int×Int×Int×List Dy×List Dy×List Dy)⊕((Int×Int×Int×List Dy×List Dy×List Dy)⊕Bool)):=fun st=>match st with
| (t10,t11,t12,t13,t14,t15,t16)=>
  cond (decide (t10<t1))
    ((T_w16_part l2 t10 1000).bind fun t17=>
      ((cond (decide (t17<0))
            (some ((IntKind.i64.wrap (t11+1)),t12,t13))
            ((cond (decide (t17>0))
                  (some (t12,(IntKind.i64.wrap (t13+1))))
                  (some ((IntKind.i64.wrap (t12+1)),t13))).bind fun o=>match o with
              | (t24,t25)=>some (t11,t24,t25))).bind fun o=>match o with
        | (t21,t22,t23)=>some (t21,t22,t23)).bind fun o=>match o with
      | (t18,t19,t20) => 
      ((iter (T_w16_InertiaSylvester_b36 t1 l1 t10 l2 t2) FU (0,t14,t15,t16):Option ((List Dy×List Dy×List Dy)⊕Bool))).bind fun o=>match o with
      | .inl (t26,t27,t28)=>some (.inl ((IntKind.i64.wrap (t10+1)),t18,t19,t20,t26,t27,t28))
      | .inr v=>some (.inr (.inr v)))
    (some (.inr (.inl (t11,t12,t13,t14,t15,t16))))
def T_w16_InertiaSylvester (q0:Int) (l1:List Int) (l2:List Int) (q3:Int):Option Bool:=
  (T_k_Pick q0 9).bind fun t1=>
  (T_k_Pick q3 121).bind fun t2=>
  (mkL ((false,[],0):Dy) (IntKind.i64.wrap (t1*t1)) (IntKind.i64.wrap (t1*t1))).bind fun t3=>
  ((iter (T_w16_InertiaSylvester_b27 t1 l2 l1 t2) FU (0,0,0,0,t3,([]:List Dy),([]:List Dy)):Option ((Int×Int×Int×List Dy×List Dy×List Dy)⊕Bool))).bind fun o=>match o with
  | .inl (t4,t5,t6,t7,t8,t9) => 
    ((T_inertia_Signs t1 t1 t9).bind fun o=>match o with
      | (t57,t58,t59,t60)=>
      (T_inertia_Signs t1 t1 t8).bind fun o=>match o with
      | (t61,t62,t63,t64)=>
      (T_inertia_Signs t1 t1 t7).bind fun o=>match o with
      | (t65,t66,t67,t68)=>
      (T_dyad_Int 0).bind fun o=>match o with
      | (t69,t70,t71)=>
      (T_inertia_Below t1 t1 t9 t69 t70 t71).bind fun o=>match o with
      | (t72,t73)=>
      cond ((IntKind.i64.wrap ((IntKind.i64.wrap ((IntKind.i64.wrap (t60+t64))+t68))+t73))==0)
        (cond (t57==t4&&(t58==t5&&t59==t6))
            (cond (t65==t4&&(t66==t5&&t67==t6))
                (cond (t72==t4)
                    (cond (t61==t6&&(t62==t5&&t63==t4))
                        ((T_w16_awake ).bind fun t74=>
                          some t74)
                        (some false))
                    (some false))
                (some false))
            (some false))
        (some false))
  | .inr v=>some v
end Go.Eng
