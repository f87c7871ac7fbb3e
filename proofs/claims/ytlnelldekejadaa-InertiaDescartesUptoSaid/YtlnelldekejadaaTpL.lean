/-
  Functions of plain Lean beside functions of the program, printed by a program of the session. No condition.
-/
import Derived.Test.YtlnelldekejadaaTp
import Derived.Test.YtlnelldekejadaaMx24
set_option linter.all false
set_option maxRecDepth 100000
namespace Go.Eng
open Go
def T_inertia_Signs (q0_0:Int) (q0_1:Int) (l0_2:List Dy):Option (Int×Int×Int×Int):=
  signsDo q0_0 q0_1 l0_2
def T_inertia_Poly (q0_0:Int) (q0_1:Int) (l0_2:List Dy):Option (List Dy×Int):=
  polyDo q0_0 q0_1 l0_2
def T_inertia_Below (q0_0:Int) (q0_1:Int) (l0_2:List Dy) (q1_0:Bool) (l1_1:List Int) (q1_2:Int):Option (Int×Int):=
  belowDo q0_0 q0_1 l0_2 q1_0 l1_1 q1_2
def T_w16_awake  : Option Bool:=
  (some [1,2,2,1]).bind fun t1=>
  (T_w16_of 2 t1).bind fun o=>match o with
  | (t2,t3,t4)=>
  (T_inertia_Signs t2 t3 t4).bind fun o=>match o with
  | (t5,t6,t7,t8)=>
  (some [1,2,2,1]).bind fun t9=>
  (T_w16_of 2 t9).bind fun o=>match o with
  | (t10,t11,t12)=>
  (T_inertia_Poly t10 t11 t12).bind fun o=>match o with
  | (t13,t14)=>
  (some [1,2,2,1]).bind fun t15=>
  (T_w16_of 2 t15).bind fun o=>match o with
  | (t16,t17,t18)=>
  (T_r02_Int 4).bind fun o=>match o with
  | (t19,t20,t21)=>
  (T_inertia_Below t16 t17 t18 t19 t20 t21).bind fun o=>match o with
  | (t22,t23)=>
  cond (t8==0)
    (cond (t14==0)
        (cond (t23==0)
            (cond (t22==2)
                (cond (t5==1&&(t6==0&&t7==1))
                    ((some [(-3),(-2),1]).bind fun t24=>
                      (T_w16_of 3 t24).bind fun o=>match o with
                      | (t25,t26,t27)=>
                      (T_k_SameDyads t13 t27).bind fun t28=>
                      some t28)
                    (some false))
                (some false))
            (some false))
        (some false))
    (some false)
def T_w16_InertiaDescartes_b2 (q0_0:Int) (t7:List Dy):(Int×Int×Int×Int)→Option ((Int×Int×Int×Int)⊕((Int×Int))):=fun st=>match st with
| (t28,t29,t30,t31)=>
  cond (decide (t31≤q0_0))
    (((atI t7 t31).bind fun t35=>
        (T_w16_sign t35.1 t35.2.1 t35.2.2).bind fun t36=>
        cond (t36 != 0)
          ((cond (decide (t29<0))
                (some t31)
                (some t29)).bind fun t37=>
            cond (t36 != 0)
              (cond (t30 != 0)
                  ((cond (t36 != t30)
                        (some (IntKind.i64.wrap (t28+1)))
                        (some t28)).bind fun t38=>
                    (cond (t36 != 0)
                        (some t36)
                        (some t30)).bind fun t39=>
                    some (t38,t37,t39))
                  ((some t28).bind fun t40=>
                    (cond (t36 != 0)
                        (some t36)
                        (some t30)).bind fun t41=>
                    some (t40,t37,t41)))
              ((some t28).bind fun t42=>
                (cond (t36 != 0)
                    (some t36)
                    (some t30)).bind fun t43=>
                some (t42,t37,t43)))
          ((some t29).bind fun t44=>
            cond (t36 != 0)
              (cond (t30 != 0)
                  ((cond (t36 != t30)
                        (some (IntKind.i64.wrap (t28+1)))
                        (some t28)).bind fun t45=>
                    (cond (t36 != 0)
                        (some t36)
                        (some t30)).bind fun t46=>
                    some (t45,t44,t46))
                  ((some t28).bind fun t47=>
                    (cond (t36 != 0)
                        (some t36)
                        (some t30)).bind fun t48=>
                    some (t47,t44,t48)))
              ((some t28).bind fun t49=>
                (cond (t36 != 0)
                    (some t36)
                    (some t30)).bind fun t50=>
                some (t49,t44,t50)))).bind fun o=>match o with
      | (t32,t33,t34)=>some (.inl (t32,t33,t34,(IntKind.i64.wrap (t31+1)))))
    (some (.inr (t28,t29)))
def T_w16_InertiaDescartes_b4 (q0_0:Int) (l0_2:List Dy):(Int×Bool×Int×List Int)→Option ((Int×Bool×Int×List Int)⊕((Bool×Int×List Int)⊕Bool)):=fun st=>match st with
| (t59,t60,t61,t62)=>
  cond (decide (t59<q0_0))
    ((atI l0_2 (IntKind.i64.wrap ((IntKind.i64.wrap (t59*q0_0))+t59))).bind fun t63=>
      (T_dyad_Add t60 t62 t61 t63.1 t63.2.1 t63.2.2).bind fun o=>match o with
      | (t64,t65,t66,t67)=>
      cond (t67 != 0)
        ((T_w16_awake ).bind fun t68=>
          some (.inr (.inr t68)))
        (some (.inl ((IntKind.i64.wrap (t59+1)),t64,t66,t65))))
    (some (.inr (.inl (t60,t61,t62))))
def T_w16_InertiaDescartes (q0_0:Int) (q0_1:Int) (l0_2:List Dy):Option Bool:=
  (T_w16_great q0_0 q0_1 l0_2).bind fun t1=>
  cond t1
    ((T_w16_awake ).bind fun t2=>
      some t2)
    ((T_inertia_Signs q0_0 q0_1 l0_2).bind fun o=>match o with
      | (t3,t4,t5,t6)=>
      (T_inertia_Poly q0_0 q0_1 l0_2).bind fun o=>match o with
      | (t7,t8)=>
      (T_inertia_Symmetric q0_0 q0_1 l0_2).bind fun t9=>
      cond (!t9)
        (cond (t6==4)
            (cond (t8==4)
                (cond (t3==0&&(t4==0&&t5==0))
                    ((some ((t7.length:Nat):Int)).bind fun t10=>
                      cond (t10==0)
                        ((T_w16_awake ).bind fun t11=>
                          some t11)
                        (some false))
                    (some false))
                (some false))
            (some false))
        ((cond (!(t6 != 0))
              (some (t8 != 0))
              (some true)).bind fun t12=>
          cond t12
            (cond (t8==3)
                (cond (!(t6==0))
                    (cond (t6==3)
                        ((some ((t7.length:Nat):Int)).bind fun t13=>
                          cond (t13==0)
                            ((T_w16_awake ).bind fun t14=>
                              some t14)
                            (some false))
                        (some false))
                    ((some ((t7.length:Nat):Int)).bind fun t15=>
                      cond (t15==0)
                        ((T_w16_awake ).bind fun t16=>
                          some t16)
                        (some false)))
                (some false))
            (((some ((t7.length:Nat):Int)).bind fun t18=>
                cond (!(t18 != (IntKind.i64.wrap (q0_0+1))))
                  ((some ((t7.length:Nat):Int)).bind fun t20=>
                    (subL t7 q0_0 t20).bind fun t19=>
                    (some [1]).bind fun t21=>
                    (T_w16_of 1 t21).bind fun o=>match o with
                    | (t22,t23,t24)=>
                    (T_k_SameDyads t19 t24).bind fun t25=>
                    cond (!(!t25))
                      (some ((IntKind.i64.wrap ((IntKind.i64.wrap (t3+t4))+t5)) != q0_0))
                      (some true))
                  (some true)).bind fun t17=>
              cond t17
                (some false)
                ((iter (T_w16_InertiaDescartes_b2 q0_0 t7) FU (0,(-1),0,0)).bind fun o=>match o with
                  | (t26,t27) => 
                  (cond (!(t26 != t5))
                      (some (t27 != t4))
                      (some true)).bind fun t51=>
                  cond t51
                    (some false)
                    (cond (q0_0==0)
                        ((T_w16_awake ).bind fun t52=>
                          some t52)
                        ((T_dyad_Int 0).bind fun o=>match o with
                          | (t53,t54,t55)=>
                          ((iter (T_w16_InertiaDescartes_b4 q0_0 l0_2) FU (0,t53,t55,t54):Option ((Bool×Int×List Int)⊕Bool))).bind fun o=>match o with
                          | .inl (t56,t57,t58) => 
                            ((T_dyad_Neg t56 t58 t57).bind fun o=>match o with
                              | (t69,t70,t71,t72)=>
                              cond (t72==0)
                                ((subL t7 (IntKind.i64.wrap (q0_0-1)) q0_0).bind fun t73=>
                                  (some ([(t69,t70,t71)]:List Dy)).bind fun t74=>
                                  (T_k_SameDyads t74 t73).bind fun t75=>
                                  cond t75
                                    ((T_w16_awake ).bind fun t76=>
                                      some t76)
                                    (some false))
                                (some false))
                          | .inr v=>some v))))))
end Go.Eng
