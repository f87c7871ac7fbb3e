/-
  Functions of plain Lean beside functions of the program, printed by a program of the session. No condition.
-/
import Derived.Test.YtlnelldekejadaaTp
import Derived.Test.YtlnelldekejadaaMx24
set_option linter.all false
set_option maxRecDepth 100000
namespace Go.Eng
open Go
def T_inertia_Signs (q0_0:Int) (q0_1:Int) (l0_2:List Dy):Option (Int×Int×Int×Int):=
  signsDo q0_0 q0_1 l0_2
def T_inertia_Poly (q0_0:Int) (q0_1:Int) (l0_2:List Dy):Option (List Dy×Int):=
  polyDo q0_0 q0_1 l0_2
def T_inertia_Below (q0_0:Int) (q0_1:Int) (l0_2:List Dy) (q1_0:Bool) (l1_1:List Int) (q1_2:Int):Option (Int×Int):=
  belowDo q0_0 q0_1 l0_2 q1_0 l1_1 q1_2
def T_w16_awake  : Option Bool:=
  (some [1,2,2,1]).bind fun t1=>
  (T_w16_of 2 t1).bind fun o=>match o with
  | (t2,t3,t4)=>
  (T_inertia_Signs t2 t3 t4).bind fun o=>match o with
  | (t5,t6,t7,t8)=>
  (some [1,2,2,1]).bind fun t9=>
  (T_w16_of 2 t9).bind fun o=>match o with
  | (t10,t11,t12)=>
  (T_inertia_Poly t10 t11 t12).bind fun o=>match o with
  | (t13,t14)=>
  (some [1,2,2,1]).bind fun t15=>
  (T_w16_of 2 t15).bind fun o=>match o with
  | (t16,t17,t18)=>
  (T_r02_Int 4).bind fun o=>match o with
  | (t19,t20,t21)=>
  (T_inertia_Below t16 t17 t18 t19 t20 t21).bind fun o=>match o with
  | (t22,t23)=>
  cond (t8==0)
    (cond (t14==0)
        (cond (t23==0)
            (cond (t22==2)
                (cond (t5==1&&(t6==0&&t7==1))
                    ((some [(-3),(-2),1]).bind fun t24=>
                      (T_w16_of 3 t24).bind fun o=>match o with
                      | (t25,t26,t27)=>
                      (T_k_SameDyads t13 t27).bind fun t28=>
                      some t28)
                    (some false))
                (some false))
            (some false))
        (some false))
    (some false)
def T_w16_InertiaRises_b2 (q0_0:Int) (l0_2:List Dy) (q1_0:Bool) (l1_1:List Int) (q1_2:Int) (t10:Int):(Int×List Dy)→Option ((Int×List Dy)⊕(List Dy⊕Bool)):=fun st=>match st with
| (t19,t20)=>
  cond (decide (t19<q0_0))
    ((atI l0_2 (IntKind.i64.wrap ((IntKind.i64.wrap (t19*q0_0))+t19))).bind fun t21=>
      (T_dyad_Sub t21.1 t21.2.1 t21.2.2 q1_0 l1_1 q1_2).bind fun o=>match o with
      | (t22,t23,t24,t25)=>
      cond (t25 != 0)
        (cond (!(t10==0))
            (cond (t10==3)
                ((T_w16_awake ).bind fun t26=>
                  some (.inr (.inr t26)))
                (some (.inr (.inr false))))
            ((T_w16_awake ).bind fun t27=>
              some (.inr (.inr t27))))
        ((atI t20 (IntKind.i64.wrap ((IntKind.i64.wrap (t19*q0_0))+t19))).bind fun t28=>
          (some (t20.set ((IntKind.i64.wrap ((IntKind.i64.wrap (t19*q0_0))+t19))).toNat (t22,t23,t24))).bind fun t29=>
          some (.inl ((IntKind.i64.wrap (t19+1)),t29))))
    (some (.inr (.inl t20)))
def T_w16_InertiaRises (q0_0:Int) (q0_1:Int) (l0_2:List Dy) (q1_0:Bool) (l1_1:List Int) (q1_2:Int) (q2_0:Bool) (l2_1:List Int) (q2_2:Int):Option Bool:=
  ((T_w16_great q0_0 q0_1 l0_2).bind fun t2=>
    cond (!t2)
      ((some ((l1_1.length:Nat):Int)).bind fun t3=>
        (some ((l2_1.length:Nat):Int)).bind fun t4=>
        cond (!(decide ((IntKind.i64.wrap (t3+t4))>40)))
          ((T_inertia_Symmetric q0_0 q0_1 l0_2).bind fun t5=>
            cond (!(!t5))
              ((T_dyad_Right q1_0 l1_1 q1_2).bind fun t6=>
                cond (!(!t6))
                  ((T_dyad_Right q2_0 l2_1 q2_2).bind fun t7=>
                    some (!t7))
                  (some true))
              (some true))
          (some true))
      (some true)).bind fun t1=>
  cond t1
    ((T_w16_awake ).bind fun t8=>
      some t8)
    ((T_inertia_Below q0_0 q0_1 l0_2 q1_0 l1_1 q1_2).bind fun o=>match o with
      | (t9,t10)=>
      (T_inertia_Below q0_0 q0_1 l0_2 q2_0 l2_1 q2_2).bind fun o=>match o with
      | (t11,t12)=>
      (T_dyad_Cmp q1_0 l1_1 q1_2 q2_0 l2_1 q2_2).bind fun o=>match o with
      | (t13,t14)=>
      (cond (!(t14 != 0))
          (cond (t10==0)
              (cond (!(decide (t9<0)))
                  (cond (!(decide (t9>q0_0)))
                      (cond (t10==0)
                          (cond (t12==0)
                              (cond (decide (t13≤0))
                                  (cond (!(decide (t9>t11)))
                                      (cond (decide (t13≥0))
                                          (some (decide (t9<t11)))
                                          (some false))
                                      (some true))
                                  (cond (decide (t13≥0))
                                      (some (decide (t9<t11)))
                                      (some false)))
                              (some false))
                          (some false))
                      (some true))
                  (some true))
              (cond (t10==0)
                  (cond (t12==0)
                      (cond (decide (t13≤0))
                          (cond (!(decide (t9>t11)))
                              (cond (decide (t13≥0))
                                  (some (decide (t9<t11)))
                                  (some false))
                              (some true))
                          (cond (decide (t13≥0))
                              (some (decide (t9<t11)))
                              (some false)))
                      (some false))
                  (some false)))
          (some true)).bind fun t15=>
      cond t15
        (some false)
        (((T_k_CopyDyads l0_2).bind fun t17=>
            some t17).bind fun t16=>
          ((iter (T_w16_InertiaRises_b2 q0_0 l0_2 q1_0 l1_1 q1_2 t10) FU (0,t16):Option (List Dy⊕Bool))).bind fun o=>match o with
          | .inl t18 => 
            ((T_inertia_Signs q0_0 q0_0 t18).bind fun o=>match o with
              | (t30,t31,t32,t33)=>
              cond (t33==t10)
                (cond (t30==t9)
                    ((T_w16_awake ).bind fun t34=>
                      some t34)
                    (some false))
                (some false))
          | .inr v=>some v))
end Go.Eng
