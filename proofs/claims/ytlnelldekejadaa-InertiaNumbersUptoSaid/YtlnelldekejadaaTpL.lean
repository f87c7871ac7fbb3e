/-
  Functions of plain Lean beside functions of the program, printed by a program of the session. No condition.
-/
import Derived.Test.YtlnelldekejadaaTp
import Derived.Test.YtlnelldekejadaaMx24
set_option linter.all false
set_option maxRecDepth 100000
namespace Go.Eng
open Go
def T_inertia_Signs (q0_0:Int) (q0_1:Int) (l0_2:List Dy):Option (Int×Int×Int×Int):=
  signsDo q0_0 q0_1 l0_2
def T_inertia_Poly (q0_0:Int) (q0_1:Int) (l0_2:List Dy):Option (List Dy×Int):=
  polyDo q0_0 q0_1 l0_2
def T_inertia_Below (q0_0:Int) (q0_1:Int) (l0_2:List Dy) (q1_0:Bool) (l1_1:List Int) (q1_2:Int):Option (Int×Int):=
  belowDo q0_0 q0_1 l0_2 q1_0 l1_1 q1_2
def T_w16_awake  : Option Bool:=
  (some [1,2,2,1]).bind fun t1=>
  (T_w16_of 2 t1).bind fun o=>match o with
  | (t2,t3,t4)=>
  (T_inertia_Signs t2 t3 t4).bind fun o=>match o with
  | (t5,t6,t7,t8)=>
  (some [1,2,2,1]).bind fun t9=>
  (T_w16_of 2 t9).bind fun o=>match o with
  | (t10,t11,t12)=>
  (T_inertia_Poly t10 t11 t12).bind fun o=>match o with
  | (t13,t14)=>
  (some [1,2,2,1]).bind fun t15=>
  (T_w16_of 2 t15).bind fun o=>match o with
  | (t16,t17,t18)=>
  (T_r02_Int 4).bind fun o=>match o with
  | (t19,t20,t21)=>
  (T_inertia_Below t16 t17 t18 t19 t20 t21).bind fun o=>match o with
  | (t22,t23)=>
  cond (t8==0)
    (cond (t14==0)
        (cond (t23==0)
            (cond (t22==2)
                (cond (t5==1&&(t6==0&&t7==1))
                    ((some [(-3),(-2),1]).bind fun t24=>
                      (T_w16_of 3 t24).bind fun o=>match o with
                      | (t25,t26,t27)=>
                      (T_k_SameDyads t13 t27).bind fun t28=>
                      some t28)
                    (some false))
                (some false))
            (some false))
        (some false))
    (some false)
def T_w16_InertiaNumbers_b2  : (Int×List Dy)→Option ((Int×List Dy)⊕(List Dy)):=fun st=>match st with
| (t101,t102)=>
  cond (decide (t101<48))
    ((T_r02_Int (IntKind.i64.wrap ((t101.tmod 3)-1))).bind fun o=>match o with
      | (t103,t104,t105)=>
      (atI t102 (IntKind.i64.wrap (49*t101))).bind fun t106=>
      (some (t102.set ((IntKind.i64.wrap (49*t101))).toNat (t103,t104,t105))).bind fun t107=>
      some (.inl ((IntKind.i64.wrap (t101+1)),t107)))
    (some (.inr t102))
def T_w16_InertiaNumbers  : Option Bool:=
  (some [0,1,1,0]).bind fun t1=>
  (T_w16_of 2 t1).bind fun o=>match o with
  | (t2,t3,t4)=>
  (T_inertia_Signs t2 t3 t4).bind fun o=>match o with
  | (t5,t6,t7,t8)=>
  (some [0,0,0,0]).bind fun t9=>
  (T_w16_of 2 t9).bind fun o=>match o with
  | (t10,t11,t12)=>
  (T_inertia_Signs t10 t11 t12).bind fun o=>match o with
  | (t13,t14,t15,t16)=>
  (some [1,1,1,1]).bind fun t17=>
  (T_w16_of 2 t17).bind fun o=>match o with
  | (t18,t19,t20)=>
  (T_inertia_Signs t18 t19 t20).bind fun o=>match o with
  | (t21,t22,t23,t24)=>
  (T_inertia_Signs 0 0 ([]:List Dy)).bind fun o=>match o with
  | (t25,t26,t27,t28)=>
  (T_inertia_Poly 0 0 ([]:List Dy)).bind fun o=>match o with
  | (t29,t30)=>
  (cond (t5==1&&(t6==0&&t7==1))
      (cond (t13==0&&(t14==2&&t15==0))
          (cond (t21==0&&(t22==1&&t23==1))
              (cond (t25==0&&(t26==0&&t27==0))
                  (cond ((IntKind.i64.wrap ((IntKind.i64.wrap ((IntKind.i64.wrap ((IntKind.i64.wrap (t8+t16))+t24))+t28))+t30))==0)
                      ((some [1]).bind fun t32=>
                        (T_w16_of 1 t32).bind fun o=>match o with
                        | (t33,t34,t35)=>
                        (T_k_SameDyads t29 t35).bind fun t36=>
                        some t36)
                      (some false))
                  (some false))
              (some false))
          (some false))
      (some false)).bind fun t31=>
  (some [1,2,3,4]).bind fun t37=>
  (T_w16_of 2 t37).bind fun o=>match o with
  | (t38,t39,t40)=>
  (T_inertia_Signs t38 t39 t40).bind fun o=>match o with
  | (t41,t42,t43,t44)=>
  (some [1,2]).bind fun t45=>
  (T_w16_of 1 t45).bind fun o=>match o with
  | (t46,t47,t48)=>
  (T_inertia_Poly 1 2 t48).bind fun o=>match o with
  | (t49,t50)=>
  (T_w16_power 8191 1).bind fun o=>match o with
  | (t51,t52,t53)=>
  (T_inertia_Signs t51 t52 t53).bind fun o=>match o with
  | (t54,t55,t56,t57)=>
  (T_w16_power 8192 1).bind fun o=>match o with
  | (t58,t59,t60)=>
  (T_inertia_Signs t58 t59 t60).bind fun o=>match o with
  | (t61,t62,t63,t64)=>
  (T_w16_power 60000 0).bind fun o=>match o with
  | (t65,t66,t67)=>
  (T_inertia_Signs t65 t66 t67).bind fun o=>match o with
  | (t68,t69,t70,t71)=>
  (some [1]).bind fun t72=>
  (some [1]).bind fun t73=>
  (some ([(false,t72,(-60000)),(false,([]:List Int),0),(false,([]:List Int),0),(false,t73,(-60000))]:List Dy)).bind fun t74=>
  (T_inertia_Signs 2 2 t74).bind fun o=>match o with
  | (t75,t76,t77,t78)=>
  (T_inertia_Poly 2 2 t74).bind fun o=>match o with
  | (t79,t80)=>
  (cond (t44==4)
      (cond (t50==4)
          ((some ((t49.length:Nat):Int)).bind fun t82=>
            cond (t82==0)
              (cond (t54==0&&(t55==0&&t56==1))
                  (cond (t57==0)
                      (cond (t61==0&&(t62==0&&t63==0))
                          (cond (t64==3)
                              (cond (t68==0&&(t69==0&&t70==1))
                                  (cond (t71==0)
                                      (cond (t75==0&&(t76==0&&t77==2))
                                          (cond (t78==0)
                                              ((some ((t79.length:Nat):Int)).bind fun t83=>
                                                cond (t83==0)
                                                  (some (t80==3))
                                                  (some false))
                                              (some false))
                                          (some false))
                                      (some false))
                                  (some false))
                              (some false))
                          (some false))
                      (some false))
                  (some false))
              (some false))
          (some false))
      (some false)).bind fun t81=>
  (T_w16_power 8191 1).bind fun o=>match o with
  | (t84,t85,t86)=>
  (T_r02_Int 1).bind fun o=>match o with
  | (t87,t88,t89)=>
  (T_inertia_Below t84 t85 t86 t87 t88 t89).bind fun o=>match o with
  | (t90,t91)=>
  (some [1]).bind fun t92=>
  (T_w16_of 1 t92).bind fun o=>match o with
  | (t93,t94,t95)=>
  (some [2]).bind fun t96=>
  (T_inertia_Below t93 t94 t95 false t96 0).bind fun o=>match o with
  | (t97,t98)=>
  (mkL ((false,[],0):Dy) 2304 2304).bind fun t99=>
  (iter (T_w16_InertiaNumbers_b2) FU (0,t99)).bind fun t100=>
  (some [1]).bind fun t108=>
  (T_r02_Int 1).bind fun o=>match o with
  | (t109,t110,t111)=>
  (T_r02_Add false t108 5000 t109 t110 t111).bind fun o=>match o with
  | (t112,t113,t114,t115)=>
  (some ([(t112,t113,t114),(false,([]:List Int),0),(false,([]:List Int),0),(t112,t113,t114)]:List Dy)).bind fun t116=>
  (T_r02_Int 1).bind fun o=>match o with
  | (t117,t118,t119)=>
  (T_inertia_Below 2 2 t116 t117 t118 t119).bind fun o=>match o with
  | (t120,t121)=>
  (some [1]).bind fun t122=>
  (T_w16_of 1 t122).bind fun o=>match o with
  | (t123,t124,t125)=>
  (some [1]).bind fun t126=>
  (T_inertia_Below t123 t124 t125 false t126 9000).bind fun o=>match o with
  | (t127,t128)=>
  (some [1,0,1,0,1,0,2,0,1]).bind fun t129=>
  (T_w16_of 3 t129).bind fun o=>match o with
  | (t130,t131,t132)=>
  (T_inertia_Signs t130 t131 t132).bind fun o=>match o with
  | (t133,t134,t135,t136)=>
  (cond (!(t120 != 0))
      (cond (!(t121 != 0))
          (cond (!(t128 != 3))
              (some (t136 != 4))
              (some true))
          (some true))
      (some true)).bind fun t137=>
  cond t137
    (some false)
    ((T_inertia_Signs 48 48 t100).bind fun o=>match o with
      | (t138,t139,t140,t141)=>
      (mkL ((false,[],0):Dy) 2401 2401).bind fun t142=>
      (T_inertia_Signs 49 49 t142).bind fun o=>match o with
      | (t143,t144,t145,t146)=>
      cond t31
        (cond t81
            (cond (t90==0)
                (cond (t91==0)
                    (cond (t98==2)
                        (cond (t141==0)
                            (cond (t138==16&&(t139==16&&t140==16))
                                (cond (t146==4)
                                    ((T_w16_awake ).bind fun t147=>
                                      some t147)
                                    (some false))
                                (some false))
                            (some false))
                        (some false))
                    (some false))
                (some false))
            (some false))
        (some false))
end Go.Eng
