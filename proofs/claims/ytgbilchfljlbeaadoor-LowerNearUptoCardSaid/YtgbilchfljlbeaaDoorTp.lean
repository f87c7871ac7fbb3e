/-
 Functions of plain Lean beside functions of the program, printed by a program of the session. No condition.
-/
import Derived.Test.YtgbilchfljlbeaaDoorTpA
import Derived.Test.YtgbilchfljlbeaaDoorBgo
set_option linter.all false
set_option maxRecDepth 100000
namespace Go.Eng
open Go
open Go.IntKind (i64 u64 u32 u8)
def T_matrix_fits (q0:Int):Option Bool:=
 cond (decide (q0≥0))
  (some (decide (q0≤48)))
  (some false)
def T_matrix_Right (q0_0:Int) (q0_1:Int) (l0_2:List Nat):Option Bool:=
 (T_matrix_fits q0_0).bind fun t1=>
 cond t1
  ((T_matrix_fits q0_1).bind fun t2=>
   cond t2
    ((some ((l0_2.length:Nat):Int)).bind fun t3=>
     some (t3==(i64.wrap (q0_0*q0_1))))
    (some false))
  (some false)
def T_matrix_Transpose_1 (q0:Int) (q1:Int) (q2_0:Int) (q2_1:Int) (l2_2:List Nat):Option Nat:=
 (atI l2_2 (i64.wrap ((i64.wrap (q1*q2_1))+q0))).bind fun t1=>
 some t1
def T_matrix_laid_b9 (q1:Int) (f2:Int→Int→Option Nat) (t3:Int):(Int×List Nat)→Option ((Int×List Nat)⊕(List Nat)):=fun st=>match st with
| (t6,t7)=>
 cond (decide (t6<q1))
  ((f2 t3 t6).bind fun t8=>
   (atI t7 (i64.wrap ((i64.wrap (t3*q1))+t6))).bind fun t9=>
   (some (t7.set ((i64.wrap ((i64.wrap (t3*q1))+t6))).toNat t8)).bind fun t10=>
   some (.inl ((i64.wrap (t6+1)),t10)))
  (some (.inr t7))
def T_matrix_laid_b7 (q0:Int) (q1:Int) (f2:Int→Int→Option Nat):(Int×List Nat)→Option ((Int×List Nat)⊕(List Nat)):=fun st=>match st with
| (t3,t4)=>
 cond (decide (t3<q0))
  ((iter (T_matrix_laid_b9 q1 f2 t3) FU (0,t4)).bind fun t5=>
   some (.inl ((i64.wrap (t3+1)),t5)))
  (some (.inr t4))
def T_matrix_laid (q0:Int) (q1:Int) (f2:Int→Int→Option Nat):Option (Int×Int×List Nat):=
 (mkL (nf 0) (i64.wrap (q0*q1)) (i64.wrap (q0*q1))).bind fun t1=>
 (iter (T_matrix_laid_b7 q0 q1 f2) FU (0,t1)).bind fun t2=>
 some (q0,q1,t2)
def T_matrix_Transpose (q0_0:Int) (q0_1:Int) (l0_2:List Nat):Option (Int×Int×List Nat×Int):=
 (T_matrix_Right q0_0 q0_1 l0_2).bind fun t1=>
 cond (!t1)
  (some (0,0,(List.map nf []),4))
  ((T_matrix_laid q0_1 q0_0 (fun v0 v1=>T_matrix_Transpose_1 v0 v1 q0_0 q0_1 l0_2)).bind fun o=>match o with
   | (t2,t3,t4)=>
   some (t2,t3,t4,0))
def T_math_Float64bits (p0:Nat):Option Int:=
 cond (isNaN p0) none (some (p0:Int))
def T_math_IsNaN (p0:Nat):Option Bool:=
 (some (!feq p0 p0)).bind fun t1=>
 some t1
def T_vector_Same (l0:List Nat) (l1:List Nat):Option Bool:=
 cond (decide (l0.length≤4294967296)) (some (l0==l1)) none
def T_matrix_Same (q0_0:Int) (q0_1:Int) (l0_2:List Nat) (q1_0:Int) (q1_1:Int) (l1_2:List Nat):Option Bool:=
 cond (q0_0==q1_0)
  (cond (q0_1==q1_1)
    ((T_vector_Same l0_2 l1_2).bind fun t1=>
     some t1)
    (some false))
  (some false)
def T_matrix_Symmetric (q0_0:Int) (q0_1:Int) (l0_2:List Nat):Option Bool:=
 (T_matrix_Transpose q0_0 q0_1 l0_2).bind fun o=>match o with
 | (t1,t2,t3,t4)=>
 cond (t4==0)
  ((T_matrix_Same t1 t2 t3 q0_0 q0_1 l0_2).bind fun t5=>
   some t5)
  (some false)
def T_math_Float64frombits (q0:Int):Option Nat:=
 some (nf q0.toNat)
def T_math_Abs (p0:Nat):Option Nat:=
 some (nf (magF p0))
def T_math_IsInf (p0:Nat) (q1:Int):Option Bool:=
 (cond (q1==0)
   ((T_math_Abs p0).bind fun t2=>
    some t2)
   ((cond (decide (q1<0))
      ((some (nf (fneg p0))).bind fun t4=>
       some t4)
      (some p0)).bind fun t3=>
    some t3)).bind fun t1=>
 (some (fgt t1 (nf 9218868437227405311))).bind fun t5=>
 some t5
def T_lower_finite (p0:Nat):Option Bool:=
 (T_math_IsNaN p0).bind fun t1=>
 cond (!t1)
  ((T_math_IsInf p0 0).bind fun t2=>
   some (!t2))
  (some false)
def T_lower_row (l0:List Nat) (q1:Int):Option (Int×Int):=
 (subL l0 (i64.wrap ((i64.wrap (q1*(i64.wrap (q1-1)))).tdiv 2)) (i64.wrap ((i64.wrap ((i64.wrap (q1*(i64.wrap (q1-1)))).tdiv 2))+q1))).bind fun t1=>
 some ((i64.wrap ((i64.wrap (q1*(i64.wrap (q1-1)))).tdiv 2)),(i64.wrap ((i64.wrap ((i64.wrap (q1*(i64.wrap (q1-1)))).tdiv 2))+q1)))
def T_lower_Factor_b2 (t2:Int) (l0_2:List Nat):(Int×Int×Int)→Option ((Int×Int×Int)⊕((Int×Int)⊕(Int×List Nat×List Nat×Int×Int))):=fun st=>match st with
| (t5,t6,t7)=>
 cond (decide (t7<t2))
  ((atI l0_2 t7).bind fun t8=>
   (T_lower_finite t8).bind fun t9=>
   cond (!t9)
    (some (.inr (.inr (0,(List.map nf []),(List.map nf []),5,0))))
    (some (.inl (t5,t6,(i64.wrap (t7+1))))))
  (some (.inr (.inl (t5,t6))))
def T_lower_Factor_b31 (t29:Int) (t27:List Nat) (t23:List Nat):(Nat×Int×List Nat)→Option ((Nat×Int×List Nat)⊕((Nat×List Nat))):=fun st=>match st with
| (t32,t33,t34)=>
 cond (decide (t33<t29))
  ((atI t27 t33).bind fun t35=>
   (atI t23 t33).bind fun t36=>
   (some (fmul t35 t36)).bind fun t37=>
   (atI t34 t33).bind fun t38=>
   (some (t34.set (t33).toNat t37)).bind fun t39=>
   (atI t39 t33).bind fun t40=>
   (some (fmul t40 t35)).bind fun t41=>
   (some (fsub t32 t41)).bind fun t42=>
   some (.inl (t42,(i64.wrap (t33+1)),t39)))
  (some (.inr (t32,t34)))
def T_lower_Factor_b40 (t21:Int) (t57:List Nat) (t31:List Nat):(Nat×Int)→Option ((Nat×Int)⊕(Nat)):=fun st=>match st with
| (t60,t61)=>
 cond (decide (t61<t21))
  ((atI t57 t61).bind fun t62=>
   (atI t31 t61).bind fun t63=>
   (some (fmul t62 t63)).bind fun t64=>
   (some (fsub t60 t64)).bind fun t65=>
   some (.inl (t65,(i64.wrap (t61+1)))))
  (some (.inr t60))
def T_lower_Factor_b38 (q0_0:Int) (l0_2:List Nat) (t21:Int) (t31:List Nat) (t47:List Nat):(Int×Int×Int×List Nat)→Option ((Int×Int×Int×List Nat)⊕((Int×Int×List Nat)⊕(Int×Int×List Nat×List Nat))):=fun st=>match st with
| (t51,t52,t53,t54)=>
 cond (decide (t53<q0_0))
  ((T_lower_row t54 t53).bind fun o=>match o with
   | (t55,t56)=>
   (subL t54 t55 t56).bind fun t57=>
   (atI l0_2 (i64.wrap ((i64.wrap (t53*q0_0))+t21))).bind fun t58=>
   (iter (T_lower_Factor_b40 t21 t57 t31) FU (t58,0)).bind fun t59=>
   (atI t47 t21).bind fun t66=>
   (some (fdiv t59 t66)).bind fun t67=>
   (atI t57 t21).bind fun t68=>
   (some (t54.set ((t55).toNat+(t21).toNat) t67)).bind fun t69=>
   (subL t69 t55 t56).bind fun t70=>
   (atI t70 t21).bind fun t71=>
   (T_lower_finite t71).bind fun t72=>
   cond (!t72)
    (some (.inr (.inr (6,t21,t47,t69))))
    (some (.inl (t51,t52,(i64.wrap (t53+1)),t69))))
  (some (.inr (.inl (t51,t52,t54))))
def T_lower_Factor_b29 (q0_0:Int) (l0_2:List Nat):(Int×Int×Int×List Nat×List Nat×List Nat)→Option ((Int×Int×Int×List Nat×List Nat×List Nat)⊕((Int×Int×List Nat×List Nat))):=fun st=>match st with
| (t19,t20,t21,t22,t23,t24)=>
 cond (decide (t21<q0_0))
  ((T_lower_row t24 t21).bind fun o=>match o with
   | (t25,t26)=>
   (subL t24 t25 t26).bind fun t27=>
   (atI l0_2 (i64.wrap ((i64.wrap (t21*q0_0))+t21))).bind fun t28=>
   (some ((t27.length:Nat):Int)).bind fun t29=>
   (iter (T_lower_Factor_b31 t29 t27 t23) FU (t28,0,t22)).bind fun o=>match o with
   | (t30,t31)=>
   ((some (fgt t30 (nf 0))).bind fun t44=>
    cond (!(!t44))
     ((T_lower_finite t30).bind fun t45=>
      some (!t45))
     (some true)).bind fun t43=>
   cond t43
    (some (.inr (220,t21,t23,t24)))
    ((atI t23 t21).bind fun t46=>
     (some (t23.set (t21).toNat t30)).bind fun t47=>
     ((iter (T_lower_Factor_b38 q0_0 l0_2 t21 t31 t47) FU (t19,t20,(i64.wrap (t21+1)),t24):Option ((Int×Int×List Nat)⊕(Int×Int×List Nat×List Nat)))).bind fun o=>match o with
     | .inl (t48,t49,t50)=>some (.inl (t48,t49,(i64.wrap (t21+1)),t31,t47,t50))
     | .inr v=>some (.inr v)))
  (some (.inr (t19,t20,t23,t24)))
def T_lower_Factor (q0_0:Int) (q0_1:Int) (l0_2:List Nat):Option (Int×List Nat×List Nat×Int×Int):=
 (T_matrix_Symmetric q0_0 q0_1 l0_2).bind fun t1=>
 cond (!t1)
  (some (0,(List.map nf []),(List.map nf []),4,0))
  ((some ((l0_2.length:Nat):Int)).bind fun t2=>
   ((iter (T_lower_Factor_b2 t2 l0_2) FU (0,0,0):Option ((Int×Int)⊕(Int×List Nat×List Nat×Int×Int)))).bind fun o=>match o with
   | .inl (t3,t4)=>
    (((mkL (nf 0) (i64.wrap ((i64.wrap (q0_0*(i64.wrap (q0_0-1)))).tdiv 2)) (i64.wrap ((i64.wrap (q0_0*(i64.wrap (q0_0-1)))).tdiv 2))).bind fun t12=>
      (mkL (nf 0) q0_0 q0_0).bind fun t13=>
      some (t13,t12)).bind fun o=>match o with
     | (t10,t11)=>
     (mkL (nf 0) q0_0 q0_0).bind fun t14=>
     (iter (T_lower_Factor_b29 q0_0 l0_2) FU (t3,t4,0,t14,t10,t11)).bind fun o=>match o with
     | (t15,t16,t17,t18)=>
     cond (t15 != 0)
      (some (0,(List.map nf []),(List.map nf []),t15,t16))
      (some (q0_0,t18,t17,0,0)))
   | .inr v=>some v)
def T_lower_Right (q0_0:Int) (l0_1:List Nat) (l0_2:List Nat):Option Bool:=
 cond (decide (q0_0≥0))
  (cond (decide (q0_0≤48))
    ((some ((l0_1.length:Nat):Int)).bind fun t1=>
     cond (t1==(i64.wrap ((i64.wrap (q0_0*(i64.wrap (q0_0-1)))).tdiv 2)))
      ((some ((l0_2.length:Nat):Int)).bind fun t2=>
       some (t2==q0_0))
      (some false))
    (some false))
  (some false)
def T_matrix_Make_1 (q0:Int) (q1:Int):Option Nat:=
 some (nf 0)
def T_matrix_Make (q0:Int) (q1:Int):Option (Int×Int×List Nat×Int):=
 (T_matrix_fits q0).bind fun t1=>
 cond (!(!t1))
  ((T_matrix_fits q1).bind fun t2=>
   cond (!t2)
    (some (0,0,(List.map nf []),2))
    ((T_matrix_laid q0 q1 (fun v0 v1=>T_matrix_Make_1 v0 v1)).bind fun o=>match o with
     | (t3,t4,t5)=>
     some (t3,t4,t5,0)))
  (some (0,0,(List.map nf []),2))
def T_lower_Times_b38 (t15:Int) (t13:List Nat) (l0_2:List Nat) (t21:List Nat):(Nat×Int)→Option ((Nat×Int)⊕(Nat)):=fun st=>match st with
| (t23,t24)=>
 cond (decide (t24<(i64.wrap (t15+1))))
  ((atI t13 t24).bind fun t25=>
   (atI l0_2 t24).bind fun t26=>
   (some (fmul t25 t26)).bind fun t27=>
   (atI t21 t24).bind fun t28=>
   (some (fmul t27 t28)).bind fun t29=>
   (some (fadd t23 t29)).bind fun t30=>
   some (.inl (t30,(i64.wrap (t24+1)))))
  (some (.inr t23))
def T_lower_Times_b36 (t7:Int) (l0_1:List Nat) (t13:List Nat) (l0_2:List Nat) (q0_0:Int):(Int×List Nat)→Option ((Int×List Nat)⊕(List Nat)):=fun st=>match st with
| (t15,t16)=>
 cond (decide (t15<(i64.wrap (t7+1))))
  ((T_lower_row l0_1 t15).bind fun o=>match o with
   | (t17,t18)=>
   (subL l0_1 t17 t18).bind fun t19=>
   (some [(nf 4607182418800017408)]).bind fun t20=>
   (appL t19 t20).bind fun t21=>
   (iter (T_lower_Times_b38 t15 t13 l0_2 t21) FU ((nf 0),0)).bind fun t22=>
   (atI t16 (i64.wrap ((i64.wrap (t7*q0_0))+t15))).bind fun t31=>
   (some (t16.set ((i64.wrap ((i64.wrap (t7*q0_0))+t15))).toNat t22)).bind fun t32=>
   (atI t32 (i64.wrap ((i64.wrap (t15*q0_0))+t7))).bind fun t33=>
   (some (t32.set ((i64.wrap ((i64.wrap (t15*q0_0))+t7))).toNat t22)).bind fun t34=>
   some (.inl ((i64.wrap (t15+1)),t34)))
  (some (.inr t16))
def T_lower_Times_b27 (q0_0:Int) (l0_1:List Nat) (l0_2:List Nat):(Int×List Nat)→Option ((Int×List Nat)⊕(List Nat)):=fun st=>match st with
| (t7,t8)=>
 cond (decide (t7<q0_0))
  ((T_lower_row l0_1 t7).bind fun o=>match o with
   | (t9,t10)=>
   (subL l0_1 t9 t10).bind fun t11=>
   (some [(nf 4607182418800017408)]).bind fun t12=>
   (appL t11 t12).bind fun t13=>
   (iter (T_lower_Times_b36 t7 l0_1 t13 l0_2 q0_0) FU (0,t8)).bind fun t14=>
   some (.inl ((i64.wrap (t7+1)),t14)))
  (some (.inr t8))
def T_lower_Times (q0_0:Int) (l0_1:List Nat) (l0_2:List Nat):Option (Int×Int×List Nat×Int):=
 (T_lower_Right q0_0 l0_1 l0_2).bind fun t1=>
 cond (!t1)
  (some (0,0,(List.map nf []),4))
  ((T_matrix_Make q0_0 q0_0).bind fun o=>match o with
   | (t2,t3,t4,t5)=>
   (iter (T_lower_Times_b27 q0_0 l0_1 l0_2) FU (0,t4)).bind fun t6=>
   some (t2,t3,t6,0))
def T_k_SameFloat (p0:Nat) (p1:Nat):Option Bool:=
 some (p0==p1)
def T_k_SameReals_b2 (l0:List Nat) (l1:List Nat):Int→Option (Int⊕(Unit⊕Bool)):=fun st=>match st with
| t3=>
 (some ((l0.length:Nat):Int)).bind fun t4=>
 cond (decide (t3<t4))
  ((atI l0 t3).bind fun t5=>
   (atI l1 t3).bind fun t6=>
   (T_k_SameFloat t5 t6).bind fun t7=>
   cond (!t7)
    (some (.inr (.inr false)))
    (some (.inl (i64.wrap (t3+1)))))
  (some (.inr (.inl ())))
def T_k_SameReals (l0:List Nat) (l1:List Nat):Option Bool:=
 (some ((l0.length:Nat):Int)).bind fun t1=>
 (some ((l1.length:Nat):Int)).bind fun t2=>
 cond (t1 != t2)
  (some false)
  (((iter (T_k_SameReals_b2 l0 l1) FU 0:Option (Unit⊕Bool))).bind fun o=>match o with
   | .inl ()=>some true
   | .inr v=>some v)
def T_k_SameFactor (q0_0:Int) (l0_1:List Nat) (l0_2:List Nat) (q1_0:Int) (l1_1:List Nat) (l1_2:List Nat):Option Bool:=
 cond (q0_0==q1_0)
  ((T_k_SameReals l0_1 l1_1).bind fun t1=>
   cond t1
    ((T_k_SameReals l0_2 l1_2).bind fun t2=>
     some t2)
    (some false))
  (some false)
def T_k_SameMatrix (q0_0:Int) (q0_1:Int) (l0_2:List Nat) (q1_0:Int) (q1_1:Int) (l1_2:List Nat):Option Bool:=
 cond (q0_0==q1_0)
  (cond (q0_1==q1_1)
    ((T_k_SameReals l0_2 l1_2).bind fun t1=>
     some t1)
    (some false))
  (some false)
def T_w12_awake  : Option Bool:=
 (some [(nf 4616189618054758400),(nf 4611686018427387904),(nf 4611686018427387904),(nf 4617315517961601024)]).bind fun t1=>
 (T_lower_Factor 2 2 t1).bind fun o=>match o with
 | (t2,t3,t4,t5,t6)=>
 (T_lower_Times t2 t3 t4).bind fun o=>match o with
 | (t7,t8,t9,t10)=>
 (some [(nf 4616189618054758400),(nf 4611686018427387904),(nf 4611686018427387904),(nf 4607182418800017408)]).bind fun t11=>
 (T_lower_Factor 2 2 t11).bind fun o=>match o with
 | (t12,t13,t14,t15,t16)=>
 cond (t5==0)
  (cond (t6==0)
    ((some [(nf 4602678819172646912)]).bind fun t17=>
     (some [(nf 4616189618054758400),(nf 4616189618054758400)]).bind fun t18=>
     (T_k_SameFactor t2 t3 t4 2 t17 t18).bind fun t19=>
     cond t19
      (cond (t10==0)
        ((T_k_SameMatrix t7 t8 t9 2 2 t1).bind fun t20=>
         cond t20
          (cond (t15==220)
            (some (t16==1))
            (some false))
          (some false))
        (some false))
      (some false))
    (some false))
  (some false)
def T_w12_mirrored_b2 (l0_2:List Nat) (q0_0:Int):Int→Option (Int⊕(Int)):=fun st=>match st with
| t2=>
 cond (decide (t2<48))
  ((some ((l0_2.length:Nat):Int)).bind fun t3=>
   cond (decide ((i64.wrap ((i64.wrap (t2+1))*(i64.wrap (t2+1))))≤t3))
    (cond (decide (t2<q0_0))
      (some (.inl (i64.wrap (t2+1))))
      (some (.inr t2)))
    (some (.inr t2)))
  (some (.inr t2))
def T_w12_mirrored_b11 (t6:Int) (l0_2:List Nat) (t1:Int):(Int×List Nat)→Option ((Int×List Nat)⊕(List Nat)):=fun st=>match st with
| (t9,t10)=>
 cond (decide (t9≤t6))
  ((atI l0_2 (i64.wrap ((i64.wrap (t6*t1))+t9))).bind fun t11=>
   (atI t10 (i64.wrap ((i64.wrap (t6*t1))+t9))).bind fun t12=>
   (some (t10.set ((i64.wrap ((i64.wrap (t6*t1))+t9))).toNat t11)).bind fun t13=>
   (atI l0_2 (i64.wrap ((i64.wrap (t6*t1))+t9))).bind fun t14=>
   (atI t13 (i64.wrap ((i64.wrap (t9*t1))+t6))).bind fun t15=>
   (some (t13.set ((i64.wrap ((i64.wrap (t9*t1))+t6))).toNat t14)).bind fun t16=>
   some (.inl ((i64.wrap (t9+1)),t16)))
  (some (.inr t10))
def T_w12_mirrored_b9 (t1:Int) (l0_2:List Nat):(Int×List Nat)→Option ((Int×List Nat)⊕(List Nat)):=fun st=>match st with
| (t6,t7)=>
 cond (decide (t6<t1))
  ((iter (T_w12_mirrored_b11 t6 l0_2 t1) FU (0,t7)).bind fun t8=>
   some (.inl ((i64.wrap (t6+1)),t8)))
  (some (.inr t7))
def T_w12_mirrored (q0_0:Int) (q0_1:Int) (l0_2:List Nat):Option (Int×Int×List Nat):=
 (iter (T_w12_mirrored_b2 l0_2 q0_0) FU 0).bind fun t1=>
 (mkL (nf 0) (i64.wrap (t1*t1)) (i64.wrap (t1*t1))).bind fun t4=>
 (iter (T_w12_mirrored_b9 t1 l0_2) FU (0,t4)).bind fun t5=>
 some (t1,t1,t5)
def T_w12_small_b2 (t1:Int) (t3:List Nat) (t2:Int):(Int×List Nat)→Option ((Int×List Nat)⊕(List Nat)):=fun st=>match st with
| (t6,t7)=>
 cond (decide (t6<(if 8<t1 then 8 else t1)))
  ((some ((t7.length:Nat):Int)).bind fun t9=>
   (subL t7 (i64.wrap (t6*(if 8<t1 then 8 else t1))) t9).bind fun t8=>
   (subL t3 (i64.wrap (t6*t2)) (i64.wrap ((i64.wrap (t6*t2))+(if 8<t1 then 8 else t1)))).bind fun t10=>
   (some (copAt t7 ((i64.wrap (t6*(if 8<t1 then 8 else t1)))).toNat t10)).bind fun t11=>
   some (.inl ((i64.wrap (t6+1)),t11)))
  (some (.inr t7))
def T_w12_small (q0_0:Int) (q0_1:Int) (l0_2:List Nat):Option (Int×Int×List Nat):=
 (T_w12_mirrored q0_0 q0_1 l0_2).bind fun o=>match o with
 | (t1,t2,t3)=>
 (mkL (nf 0) (i64.wrap ((if 8<t1 then 8 else t1)*(if 8<t1 then 8 else t1))) (i64.wrap ((if 8<t1 then 8 else t1)*(if 8<t1 then 8 else t1)))).bind fun t4=>
 (iter (T_w12_small_b2 t1 t3 t2) FU (0,t4)).bind fun t5=>
 some ((if 8<t1 then 8 else t1),(if 8<t1 then 8 else t1),t5)
def T_bn_NewInt (q0:Int):Option Int:=
 (bigSetInt64 q0).bind fun t1=>
 some t1
def T_dyad_limbs_b2 (t2:Int):(Int×Int×List Int)→Option ((Int×Int×List Int)⊕(List Int)):=fun st=>match st with
| (t4,t5,t6)=>
 (bigSign t5).bind fun t7=>
 cond (decide (t7>0))
  ((bigAnd t5 t2).bind fun t8=>
   (bigUint64 t8).bind fun t9=>
   (some [t9]).bind fun t10=>
   (appL t6 t10).bind fun t11=>
   (bigRsh t5 64).bind fun t12=>
   some (.inl (t8,t12,t11)))
  (some (.inr t6))
def T_dyad_limbs (y0:Int):Option (List Int):=
 (bigAbs y0).bind fun t1=>
 (bigSetUint64 18446744073709551615).bind fun t2=>
 (iter (T_dyad_limbs_b2 t2) FU (0,t1,([]:List Int))).bind fun t3=>
 some t3
def T_dyad_made (y0:Int) (q1:Int):Option (Bool×List Int×Int×Int):=
 (bigSign y0).bind fun t1=>
 cond (t1==0)
  (some (false,([]:List Int),0,0))
  ((bigTrailingZeroBits y0).bind fun t2=>
   cond (decide (q1>65536))
    (some (false,([]:List Int),0,3))
    (cond (decide (q1<(i64.wrap ((-65536)-(i64.wrap t2)))))
      (some (false,([]:List Int),0,3))
      (cond (decide ((i64.wrap (q1+(i64.wrap t2)))>65536))
        (some (false,([]:List Int),0,3))
        ((bigBitLen y0).bind fun t3=>
         cond (decide ((i64.wrap (t3-(i64.wrap t2)))>16384))
          (some (false,([]:List Int),0,3))
          ((bigSign y0).bind fun t4=>
           (bigAbs y0).bind fun t5=>
           (bigRsh t5 (u64.wrap (i64.wrap t2))).bind fun t6=>
           (T_dyad_limbs t6).bind fun t7=>
           some ((decide (t4<0)),t7,(i64.wrap (q1+(i64.wrap t2))),0))))))
def T_dyad_Int (q0:Int):Option (Bool×List Int×Int):=
 (T_bn_NewInt q0).bind fun t1=>
 (T_dyad_made t1 0).bind fun o=>match o with
 | (t2,t3,t4,t5)=>
 some (t2,t3,t4)
def T_w12_at (q0_0:Int) (l0_1:List Nat) (l0_2:List Nat) (q1:Int) (q2:Int):Option Nat:=
 cond (q1==q2)
  (some (nf 4607182418800017408))
  ((atI l0_1 (i64.wrap ((i64.wrap ((i64.wrap (q1*(i64.wrap (q1-1)))).tdiv 2))+q2))).bind fun t1=>
   some t1)
def T_bits_Kind (p0:Nat):Option Int:=
 (T_math_Abs p0).bind fun t1=>
 (some (!feq p0 p0)).bind fun t2=>
 cond t2
  (some 4)
  ((T_math_IsInf p0 0).bind fun t3=>
   cond t3
    (some 3)
    ((some (fgt t1 (nf 4503599627370496)||feq t1 (nf 4503599627370496))).bind fun t4=>
     cond t4
      (some 2)
      ((some (fgt t1 (nf 0))).bind fun t5=>
       cond t5
        (some 1)
        (some 0))))
def T_math_Signbit (p0:Nat):Option Bool:=
 cond (isNaN p0) none (some (negF p0))
def T_math_normalize (p0:Nat):Option (Nat×Int):=
 (T_math_Abs p0).bind fun t1=>
 (some (flt t1 (nf 4503599627370496))).bind fun t2=>
 cond t2
  ((some (fmul p0 (nf 4841369599423283200))).bind fun t3=>
   some (t3,(-52)))
  (some (p0,0))
def T_math_frexp (p0:Nat):Option (Nat×Int):=
 (some (feq p0 (nf 0))).bind fun t1=>
 cond t1
  (some (p0,0))
  ((T_math_IsInf p0 0).bind fun t2=>
   cond (!t2)
    ((T_math_IsNaN p0).bind fun t3=>
     cond t3
      (some (p0,0))
      ((T_math_normalize p0).bind fun o=>match o with
       | (t4,t5)=>
       (T_math_Float64bits t4).bind fun t6=>
       (T_math_Float64frombits (u64.wrap (BitVec.ofInt u64.bits (u64.wrap (BitVec.ofInt u64.bits t6 &&& ~~~BitVec.ofInt u64.bits 9218868437227405312).toNat) ||| BitVec.ofInt u64.bits 4602678819172646912).toNat)).bind fun t7=>
       some (t7,(i64.wrap (t5+(i64.wrap ((i64.wrap ((i64.wrap (u64.wrap (BitVec.ofInt u64.bits (t6.fdiv (2^(min (52:Int).toNat u64.bits))) &&& BitVec.ofInt u64.bits 2047).toNat))-1023))+1)))))))
    (some (p0,0)))
def T_math_Frexp (p0:Nat):Option (Nat×Int):=
 (T_math_frexp p0).bind fun o=>match o with
 | (t1,t2)=>
 some (t1,t2)
def T_math_Copysign (p0:Nat) (p1:Nat):Option Nat:=
 cond (isNaN p1) none (some (nf ((if negF p1 then 9223372036854775808 else 0)+magF p0)))
def T_math_Inf (q0:Int):Option Nat:=
 (cond (decide (q0≥0))
   (some 9218868437227405312)
   (some 18442240474082181120)).bind fun t1=>
 (T_math_Float64frombits t1).bind fun t2=>
 some t2
def T_math_ldexp (p0:Nat) (q1:Int):Option Nat:=
 (some (feq p0 (nf 0))).bind fun t1=>
 cond t1
  (some p0)
  (((T_math_IsInf p0 0).bind fun t3=>
    cond (!t3)
     ((T_math_IsNaN p0).bind fun t4=>
      some t4)
     (some true)).bind fun t2=>
   cond t2
    (some p0)
    ((T_math_normalize p0).bind fun o=>match o with
     | (t5,t6)=>
     (T_math_Float64bits t5).bind fun t7=>
     cond (decide ((i64.wrap ((i64.wrap (q1+t6))+(i64.wrap ((i64.wrap (BitVec.ofInt i64.bits (i64.wrap (t7.fdiv (2^(min (52:Int).toNat u64.bits)))) &&& BitVec.ofInt i64.bits 2047).toNat)-1023))))<(-1075)))
      ((T_math_Copysign (nf 0) t5).bind fun t8=>
       some t8)
      (cond (decide ((i64.wrap ((i64.wrap (q1+t6))+(i64.wrap ((i64.wrap (BitVec.ofInt i64.bits (i64.wrap (t7.fdiv (2^(min (52:Int).toNat u64.bits)))) &&& BitVec.ofInt i64.bits 2047).toNat)-1023))))>1023))
        ((some (flt t5 (nf 0))).bind fun t9=>
         cond t9
          ((T_math_Inf (-1)).bind fun t10=>
           some t10)
          ((T_math_Inf 1).bind fun t11=>
           some t11))
        ((cond (decide ((i64.wrap ((i64.wrap (q1+t6))+(i64.wrap ((i64.wrap (BitVec.ofInt i64.bits (i64.wrap (t7.fdiv (2^(min (52:Int).toNat u64.bits)))) &&& BitVec.ofInt i64.bits 2047).toNat)-1023))))<(-1022)))
           (some ((i64.wrap ((i64.wrap ((i64.wrap (q1+t6))+(i64.wrap ((i64.wrap (BitVec.ofInt i64.bits (i64.wrap (t7.fdiv (2^(min (52:Int).toNat u64.bits)))) &&& BitVec.ofInt i64.bits 2047).toNat)-1023))))+53)),(nf 4368491638549381120)))
           (some ((i64.wrap ((i64.wrap (q1+t6))+(i64.wrap ((i64.wrap (BitVec.ofInt i64.bits (i64.wrap (t7.fdiv (2^(min (52:Int).toNat u64.bits)))) &&& BitVec.ofInt i64.bits 2047).toNat)-1023)))),(nf 4607182418800017408)))).bind fun o=>match o with
         | (t12,t13)=>
         (T_math_Float64frombits (u64.wrap (BitVec.ofInt u64.bits (u64.wrap (BitVec.ofInt u64.bits t7 &&& ~~~BitVec.ofInt u64.bits 9218868437227405312).toNat) ||| BitVec.ofInt u64.bits (u64.wrap ((u64.wrap (i64.wrap (t12+1023)))*2^(min (52:Int).toNat u64.bits)))).toNat)).bind fun t14=>
         (some (fmul t13 t14)).bind fun t15=>
         some t15))))
def T_math_Ldexp (p0:Nat) (q1:Int):Option Nat:=
 (T_math_ldexp p0 q1).bind fun t1=>
 some t1
def T_math_bits_TrailingZeros64 (q0:Int):Option Int:=
 some (tz64 q0)
def T_bits_Split (p0:Nat):Option (Bool×Int×Int×Bool):=
 (T_bits_Kind p0).bind fun t1=>
 cond (decide (t1>2))
  (some (false,0,0,false))
  ((T_math_Signbit p0).bind fun t2=>
   (some (feq p0 (nf 0))).bind fun t3=>
   cond t3
    (some (t2,0,0,true))
    ((T_math_Abs p0).bind fun t4=>
     (T_math_Frexp t4).bind fun o=>match o with
     | (t5,t6)=>
     (T_math_Ldexp t5 53).bind fun t7=>
     (f2i t7 .u64).bind fun t8=>
     (T_math_bits_TrailingZeros64 t8).bind fun t9=>
     (nn t9).bind fun t10=>
     some (t2,(t8.fdiv (2^(min t9.toNat u64.bits))),(i64.wrap ((i64.wrap (t6-53))+t9)),true)))
def T_dyad_Of (p0:Nat):Option (Bool×List Int×Int×Int):=
 (T_bits_Split p0).bind fun o=>match o with
 | (t1,t2,t3,t4)=>
 cond (!t4)
  (some (false,([]:List Int),0,5))
  (cond (t2==0)
    (some (false,([]:List Int),0,0))
    ((some [t2]).bind fun t5=>
     some (t1,t5,t3,0)))
def T_dyad_Right (q0_0:Bool) (l0_1:List Int) (q0_2:Int):Option Bool:=
 (some ((l0_1.length:Nat):Int)).bind fun t1=>
 cond (t1==0)
  (cond (!q0_0)
    (some (q0_2==0))
    (some false))
  (cond (decide (t1≤256))
    ((atI l0_1 (i64.wrap (t1-1))).bind fun t2=>
     cond (t2 != 0)
      ((atI l0_1 0).bind fun t3=>
       cond ((u64.wrap (BitVec.ofInt u64.bits t3 &&& BitVec.ofInt u64.bits 1).toNat)==1)
        (cond (decide (((-65536):Int)≤q0_2))
          (some (decide (q0_2≤65536)))
          (some false))
        (some false))
      (some false))
    (some false))
def T_dyad_both (q0_0:Bool) (l0_1:List Int) (q0_2:Int) (q1_0:Bool) (l1_1:List Int) (q1_2:Int):Option Bool:=
 (T_dyad_Right q0_0 l0_1 q0_2).bind fun t1=>
 cond t1
  ((T_dyad_Right q1_0 l1_1 q1_2).bind fun t2=>
   some t2)
  (some false)
def T_dyad_whole_b2 (t1:Int) (l0_1:List Int):(Int×Int)→Option ((Int×Int)⊕(Int)):=fun st=>match st with
| (t3,t4)=>
 cond (decide (t3<t1))
  ((bigLsh t4 64).bind fun t5=>
   (some ((l0_1.length:Nat):Int)).bind fun t6=>
   (atI l0_1 (i64.wrap ((i64.wrap (t6-1))-t3))).bind fun t7=>
   (bigSetUint64 t7).bind fun t8=>
   (bigOr t5 t8).bind fun t9=>
   some (.inl ((i64.wrap (t3+1)),t9)))
  (some (.inr t4))
def T_dyad_whole (q0_0:Bool) (l0_1:List Int) (q0_2:Int):Option Int:=
 (some ((l0_1.length:Nat):Int)).bind fun t1=>
 (iter (T_dyad_whole_b2 t1 l0_1) FU (0,0)).bind fun t2=>
 (cond q0_0
   ((bigNeg t2).bind fun t11=>
    some t11)
   (some t2)).bind fun t10=>
 some t10
def T_dyad_Mul (q0_0:Bool) (l0_1:List Int) (q0_2:Int) (q1_0:Bool) (l1_1:List Int) (q1_2:Int):Option (Bool×List Int×Int×Int):=
 (T_dyad_both q0_0 l0_1 q0_2 q1_0 l1_1 q1_2).bind fun t1=>
 cond (!t1)
  (some (false,([]:List Int),0,2))
  ((T_dyad_whole q0_0 l0_1 q0_2).bind fun t2=>
   (T_dyad_whole q1_0 l1_1 q1_2).bind fun t3=>
   (bigMul t2 t3).bind fun t4=>
   (T_dyad_made t4 (i64.wrap (q0_2+q1_2))).bind fun o=>match o with
   | (t5,t6,t7,t8)=>
   some (t5,t6,t7,t8))
def T_w12_product (p0:Nat) (p1:Nat) (p2:Nat):Option (Bool×List Int×Int×Int):=
 (T_dyad_Of p0).bind fun o=>match o with
 | (t1,t2,t3,t4)=>
 (T_dyad_Of p1).bind fun o=>match o with
 | (t5,t6,t7,t8)=>
 (T_dyad_Of p2).bind fun o=>match o with
 | (t9,t10,t11,t12)=>
 (cond (!(t4 != 0))
   (cond (!(t8 != 0))
     (some (t12 != 0))
     (some true))
   (some true)).bind fun t13=>
 cond t13
  (some (t1,t2,t3,5))
  ((T_dyad_Mul t1 t2 t3 t5 t6 t7).bind fun o=>match o with
   | (t14,t15,t16,t17)=>
   cond (t17 != 0)
    (some (t14,t15,t16,t17))
    ((T_dyad_Mul t14 t15 t16 t9 t10 t11).bind fun o=>match o with
     | (t18,t19,t20,t21)=>
     some (t18,t19,t20,t21)))
def T_dyad_Sign (q0_0:Bool) (l0_1:List Int) (q0_2:Int):Option (Int×Int):=
 (T_dyad_Right q0_0 l0_1 q0_2).bind fun t1=>
 cond (!t1)
  (some (0,2))
  ((some ((l0_1.length:Nat):Int)).bind fun t2=>
   cond (t2==0)
    (some (0,0))
    (cond q0_0
      (some ((-1),0))
      (some (1,0))))
def T_dyad_Neg (q0_0:Bool) (l0_1:List Int) (q0_2:Int):Option (Bool×List Int×Int×Int):=
 (T_dyad_Right q0_0 l0_1 q0_2).bind fun t1=>
 cond (!t1)
  (some (false,([]:List Int),0,2))
  (cond (!q0_0)
    ((some ((l0_1.length:Nat):Int)).bind fun t2=>
     (appL ([]:List Int) l0_1).bind fun t3=>
     some ((decide (t2>0)),t3,q0_2,0))
    ((appL ([]:List Int) l0_1).bind fun t4=>
     some (false,t4,q0_2,0)))
def T_dyad_Add (q0_0:Bool) (l0_1:List Int) (q0_2:Int) (q1_0:Bool) (l1_1:List Int) (q1_2:Int):Option (Bool×List Int×Int×Int):=
 (T_dyad_both q0_0 l0_1 q0_2 q1_0 l1_1 q1_2).bind fun t1=>
 cond (!t1)
  (some (false,([]:List Int),0,2))
  ((T_dyad_whole q0_0 l0_1 q0_2).bind fun t2=>
   (T_dyad_whole q1_0 l1_1 q1_2).bind fun t3=>
   ((bigSign t2).bind fun t5=>
    cond (!(t5==0))
     ((bigSign t3).bind fun t6=>
      some (t6==0))
     (some true)).bind fun t4=>
   cond t4
    ((bigAdd t2 t3).bind fun t7=>
     (T_dyad_made t7 (i64.wrap (q0_2+q1_2))).bind fun o=>match o with
     | (t8,t9,t10,t11)=>
     some (t8,t9,t10,t11))
    ((cond (decide (q0_2<q1_2))
       (some (q0_0,q0_2,q1_0,q1_2,t3,t2,l0_1,l1_1))
       (some (q1_0,q1_2,q0_0,q0_2,t2,t3,l1_1,l0_1))).bind fun o=>match o with
     | (t12,t13,t14,t15,t16,t17,t18,t19)=>
     cond (decide ((i64.wrap (t15-t13))>16385))
      (some (false,([]:List Int),0,3))
      ((bigLsh t16 (u64.wrap (i64.wrap (t15-t13)))).bind fun t20=>
       (bigAdd t20 t17).bind fun t21=>
       (T_dyad_made t21 t13).bind fun o=>match o with
       | (t22,t23,t24,t25)=>
       some (t22,t23,t24,t25))))
def T_p_w12_sums_adds (x0:Bool) (xl:List Int) (x2:Int) (d0:Bool) (dl:List Int) (d2:Int) (e:Int) (z:Bool):Option (Bool×List Int×Int):=
 cond (e==0)
  ((cond z ((T_dyad_Sign d0 dl d2).bind fun o=>match o with
    | (n,f)=>cond (f==0) (cond (decide (n<0)) ((T_dyad_Neg d0 dl d2).bind fun o=>match o with
     | (a,b,c,g)=>cond (g==0) (some (a,b,c)) none) (some (d0,dl,d2))) none) (some (d0,dl,d2))).bind fun o=>match o with
   | (a,b,c)=>(T_dyad_Add x0 xl x2 a b c).bind fun o=>match o with
    | (u,v,x,g)=>cond (g==0) (some (u,v,x)) none)
  none
def T_dyad_Scale (q0_0:Bool) (l0_1:List Int) (q0_2:Int) (q1:Int):Option (Bool×List Int×Int×Int):=
 (T_dyad_Right q0_0 l0_1 q0_2).bind fun t1=>
 cond (!t1)
  (some (false,([]:List Int),0,2))
  ((some ((l0_1.length:Nat):Int)).bind fun t2=>
   cond (t2==0)
    (some (false,([]:List Int),0,0))
    ((cond (!(decide (q1>131072)))
       (some (decide (q1<(-131072))))
       (some true)).bind fun t3=>
     cond t3
      (some (false,([]:List Int),0,3))
      ((T_dyad_whole q0_0 l0_1 q0_2).bind fun t4=>
       (T_dyad_made t4 (i64.wrap (q0_2+q1))).bind fun o=>match o with
       | (t5,t6,t7,t8)=>
       some (t5,t6,t7,t8))))
def T_math_bits_Len64 (q0:Int):Option Int:=
 cond (decide (0≤q0∧q0≤18446744073709551615)) (some ((blN q0.toNat:Nat):Int)) none
def T_dyad_top (q0_0:Bool) (l0_1:List Int) (q0_2:Int):Option Int:=
 (some ((l0_1.length:Nat):Int)).bind fun t1=>
 (atI l0_1 (i64.wrap (t1-1))).bind fun t2=>
 (T_math_bits_Len64 t2).bind fun t3=>
 some (i64.wrap ((i64.wrap (q0_2+(i64.wrap (64*(i64.wrap (t1-1))))))+t3))
def T_dyad_Cmp (q0_0:Bool) (l0_1:List Int) (q0_2:Int) (q1_0:Bool) (l1_1:List Int) (q1_2:Int):Option (Int×Int):=
 (T_dyad_Sign q0_0 l0_1 q0_2).bind fun o=>match o with
 | (t1,t2)=>
 (T_dyad_Sign q1_0 l1_1 q1_2).bind fun o=>match o with
 | (t3,t4)=>
 (cond (!(t2 != 0))
   (some (t4 != 0))
   (some true)).bind fun t5=>
 cond t5
  (some (0,2))
  (cond (t1 != t3)
    (cond (decide (t1<t3))
      (some ((-1),0))
      (some (1,0)))
    (cond (t1==0)
      (some (0,0))
      ((T_dyad_top q0_0 l0_1 q0_2).bind fun t6=>
       (T_dyad_top q1_0 l1_1 q1_2).bind fun t7=>
       cond (t6 != t7)
        ((T_dyad_top q0_0 l0_1 q0_2).bind fun t8=>
         (T_dyad_top q1_0 l1_1 q1_2).bind fun t9=>
         cond (decide (t8<t9))
          (some ((i64.wrap (0-t1)),0))
          (some (t1,0)))
        ((T_dyad_whole q0_0 l0_1 q0_2).bind fun t10=>
         (T_dyad_whole q1_0 l1_1 q1_2).bind fun t11=>
         (cond (decide (q0_2>q1_2))
           ((bigLsh t10 (u64.wrap (i64.wrap (q0_2-q1_2)))).bind fun t14=>
            some (t14,t11))
           ((bigLsh t11 (u64.wrap (i64.wrap (q1_2-q0_2)))).bind fun t15=>
            some (t10,t15))).bind fun o=>match o with
         | (t12,t13)=>
         (bigCmp t12 t13).bind fun t16=>
         some (t16,0)))))
def T_w12_near_b2 (q2:Int) (l0_2:List Nat) (q0_0:Int) (l0_1:List Nat) (q1:Int):(Int×Bool×Int×Bool×Int×Bool×Int×List Int×List Int×List Int)→Option ((Int×Bool×Int×Bool×Int×Bool×Int×List Int×List Int×List Int)⊕((Bool×Int×Bool×Int×Bool×Int×List Int×List Int×List Int))):=fun st=>match st with
| (t19,t20,t21,t22,t23,t24,t25,t26,t27,t28)=>
 cond (decide (t19≤q2))
  ((((atI l0_2 t19).bind fun t42=>
     (T_w12_at q0_0 l0_1 l0_2 q1 t19).bind fun t43=>
     (T_w12_at q0_0 l0_1 l0_2 q2 t19).bind fun t44=>
     (T_w12_product t43 t42 t44).bind fun o=>match o with
     | (t45,t46,t47,t48)=>
     some (t48,t45,t47,t46)).bind fun o=>match o with
    | (t38,t39,t40,t41)=>
    (T_p_w12_sums_adds t24 t28 t25 t39 t41 t40 t38 false).bind fun o=>match o with
    | (t49,t50,t51)=>
    (T_p_w12_sums_adds t22 t27 t23 t39 t41 t40 t38 true).bind fun o=>match o with
    | (t52,t53,t54)=>
    (cond (decide (t19<q2))
      ((T_w12_at q0_0 l0_1 l0_2 q1 t19).bind fun t58=>
       (T_dyad_Of t58).bind fun o=>match o with
       | (t59,t60,t61,t62)=>
       (T_p_w12_sums_adds t20 t26 t21 t59 t60 t61 t62 true).bind fun o=>match o with
       | (t63,t64,t65)=>
       some (t63,t65,t64))
      (some (t20,t21,t26))).bind fun o=>match o with
    | (t55,t56,t57)=>some (t55,t56,t52,t54,t49,t51,t53,t50,t57)).bind fun o=>match o with
   | (t29,t30,t31,t32,t33,t34,t35,t36,t37)=>some (.inl ((i64.wrap (t19+1)),t29,t30,t31,t32,t33,t34,t37,t35,t36)))
  (some (.inr (t20,t21,t22,t23,t24,t25,t26,t27,t28)))
def T_w12_near (q0_0:Int) (l0_1:List Nat) (l0_2:List Nat) (q1:Int) (q2:Int) (p3:Nat):Option Bool:=
 (T_dyad_Int 0).bind fun o=>match o with
 | (t1,t2,t3)=>
 ((T_dyad_Int 1).bind fun o=>match o with
  | (t7,t8,t9)=>
  some (t7,t9,t8)).bind fun o=>match o with
 | (t4,t5,t6)=>
 (iter (T_w12_near_b2 q2 l0_2 q0_0 l0_1 q1) FU (0,t4,t5,t1,t3,t1,t3,t6,t2,t2)).bind fun o=>match o with
 | (t10,t11,t12,t13,t14,t15,t16,t17,t18)=>
 (atI l0_2 q2).bind fun t66=>
 (T_dyad_Of t66).bind fun o=>match o with
 | (t67,t68,t69,t70)=>
 (T_p_w12_sums_adds t10 t16 t11 t67 t68 t69 t70 true).bind fun o=>match o with
 | (t71,t72,t73)=>
 (some (nf (fneg p3))).bind fun t74=>
 (T_dyad_Of t74).bind fun o=>match o with
 | (t75,t76,t77,t78)=>
 (T_p_w12_sums_adds t14 t18 t15 t75 t76 t77 t78 false).bind fun o=>match o with
 | (t79,t80,t81)=>
 (T_p_w12_sums_adds t1 t2 t3 t79 t80 t81 0 true).bind fun o=>match o with
 | (t82,t83,t84)=>
 (T_dyad_Scale t12 t17 t13 (-50)).bind fun o=>match o with
 | (t85,t86,t87,t88)=>
 (T_dyad_Scale t71 t72 t73 (-1070)).bind fun o=>match o with
 | (t89,t90,t91,t92)=>
 (cond (!(t88 != 0))
   (cond (!(t92 != 0))
     (some false)
     (some true))
   (some true)).bind fun t93=>
 cond t93
  (some false)
  ((T_dyad_Add t85 t86 t87 t89 t90 t91).bind fun o=>match o with
   | (t94,t95,t96,t97)=>
   cond (t97 != 0)
    (some false)
    ((T_dyad_Int (i64.wrap (q2+2))).bind fun o=>match o with
     | (t98,t99,t100)=>
     (T_dyad_Mul t94 t95 t96 t98 t99 t100).bind fun o=>match o with
     | (t101,t102,t103,t104)=>
     (T_dyad_Cmp t82 t83 t84 t101 t102 t103).bind fun o=>match o with
     | (t105,t106)=>
     cond (t104==0)
      (cond (t106==0)
        (some (decide (t105≤0)))
        (some false))
      (some false)))
def T_w12_LowerNear_b7 (t12:Int) (t4:List Nat) (t2:Int) (t5:Int) (t6:List Nat) (t7:List Nat):Int→Option (Int⊕(Unit⊕Bool)):=fun st=>match st with
| t17=>
 cond (decide (t17≤t12))
  ((atI t4 (i64.wrap ((i64.wrap (t12*t2))+t17))).bind fun t18=>
   (T_w12_near t5 t6 t7 t12 t17 t18).bind fun t19=>
   cond (!t19)
    (some (.inr (.inr false)))
    (some (.inl (i64.wrap (t17+1)))))
  (some (.inr (.inl ())))
def T_w12_LowerNear_b5 (t2:Int) (t7:List Nat) (t4:List Nat) (t5:Int) (t6:List Nat):Int→Option (Int⊕(Unit⊕Bool)):=fun st=>match st with
| t12=>
 cond (decide (t12<t2))
  ((atI t7 t12).bind fun t13=>
   (some (fgt t13 (nf 0))).bind fun t14=>
   cond (!(!t14))
    ((atI t7 t12).bind fun t15=>
     (T_math_IsInf t15 1).bind fun t16=>
     cond t16
      (some (.inr (.inr false)))
      (((iter (T_w12_LowerNear_b7 t12 t4 t2 t5 t6 t7) FU 0:Option (Unit⊕Bool))).bind fun o=>match o with
       | .inl ()=>some (.inl (i64.wrap (t12+1)))
       | .inr v=>some (.inr (.inr v))))
    (some (.inr (.inr false))))
  (some (.inr (.inl ())))
def T_w12_LowerNear (q0_0:Int) (q0_1:Int) (l0_2:List Nat):Option Bool:=
 (T_w12_awake ).bind fun t1=>
 cond (!t1)
  (some false)
  ((T_w12_small q0_0 q0_1 l0_2).bind fun o=>match o with
   | (t2,t3,t4)=>
   (T_lower_Factor t2 t3 t4).bind fun o=>match o with
   | (t5,t6,t7,t8,t9)=>
   cond (t8 != 0)
    (cond (!(t8==5))
      (cond (!(t8==220))
        (some (t8==6))
        (some true))
      (some true))
    ((cond (!(t5 != t2))
       ((T_lower_Right t5 t6 t7).bind fun t11=>
        some (!t11))
       (some true)).bind fun t10=>
     cond t10
      (some false)
      (((iter (T_w12_LowerNear_b5 t2 t7 t4 t5 t6) FU 0:Option (Unit⊕Bool))).bind fun o=>match o with
       | .inl ()=>some true
       | .inr v=>some v)))
end Go.Eng
