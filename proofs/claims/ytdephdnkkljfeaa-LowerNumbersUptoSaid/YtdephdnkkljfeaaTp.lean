/-
  Functions of plain Lean beside functions of the program, printed by a program of the session. No condition.
-/
import Derived.Test.YtdephdnkkljfeaaRnd
set_option linter.all false
set_option maxRecDepth 100000
namespace Go.Eng
open Go
def T_matrix_fits (q0 : Int) : Option Bool :=
  cond (decide (q0 ≥ 0))
    (some (decide (q0 ≤ 48)))
    (some false)
def T_matrix_Right (q0_0 : Int) (q0_1 : Int) (l0_2 : List Nat) : Option Bool :=
  (T_matrix_fits q0_0).bind fun t1 =>
  cond t1
    ((T_matrix_fits q0_1).bind fun t2 =>
      cond t2
        ((some ((l0_2.length : Nat) : Int)).bind fun t3 =>
          some (t3 == (IntKind.i64.wrap (q0_0 * q0_1))))
        (some false))
    (some false)
def T_matrix_Transpose_1 (q0 : Int) (q1 : Int) (q2_0 : Int) (q2_1 : Int) (l2_2 : List Nat) : Option Nat :=
  (atI l2_2 (IntKind.i64.wrap ((IntKind.i64.wrap (q1 * q2_1)) + q0))).bind fun t1 =>
  some t1
def T_matrix_laid_b9 (q1 : Int) (f2 : Int → Int → Option Nat) (t3 : Int) : (Int × List Nat) → Option ((Int × List Nat) ⊕ (List Nat)) := fun st => match st with
| (t6, t7) =>
  cond (decide (t6 < q1))
    ((f2 t3 t6).bind fun t8 =>
      (atI t7 (IntKind.i64.wrap ((IntKind.i64.wrap (t3 * q1)) + t6))).bind fun t9 =>
      (some (t7.set ((IntKind.i64.wrap ((IntKind.i64.wrap (t3 * q1)) + t6))).toNat t8)).bind fun t10 =>
      some (.inl ((IntKind.i64.wrap (t6 + 1)), t10)))
    (some (.inr t7))
def T_matrix_laid_b7 (q0 : Int) (q1 : Int) (f2 : Int → Int → Option Nat) : (Int × List Nat) → Option ((Int × List Nat) ⊕ (List Nat)) := fun st => match st with
| (t3, t4) =>
  cond (decide (t3 < q0))
    ((iter (T_matrix_laid_b9 q1 f2 t3) FU (0, t4)).bind fun t5 =>
      some (.inl ((IntKind.i64.wrap (t3 + 1)), t5)))
    (some (.inr t4))
def T_matrix_laid (q0 : Int) (q1 : Int) (f2 : Int → Int → Option Nat) : Option (Int × Int × List Nat) :=
  (mkL (nf 0) (IntKind.i64.wrap (q0 * q1)) (IntKind.i64.wrap (q0 * q1))).bind fun t1 =>
  (iter (T_matrix_laid_b7 q0 q1 f2) FU (0, t1)).bind fun t2 =>
  some (q0, q1, t2)
def T_matrix_Transpose (q0_0 : Int) (q0_1 : Int) (l0_2 : List Nat) : Option (Int × Int × List Nat × Int) :=
  (T_matrix_Right q0_0 q0_1 l0_2).bind fun t1 =>
  cond (!t1)
    (some (0, 0, (List.map nf []), 4))
    ((T_matrix_laid q0_1 q0_0 (fun v0 v1 => T_matrix_Transpose_1 v0 v1 q0_0 q0_1 l0_2)).bind fun o => match o with
      | (t2, t3, t4) =>
      some (t2, t3, t4, 0))
def T_math_IsNaN (p0 : Nat) : Option Bool :=
  (some (!feq p0 p0)).bind fun t1 =>
  some t1
def T_vector_Same (l0 : List Nat) (l1 : List Nat) : Option Bool :=
  cond (decide (l0.length ≤ 4294967296)) (some (l0 == l1)) none
def T_matrix_Same (q0_0 : Int) (q0_1 : Int) (l0_2 : List Nat) (q1_0 : Int) (q1_1 : Int) (l1_2 : List Nat) : Option Bool :=
  cond (q0_0 == q1_0)
    (cond (q0_1 == q1_1)
        ((T_vector_Same l0_2 l1_2).bind fun t1 =>
          some t1)
        (some false))
    (some false)
def T_matrix_Symmetric (q0_0 : Int) (q0_1 : Int) (l0_2 : List Nat) : Option Bool :=
  (T_matrix_Transpose q0_0 q0_1 l0_2).bind fun o => match o with
  | (t1, t2, t3, t4) =>
  cond (t4 == 0)
    ((T_matrix_Same t1 t2 t3 q0_0 q0_1 l0_2).bind fun t5 =>
      some t5)
    (some false)
def T_math_Float64frombits (q0 : Int) : Option Nat :=
  some (nf q0.toNat)
def T_math_Abs (p0 : Nat) : Option Nat :=
  some (nf (magF p0))
def T_math_IsInf (p0 : Nat) (q1 : Int) : Option Bool :=
  (cond (q1 == 0)
      ((T_math_Abs p0).bind fun t2 =>
        some t2)
      ((cond (decide (q1 < 0))
            ((some (nf (fneg p0))).bind fun t4 =>
              some t4)
            (some p0)).bind fun t3 =>
        some t3)).bind fun t1 =>
  (some (fgt t1 (nf 9218868437227405311))).bind fun t5 =>
  some t5
def T_lower_finite (p0 : Nat) : Option Bool :=
  (T_math_IsNaN p0).bind fun t1 =>
  cond (!t1)
    ((T_math_IsInf p0 0).bind fun t2 =>
      some (!t2))
    (some false)
def T_lower_row (l0 : List Nat) (q1 : Int) : Option (Int × Int) :=
  (subL l0 (IntKind.i64.wrap ((IntKind.i64.wrap (q1 * (IntKind.i64.wrap (q1 - 1)))).tdiv 2)) (IntKind.i64.wrap ((IntKind.i64.wrap ((IntKind.i64.wrap (q1 * (IntKind.i64.wrap (q1 - 1)))).tdiv 2)) + q1))).bind fun t1 =>
  some ((IntKind.i64.wrap ((IntKind.i64.wrap (q1 * (IntKind.i64.wrap (q1 - 1)))).tdiv 2)), (IntKind.i64.wrap ((IntKind.i64.wrap ((IntKind.i64.wrap (q1 * (IntKind.i64.wrap (q1 - 1)))).tdiv 2)) + q1)))
def T_lower_Factor_b2 (t2 : Int) (l0_2 : List Nat) : (Int × Int × Int) → Option ((Int × Int × Int) ⊕ ((Int × Int) ⊕ (Int × List Nat × List Nat × Int × Int))) := fun st => match st with
| (t5, t6, t7) =>
  cond (decide (t7 < t2))
    ((atI l0_2 t7).bind fun t8 =>
      (T_lower_finite t8).bind fun t9 =>
      cond (!t9)
        (some (.inr (.inr (0, (List.map nf []), (List.map nf []), 5, 0))))
        (some (.inl (t5, t6, (IntKind.i64.wrap (t7 + 1))))))
    (some (.inr (.inl (t5, t6))))
def T_lower_Factor_b31 (t29 : Int) (t27 : List Nat) (t23 : List Nat) : (Nat × Int × List Nat) → Option ((Nat × Int × List Nat) ⊕ ((Nat × List Nat))) := fun st => match st with
| (t32, t33, t34) =>
  cond (decide (t33 < t29))
    ((atI t27 t33).bind fun t35 =>
      (atI t23 t33).bind fun t36 =>
      (some (fmul t35 t36)).bind fun t37 =>
      (atI t34 t33).bind fun t38 =>
      (some (t34.set (t33).toNat t37)).bind fun t39 =>
      (atI t39 t33).bind fun t40 =>
      (some (fmul t40 t35)).bind fun t41 =>
      (some (fsub t32 t41)).bind fun t42 =>
      some (.inl (t42, (IntKind.i64.wrap (t33 + 1)), t39)))
    (some (.inr (t32, t34)))
def T_lower_Factor_b40 (t21 : Int) (t57 : List Nat) (t31 : List Nat) : (Nat × Int) → Option ((Nat × Int) ⊕ (Nat)) := fun st => match st with
| (t60, t61) =>
  cond (decide (t61 < t21))
    ((atI t57 t61).bind fun t62 =>
      (atI t31 t61).bind fun t63 =>
      (some (fmul t62 t63)).bind fun t64 =>
      (some (fsub t60 t64)).bind fun t65 =>
      some (.inl (t65, (IntKind.i64.wrap (t61 + 1)))))
    (some (.inr t60))
def T_lower_Factor_b38 (q0_0 : Int) (l0_2 : List Nat) (t21 : Int) (t31 : List Nat) (t47 : List Nat) : (Int × Int × Int × List Nat) → Option ((Int × Int × Int × List Nat) ⊕ ((Int × Int × List Nat) ⊕ (Int × Int × List Nat × List Nat))) := fun st => match st with
| (t51, t52, t53, t54) =>
  cond (decide (t53 < q0_0))
    ((T_lower_row t54 t53).bind fun o => match o with
      | (t55, t56) =>
      (subL t54 t55 t56).bind fun t57 =>
      (atI l0_2 (IntKind.i64.wrap ((IntKind.i64.wrap (t53 * q0_0)) + t21))).bind fun t58 =>
      (iter (T_lower_Factor_b40 t21 t57 t31) FU (t58, 0)).bind fun t59 =>
      (atI t47 t21).bind fun t66 =>
      (some (fdiv t59 t66)).bind fun t67 =>
      (atI t57 t21).bind fun t68 =>
      (some (t54.set ((t55).toNat + (t21).toNat) t67)).bind fun t69 =>
      (subL t69 t55 t56).bind fun t70 =>
      (atI t70 t21).bind fun t71 =>
      (T_lower_finite t71).bind fun t72 =>
      cond (!t72)
        (some (.inr (.inr (6, t21, t47, t69))))
        (some (.inl (t51, t52, (IntKind.i64.wrap (t53 + 1)), t69))))
    (some (.inr (.inl (t51, t52, t54))))
def T_lower_Factor_b29 (q0_0 : Int) (l0_2 : List Nat) : (Int × Int × Int × List Nat × List Nat × List Nat) → Option ((Int × Int × Int × List Nat × List Nat × List Nat) ⊕ ((Int × Int × List Nat × List Nat))) := fun st => match st with
| (t19, t20, t21, t22, t23, t24) =>
  cond (decide (t21 < q0_0))
    ((T_lower_row t24 t21).bind fun o => match o with
      | (t25, t26) =>
      (subL t24 t25 t26).bind fun t27 =>
      (atI l0_2 (IntKind.i64.wrap ((IntKind.i64.wrap (t21 * q0_0)) + t21))).bind fun t28 =>
      (some ((t27.length : Nat) : Int)).bind fun t29 =>
      (iter (T_lower_Factor_b31 t29 t27 t23) FU (t28, 0, t22)).bind fun o => match o with
      | (t30, t31) => 
      ((some (fgt t30 (nf 0))).bind fun t44 =>
        cond (!(!t44))
          ((T_lower_finite t30).bind fun t45 =>
            some (!t45))
          (some true)).bind fun t43 =>
      cond t43
        (some (.inr (220, t21, t23, t24)))
        ((atI t23 t21).bind fun t46 =>
          (some (t23.set (t21).toNat t30)).bind fun t47 =>
          ((iter (T_lower_Factor_b38 q0_0 l0_2 t21 t31 t47) FU (t19, t20, (IntKind.i64.wrap (t21 + 1)), t24) : Option ((Int × Int × List Nat) ⊕ (Int × Int × List Nat × List Nat)))).bind fun o => match o with
          | .inl (t48, t49, t50) => some (.inl (t48, t49, (IntKind.i64.wrap (t21 + 1)), t31, t47, t50))
          | .inr v => some (.inr v)))
    (some (.inr (t19, t20, t23, t24)))
def T_lower_Factor (q0_0 : Int) (q0_1 : Int) (l0_2 : List Nat) : Option (Int × List Nat × List Nat × Int × Int) :=
  (T_matrix_Symmetric q0_0 q0_1 l0_2).bind fun t1 =>
  cond (!t1)
    (some (0, (List.map nf []), (List.map nf []), 4, 0))
    ((some ((l0_2.length : Nat) : Int)).bind fun t2 =>
      ((iter (T_lower_Factor_b2 t2 l0_2) FU (0, 0, 0) : Option ((Int × Int) ⊕ (Int × List Nat × List Nat × Int × Int)))).bind fun o => match o with
      | .inl (t3, t4) => 
        (((mkL (nf 0) (IntKind.i64.wrap ((IntKind.i64.wrap (q0_0 * (IntKind.i64.wrap (q0_0 - 1)))).tdiv 2)) (IntKind.i64.wrap ((IntKind.i64.wrap (q0_0 * (IntKind.i64.wrap (q0_0 - 1)))).tdiv 2))).bind fun t12 =>
            (mkL (nf 0) q0_0 q0_0).bind fun t13 =>
            some (t13, t12)).bind fun o => match o with
          | (t10, t11) => 
          (mkL (nf 0) q0_0 q0_0).bind fun t14 =>
          (iter (T_lower_Factor_b29 q0_0 l0_2) FU (t3, t4, 0, t14, t10, t11)).bind fun o => match o with
          | (t15, t16, t17, t18) => 
          cond (t15 != 0)
            (some (0, (List.map nf []), (List.map nf []), t15, t16))
            (some (q0_0, t18, t17, 0, 0)))
      | .inr v => some v)
def T_lower_Right (q0_0 : Int) (l0_1 : List Nat) (l0_2 : List Nat) : Option Bool :=
  cond (decide (q0_0 ≥ 0))
    (cond (decide (q0_0 ≤ 48))
        ((some ((l0_1.length : Nat) : Int)).bind fun t1 =>
          cond (t1 == (IntKind.i64.wrap ((IntKind.i64.wrap (q0_0 * (IntKind.i64.wrap (q0_0 - 1)))).tdiv 2)))
            ((some ((l0_2.length : Nat) : Int)).bind fun t2 =>
              some (t2 == q0_0))
            (some false))
        (some false))
    (some false)
def T_math_Copysign (p0 : Nat) (p1 : Nat) : Option Nat :=
  cond (isNaN p1) none (some (nf ((if negF p1 then 9223372036854775808 else 0) + magF p0)))
def T_math_NaN  : Option Nat :=
  (T_math_Float64frombits 9221120237041090561).bind fun t1 =>
  some t1
def T_math_Inf (q0 : Int) : Option Nat :=
  (cond (decide (q0 ≥ 0))
      (some 9218868437227405312)
      (some 18442240474082181120)).bind fun t1 =>
  (T_math_Float64frombits t1).bind fun t2 =>
  some t2
def T_matrix_Make_1 (q0 : Int) (q1 : Int) : Option Nat :=
  some (nf 0)
def T_matrix_Make (q0 : Int) (q1 : Int) : Option (Int × Int × List Nat × Int) :=
  (T_matrix_fits q0).bind fun t1 =>
  cond (!(!t1))
    ((T_matrix_fits q1).bind fun t2 =>
      cond (!t2)
        (some (0, 0, (List.map nf []), 2))
        ((T_matrix_laid q0 q1 (fun v0 v1 => T_matrix_Make_1 v0 v1)).bind fun o => match o with
          | (t3, t4, t5) =>
          some (t3, t4, t5, 0)))
    (some (0, 0, (List.map nf []), 2))
def T_lower_Times_b38 (t15 : Int) (t13 : List Nat) (l0_2 : List Nat) (t21 : List Nat) : (Nat × Int) → Option ((Nat × Int) ⊕ (Nat)) := fun st => match st with
| (t23, t24) =>
  cond (decide (t24 < (IntKind.i64.wrap (t15 + 1))))
    ((atI t13 t24).bind fun t25 =>
      (atI l0_2 t24).bind fun t26 =>
      (some (fmul t25 t26)).bind fun t27 =>
      (atI t21 t24).bind fun t28 =>
      (some (fmul t27 t28)).bind fun t29 =>
      (some (fadd t23 t29)).bind fun t30 =>
      some (.inl (t30, (IntKind.i64.wrap (t24 + 1)))))
    (some (.inr t23))
def T_lower_Times_b36 (t7 : Int) (l0_1 : List Nat) (t13 : List Nat) (l0_2 : List Nat) (q0_0 : Int) : (Int × List Nat) → Option ((Int × List Nat) ⊕ (List Nat)) := fun st => match st with
| (t15, t16) =>
  cond (decide (t15 < (IntKind.i64.wrap (t7 + 1))))
    ((T_lower_row l0_1 t15).bind fun o => match o with
      | (t17, t18) =>
      (subL l0_1 t17 t18).bind fun t19 =>
      (some [(nf 4607182418800017408)]).bind fun t20 =>
      (appL t19 t20).bind fun t21 =>
      (iter (T_lower_Times_b38 t15 t13 l0_2 t21) FU ((nf 0), 0)).bind fun t22 =>
      (atI t16 (IntKind.i64.wrap ((IntKind.i64.wrap (t7 * q0_0)) + t15))).bind fun t31 =>
      (some (t16.set ((IntKind.i64.wrap ((IntKind.i64.wrap (t7 * q0_0)) + t15))).toNat t22)).bind fun t32 =>
      (atI t32 (IntKind.i64.wrap ((IntKind.i64.wrap (t15 * q0_0)) + t7))).bind fun t33 =>
      (some (t32.set ((IntKind.i64.wrap ((IntKind.i64.wrap (t15 * q0_0)) + t7))).toNat t22)).bind fun t34 =>
      some (.inl ((IntKind.i64.wrap (t15 + 1)), t34)))
    (some (.inr t16))
def T_lower_Times_b27 (q0_0 : Int) (l0_1 : List Nat) (l0_2 : List Nat) : (Int × List Nat) → Option ((Int × List Nat) ⊕ (List Nat)) := fun st => match st with
| (t7, t8) =>
  cond (decide (t7 < q0_0))
    ((T_lower_row l0_1 t7).bind fun o => match o with
      | (t9, t10) =>
      (subL l0_1 t9 t10).bind fun t11 =>
      (some [(nf 4607182418800017408)]).bind fun t12 =>
      (appL t11 t12).bind fun t13 =>
      (iter (T_lower_Times_b36 t7 l0_1 t13 l0_2 q0_0) FU (0, t8)).bind fun t14 =>
      some (.inl ((IntKind.i64.wrap (t7 + 1)), t14)))
    (some (.inr t8))
def T_lower_Times (q0_0 : Int) (l0_1 : List Nat) (l0_2 : List Nat) : Option (Int × Int × List Nat × Int) :=
  (T_lower_Right q0_0 l0_1 l0_2).bind fun t1 =>
  cond (!t1)
    (some (0, 0, (List.map nf []), 4))
    ((T_matrix_Make q0_0 q0_0).bind fun o => match o with
      | (t2, t3, t4, t5) =>
      (iter (T_lower_Times_b27 q0_0 l0_1 l0_2) FU (0, t4)).bind fun t6 =>
      some (t2, t3, t6, 0))
def T_k_SameFloat (p0 : Nat) (p1 : Nat) : Option Bool :=
  some (p0 == p1)
def T_k_SameReals_b2 (l0 : List Nat) (l1 : List Nat) : Int → Option (Int ⊕ (Unit ⊕ Bool)) := fun st => match st with
| t3 =>
  (some ((l0.length : Nat) : Int)).bind fun t4 =>
  cond (decide (t3 < t4))
    ((atI l0 t3).bind fun t5 =>
      (atI l1 t3).bind fun t6 =>
      (T_k_SameFloat t5 t6).bind fun t7 =>
      cond (!t7)
        (some (.inr (.inr false)))
        (some (.inl (IntKind.i64.wrap (t3 + 1)))))
    (some (.inr (.inl ())))
def T_k_SameReals (l0 : List Nat) (l1 : List Nat) : Option Bool :=
  (some ((l0.length : Nat) : Int)).bind fun t1 =>
  (some ((l1.length : Nat) : Int)).bind fun t2 =>
  cond (t1 != t2)
    (some false)
    (((iter (T_k_SameReals_b2 l0 l1) FU 0 : Option (Unit ⊕ Bool))).bind fun o => match o with
      | .inl () => some true
      | .inr v => some v)
def T_k_SameFactor (q0_0 : Int) (l0_1 : List Nat) (l0_2 : List Nat) (q1_0 : Int) (l1_1 : List Nat) (l1_2 : List Nat) : Option Bool :=
  cond (q0_0 == q1_0)
    ((T_k_SameReals l0_1 l1_1).bind fun t1 =>
      cond t1
        ((T_k_SameReals l0_2 l1_2).bind fun t2 =>
          some t2)
        (some false))
    (some false)
def T_k_SameMatrix (q0_0 : Int) (q0_1 : Int) (l0_2 : List Nat) (q1_0 : Int) (q1_1 : Int) (l1_2 : List Nat) : Option Bool :=
  cond (q0_0 == q1_0)
    (cond (q0_1 == q1_1)
        ((T_k_SameReals l0_2 l1_2).bind fun t1 =>
          some t1)
        (some false))
    (some false)
def T_w12_awake  : Option Bool :=
  (some [(nf 4616189618054758400), (nf 4611686018427387904), (nf 4611686018427387904), (nf 4617315517961601024)]).bind fun t1 =>
  (T_lower_Factor 2 2 t1).bind fun o => match o with
  | (t2, t3, t4, t5, t6) =>
  (T_lower_Times t2 t3 t4).bind fun o => match o with
  | (t7, t8, t9, t10) =>
  (some [(nf 4616189618054758400), (nf 4611686018427387904), (nf 4611686018427387904), (nf 4607182418800017408)]).bind fun t11 =>
  (T_lower_Factor 2 2 t11).bind fun o => match o with
  | (t12, t13, t14, t15, t16) =>
  cond (t5 == 0)
    (cond (t6 == 0)
        ((some [(nf 4602678819172646912)]).bind fun t17 =>
          (some [(nf 4616189618054758400), (nf 4616189618054758400)]).bind fun t18 =>
          (T_k_SameFactor t2 t3 t4 2 t17 t18).bind fun t19 =>
          cond t19
            (cond (t10 == 0)
                ((T_k_SameMatrix t7 t8 t9 2 2 t1).bind fun t20 =>
                  cond t20
                    (cond (t15 == 220)
                        (some (t16 == 1))
                        (some false))
                    (some false))
                (some false))
            (some false))
        (some false))
    (some false)
def T_w12_LowerNumbers_b7 (t1 : Int) : (Int × List Nat) → Option ((Int × List Nat) ⊕ (List Nat)) := fun st => match st with
| (t4, t5) =>
  cond (decide (t4 < t1))
    ((atI t5 (IntKind.i64.wrap ((IntKind.i64.wrap (t4 * t1)) + t4))).bind fun t6 =>
      (some (t5.set ((IntKind.i64.wrap ((IntKind.i64.wrap (t4 * t1)) + t4))).toNat (nf 4611686018427387904))).bind fun t7 =>
      some (.inl ((IntKind.i64.wrap (t4 + 1)), t7)))
    (some (.inr t5))
def T_w12_LowerNumbers_b5  : Int → Option (Int ⊕ (Unit ⊕ Bool)) := fun st => match st with
| t1 =>
  cond (decide (t1 ≤ 49))
    ((mkL (nf 0) (IntKind.i64.wrap (t1 * t1)) (IntKind.i64.wrap (t1 * t1))).bind fun t2 =>
      (iter (T_w12_LowerNumbers_b7 t1) FU (0, t2)).bind fun t3 =>
      (T_lower_Factor t1 t1 t3).bind fun o => match o with
      | (t8, t9, t10, t11, t12) =>
      (cond (!(!((t11 == 0) == (decide (t1 ≤ 48)))))
          (cond (!(!((t11 == 4) == (t1 == 49))))
              (cond (t11 == 0)
                  (cond (!(t8 != t1))
                      ((T_lower_Right t8 t9 t10).bind fun t14 =>
                        some (!t14))
                      (some true))
                  (some false))
              (some true))
          (some true)).bind fun t13 =>
      cond t13
        (some (.inr (.inr false)))
        ((mkL (nf 0) (IntKind.i64.wrap ((IntKind.i64.wrap (t1 * (IntKind.i64.wrap (t1 - 1)))).tdiv 2)) (IntKind.i64.wrap ((IntKind.i64.wrap (t1 * (IntKind.i64.wrap (t1 - 1)))).tdiv 2))).bind fun t15 =>
          (mkL (nf 0) t1 t1).bind fun t16 =>
          (T_lower_Right t1 t15 t16).bind fun t17 =>
          cond (!(t17 == (decide (t1 ≤ 48))))
            (some (.inr (.inr false)))
            (some (.inl (IntKind.i64.wrap (t1 + 1))))))
    (some (.inr (.inl ())))
def T_w12_LowerNumbers_b9 (t32 : List (List Nat)) (t33 : List Int) (t34 : List Int) : Int → Option (Int ⊕ (Unit ⊕ Bool)) := fun st => match st with
| t35 =>
  (some ((t32.length : Nat) : Int)).bind fun t36 =>
  cond (decide (t35 < t36))
    ((atI t32 t35).bind fun t37 =>
      (some ((t37.length : Nat) : Int)).bind fun t38 =>
      (atI t32 t35).bind fun t39 =>
      (some ((t39.length : Nat) : Int)).bind fun t40 =>
      (cond (t40 == 4)
          (some 2)
          (some (if 1 < t38 then 1 else t38))).bind fun t41 =>
      (atI t32 t35).bind fun t42 =>
      (T_lower_Factor t41 t41 t42).bind fun o => match o with
      | (t43, t44, t45, t46, t47) =>
      (atI t33 t35).bind fun t48 =>
      cond (!(t46 != t48))
        ((atI t34 t35).bind fun t49 =>
          cond (!(t47 != t49))
            (cond (t46 != 0)
                (cond (!(t43 != 0))
                    ((some ((t44.length : Nat) : Int)).bind fun t50 =>
                      (some ((t45.length : Nat) : Int)).bind fun t51 =>
                      cond ((IntKind.i64.wrap (t50 + t51)) != 0)
                        (some (.inr (.inr false)))
                        (some (.inl (IntKind.i64.wrap (t35 + 1)))))
                    (some (.inr (.inr false))))
                (some (.inl (IntKind.i64.wrap (t35 + 1)))))
            (some (.inr (.inr false))))
        (some (.inr (.inr false))))
    (some (.inr (.inl ())))
def T_w12_LowerNumbers  : Option Bool :=
  ((iter (T_w12_LowerNumbers_b5) FU 47 : Option (Unit ⊕ Bool))).bind fun o => match o with
  | .inl () => 
    ((some [(nf 0)]).bind fun t18 =>
      (some [(nf 13830554455654793216)]).bind fun t19 =>
      (T_math_Copysign (nf 0) (nf 13830554455654793216)).bind fun t20 =>
      (some [t20]).bind fun t21 =>
      (some [(nf 9218868437227405311), (nf 9218868437227405311), (nf 9218868437227405311), (nf 9218868437227405311)]).bind fun t22 =>
      (some [(nf 4607182418800017408), (nf 4611686018427387904), (nf 4613937818241073152), (nf 4616189618054758400)]).bind fun t23 =>
      (T_math_NaN ).bind fun t24 =>
      (T_math_NaN ).bind fun t25 =>
      (some [(nf 4607182418800017408), t24, t25, (nf 4607182418800017408)]).bind fun t26 =>
      (T_math_Float64frombits 1).bind fun t27 =>
      (some [t27, (nf 9110782046170513408), (nf 9110782046170513408), (nf 4607182418800017408)]).bind fun t28 =>
      (T_math_Inf 1).bind fun t29 =>
      (some [t29]).bind fun t30 =>
      (some [(nf 4607182418800017408), (nf 7309342195222315008), (nf 7309342195222315008), (nf 4607182418800017408)]).bind fun t31 =>
      (some ([t18, t19, t21, t22, t23, t26, t28, t30, t31, (List.map nf [])] : List (List Nat))).bind fun t32 =>
      (some [220, 220, 220, 220, 4, 5, 6, 5, 220, 0]).bind fun t33 =>
      (some [0, 0, 0, 1, 0, 0, 0, 0, 1, 0]).bind fun t34 =>
      ((iter (T_w12_LowerNumbers_b9 t32 t33 t34) FU 0 : Option (Unit ⊕ Bool))).bind fun o => match o with
      | .inl () => 
        ((T_lower_Right 0 (List.map nf []) (List.map nf [])).bind fun t52 =>
          cond t52
            ((T_lower_Right (-1) (List.map nf []) (List.map nf [])).bind fun t53 =>
              cond (!t53)
                ((T_lower_Right 1 (List.map nf []) (List.map nf [])).bind fun t54 =>
                  cond (!t54)
                    ((some [(nf 4607182418800017408)]).bind fun t55 =>
                      (T_lower_Right 0 t55 (List.map nf [])).bind fun t56 =>
                      cond (!t56)
                        ((T_w12_awake ).bind fun t57 =>
                          some t57)
                        (some false))
                    (some false))
                (some false))
            (some false))
      | .inr v => some v)
  | .inr v => some v
end Go.Eng
