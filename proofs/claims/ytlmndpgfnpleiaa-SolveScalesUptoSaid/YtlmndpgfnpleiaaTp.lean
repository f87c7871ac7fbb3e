/-
  Functions of plain Lean beside functions of the program, printed by a program of the session. No condition.
-/
import Derived.Test.YtlmndpgfnpleiaaHandP
set_option linter.unusedSimpArgs false
set_option linter.unnecessarySimpa false
set_option linter.unusedSectionVars false
set_option linter.unusedVariables false
set_option maxRecDepth 100000
namespace Go.Eng
open Go


def T_girderkit_mark (q0 : Int) (q1 : Int) : Option Int :=
  some (IntKind.i64.wrap ((IntKind.i64.wrap (1000003 * (IntKind.i64.wrap (q0 + 7)))) + q1))


def T_girderkit_LentReals (l0 : List Nat) : Option (List Nat) :=
  cond (decide (l0.length ≤ 4294967000)) (some l0) none


def T_girderkit_LentFactor (q0_0 : Int) (l0_1 : List Nat) (l0_2 : List Nat) : Option (Int × List Nat × List Nat) :=
  (T_girderkit_LentReals l0_1).bind fun t1 =>
  (T_girderkit_LentReals l0_2).bind fun t2 =>
  some (q0_0, t1, t2)


def T_lower_Right (q0_0 : Int) (l0_1 : List Nat) (l0_2 : List Nat) : Option Bool :=
  cond (decide (q0_0 ≥ 0))
    (cond (decide (q0_0 ≤ 48))
        ((some ((l0_1.length : Nat) : Int)).bind fun t1 =>
          cond (t1 == (IntKind.i64.wrap ((IntKind.i64.wrap (q0_0 * (IntKind.i64.wrap (q0_0 - 1)))).tdiv 2)))
            ((some ((l0_2.length : Nat) : Int)).bind fun t2 =>
              some (t2 == q0_0))
            (some false))
        (some false))
    (some false)


def T_solve_fits (q0_0 : Int) (l0_1 : List Nat) (l0_2 : List Nat) (q1 : Int) : Option Int :=
  (T_lower_Right q0_0 l0_1 l0_2).bind fun t1 =>
  cond (!(!t1))
    (cond (q1 != q0_0)
        (some 4)
        (some 0))
    (some 4)


def T_slices_Clone___float64_float64 (l0 : List Nat) : Option (List Nat) :=
  cond (decide (l0.length ≤ 4294967296)) (some l0) none


def T_solve_below (q0_0 : Int) (l0_1 : List Nat) (l0_2 : List Nat) (q1 : Int) (q2 : Int) : Option Nat :=
  (atI l0_1 (IntKind.i64.wrap ((IntKind.i64.wrap ((IntKind.i64.wrap (q1 * (IntKind.i64.wrap (q1 - 1)))).tdiv 2)) + q2))).bind fun t1 =>
  some t1

def T_solve_Forward_b9 (t6 : Int) (q0_0 : Int) (l0_1 : List Nat) (l0_2 : List Nat) : (Int × List Nat) → Option ((Int × List Nat) ⊕ (List Nat)) := fun st => match st with
| (t9, t10) =>
  cond (decide (t9 < t6))
    ((atI t10 t6).bind fun t11 =>
      (atI t10 t9).bind fun t12 =>
      (T_solve_below q0_0 l0_1 l0_2 t6 t9).bind fun t13 =>
      (some (fmul t13 t12)).bind fun t14 =>
      (some (fsub t11 t14)).bind fun t15 =>
      (atI t10 t6).bind fun t16 =>
      (some (t10.set (t6).toNat t15)).bind fun t17 =>
      some (.inl ((IntKind.i64.wrap (t9 + 1)), t17)))
    (some (.inr t10))

def T_solve_Forward_b7 (t4 : Int) (q0_0 : Int) (l0_1 : List Nat) (l0_2 : List Nat) : (Int × List Nat) → Option ((Int × List Nat) ⊕ (List Nat)) := fun st => match st with
| (t6, t7) =>
  cond (decide (t6 < t4))
    ((iter (T_solve_Forward_b9 t6 q0_0 l0_1 l0_2) FU (0, t7)).bind fun t8 =>
      some (.inl ((IntKind.i64.wrap (t6 + 1)), t8)))
    (some (.inr t7))

def T_solve_Forward (q0_0 : Int) (l0_1 : List Nat) (l0_2 : List Nat) (l1 : List Nat) : Option (List Nat × Int) :=
  (some ((l1.length : Nat) : Int)).bind fun t1 =>
  (T_solve_fits q0_0 l0_1 l0_2 t1).bind fun t2 =>
  cond (t2 != 0)
    (some ((List.map nf []), t2))
    ((T_slices_Clone___float64_float64 l1).bind fun t3 =>
      (some ((t3.length : Nat) : Int)).bind fun t4 =>
      (iter (T_solve_Forward_b7 t4 q0_0 l0_1 l0_2) FU (0, t3)).bind fun t5 =>
      some (t5, 0))


def T_girderref13_Right (q0_0 : Int) (l0_1 : List Nat) (l0_2 : List Nat) : Option Bool :=
  cond (decide (q0_0 ≥ 0))
    (cond (decide (q0_0 ≤ 48))
        ((some ((l0_1.length : Nat) : Int)).bind fun t1 =>
          cond (t1 == (IntKind.i64.wrap ((IntKind.i64.wrap (q0_0 * (IntKind.i64.wrap (q0_0 - 1)))).tdiv 2)))
            ((some ((l0_2.length : Nat) : Int)).bind fun t2 =>
              some (t2 == q0_0))
            (some false))
        (some false))
    (some false)


def T_girderref13_at (q0_0 : Int) (l0_1 : List Nat) (l0_2 : List Nat) (q1 : Int) (q2 : Int) : Option Nat :=
  (atI l0_1 (IntKind.i64.wrap ((IntKind.i64.wrap ((IntKind.i64.wrap (q1 * (IntKind.i64.wrap (q1 - 1)))).tdiv 2)) + q2))).bind fun t1 =>
  some t1

def T_girderref13_Forward_b9 (t6 : Int) (t7 : List Nat) (q0_0 : Int) (l0_1 : List Nat) (l0_2 : List Nat) : (Nat × Int) → Option ((Nat × Int) ⊕ (Nat)) := fun st => match st with
| (t10, t11) =>
  cond (decide (t11 < t6))
    ((atI t7 t11).bind fun t12 =>
      (T_girderref13_at q0_0 l0_1 l0_2 t6 t11).bind fun t13 =>
      (some (fmul t13 t12)).bind fun t14 =>
      (some (fsub t10 t14)).bind fun t15 =>
      some (.inl (t15, (IntKind.i64.wrap (t11 + 1)))))
    (some (.inr t10))

def T_girderref13_Forward_b7 (q0_0 : Int) (l1 : List Nat) (l0_1 : List Nat) (l0_2 : List Nat) : (Int × List Nat) → Option ((Int × List Nat) ⊕ (List Nat)) := fun st => match st with
| (t6, t7) =>
  cond (decide (t6 < q0_0))
    ((atI l1 t6).bind fun t8 =>
      (iter (T_girderref13_Forward_b9 t6 t7 q0_0 l0_1 l0_2) FU (t8, 0)).bind fun t9 =>
      (atI t7 t6).bind fun t16 =>
      (some (t7.set (t6).toNat t9)).bind fun t17 =>
      some (.inl ((IntKind.i64.wrap (t6 + 1)), t17)))
    (some (.inr t7))

def T_girderref13_Forward (q0_0 : Int) (l0_1 : List Nat) (l0_2 : List Nat) (l1 : List Nat) : Option (List Nat × Int) :=
  ((T_girderref13_Right q0_0 l0_1 l0_2).bind fun t2 =>
    cond (!(!t2))
      ((some ((l1.length : Nat) : Int)).bind fun t3 =>
        some (t3 != q0_0))
      (some true)).bind fun t1 =>
  cond t1
    (some ((List.map nf []), 4))
    ((mkL (nf 0) q0_0 q0_0).bind fun t4 =>
      (iter (T_girderref13_Forward_b7 q0_0 l1 l0_1 l0_2) FU (0, t4)).bind fun t5 =>
      some (t5, 0))


def T_math_Float64bits (p0 : Nat) : Option Int :=
  cond (isNaN p0) none (some (p0 : Int))


def T_girderkit_SameFloat (p0 : Nat) (p1 : Nat) : Option Bool :=
  some (p0 == p1)

def T_girderkit_SameReals_b2 (l0 : List Nat) (l1 : List Nat) : Int → Option (Int ⊕ (Unit ⊕ Bool)) := fun st => match st with
| t3 =>
  (some ((l0.length : Nat) : Int)).bind fun t4 =>
  cond (decide (t3 < t4))
    ((atI l0 t3).bind fun t5 =>
      (atI l1 t3).bind fun t6 =>
      (T_girderkit_SameFloat t5 t6).bind fun t7 =>
      cond (!t7)
        (some (.inr (.inr false)))
        (some (.inl (IntKind.i64.wrap (t3 + 1)))))
    (some (.inr (.inl ())))

def T_girderkit_SameReals (l0 : List Nat) (l1 : List Nat) : Option Bool :=
  (some ((l0.length : Nat) : Int)).bind fun t1 =>
  (some ((l1.length : Nat) : Int)).bind fun t2 =>
  cond (t1 != t2)
    (some false)
    (((iter (T_girderkit_SameReals_b2 l0 l1) FU 0 : Option (Unit ⊕ Bool))).bind fun o => match o with
      | .inl () => some true
      | .inr v => some v)


def T_girderlaw13_is (l0 : List Nat) (q1 : Int) (l2 : List Nat) (q3 : Int) : Option Bool :=
  cond (q1 == q3)
    ((T_girderkit_SameReals l0 l2).bind fun t1 =>
      some t1)
    (some false)

def T_slices_Index___float64_float64_b2 (t1 : Int) (l0 : List Nat) (p1 : Nat) : Int → Option (Int ⊕ (Unit ⊕ Int)) := fun st => match st with
| t2 =>
  cond (decide (t2 < t1))
    ((atI l0 t2).bind fun t3 =>
      (some (feq p1 t3)).bind fun t4 =>
      cond t4
        (some (.inr (.inr t2)))
        (some (.inl (IntKind.i64.wrap (t2 + 1)))))
    (some (.inr (.inl ())))

def T_slices_Index___float64_float64 (l0 : List Nat) (p1 : Nat) : Option Int :=
  (some ((l0.length : Nat) : Int)).bind fun t1 =>
  ((iter (T_slices_Index___float64_float64_b2 t1 l0 p1) FU 0 : Option (Unit ⊕ Int))).bind fun o => match o with
  | .inl () => some (-1)
  | .inr v => some v


def T_slices_Contains___float64_float64 (l0 : List Nat) (p1 : Nat) : Option Bool :=
  (T_slices_Index___float64_float64 l0 p1).bind fun t1 =>
  some (decide (t1 ≥ 0))

def T_solve_Back_b2 (t5 : Int) (l0_2 : List Nat) : (Int × List Nat) → Option ((Int × List Nat) ⊕ (List Nat)) := fun st => match st with
| (t7, t8) =>
  cond (decide (t7 < t5))
    ((atI l0_2 t7).bind fun t9 =>
      (atI t8 t7).bind fun t10 =>
      (some (fdiv t10 t9)).bind fun t11 =>
      (atI t8 t7).bind fun t12 =>
      (some (t8.set (t7).toNat t11)).bind fun t13 =>
      some (.inl ((IntKind.i64.wrap (t7 + 1)), t13)))
    (some (.inr t8))

def T_solve_Back_b11 (t18 : Int) (t16 : Int) (q0_0 : Int) (l0_1 : List Nat) (l0_2 : List Nat) : (Int × List Nat) → Option ((Int × List Nat) ⊕ (List Nat)) := fun st => match st with
| (t20, t21) =>
  (some ((t21.length : Nat) : Int)).bind fun t22 =>
  cond (decide (t20 < t22))
    ((atI t21 (IntKind.i64.wrap ((IntKind.i64.wrap (t18 - 1)) - t16))).bind fun t23 =>
      (atI t21 t20).bind fun t24 =>
      (T_solve_below q0_0 l0_1 l0_2 t20 (IntKind.i64.wrap ((IntKind.i64.wrap (t18 - 1)) - t16))).bind fun t25 =>
      (some (fmul t25 t24)).bind fun t26 =>
      (some (fsub t23 t26)).bind fun t27 =>
      (atI t21 (IntKind.i64.wrap ((IntKind.i64.wrap (t18 - 1)) - t16))).bind fun t28 =>
      (some (t21.set ((IntKind.i64.wrap ((IntKind.i64.wrap (t18 - 1)) - t16))).toNat t27)).bind fun t29 =>
      some (.inl ((IntKind.i64.wrap (t20 + 1)), t29)))
    (some (.inr t21))

def T_solve_Back_b9 (t14 : Int) (q0_0 : Int) (l0_1 : List Nat) (l0_2 : List Nat) : (Int × List Nat) → Option ((Int × List Nat) ⊕ (List Nat)) := fun st => match st with
| (t16, t17) =>
  cond (decide (t16 < t14))
    ((some ((t17.length : Nat) : Int)).bind fun t18 =>
      (iter (T_solve_Back_b11 t18 t16 q0_0 l0_1 l0_2) FU ((IntKind.i64.wrap ((IntKind.i64.wrap ((IntKind.i64.wrap (t18 - 1)) - t16)) + 1)), t17)).bind fun t19 =>
      some (.inl ((IntKind.i64.wrap (t16 + 1)), t19)))
    (some (.inr t17))

def T_solve_Back (q0_0 : Int) (l0_1 : List Nat) (l0_2 : List Nat) (l1 : List Nat) : Option (List Nat × Int) :=
  (some ((l1.length : Nat) : Int)).bind fun t1 =>
  (T_solve_fits q0_0 l0_1 l0_2 t1).bind fun t2 =>
  cond (t2 != 0)
    (some ((List.map nf []), t2))
    ((T_slices_Contains___float64_float64 l0_2 (nf 0)).bind fun t3 =>
      cond t3
        (some ((List.map nf []), 7))
        ((T_slices_Clone___float64_float64 l1).bind fun t4 =>
          (some ((l0_2.length : Nat) : Int)).bind fun t5 =>
          (iter (T_solve_Back_b2 t5 l0_2) FU (0, t4)).bind fun t6 =>
          (some ((t6.length : Nat) : Int)).bind fun t14 =>
          (iter (T_solve_Back_b9 t14 q0_0 l0_1 l0_2) FU (0, t6)).bind fun t15 =>
          some (t15, 0)))

def T_girderref13_zero_b2 (l0_2 : List Nat) : Int → Option (Int ⊕ (Unit ⊕ Bool)) := fun st => match st with
| t1 =>
  (some ((l0_2.length : Nat) : Int)).bind fun t2 =>
  cond (decide (t1 < t2))
    ((atI l0_2 t1).bind fun t3 =>
      (some (feq t3 (nf 0))).bind fun t4 =>
      cond t4
        (some (.inr (.inr true)))
        (some (.inl (IntKind.i64.wrap (t1 + 1)))))
    (some (.inr (.inl ())))

def T_girderref13_zero (q0_0 : Int) (l0_1 : List Nat) (l0_2 : List Nat) : Option Bool :=
  ((iter (T_girderref13_zero_b2 l0_2) FU 0 : Option (Unit ⊕ Bool))).bind fun o => match o with
  | .inl () => some false
  | .inr v => some v

def T_girderref13_Back_b9 (q0_0 : Int) (t8 : List Nat) (l0_1 : List Nat) (l0_2 : List Nat) (t7 : Int) : (Nat × Int) → Option ((Nat × Int) ⊕ (Nat)) := fun st => match st with
| (t13, t14) =>
  cond (decide (t14 < q0_0))
    ((atI t8 t14).bind fun t15 =>
      (T_girderref13_at q0_0 l0_1 l0_2 t14 t7).bind fun t16 =>
      (some (fmul t16 t15)).bind fun t17 =>
      (some (fsub t13 t17)).bind fun t18 =>
      some (.inl (t18, (IntKind.i64.wrap (t14 + 1)))))
    (some (.inr t13))

def T_girderref13_Back_b7 (l1 : List Nat) (l0_2 : List Nat) (q0_0 : Int) (l0_1 : List Nat) : (Int × List Nat) → Option ((Int × List Nat) ⊕ (List Nat)) := fun st => match st with
| (t7, t8) =>
  cond (decide (t7 ≥ 0))
    ((atI l1 t7).bind fun t9 =>
      (atI l0_2 t7).bind fun t10 =>
      (some (fdiv t9 t10)).bind fun t11 =>
      (iter (T_girderref13_Back_b9 q0_0 t8 l0_1 l0_2 t7) FU (t11, (IntKind.i64.wrap (t7 + 1)))).bind fun t12 =>
      (atI t8 t7).bind fun t19 =>
      (some (t8.set (t7).toNat t12)).bind fun t20 =>
      some (.inl ((IntKind.i64.wrap (t7 - 1)), t20)))
    (some (.inr t8))

def T_girderref13_Back (q0_0 : Int) (l0_1 : List Nat) (l0_2 : List Nat) (l1 : List Nat) : Option (List Nat × Int) :=
  ((T_girderref13_Right q0_0 l0_1 l0_2).bind fun t2 =>
    cond (!(!t2))
      ((some ((l1.length : Nat) : Int)).bind fun t3 =>
        some (t3 != q0_0))
      (some true)).bind fun t1 =>
  cond t1
    (some ((List.map nf []), 4))
    ((T_girderref13_zero q0_0 l0_1 l0_2).bind fun t4 =>
      cond t4
        (some ((List.map nf []), 7))
        ((mkL (nf 0) q0_0 q0_0).bind fun t5 =>
          (iter (T_girderref13_Back_b7 l1 l0_2 q0_0 l0_1) FU ((IntKind.i64.wrap (q0_0 - 1)), t5)).bind fun t6 =>
          some (t6, 0)))


def T_solve_Solve (q0_0 : Int) (l0_1 : List Nat) (l0_2 : List Nat) (l1 : List Nat) : Option (List Nat × Int) :=
  (T_solve_Forward q0_0 l0_1 l0_2 l1).bind fun o => match o with
  | (t1, t2) =>
  cond (t2 != 0)
    (some ((List.map nf []), t2))
    ((T_solve_Back q0_0 l0_1 l0_2 t1).bind fun o => match o with
      | (t3, t4) =>
      some (t3, t4))


def T_girderref13_Solve (q0_0 : Int) (l0_1 : List Nat) (l0_2 : List Nat) (l1 : List Nat) : Option (List Nat × Int) :=
  (T_girderref13_Forward q0_0 l0_1 l0_2 l1).bind fun o => match o with
  | (t1, t2) =>
  cond (t2 != 0)
    (some ((List.map nf []), t2))
    ((T_girderref13_Back q0_0 l0_1 l0_2 t1).bind fun o => match o with
      | (t3, t4) =>
      some (t3, t4))


def T_matrix_fits (q0 : Int) : Option Bool :=
  cond (decide (q0 ≥ 0))
    (some (decide (q0 ≤ 48)))
    (some false)

def T_matrix_laid_b9 (q1 : Int) (f2 : Int → Int → Option Nat) (t3 : Int) : (Int × List Nat) → Option ((Int × List Nat) ⊕ (List Nat)) := fun st => match st with
| (t6, t7) =>
  cond (decide (t6 < q1))
    ((f2 t3 t6).bind fun t8 =>
      (atI t7 (IntKind.i64.wrap ((IntKind.i64.wrap (t3 * q1)) + t6))).bind fun t9 =>
      (some (t7.set ((IntKind.i64.wrap ((IntKind.i64.wrap (t3 * q1)) + t6))).toNat t8)).bind fun t10 =>
      some (.inl ((IntKind.i64.wrap (t6 + 1)), t10)))
    (some (.inr t7))

def T_matrix_laid_b7 (q0 : Int) (q1 : Int) (f2 : Int → Int → Option Nat) : (Int × List Nat) → Option ((Int × List Nat) ⊕ (List Nat)) := fun st => match st with
| (t3, t4) =>
  cond (decide (t3 < q0))
    ((iter (T_matrix_laid_b9 q1 f2 t3) FU (0, t4)).bind fun t5 =>
      some (.inl ((IntKind.i64.wrap (t3 + 1)), t5)))
    (some (.inr t4))

def T_matrix_laid (q0 : Int) (q1 : Int) (f2 : Int → Int → Option Nat) : Option (Int × Int × List Nat) :=
  (mkL (nf 0) (IntKind.i64.wrap (q0 * q1)) (IntKind.i64.wrap (q0 * q1))).bind fun t1 =>
  (iter (T_matrix_laid_b7 q0 q1 f2) FU (0, t1)).bind fun t2 =>
  some (q0, q1, t2)


def T_matrix_Make_1 (q0 : Int) (q1 : Int) : Option Nat :=
  some (nf 0)


def T_matrix_Make (q0 : Int) (q1 : Int) : Option (Int × Int × List Nat × Int) :=
  (T_matrix_fits q0).bind fun t1 =>
  cond (!(!t1))
    ((T_matrix_fits q1).bind fun t2 =>
      cond (!t2)
        (some (0, 0, (List.map nf []), 2))
        ((T_matrix_laid q0 q1 (fun v0 v1 => T_matrix_Make_1 v0 v1)).bind fun o => match o with
          | (t3, t4, t5) =>
          some (t3, t4, t5, 0)))
    (some (0, 0, (List.map nf []), 2))

def T_matrix_Identity_b2 (t1 : Int) (q0 : Int) : (Int × List Nat) → Option ((Int × List Nat) ⊕ (List Nat)) := fun st => match st with
| (t6, t7) =>
  cond (decide (t6 < t1))
    ((atI t7 (IntKind.i64.wrap ((IntKind.i64.wrap (t6 * q0)) + t6))).bind fun t8 =>
      (some (t7.set ((IntKind.i64.wrap ((IntKind.i64.wrap (t6 * q0)) + t6))).toNat (nf 4607182418800017408))).bind fun t9 =>
      some (.inl ((IntKind.i64.wrap (t6 + 1)), t9)))
    (some (.inr t7))

def T_matrix_Identity (q0 : Int) : Option (Int × Int × List Nat × Int) :=
  (T_matrix_Make q0 q0).bind fun o => match o with
  | (t1, t2, t3, t4) =>
  (iter (T_matrix_Identity_b2 t1 q0) FU (0, t3)).bind fun t5 =>
  some (t1, t2, t5, t4)


def T_matrix_Right (q0_0 : Int) (q0_1 : Int) (l0_2 : List Nat) : Option Bool :=
  (T_matrix_fits q0_0).bind fun t1 =>
  cond t1
    ((T_matrix_fits q0_1).bind fun t2 =>
      cond t2
        ((some ((l0_2.length : Nat) : Int)).bind fun t3 =>
          some (t3 == (IntKind.i64.wrap (q0_0 * q0_1))))
        (some false))
    (some false)


def T_matrix_Transpose_1 (q0 : Int) (q1 : Int) (q2_0 : Int) (q2_1 : Int) (l2_2 : List Nat) : Option Nat :=
  (atI l2_2 (IntKind.i64.wrap ((IntKind.i64.wrap (q1 * q2_1)) + q0))).bind fun t1 =>
  some t1


def T_matrix_Transpose (q0_0 : Int) (q0_1 : Int) (l0_2 : List Nat) : Option (Int × Int × List Nat × Int) :=
  (T_matrix_Right q0_0 q0_1 l0_2).bind fun t1 =>
  cond (!t1)
    (some (0, 0, (List.map nf []), 4))
    ((T_matrix_laid q0_1 q0_0 (fun v0 v1 => T_matrix_Transpose_1 v0 v1 q0_0 q0_1 l0_2)).bind fun o => match o with
      | (t2, t3, t4) =>
      some (t2, t3, t4, 0))

def T_solve_Inverse_b2 (q0_0 : Int) (t4 : List Nat) (l0_1 : List Nat) (l0_2 : List Nat) : (Int × List Nat) → Option ((Int × List Nat) ⊕ (List Nat ⊕ (Int × Int × List Nat × Int))) := fun st => match st with
| (t7, t8) =>
  cond (decide (t7 < q0_0))
    ((subL t4 (IntKind.i64.wrap (t7 * q0_0)) (IntKind.i64.wrap ((IntKind.i64.wrap (t7 + 1)) * q0_0))).bind fun t9 =>
      (T_solve_Solve q0_0 l0_1 l0_2 t9).bind fun o => match o with
      | (t10, t11) =>
      cond (t11 != 0)
        (some (.inr (.inr (0, 0, (List.map nf []), t11))))
        ((appL t8 t10).bind fun t12 =>
          some (.inl ((IntKind.i64.wrap (t7 + 1)), t12))))
    (some (.inr (.inl t8)))

def T_solve_Inverse (q0_0 : Int) (l0_1 : List Nat) (l0_2 : List Nat) : Option (Int × Int × List Nat × Int) :=
  (T_solve_fits q0_0 l0_1 l0_2 q0_0).bind fun t1 =>
  cond (t1 != 0)
    (some (0, 0, (List.map nf []), t1))
    ((T_matrix_Identity q0_0).bind fun o => match o with
      | (t2, t3, t4, t5) =>
      cond (t5 != 0)
        (some (0, 0, (List.map nf []), t5))
        (((iter (T_solve_Inverse_b2 q0_0 t4 l0_1 l0_2) FU (0, (List.map nf [])) : Option (List Nat ⊕ (Int × Int × List Nat × Int)))).bind fun o => match o with
          | .inl t6 => 
            ((T_matrix_Transpose q0_0 q0_0 t6).bind fun o => match o with
              | (t13, t14, t15, t16) =>
              some (t13, t14, t15, t16))
          | .inr v => some v))

def T_girderref13_Inverse_b9 (q0_0 : Int) (t11 : List Nat) (t6 : Int) : (Int × List Nat) → Option ((Int × List Nat) ⊕ (List Nat)) := fun st => match st with
| (t14, t15) =>
  cond (decide (t14 < q0_0))
    ((atI t11 t14).bind fun t16 =>
      (atI t15 (IntKind.i64.wrap ((IntKind.i64.wrap (t14 * q0_0)) + t6))).bind fun t17 =>
      (some (t15.set ((IntKind.i64.wrap ((IntKind.i64.wrap (t14 * q0_0)) + t6))).toNat t16)).bind fun t18 =>
      some (.inl ((IntKind.i64.wrap (t14 + 1)), t18)))
    (some (.inr t15))

def T_girderref13_Inverse_b7 (q0_0 : Int) (l0_1 : List Nat) (l0_2 : List Nat) : (Int × List Nat) → Option ((Int × List Nat) ⊕ (List Nat)) := fun st => match st with
| (t6, t7) =>
  cond (decide (t6 < q0_0))
    ((mkL (nf 0) q0_0 q0_0).bind fun t8 =>
      (atI t8 t6).bind fun t9 =>
      (some (t8.set (t6).toNat (nf 4607182418800017408))).bind fun t10 =>
      (T_girderref13_Solve q0_0 l0_1 l0_2 t10).bind fun o => match o with
      | (t11, t12) =>
      (iter (T_girderref13_Inverse_b9 q0_0 t11 t6) FU (0, t7)).bind fun t13 =>
      some (.inl ((IntKind.i64.wrap (t6 + 1)), t13)))
    (some (.inr t7))

def T_girderref13_Inverse (q0_0 : Int) (l0_1 : List Nat) (l0_2 : List Nat) : Option (Int × Int × List Nat × Int) :=
  (T_girderref13_Right q0_0 l0_1 l0_2).bind fun t1 =>
  cond (!t1)
    (some (0, 0, (List.map nf []), 4))
    ((T_girderref13_zero q0_0 l0_1 l0_2).bind fun t2 =>
      cond t2
        (some (0, 0, (List.map nf []), 7))
        (((mkL (nf 0) (IntKind.i64.wrap (q0_0 * q0_0)) (IntKind.i64.wrap (q0_0 * q0_0))).bind fun t4 =>
            some t4).bind fun t3 =>
          (iter (T_girderref13_Inverse_b7 q0_0 l0_1 l0_2) FU (0, t3)).bind fun t5 =>
          some (q0_0, q0_0, t5, 0)))


def T_girderkit_SameMatrix (q0_0 : Int) (q0_1 : Int) (l0_2 : List Nat) (q1_0 : Int) (q1_1 : Int) (l1_2 : List Nat) : Option Bool :=
  cond (q0_0 == q1_0)
    (cond (q0_1 == q1_1)
        ((T_girderkit_SameReals l0_2 l1_2).bind fun t1 =>
          some t1)
        (some false))
    (some false)


def T_girderkit_SameFactor (q0_0 : Int) (l0_1 : List Nat) (l0_2 : List Nat) (q1_0 : Int) (l1_1 : List Nat) (l1_2 : List Nat) : Option Bool :=
  cond (q0_0 == q1_0)
    ((T_girderkit_SameReals l0_1 l1_1).bind fun t1 =>
      cond t1
        ((T_girderkit_SameReals l0_2 l1_2).bind fun t2 =>
          some t2)
        (some false))
    (some false)


def T_girderkit_KeptReals (l0 : List Nat) (l1 : List Nat) : Option Bool :=
  cond (decide (l1.length ≤ 4294967000)) (some true) none


def T_girderkit_KeptFactor (q0_0 : Int) (l0_1 : List Nat) (l0_2 : List Nat) (q1_0 : Int) (l1_1 : List Nat) (l1_2 : List Nat) : Option Bool :=
  (T_girderkit_SameFactor q0_0 l0_1 l0_2 q1_0 l1_1 l1_2).bind fun t1 =>
  cond t1
    ((T_girderkit_KeptReals l0_1 l1_1).bind fun t2 =>
      cond t2
        ((T_girderkit_KeptReals l0_2 l1_2).bind fun t3 =>
          some t3)
        (some false))
    (some false)


def T_girderlaw13_two  : Option (Int × List Nat × List Nat) :=
  (some [(nf 4611686018427387904)]).bind fun t1 =>
  (some [(nf 4607182418800017408), (nf 4616189618054758400)]).bind fun t2 =>
  some (2, t1, t2)


def T_girderlaw13_awake  : Option Bool :=
  (T_girderlaw13_two ).bind fun o => match o with
  | (t1, t2, t3) =>
  (some [(nf 4613937818241073152), (nf 4621819117588971520)]).bind fun t4 =>
  (T_solve_Solve t1 t2 t3 t4).bind fun o => match o with
  | (t5, t6) =>
  (T_girderlaw13_two ).bind fun o => match o with
  | (t7, t8, t9) =>
  (T_solve_Inverse t7 t8 t9).bind fun o => match o with
  | (t10, t11, t12, t13) =>
  (some [(nf 4607182418800017408), (nf 4607182418800017408)]).bind fun t14 =>
  (T_girderlaw13_is t5 t6 t14 0).bind fun t15 =>
  cond t15
    (cond (t13 == 0)
        ((some [(nf 4611686018427387904), (nf 13826050856027422720), (nf 13826050856027422720), (nf 4598175219545276416)]).bind fun t16 =>
          (T_girderkit_SameReals t12 t16).bind fun t17 =>
          some t17)
        (some false))
    (some false)


def T_girderlaw13_SolveTells (q0_0 : Int) (l0_1 : List Nat) (l0_2 : List Nat) (l1 : List Nat) : Option Bool :=
  (T_girderkit_LentFactor q0_0 l0_1 l0_2).bind fun o => match o with
  | (t1, t2, t3) =>
  (T_girderkit_LentReals l1).bind fun t4 =>
  (T_solve_Forward t1 t2 t3 t4).bind fun o => match o with
  | (t5, t6) =>
  (T_girderref13_Forward q0_0 l0_1 l0_2 l1).bind fun o => match o with
  | (t7, t8) =>
  (T_girderlaw13_is t5 t6 t7 t8).bind fun t9 =>
  cond (!t9)
    (some false)
    ((T_solve_Back t1 t2 t3 t4).bind fun o => match o with
      | (t10, t11) =>
      (T_girderref13_Back q0_0 l0_1 l0_2 l1).bind fun o => match o with
      | (t12, t13) =>
      (T_girderlaw13_is t10 t11 t12 t13).bind fun t14 =>
      cond (!t14)
        (some false)
        ((T_solve_Solve t1 t2 t3 t4).bind fun o => match o with
          | (t15, t16) =>
          (T_girderref13_Solve q0_0 l0_1 l0_2 l1).bind fun o => match o with
          | (t17, t18) =>
          (T_solve_Inverse t1 t2 t3).bind fun o => match o with
          | (t19, t20, t21, t22) =>
          (T_girderref13_Inverse q0_0 l0_1 l0_2).bind fun o => match o with
          | (t23, t24, t25, t26) =>
          (T_girderlaw13_is t15 t16 t17 t18).bind fun t27 =>
          cond t27
            (cond (t22 == t26)
                ((T_girderkit_SameMatrix t19 t20 t21 t23 t24 t25).bind fun t28 =>
                  cond t28
                    ((T_girderkit_KeptFactor t1 t2 t3 q0_0 l0_1 l0_2).bind fun t29 =>
                      cond t29
                        ((T_girderkit_KeptReals t4 l1).bind fun t30 =>
                          cond t30
                            ((T_girderlaw13_awake ).bind fun t31 =>
                              some t31)
                            (some false))
                        (some false))
                    (some false))
                (some false))
            (some false)))


def T_girderkit_Pick (q0 : Int) (q1 : Int) : Option Int :=
  cond (decide (q1 < 1))
    (some 0)
    ((nz q1).bind fun t2 =>
      (cond (decide ((q0.tmod q1) < 0))
          (some (IntKind.i64.wrap ((q0.tmod q1) + q1)))
          (some (q0.tmod q1))).bind fun t1 =>
      some t1)


def T_girderlaw13_at (l0 : List Int) (q1 : Int) (q2 : Int) : Option Int :=
  (some ((l0.length : Nat) : Int)).bind fun t1 =>
  cond (t1 == 0)
    (some 1)
    ((some ((l0.length : Nat) : Int)).bind fun t2 =>
      (nz t2).bind fun t5 =>
      (atI l0 (q1.tmod t2)).bind fun t3 =>
      (T_girderkit_Pick t3 (IntKind.i64.wrap ((IntKind.i64.wrap (2 * q2)) + 1))).bind fun t4 =>
      some (IntKind.i64.wrap (t4 - q2)))

def T_girderlaw13_whole_b2 (t1 : Int) (l1 : List Int) : (Int × List Nat) → Option ((Int × List Nat) ⊕ (List Nat)) := fun st => match st with
| (t3, t4) =>
  cond (decide (t3 < (IntKind.i64.wrap ((IntKind.i64.wrap (t1 * (IntKind.i64.wrap (t1 - 1)))).tdiv 2))))
    ((T_girderlaw13_at l1 t3 3).bind fun t5 =>
      (some [(nf (FloatKind.f64.nearest t5))]).bind fun t6 =>
      (appL t4 t6).bind fun t7 =>
      some (.inl ((IntKind.i64.wrap (t3 + 1)), t7)))
    (some (.inr t4))

def T_girderlaw13_whole_b4 (t1 : Int) (l1 : List Int) : (Int × List Nat) → Option ((Int × List Nat) ⊕ (List Nat)) := fun st => match st with
| (t9, t10) =>
  cond (decide (t9 < t1))
    ((T_girderlaw13_at l1 (IntKind.i64.wrap ((IntKind.i64.wrap (3 * t9)) + 1)) 50).bind fun t11 =>
      (cond (t11 == 0)
          (some 7)
          (some t11)).bind fun t12 =>
      (some [(nf (FloatKind.f64.nearest t12))]).bind fun t13 =>
      (appL t10 t13).bind fun t14 =>
      some (.inl ((IntKind.i64.wrap (t9 + 1)), t14)))
    (some (.inr t10))

def T_girderlaw13_whole (q0 : Int) (l1 : List Int) : Option (Int × List Nat × List Nat) :=
  (T_girderkit_Pick q0 7).bind fun t1 =>
  (iter (T_girderlaw13_whole_b2 t1 l1) FU (0, (List.map nf []))).bind fun t2 =>
  (iter (T_girderlaw13_whole_b4 t1 l1) FU (0, (List.map nf []))).bind fun t8 =>
  some (t1, t2, t8)


def T_girderlaw13_entry (q0_0 : Int) (l0_1 : List Nat) (l0_2 : List Nat) (q1 : Int) (q2 : Int) : Option Int :=
  cond (q1 == q2)
    (some 1)
    (cond (decide (q2 > q1))
        (some 0)
        ((atI l0_1 (IntKind.i64.wrap ((IntKind.i64.wrap ((IntKind.i64.wrap (q1 * (IntKind.i64.wrap (q1 - 1)))).tdiv 2)) + q2))).bind fun t1 =>
          (f2i t1 .i64).bind fun t2 =>
          some t2))

def T_girderlaw13_equal_b2 (l0 : List Nat) (l1 : List Nat) : Int → Option (Int ⊕ (Unit ⊕ Bool)) := fun st => match st with
| t3 =>
  (some ((l0.length : Nat) : Int)).bind fun t4 =>
  cond (decide (t3 < t4))
    ((atI l0 t3).bind fun t5 =>
      (atI l1 t3).bind fun t6 =>
      (some (!feq t5 t6)).bind fun t7 =>
      cond t7
        ((atI l0 t3).bind fun t8 =>
          (atI l0 t3).bind fun t9 =>
          (some (feq t8 t9)).bind fun t10 =>
          cond (!t10)
            ((atI l1 t3).bind fun t11 =>
              (atI l1 t3).bind fun t12 =>
              (some (feq t11 t12)).bind fun t13 =>
              cond t13
                (some (.inr (.inr false)))
                (some (.inl (IntKind.i64.wrap (t3 + 1)))))
            (some (.inr (.inr false))))
        (some (.inl (IntKind.i64.wrap (t3 + 1)))))
    (some (.inr (.inl ())))

def T_girderlaw13_equal (l0 : List Nat) (l1 : List Nat) : Option Bool :=
  (some ((l0.length : Nat) : Int)).bind fun t1 =>
  (some ((l1.length : Nat) : Int)).bind fun t2 =>
  cond (t1 != t2)
    (some false)
    (((iter (T_girderlaw13_equal_b2 l0 l1) FU 0 : Option (Unit ⊕ Bool))).bind fun o => match o with
      | .inl () => some true
      | .inr v => some v)

def T_girderlaw13_SolveWhole_b2 (t1 : Int) (l2 : List Int) : (Int × List Nat) → Option ((Int × List Nat) ⊕ (List Nat)) := fun st => match st with
| (t5, t6) =>
  cond (decide (t5 < t1))
    ((T_girderlaw13_at l2 t5 50).bind fun t7 =>
      (some [(nf (FloatKind.f64.nearest t7))]).bind fun t8 =>
      (appL t6 t8).bind fun t9 =>
      some (.inl ((IntKind.i64.wrap (t5 + 1)), t9)))
    (some (.inr t6))

def T_girderlaw13_SolveWhole_b11 (t1 : Int) (t12 : Int) (t4 : List Nat) (t2 : List Nat) (t3 : List Nat) : (Int × List Int) → Option ((Int × List Int) ⊕ (List Int)) := fun st => match st with
| (t15, t16) =>
  cond (decide (t15 < t1))
    ((atI t16 t12).bind fun t17 =>
      (atI t4 t15).bind fun t18 =>
      (T_girderlaw13_entry t1 t2 t3 t15 t12).bind fun t19 =>
      (f2i t18 .i64).bind fun t20 =>
      (atI t16 t12).bind fun t21 =>
      (some (t16.set (t12).toNat (IntKind.i64.wrap (t17 + (IntKind.i64.wrap (t19 * t20)))))).bind fun t22 =>
      some (.inl ((IntKind.i64.wrap (t15 + 1)), t22)))
    (some (.inr t16))

def T_girderlaw13_SolveWhole_b9 (t1 : Int) (t4 : List Nat) (t2 : List Nat) (t3 : List Nat) : (Int × List Int) → Option ((Int × List Int) ⊕ (List Int)) := fun st => match st with
| (t12, t13) =>
  cond (decide (t12 < t1))
    ((iter (T_girderlaw13_SolveWhole_b11 t1 t12 t4 t2 t3) FU (0, t13)).bind fun t14 =>
      some (.inl ((IntKind.i64.wrap (t12 + 1)), t14)))
    (some (.inr t13))

def T_girderlaw13_SolveWhole_b20 (t1 : Int) (t3 : List Nat) (t11 : List Int) (t2 : List Nat) (t25 : Int) : (Int × Int) → Option ((Int × Int) ⊕ (Int)) := fun st => match st with
| (t29, t30) =>
  cond (decide (t30 < t1))
    ((atI t3 t30).bind fun t31 =>
      (atI t11 t30).bind fun t32 =>
      (T_girderlaw13_entry t1 t2 t3 t25 t30).bind fun t33 =>
      (f2i t31 .i64).bind fun t34 =>
      some (.inl ((IntKind.i64.wrap (t29 + (IntKind.i64.wrap ((IntKind.i64.wrap (t33 * t34)) * t32)))), (IntKind.i64.wrap (t30 + 1)))))
    (some (.inr t29))

def T_girderlaw13_SolveWhole_b18 (t1 : Int) (t3 : List Nat) (t11 : List Int) (t2 : List Nat) : (Int × List Nat × List Nat) → Option ((Int × List Nat × List Nat) ⊕ ((List Nat × List Nat))) := fun st => match st with
| (t25, t26, t27) =>
  cond (decide (t25 < t1))
    ((iter (T_girderlaw13_SolveWhole_b20 t1 t3 t11 t2 t25) FU (0, 0)).bind fun t28 =>
      (some [(nf (FloatKind.f64.nearest t28))]).bind fun t35 =>
      (appL t26 t35).bind fun t36 =>
      (atI t3 t25).bind fun t37 =>
      (f2i t37 .i64).bind fun t38 =>
      (atI t11 t25).bind fun t39 =>
      (some [(nf (FloatKind.f64.nearest (IntKind.i64.wrap (t38 * t39))))]).bind fun t40 =>
      (appL t27 t40).bind fun t41 =>
      some (.inl ((IntKind.i64.wrap (t25 + 1)), t36, t41)))
    (some (.inr (t26, t27)))

def T_girderlaw13_SolveWhole_b43 (t1 : Int) (t3 : List Nat) (t2 : List Nat) (t52 : Int) (t49 : Int) : (Int × Int) → Option ((Int × Int) ⊕ (Int)) := fun st => match st with
| (t56, t57) =>
  cond (decide (t57 < t1))
    ((atI t3 t57).bind fun t58 =>
      (T_girderlaw13_entry t1 t2 t3 t52 t57).bind fun t59 =>
      (f2i t58 .i64).bind fun t60 =>
      (T_girderlaw13_entry t1 t2 t3 t49 t57).bind fun t61 =>
      some (.inl ((IntKind.i64.wrap (t56 + (IntKind.i64.wrap ((IntKind.i64.wrap (t59 * t60)) * t61)))), (IntKind.i64.wrap (t57 + 1)))))
    (some (.inr t56))

def T_girderlaw13_SolveWhole_b41 (t1 : Int) (t3 : List Nat) (t2 : List Nat) (t49 : Int) : (Int × List Nat × List Nat) → Option ((Int × List Nat × List Nat) ⊕ ((List Nat × List Nat))) := fun st => match st with
| (t52, t53, t54) =>
  cond (decide (t52 < t1))
    ((iter (T_girderlaw13_SolveWhole_b43 t1 t3 t2 t52 t49) FU (0, 0)).bind fun t55 =>
      (some [(nf (FloatKind.f64.nearest t55))]).bind fun t62 =>
      (appL t53 t62).bind fun t63 =>
      (some [(nf 0)]).bind fun t64 =>
      (appL t54 t64).bind fun t65 =>
      some (.inl ((IntKind.i64.wrap (t52 + 1)), t63, t65)))
    (some (.inr (t53, t54)))

def T_girderlaw13_SolveWhole_b34 (t1 : Int) (t3 : List Nat) (t2 : List Nat) : Int → Option (Int ⊕ (Unit ⊕ Bool)) := fun st => match st with
| t49 =>
  cond (decide (t49 < t1))
    ((iter (T_girderlaw13_SolveWhole_b41 t1 t3 t2 t49) FU (0, (List.map nf []), (List.map nf []))).bind fun o => match o with
      | (t50, t51) => 
      (atI t51 t49).bind fun t66 =>
      (some (t51.set (t49).toNat (nf 4607182418800017408))).bind fun t67 =>
      (T_solve_Solve t1 t2 t3 t50).bind fun o => match o with
      | (t68, t69) =>
      cond (!(t69 != 0))
        ((T_girderlaw13_equal t68 t67).bind fun t70 =>
          cond (!t70)
            (some (.inr (.inr false)))
            (some (.inl (IntKind.i64.wrap (t49 + 1)))))
        (some (.inr (.inr false))))
    (some (.inr (.inl ())))

def T_girderlaw13_SolveWhole (q0 : Int) (l1 : List Int) (l2 : List Int) : Option Bool :=
  (T_girderlaw13_whole q0 l1).bind fun o => match o with
  | (t1, t2, t3) =>
  (iter (T_girderlaw13_SolveWhole_b2 t1 l2) FU (0, (List.map nf []))).bind fun t4 =>
  (mkL 0 t1 t1).bind fun t10 =>
  (iter (T_girderlaw13_SolveWhole_b9 t1 t4 t2 t3) FU (0, t10)).bind fun t11 =>
  (iter (T_girderlaw13_SolveWhole_b18 t1 t3 t11 t2) FU (0, (List.map nf []), (List.map nf []))).bind fun o => match o with
  | (t23, t24) => 
  (T_solve_Forward t1 t2 t3 t23).bind fun o => match o with
  | (t42, t43) =>
  (T_solve_Solve t1 t2 t3 t23).bind fun o => match o with
  | (t44, t45) =>
  (cond (!(t43 != 0))
      (cond (!(t45 != 0))
          ((T_girderlaw13_equal t42 t24).bind fun t47 =>
            cond (!(!t47))
              ((T_girderlaw13_equal t44 t4).bind fun t48 =>
                some (!t48))
              (some true))
          (some true))
      (some true)).bind fun t46 =>
  cond t46
    (some false)
    (((iter (T_girderlaw13_SolveWhole_b34 t1 t3 t2) FU 0 : Option (Unit ⊕ Bool))).bind fun o => match o with
      | .inl () => 
        ((T_girderlaw13_awake ).bind fun t71 =>
          some t71)
      | .inr v => some v)

def T_girderlaw13_minus_b2 (l0 : List Nat) : (Int × List Nat) → Option ((Int × List Nat) ⊕ (List Nat)) := fun st => match st with
| (t2, t3) =>
  (some ((l0.length : Nat) : Int)).bind fun t4 =>
  cond (decide (t2 < t4))
    ((atI l0 t2).bind fun t5 =>
      (some (nf (fneg t5))).bind fun t6 =>
      (some [t6]).bind fun t7 =>
      (appL t3 t7).bind fun t8 =>
      some (.inl ((IntKind.i64.wrap (t2 + 1)), t8)))
    (some (.inr t3))

def T_girderlaw13_minus (l0 : List Nat) : Option (List Nat) :=
  (iter (T_girderlaw13_minus_b2 l0) FU (0, (List.map nf []))).bind fun t1 =>
  some t1

def T_girderlaw13_SolveTurns_b7 (q0_0 : Int) (t32 : Int) (t31 : List Nat) (t12 : List Nat) (t26 : Int) : Int → Option (Int ⊕ (Unit ⊕ Bool)) := fun st => match st with
| t33 =>
  cond (decide (t33 < q0_0))
    (cond (!(t32 != 0))
        ((atI t31 t33).bind fun t34 =>
          (atI t12 (IntKind.i64.wrap ((IntKind.i64.wrap (t33 * q0_0)) + t26))).bind fun t35 =>
          (T_girderkit_SameFloat t34 t35).bind fun t36 =>
          cond (!t36)
            (some (.inr (.inr false)))
            (some (.inl (IntKind.i64.wrap (t33 + 1)))))
        (some (.inr (.inr false))))
    (some (.inr (.inl ())))

def T_girderlaw13_SolveTurns_b5 (q0_0 : Int) (l0_1 : List Nat) (l0_2 : List Nat) (t12 : List Nat) : Int → Option (Int ⊕ (Unit ⊕ Bool)) := fun st => match st with
| t26 =>
  (cond (decide (t26 < q0_0))
      (some (decide (t26 < 8)))
      (some false)).bind fun t27 =>
  cond t27
    ((mkL (nf 0) q0_0 q0_0).bind fun t28 =>
      (atI t28 t26).bind fun t29 =>
      (some (t28.set (t26).toNat (nf 4607182418800017408))).bind fun t30 =>
      (T_solve_Solve q0_0 l0_1 l0_2 t30).bind fun o => match o with
      | (t31, t32) =>
      ((iter (T_girderlaw13_SolveTurns_b7 q0_0 t32 t31 t12 t26) FU 0 : Option (Unit ⊕ Bool))).bind fun o => match o with
      | .inl () => some (.inl (IntKind.i64.wrap (t26 + 1)))
      | .inr v => some (.inr (.inr v)))
    (some (.inr (.inl ())))

def T_girderlaw13_SolveTurns (q0_0 : Int) (l0_1 : List Nat) (l0_2 : List Nat) (l1 : List Nat) : Option Bool :=
  (T_solve_Forward q0_0 l0_1 l0_2 l1).bind fun o => match o with
  | (t1, t2) =>
  (T_solve_Solve q0_0 l0_1 l0_2 l1).bind fun o => match o with
  | (t3, t4) =>
  cond (t2 != 0)
    (cond (t2 == 4)
        (cond (t4 == 4)
            ((some ((t3.length : Nat) : Int)).bind fun t5 =>
              (some ((t1.length : Nat) : Int)).bind fun t6 =>
              cond ((IntKind.i64.wrap (t5 + t6)) == 0)
                ((T_girderlaw13_awake ).bind fun t7 =>
                  some t7)
                (some false))
            (some false))
        (some false))
    ((T_solve_Back q0_0 l0_1 l0_2 t1).bind fun o => match o with
      | (t8, t9) =>
      (T_solve_Inverse q0_0 l0_1 l0_2).bind fun o => match o with
      | (t10, t11, t12, t13) =>
      (cond (!(t4 != t9))
          (cond (!(t4 != t13))
              ((T_girderkit_SameReals t3 t8).bind fun t15 =>
                some (!t15))
              (some true))
          (some true)).bind fun t14 =>
      cond t14
        (some false)
        (cond (t4 != 0)
            (cond (t4 == 7)
                ((some ((t3.length : Nat) : Int)).bind fun t16 =>
                  (some ((t12.length : Nat) : Int)).bind fun t17 =>
                  cond ((IntKind.i64.wrap (t16 + t17)) == 0)
                    ((T_girderlaw13_awake ).bind fun t18 =>
                      some t18)
                    (some false))
                (some false))
            ((T_girderlaw13_minus l1).bind fun t19 =>
              (T_solve_Solve q0_0 l0_1 l0_2 t19).bind fun o => match o with
              | (t20, t21) =>
              (cond (!(t21 != 0))
                  ((T_girderlaw13_minus t3).bind fun t23 =>
                    (T_girderlaw13_equal t20 t23).bind fun t24 =>
                    cond (!(!t24))
                      (cond (!(t10 != q0_0))
                          (cond (!(t11 != q0_0))
                              ((some ((t12.length : Nat) : Int)).bind fun t25 =>
                                some (t25 != (IntKind.i64.wrap (q0_0 * q0_0))))
                              (some true))
                          (some true))
                      (some true))
                  (some true)).bind fun t22 =>
              cond t22
                (some false)
                (((iter (T_girderlaw13_SolveTurns_b5 q0_0 l0_1 l0_2 t12) FU 0 : Option (Unit ⊕ Bool))).bind fun o => match o with
                  | .inl () => 
                    ((T_girderlaw13_awake ).bind fun t37 =>
                      some t37)
                  | .inr v => some v))))


def T_girderlaw13_tame (p0 : Nat) : Option Nat :=
  (some (feq p0 (nf 0))).bind fun t1 =>
  cond (!t1)
    ((some (fgt p0 (nf 4517110426252607488) || feq p0 (nf 4517110426252607488))).bind fun t2 =>
      cond t2
        ((some (flt p0 (nf 4697254411347427328) || feq p0 (nf 4697254411347427328))).bind fun t3 =>
          cond (!t3)
            ((some (flt p0 (nf 13740482463107383296) || feq p0 (nf 13740482463107383296))).bind fun t4 =>
              cond t4
                ((some (fgt p0 (nf 13920626448202203136) || feq p0 (nf 13920626448202203136))).bind fun t5 =>
                  cond t5
                    (some p0)
                    (some (nf 4613937818241073152)))
                (some (nf 4613937818241073152)))
            (some p0))
        ((some (flt p0 (nf 13740482463107383296) || feq p0 (nf 13740482463107383296))).bind fun t6 =>
          cond t6
            ((some (fgt p0 (nf 13920626448202203136) || feq p0 (nf 13920626448202203136))).bind fun t7 =>
              cond t7
                (some p0)
                (some (nf 4613937818241073152)))
            (some (nf 4613937818241073152))))
    (some p0)

def T_girderlaw13_SolveScales_b2 (l1 : List Int) : (Int × List Nat) → Option ((Int × List Nat) ⊕ (List Nat)) := fun st => match st with
| (t5, t6) =>
  (some ((t6.length : Nat) : Int)).bind fun t7 =>
  cond (decide (t5 < t7))
    ((T_girderlaw13_at l1 t5 32).bind fun t8 =>
      (some (fdiv (nf (FloatKind.f64.nearest t8)) (nf 4620693217682128896))).bind fun t9 =>
      (atI t6 t5).bind fun t10 =>
      (some (t6.set (t5).toNat t9)).bind fun t11 =>
      some (.inl ((IntKind.i64.wrap (t5 + 1)), t11)))
    (some (.inr t6))

def T_girderlaw13_SolveScales_b4  : (Nat × Int) → Option ((Nat × Int) ⊕ (Nat)) := fun st => match st with
| (t14, t15) =>
  cond (t15 != 0)
    (((cond (decide (t15 > 0))
            ((some (fmul t14 (nf 4611686018427387904))).bind fun t20 =>
              some (t20, (IntKind.i64.wrap (t15 - 1))))
            ((some (fdiv t14 (nf 4611686018427387904))).bind fun t21 =>
              some (t21, (IntKind.i64.wrap (t15 + 1))))).bind fun o => match o with
        | (t18, t19) => some (t18, t19)).bind fun o => match o with
      | (t16, t17) => some (.inl (t16, t17)))
    (some (.inr t14))

def T_girderlaw13_SolveScales_b6 (t1 : Int) (l3 : List Nat) (t13 : Nat) (l2 : List Nat) : (Int × List Nat × List Nat × List Nat) → Option ((Int × List Nat × List Nat × List Nat) ⊕ ((List Nat × List Nat × List Nat))) := fun st => match st with
| (t25, t26, t27, t28) =>
  cond (decide (t25 < t1))
    (((some ((l3.length : Nat) : Int)).bind fun t32 =>
        (cond (decide (t32 > 0))
            ((some ((l3.length : Nat) : Int)).bind fun t34 =>
              (nz t34).bind fun t37 =>
              (atI l3 (t25.tmod t34)).bind fun t35 =>
              (T_girderlaw13_tame t35).bind fun t36 =>
              some t36)
            (some (nf 4607182418800017408))).bind fun t33 =>
        (some [t33]).bind fun t38 =>
        (appL t27 t38).bind fun t39 =>
        (some (fmul t33 t13)).bind fun t40 =>
        (some [t40]).bind fun t41 =>
        (appL t28 t41).bind fun t42 =>
        (some ((l2.length : Nat) : Int)).bind fun t43 =>
        cond (decide (t43 > 0))
          ((some ((l2.length : Nat) : Int)).bind fun t44 =>
            (nz t44).bind fun t55 =>
            (atI l2 (t25.tmod t44)).bind fun t45 =>
            (T_girderlaw13_tame t45).bind fun t46 =>
            (some (!feq t46 (nf 0))).bind fun t47 =>
            (cond t47
                ((some ((l2.length : Nat) : Int)).bind fun t49 =>
                  (nz t49).bind fun t54 =>
                  (atI l2 (t25.tmod t49)).bind fun t50 =>
                  (T_girderlaw13_tame t50).bind fun t51 =>
                  (atI t26 t25).bind fun t52 =>
                  (some (t26.set (t25).toNat t51)).bind fun t53 =>
                  some t53)
                (some t26)).bind fun t48 =>
            some (t48, t42, t39))
          ((some ()).bind fun _ =>
            some (t26, t42, t39))).bind fun o => match o with
      | (t29, t30, t31) => some (.inl ((IntKind.i64.wrap (t25 + 1)), t29, t31, t30)))
    (some (.inr (t26, t27, t28)))

def T_girderlaw13_SolveScales_b8 (t1 : Int) (t58 : List Nat) (t56 : List Nat) (t13 : Nat) : Int → Option (Int ⊕ (Unit ⊕ Bool)) := fun st => match st with
| t63 =>
  cond (decide (t63 < t1))
    ((atI t58 t63).bind fun t64 =>
      (atI t56 t63).bind fun t65 =>
      (some (fmul t65 t13)).bind fun t66 =>
      (T_girderkit_SameFloat t64 t66).bind fun t67 =>
      cond (!t67)
        (some (.inr (.inr false)))
        (some (.inl (IntKind.i64.wrap (t63 + 1)))))
    (some (.inr (.inl ())))

def T_girderlaw13_SolveScales (q0 : Int) (l1 : List Int) (l2 : List Nat) (l3 : List Nat) (q4 : Int) : Option Bool :=
  (T_girderlaw13_whole q0 l1).bind fun o => match o with
  | (t1, t2, t3) =>
  (iter (T_girderlaw13_SolveScales_b2 l1) FU (0, t2)).bind fun t4 =>
  (T_girderkit_Pick q4 41).bind fun t12 =>
  (iter (T_girderlaw13_SolveScales_b4) FU ((nf 4607182418800017408), (IntKind.i64.wrap (t12 - 20)))).bind fun t13 =>
  (iter (T_girderlaw13_SolveScales_b6 t1 l3 t13 l2) FU (0, t3, (List.map nf []), (List.map nf []))).bind fun o => match o with
  | (t22, t23, t24) => 
  (T_solve_Solve t1 t4 t22 t23).bind fun o => match o with
  | (t56, t57) =>
  (T_solve_Solve t1 t4 t22 t24).bind fun o => match o with
  | (t58, t59) =>
  (cond (!(t57 != 0))
      (cond (!(t59 != 0))
          ((some ((t56.length : Nat) : Int)).bind fun t61 =>
            cond (!(t61 != t1))
              ((some ((t58.length : Nat) : Int)).bind fun t62 =>
                some (t62 != t1))
              (some true))
          (some true))
      (some true)).bind fun t60 =>
  cond t60
    (some false)
    (((iter (T_girderlaw13_SolveScales_b8 t1 t58 t56 t13) FU 0 : Option (Unit ⊕ Bool))).bind fun o => match o with
      | .inl () => 
        ((T_girderlaw13_awake ).bind fun t68 =>
          some t68)
      | .inr v => some v)


def T_girderlaw13_one (p0 : Nat) : Option (Int × List Nat × List Nat) :=
  (some [p0]).bind fun t1 =>
  some (1, (List.map nf []), t1)


def T_math_Float64frombits (q0 : Int) : Option Nat :=
  some (nf q0.toNat)


def T_math_Copysign (p0 : Nat) (p1 : Nat) : Option Nat :=
  cond (isNaN p1) none (some (nf ((if negF p1 then 9223372036854775808 else 0) + magF p0)))


def T_math_Inf (q0 : Int) : Option Nat :=
  (cond (decide (q0 ≥ 0))
      (some 9218868437227405312)
      (some 18442240474082181120)).bind fun t1 =>
  (T_math_Float64frombits t1).bind fun t2 =>
  some t2


def T_math_NaN  : Option Nat :=
  (T_math_Float64frombits 9221120237041090561).bind fun t1 =>
  some t1

def T_girderlaw13_SolveNumbers_b2  : (Int × List Nat) → Option ((Int × List Nat) ⊕ (List Nat)) := fun st => match st with
| (t79, t80) =>
  cond (decide (t79 < 48))
    ((atI t80 t79).bind fun t81 =>
      (some (t80.set (t79).toNat (nf 4611686018427387904))).bind fun t82 =>
      some (.inl ((IntKind.i64.wrap (t79 + 1)), t82)))
    (some (.inr t80))

def T_girderlaw13_SolveNumbers  : Option Bool :=
  (T_girderlaw13_one (nf 0)).bind fun o => match o with
  | (t1, t2, t3) =>
  (some [(nf 4617315517961601024)]).bind fun t4 =>
  (T_solve_Forward t1 t2 t3 t4).bind fun o => match o with
  | (t5, t6) =>
  (T_girderlaw13_one (nf 0)).bind fun o => match o with
  | (t7, t8, t9) =>
  (some [(nf 4617315517961601024)]).bind fun t10 =>
  (T_solve_Solve t7 t8 t9 t10).bind fun o => match o with
  | (t11, t12) =>
  (T_math_Copysign (nf 0) (nf 13830554455654793216)).bind fun t13 =>
  (T_girderlaw13_one t13).bind fun o => match o with
  | (t14, t15, t16) =>
  (some [(nf 4617315517961601024)]).bind fun t17 =>
  (T_solve_Back t14 t15 t16 t17).bind fun o => match o with
  | (t18, t19) =>
  (T_math_Inf 1).bind fun t20 =>
  (T_girderlaw13_one t20).bind fun o => match o with
  | (t21, t22, t23) =>
  (some [(nf 13840687554816376832)]).bind fun t24 =>
  (T_solve_Solve t21 t22 t23 t24).bind fun o => match o with
  | (t25, t26) =>
  (T_math_NaN ).bind fun t27 =>
  (T_girderlaw13_one t27).bind fun o => match o with
  | (t28, t29, t30) =>
  (some [(nf 4617315517961601024)]).bind fun t31 =>
  (T_solve_Solve t28 t29 t30 t31).bind fun o => match o with
  | (t32, t33) =>
  (T_girderlaw13_one (nf 4607182418800017408)).bind fun o => match o with
  | (t34, t35, t36) =>
  (some [(nf 4617315517961601024), (nf 4617315517961601024)]).bind fun t37 =>
  (T_solve_Solve t34 t35 t36 t37).bind fun o => match o with
  | (t38, t39) =>
  (some [(nf 4607182418800017408), (nf 4607182418800017408)]).bind fun t40 =>
  (some [(nf 4617315517961601024), (nf 4617315517961601024)]).bind fun t41 =>
  (T_solve_Forward 2 (List.map nf []) t40 t41).bind fun o => match o with
  | (t42, t43) =>
  (T_solve_Solve 0 (List.map nf []) (List.map nf []) (List.map nf [])).bind fun o => match o with
  | (t44, t45) =>
  (T_solve_Inverse 0 (List.map nf []) (List.map nf [])).bind fun o => match o with
  | (t46, t47, t48, t49) =>
  (T_girderlaw13_one (nf 0)).bind fun o => match o with
  | (t50, t51, t52) =>
  (T_solve_Inverse t50 t51 t52).bind fun o => match o with
  | (t53, t54, t55, t56) =>
  ((some [(nf 4617315517961601024)]).bind fun t58 =>
    (T_girderlaw13_is t5 t6 t58 0).bind fun t59 =>
    cond t59
      ((T_math_Copysign (nf 0) (nf 13830554455654793216)).bind fun t60 =>
        (some [t60]).bind fun t61 =>
        (T_girderlaw13_is t25 t26 t61 0).bind fun t62 =>
        cond t62
          ((T_math_NaN ).bind fun t63 =>
            (some [t63]).bind fun t64 =>
            (T_girderlaw13_is t32 t33 t64 0).bind fun t65 =>
            cond t65
              ((T_girderlaw13_is t44 t45 (List.map nf []) 0).bind fun t66 =>
                cond t66
                  (cond (t49 == 0)
                      ((some ((t48.length : Nat) : Int)).bind fun t67 =>
                        some ((IntKind.i64.wrap ((IntKind.i64.wrap (t46 + t47)) + t67)) == 0))
                      (some false))
                  (some false))
              (some false))
          (some false))
      (some false)).bind fun t57 =>
  ((T_girderlaw13_is t11 t12 (List.map nf []) 7).bind fun t69 =>
    cond t69
      ((T_girderlaw13_is t18 t19 (List.map nf []) 7).bind fun t70 =>
        cond t70
          ((T_girderlaw13_is t38 t39 (List.map nf []) 4).bind fun t71 =>
            cond t71
              ((T_girderlaw13_is t42 t43 (List.map nf []) 4).bind fun t72 =>
                cond t72
                  (cond (t56 == 7)
                      ((T_girderkit_SameMatrix t53 t54 t55 0 0 (List.map nf [])).bind fun t73 =>
                        some t73)
                      (some false))
                  (some false))
              (some false))
          (some false))
      (some false)).bind fun t68 =>
  ((mkL (nf 0) 1128 1128).bind fun t76 =>
    (mkL (nf 0) 48 48).bind fun t77 =>
    some (t77, t76)).bind fun o => match o with
  | (t74, t75) => 
  (iter (T_girderlaw13_SolveNumbers_b2) FU (0, t74)).bind fun t78 =>
  (T_solve_Inverse 48 t75 t78).bind fun o => match o with
  | (t83, t84, t85, t86) =>
  ((mkL (nf 0) 1176 1176).bind fun t91 =>
    (mkL (nf 0) 49 49).bind fun t92 =>
    (T_solve_Inverse 49 t91 t92).bind fun o => match o with
    | (t93, t94, t95, t96) =>
    some (t96, t93, t94, t95)).bind fun o => match o with
  | (t87, t88, t89, t90) => 
  (T_solve_Solve (-1) (List.map nf []) (List.map nf []) (List.map nf [])).bind fun o => match o with
  | (t97, t98) =>
  cond t57
    (cond t68
        (cond (t86 == 0)
            ((some ((t85.length : Nat) : Int)).bind fun t99 =>
              cond (t99 == 2304)
                ((atI t85 0).bind fun t100 =>
                  (some (feq t100 (nf 4602678819172646912))).bind fun t101 =>
                  cond t101
                    ((atI t85 2303).bind fun t102 =>
                      (some (feq t102 (nf 4602678819172646912))).bind fun t103 =>
                      cond t103
                        (cond (t87 == 4)
                            ((some ((t90.length : Nat) : Int)).bind fun t104 =>
                              cond (t104 == 0)
                                (cond (t98 == 4)
                                    ((T_girderlaw13_awake ).bind fun t105 =>
                                      some t105)
                                    (some false))
                                (some false))
                            (some false))
                        (some false))
                    (some false))
                (some false))
            (some false))
        (some false))
    (some false)

end Go.Eng
