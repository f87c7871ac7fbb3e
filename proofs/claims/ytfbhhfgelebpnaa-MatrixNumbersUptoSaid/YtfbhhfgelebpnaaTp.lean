/-
  Functions of plain Lean beside functions of the program, printed by a program of the session. No condition.
-/
import Derived.Test.YtfbhhfgelebpnaaHandP
set_option linter.unusedSimpArgs false
set_option linter.unnecessarySimpa false
set_option linter.unusedSectionVars false
set_option linter.unusedVariables false
set_option maxRecDepth 100000
namespace Go.Eng
open Go


def T_matrix_fits (q0 : Int) : Option Bool :=
  cond (decide (q0 ≥ 0))
    (some (decide (q0 ≤ 48)))
    (some false)

def T_matrix_laid_b9 (q1 : Int) (f2 : Int → Int → Option Nat) (t3 : Int) : (Int × List Nat) → Option ((Int × List Nat) ⊕ (List Nat)) := fun st => match st with
| (t6, t7) =>
  cond (decide (t6 < q1))
    ((f2 t3 t6).bind fun t8 =>
      (atI t7 (IntKind.i64.wrap ((IntKind.i64.wrap (t3 * q1)) + t6))).bind fun t9 =>
      (some (t7.set ((IntKind.i64.wrap ((IntKind.i64.wrap (t3 * q1)) + t6))).toNat t8)).bind fun t10 =>
      some (.inl ((IntKind.i64.wrap (t6 + 1)), t10)))
    (some (.inr t7))

def T_matrix_laid_b7 (q0 : Int) (q1 : Int) (f2 : Int → Int → Option Nat) : (Int × List Nat) → Option ((Int × List Nat) ⊕ (List Nat)) := fun st => match st with
| (t3, t4) =>
  cond (decide (t3 < q0))
    ((iter (T_matrix_laid_b9 q1 f2 t3) FU (0, t4)).bind fun t5 =>
      some (.inl ((IntKind.i64.wrap (t3 + 1)), t5)))
    (some (.inr t4))

def T_matrix_laid (q0 : Int) (q1 : Int) (f2 : Int → Int → Option Nat) : Option (Int × Int × List Nat) :=
  (mkL (nf 0) (IntKind.i64.wrap (q0 * q1)) (IntKind.i64.wrap (q0 * q1))).bind fun t1 =>
  (iter (T_matrix_laid_b7 q0 q1 f2) FU (0, t1)).bind fun t2 =>
  some (q0, q1, t2)


def T_matrix_Make_1 (q0 : Int) (q1 : Int) : Option Nat :=
  some (nf 0)


def T_matrix_Make (q0 : Int) (q1 : Int) : Option (Int × Int × List Nat × Int) :=
  (T_matrix_fits q0).bind fun t1 =>
  cond (!(!t1))
    ((T_matrix_fits q1).bind fun t2 =>
      cond (!t2)
        (some (0, 0, (List.map nf []), 2))
        ((T_matrix_laid q0 q1 (fun v0 v1 => T_matrix_Make_1 v0 v1)).bind fun o => match o with
          | (t3, t4, t5) =>
          some (t3, t4, t5, 0)))
    (some (0, 0, (List.map nf []), 2))

def T_matrix_Identity_b2 (t1 : Int) (q0 : Int) : (Int × List Nat) → Option ((Int × List Nat) ⊕ (List Nat)) := fun st => match st with
| (t6, t7) =>
  cond (decide (t6 < t1))
    ((atI t7 (IntKind.i64.wrap ((IntKind.i64.wrap (t6 * q0)) + t6))).bind fun t8 =>
      (some (t7.set ((IntKind.i64.wrap ((IntKind.i64.wrap (t6 * q0)) + t6))).toNat (nf 4607182418800017408))).bind fun t9 =>
      some (.inl ((IntKind.i64.wrap (t6 + 1)), t9)))
    (some (.inr t7))

def T_matrix_Identity (q0 : Int) : Option (Int × Int × List Nat × Int) :=
  (T_matrix_Make q0 q0).bind fun o => match o with
  | (t1, t2, t3, t4) =>
  (iter (T_matrix_Identity_b2 t1 q0) FU (0, t3)).bind fun t5 =>
  some (t1, t2, t5, t4)


def T_math_Float64bits (p0 : Nat) : Option Int :=
  cond (isNaN p0) none (some (p0 : Int))


def T_girderkit_SameFloat (p0 : Nat) (p1 : Nat) : Option Bool :=
  some (p0 == p1)

def T_girderkit_SameReals_b2 (l0 : List Nat) (l1 : List Nat) : Int → Option (Int ⊕ (Unit ⊕ Bool)) := fun st => match st with
| t3 =>
  (some ((l0.length : Nat) : Int)).bind fun t4 =>
  cond (decide (t3 < t4))
    ((atI l0 t3).bind fun t5 =>
      (atI l1 t3).bind fun t6 =>
      (T_girderkit_SameFloat t5 t6).bind fun t7 =>
      cond (!t7)
        (some (.inr (.inr false)))
        (some (.inl (IntKind.i64.wrap (t3 + 1)))))
    (some (.inr (.inl ())))

def T_girderkit_SameReals (l0 : List Nat) (l1 : List Nat) : Option Bool :=
  (some ((l0.length : Nat) : Int)).bind fun t1 =>
  (some ((l1.length : Nat) : Int)).bind fun t2 =>
  cond (t1 != t2)
    (some false)
    (((iter (T_girderkit_SameReals_b2 l0 l1) FU 0 : Option (Unit ⊕ Bool))).bind fun o => match o with
      | .inl () => some true
      | .inr v => some v)


def T_girderkit_SameMatrix (q0_0 : Int) (q0_1 : Int) (l0_2 : List Nat) (q1_0 : Int) (q1_1 : Int) (l1_2 : List Nat) : Option Bool :=
  cond (q0_0 == q1_0)
    (cond (q0_1 == q1_1)
        ((T_girderkit_SameReals l0_2 l1_2).bind fun t1 =>
          some t1)
        (some false))
    (some false)


def T_girderlaw10_is (q0_0 : Int) (q0_1 : Int) (l0_2 : List Nat) (q1 : Int) (q2_0 : Int) (q2_1 : Int) (l2_2 : List Nat) (q3 : Int) : Option Bool :=
  cond (q1 == q3)
    ((T_girderkit_SameMatrix q0_0 q0_1 l0_2 q2_0 q2_1 l2_2).bind fun t1 =>
      some t1)
    (some false)


def T_girderlaw10_of (q0 : Int) (q1 : Int) (l2 : List Nat) : Option (Int × Int × List Nat) :=
  some (q0, q1, l2)


def T_matrix_Right (q0_0 : Int) (q0_1 : Int) (l0_2 : List Nat) : Option Bool :=
  (T_matrix_fits q0_0).bind fun t1 =>
  cond t1
    ((T_matrix_fits q0_1).bind fun t2 =>
      cond t2
        ((some ((l0_2.length : Nat) : Int)).bind fun t3 =>
          some (t3 == (IntKind.i64.wrap (q0_0 * q0_1))))
        (some false))
    (some false)

def T_matrix_Mul_1_b2 (q2_1 : Int) (l2_2 : List Nat) (q0 : Int) (l3_2 : List Nat) (q3_1 : Int) (q1 : Int) : (Nat × Int) → Option ((Nat × Int) ⊕ (Nat)) := fun st => match st with
| (t2, t3) =>
  cond (decide (t3 < q2_1))
    ((atI l2_2 (IntKind.i64.wrap ((IntKind.i64.wrap (q0 * q2_1)) + t3))).bind fun t4 =>
      (atI l3_2 (IntKind.i64.wrap ((IntKind.i64.wrap (t3 * q3_1)) + q1))).bind fun t5 =>
      (some (fmul t4 t5)).bind fun t6 =>
      (some (fadd t2 t6)).bind fun t7 =>
      some (.inl (t7, (IntKind.i64.wrap (t3 + 1)))))
    (some (.inr t2))

def T_matrix_Mul_1 (q0 : Int) (q1 : Int) (q2_0 : Int) (q2_1 : Int) (l2_2 : List Nat) (q3_0 : Int) (q3_1 : Int) (l3_2 : List Nat) : Option Nat :=
  (iter (T_matrix_Mul_1_b2 q2_1 l2_2 q0 l3_2 q3_1 q1) FU ((nf 0), 0)).bind fun t1 =>
  some t1


def T_matrix_Mul (q0_0 : Int) (q0_1 : Int) (l0_2 : List Nat) (q1_0 : Int) (q1_1 : Int) (l1_2 : List Nat) : Option (Int × Int × List Nat × Int) :=
  ((T_matrix_Right q0_0 q0_1 l0_2).bind fun t2 =>
    cond (!(!t2))
      ((T_matrix_Right q1_0 q1_1 l1_2).bind fun t3 =>
        cond (!(!t3))
          (some (q0_1 != q1_0))
          (some true))
      (some true)).bind fun t1 =>
  cond t1
    (some (0, 0, (List.map nf []), 4))
    ((T_matrix_laid q0_0 q1_1 (fun v0 v1 => T_matrix_Mul_1 v0 v1 q0_0 q0_1 l0_2 q1_0 q1_1 l1_2)).bind fun o => match o with
      | (t4, t5, t6) =>
      some (t4, t5, t6, 0))


def T_math_Float64frombits (q0 : Int) : Option Nat :=
  some (nf q0.toNat)


def T_math_Copysign (p0 : Nat) (p1 : Nat) : Option Nat :=
  cond (isNaN p1) none (some (nf ((if negF p1 then 9223372036854775808 else 0) + magF p0)))


def T_math_Inf (q0 : Int) : Option Nat :=
  (cond (decide (q0 ≥ 0))
      (some 9218868437227405312)
      (some 18442240474082181120)).bind fun t1 =>
  (T_math_Float64frombits t1).bind fun t2 =>
  some t2

def T_slices_IndexFunc___float64_float64_b2 (t1 : Int) (l0 : List Nat) (f1 : Nat → Option Bool) : Int → Option (Int ⊕ (Unit ⊕ Int)) := fun st => match st with
| t2 =>
  cond (decide (t2 < t1))
    ((atI l0 t2).bind fun t3 =>
      (f1 t3).bind fun t4 =>
      cond t4
        (some (.inr (.inr t2)))
        (some (.inl (IntKind.i64.wrap (t2 + 1)))))
    (some (.inr (.inl ())))

def T_slices_IndexFunc___float64_float64 (l0 : List Nat) (f1 : Nat → Option Bool) : Option Int :=
  (some ((l0.length : Nat) : Int)).bind fun t1 =>
  ((iter (T_slices_IndexFunc___float64_float64_b2 t1 l0 f1) FU 0 : Option (Unit ⊕ Int))).bind fun o => match o with
  | .inl () => some (-1)
  | .inr v => some v


def T_slices_ContainsFunc___float64_float64 (l0 : List Nat) (f1 : Nat → Option Bool) : Option Bool :=
  (T_slices_IndexFunc___float64_float64 l0 f1).bind fun t1 =>
  some (decide (t1 ≥ 0))


def T_matrix_Norm_1 (p0 : Nat) : Option Bool :=
  (some (fsub p0 p0)).bind fun t1 =>
  (some (!feq t1 (nf 0))).bind fun t2 =>
  some t2


def T_math_Abs (p0 : Nat) : Option Nat :=
  some (nf (magF p0))


def T_round_way (q0 : Int) : Option Int :=
  cond (!(decide (q0 < 0)))
    (cond (decide (q0 > 3))
        (some 0)
        (some q0))
    (some 0)


def T_math_IsNaN (p0 : Nat) : Option Bool :=
  (some (!feq p0 p0)).bind fun t1 =>
  some t1


def T_math_IsInf (p0 : Nat) (q1 : Int) : Option Bool :=
  (cond (q1 == 0)
      ((T_math_Abs p0).bind fun t2 =>
        some t2)
      ((cond (decide (q1 < 0))
            ((some (nf (fneg p0))).bind fun t4 =>
              some t4)
            (some p0)).bind fun t3 =>
        some t3)).bind fun t1 =>
  (some (fgt t1 (nf 9218868437227405311))).bind fun t5 =>
  some t5

def T_round_finite_b2 (t1 : Int) (l0 : List Nat) : Int → Option (Int ⊕ (Unit ⊕ Bool)) := fun st => match st with
| t2 =>
  cond (decide (t2 < t1))
    ((atI l0 t2).bind fun t3 =>
      (T_math_IsNaN t3).bind fun t4 =>
      cond (!t4)
        ((T_math_IsInf t3 0).bind fun t5 =>
          cond t5
            (some (.inr (.inr false)))
            (some (.inl (IntKind.i64.wrap (t2 + 1)))))
        (some (.inr (.inr false))))
    (some (.inr (.inl ())))

def T_round_finite (l0 : List Nat) : Option Bool :=
  (some ((l0.length : Nat) : Int)).bind fun t1 =>
  ((iter (T_round_finite_b2 t1 l0) FU 0 : Option (Unit ⊕ Bool))).bind fun o => match o with
  | .inl () => some true
  | .inr v => some v


def T_math_Signbit (p0 : Nat) : Option Bool :=
  cond (isNaN p0) none (some (negF p0))


def T_round_none (q0 : Int) : Option Nat :=
  cond (q0 == 1)
    ((T_math_Copysign (nf 0) (nf 13830554455654793216)).bind fun t1 =>
      some t1)
    (some (nf 0))


def T_round_step (p0 : Nat) (q1 : Bool) : Option Nat :=
  (T_math_Float64bits p0).bind fun t1 =>
  ((some (feq p0 (nf 0))).bind fun t3 =>
    (cond t3
        ((cond (!q1)
              (some (IntKind.u64.wrap (BitVec.ofInt IntKind.u64.bits 1 ||| BitVec.ofInt IntKind.u64.bits 9223372036854775808).toNat))
              (some 1)).bind fun t5 =>
          some t5)
        ((some (fgt p0 (nf 0))).bind fun t6 =>
          (cond (q1 == t6)
              (some (IntKind.u64.wrap (t1 + 1)))
              (some (IntKind.u64.wrap (t1 - 1)))).bind fun t7 =>
          some t7)).bind fun t4 =>
    some t4).bind fun t2 =>
  (T_math_Float64frombits t2).bind fun t8 =>
  some t8


def T_round_settle (p0 : Nat) (q1 : Int) (q2 : Int) : Option Nat :=
  (cond (q2 == 3)
      ((T_math_Signbit p0).bind fun t2 =>
        (cond t2
            (some 2)
            (some 1)).bind fun t3 =>
        some t3)
      (some q2)).bind fun t1 =>
  (T_math_IsInf p0 0).bind fun t4 =>
  cond t4
    ((some (fgt p0 (nf 0))).bind fun t5 =>
      cond t5
        (cond (!(t1 == 1))
            ((some (flt p0 (nf 0))).bind fun t6 =>
              cond t6
                (cond (t1 == 2)
                    ((T_math_Copysign (nf 9218868437227405311) p0).bind fun t7 =>
                      some t7)
                    (some p0))
                (some p0))
            ((T_math_Copysign (nf 9218868437227405311) p0).bind fun t8 =>
              some t8))
        ((some (flt p0 (nf 0))).bind fun t9 =>
          cond t9
            (cond (t1 == 2)
                ((T_math_Copysign (nf 9218868437227405311) p0).bind fun t10 =>
                  some t10)
                (some p0))
            (some p0)))
    (cond (decide (q1 < 0))
        (cond (!(t1 == 1))
            (cond (decide (q1 > 0))
                (cond (t1 == 2)
                    ((T_round_step p0 (decide (q1 > 0))).bind fun t11 =>
                      some t11)
                    (some p0))
                (some p0))
            ((T_round_step p0 (decide (q1 > 0))).bind fun t12 =>
              some t12))
        (cond (decide (q1 > 0))
            (cond (t1 == 2)
                ((T_round_step p0 (decide (q1 > 0))).bind fun t13 =>
                  some t13)
                (some p0))
            (some p0)))


def T_round_sign (p0 : Nat) : Option Int :=
  (some (fgt p0 (nf 0))).bind fun t1 =>
  cond t1
    (some 1)
    ((some (flt p0 (nf 0))).bind fun t2 =>
      cond t2
        (some (-1))
        (some 0))


def T_round_Add (p0 : Nat) (p1 : Nat) (q2 : Int) : Option Nat :=
  (T_round_way q2).bind fun t1 =>
  (some (fadd p0 p1)).bind fun t2 =>
  (some [p0, p1]).bind fun t3 =>
  (T_round_finite t3).bind fun t4 =>
  cond (!t4)
    (some t2)
    (((some (feq t2 (nf 0))).bind fun t6 =>
        cond t6
          ((some (!feq p0 (nf 0))).bind fun t7 =>
            cond (!t7)
              ((some (feq t2 (nf 0))).bind fun t8 =>
                cond t8
                  ((T_math_Signbit p0).bind fun t9 =>
                    (T_math_Signbit p1).bind fun t10 =>
                    some (!(t9 == t10)))
                  (some false))
              (some true))
          ((some (feq t2 (nf 0))).bind fun t11 =>
            cond t11
              ((T_math_Signbit p0).bind fun t12 =>
                (T_math_Signbit p1).bind fun t13 =>
                some (!(t12 == t13)))
              (some false))).bind fun t5 =>
      cond t5
        ((T_round_none t1).bind fun t14 =>
          some t14)
        ((some (feq t2 (nf 0))).bind fun t15 =>
          cond t15
            (some t2)
            ((T_math_IsInf t2 0).bind fun t16 =>
              cond t16
                ((T_round_settle t2 0 t1).bind fun t17 =>
                  some t17)
                ((T_math_Abs p0).bind fun t18 =>
                  (T_math_Abs p1).bind fun t19 =>
                  (some (flt t18 t19)).bind fun t20 =>
                  (cond t20
                      (some (p1, p0))
                      (some (p0, p1))).bind fun o => match o with
                  | (t21, t22) => 
                  (some (fsub t2 t21)).bind fun t23 =>
                  (some (fsub t22 t23)).bind fun t24 =>
                  (T_round_sign t24).bind fun t25 =>
                  (T_round_settle t2 t25 t1).bind fun t26 =>
                  some t26))))

def T_vector_Norm_b2 (t1 : Int) (l0 : List Nat) : (Nat × Int) → Option ((Nat × Int) ⊕ (Nat)) := fun st => match st with
| (t3, t4) =>
  cond (decide (t4 < t1))
    ((atI l0 t4).bind fun t5 =>
      (T_math_Abs t5).bind fun t6 =>
      (T_round_Add t3 t6 2).bind fun t7 =>
      some (.inl (t7, (IntKind.i64.wrap (t4 + 1)))))
    (some (.inr t3))

def T_vector_Norm (l0 : List Nat) : Option Nat :=
  (some ((l0.length : Nat) : Int)).bind fun t1 =>
  (iter (T_vector_Norm_b2 t1 l0) FU ((nf 0), 0)).bind fun t2 =>
  some t2

def T_matrix_Norm_b2 (q0_0 : Int) (l0_2 : List Nat) (q0_1 : Int) : (Nat × Int) → Option ((Nat × Int) ⊕ (Nat)) := fun st => match st with
| (t4, t5) =>
  cond (decide (t5 < q0_0))
    ((subL l0_2 (IntKind.i64.wrap (t5 * q0_1)) (IntKind.i64.wrap ((IntKind.i64.wrap (t5 + 1)) * q0_1))).bind fun t6 =>
      (T_vector_Norm t6).bind fun t7 =>
      (some (fmx true t4 t7)).bind fun t8 =>
      some (.inl (t8, (IntKind.i64.wrap (t5 + 1)))))
    (some (.inr t4))

def T_matrix_Norm (q0_0 : Int) (q0_1 : Int) (l0_2 : List Nat) : Option (Nat × Int) :=
  (T_matrix_Right q0_0 q0_1 l0_2).bind fun t1 =>
  cond (!t1)
    (some ((nf 0), 4))
    ((T_slices_ContainsFunc___float64_float64 l0_2 (fun v0 => T_matrix_Norm_1 v0)).bind fun t2 =>
      cond t2
        (some ((nf 0), 5))
        ((iter (T_matrix_Norm_b2 q0_0 l0_2 q0_1) FU ((nf 0), 0)).bind fun t3 =>
          some (t3, 0)))


def T_math_NaN  : Option Nat :=
  (T_math_Float64frombits 9221120237041090561).bind fun t1 =>
  some t1


def T_matrix_Transpose_1 (q0 : Int) (q1 : Int) (q2_0 : Int) (q2_1 : Int) (l2_2 : List Nat) : Option Nat :=
  (atI l2_2 (IntKind.i64.wrap ((IntKind.i64.wrap (q1 * q2_1)) + q0))).bind fun t1 =>
  some t1


def T_matrix_Transpose (q0_0 : Int) (q0_1 : Int) (l0_2 : List Nat) : Option (Int × Int × List Nat × Int) :=
  (T_matrix_Right q0_0 q0_1 l0_2).bind fun t1 =>
  cond (!t1)
    (some (0, 0, (List.map nf []), 4))
    ((T_matrix_laid q0_1 q0_0 (fun v0 v1 => T_matrix_Transpose_1 v0 v1 q0_0 q0_1 l0_2)).bind fun o => match o with
      | (t2, t3, t4) =>
      some (t2, t3, t4, 0))


def T_vector_Same (l0 : List Nat) (l1 : List Nat) : Option Bool :=
  cond (decide (l0.length ≤ 4294967296)) (some (l0 == l1)) none


def T_matrix_Same (q0_0 : Int) (q0_1 : Int) (l0_2 : List Nat) (q1_0 : Int) (q1_1 : Int) (l1_2 : List Nat) : Option Bool :=
  cond (q0_0 == q1_0)
    (cond (q0_1 == q1_1)
        ((T_vector_Same l0_2 l1_2).bind fun t1 =>
          some t1)
        (some false))
    (some false)


def T_matrix_Symmetric (q0_0 : Int) (q0_1 : Int) (l0_2 : List Nat) : Option Bool :=
  (T_matrix_Transpose q0_0 q0_1 l0_2).bind fun o => match o with
  | (t1, t2, t3, t4) =>
  cond (t4 == 0)
    ((T_matrix_Same t1 t2 t3 q0_0 q0_1 l0_2).bind fun t5 =>
      some t5)
    (some false)


def T_matrix_Apply (q0_0 : Int) (q0_1 : Int) (l0_2 : List Nat) (l1 : List Nat) : Option (List Nat × Int) :=
  (some ((l1.length : Nat) : Int)).bind fun t1 =>
  (T_matrix_Mul q0_0 q0_1 l0_2 t1 1 l1).bind fun o => match o with
  | (t2, t3, t4, t5) =>
  some (t4, t5)


def T_girderlaw10_awake  : Option Bool :=
  (some [(nf 4607182418800017408), (nf 4611686018427387904), (nf 4613937818241073152), (nf 4616189618054758400)]).bind fun t1 =>
  (T_girderlaw10_of 2 2 t1).bind fun o => match o with
  | (t2, t3, t4) =>
  (some [(nf 4617315517961601024), (nf 4618441417868443648), (nf 4619567317775286272), (nf 4620693217682128896)]).bind fun t5 =>
  (T_girderlaw10_of 2 2 t5).bind fun o => match o with
  | (t6, t7, t8) =>
  (T_matrix_Mul t2 t3 t1 t6 t7 t5).bind fun o => match o with
  | (t9, t10, t11, t12) =>
  (some [(nf 4607182418800017408), (nf 4611686018427387904), (nf 4613937818241073152), (nf 4616189618054758400)]).bind fun t13 =>
  (T_girderlaw10_of 2 2 t13).bind fun o => match o with
  | (t14, t15, t16) =>
  (some [(nf 4617315517961601024), (nf 4618441417868443648)]).bind fun t17 =>
  (T_matrix_Apply t14 t15 t13 t17).bind fun o => match o with
  | (t18, t19) =>
  (some [(nf 4626041242239631360), (nf 4626885667169763328), (nf 4631248529308778496), (nf 4632233691727265792)]).bind fun t20 =>
  (T_girderlaw10_of 2 2 t20).bind fun o => match o with
  | (t21, t22, t23) =>
  (T_girderlaw10_is t9 t10 t11 t12 t21 t22 t20 0).bind fun t24 =>
  cond t24
    (cond (t19 == 0)
        ((some [(nf 4625478292286210048), (nf 4630685579355357184)]).bind fun t25 =>
          (T_girderkit_SameReals t18 t25).bind fun t26 =>
          some t26)
        (some false))
    (some false)


def T_girderlaw10_MatrixNumbers  : Option Bool :=
  (T_matrix_Make 48 48).bind fun o => match o with
  | (t1, t2, t3, t4) =>
  (T_matrix_Make 49 1).bind fun o => match o with
  | (t5, t6, t7, t8) =>
  (T_matrix_Make 1 (-1)).bind fun o => match o with
  | (t9, t10, t11, t12) =>
  (T_matrix_Identity 49).bind fun o => match o with
  | (t13, t14, t15, t16) =>
  (T_matrix_Make 2 0).bind fun o => match o with
  | (t17, t18, t19, t20) =>
  (cond (!(t4 != 0))
      ((some ((t3.length : Nat) : Int)).bind fun t22 =>
        cond (!(t22 != 2304))
          ((T_girderlaw10_is t5 t6 t7 t8 0 0 (List.map nf []) 2).bind fun t23 =>
            cond (!(!t23))
              ((T_girderlaw10_is t9 t10 t11 t12 0 0 (List.map nf []) 2).bind fun t24 =>
                cond (!(!t24))
                  ((T_girderlaw10_is t13 t14 t15 t16 0 0 (List.map nf []) 2).bind fun t25 =>
                    cond (!(!t25))
                      ((T_girderlaw10_of 2 0 (List.map nf [])).bind fun o => match o with
                        | (t26, t27, t28) =>
                        (T_girderlaw10_is t17 t18 t19 t20 t26 t27 (List.map nf []) 0).bind fun t29 =>
                        some (!t29))
                      (some true))
                  (some true))
              (some true))
          (some true))
      (some true)).bind fun t21 =>
  cond t21
    (some false)
    ((some [(nf 4607182418800017408), (nf 4607182418800017408), (nf 4607182418800017408)]).bind fun t30 =>
      (T_girderlaw10_of 3 1 t30).bind fun o => match o with
      | (t31, t32, t33) =>
      ((some [(nf 4845873199050653696), (nf 4607182418800017408), (nf 14069245235905429504)]).bind fun t38 =>
        (T_girderlaw10_of 1 3 t38).bind fun o => match o with
        | (t39, t40, t41) =>
        (T_matrix_Mul t39 t40 t38 t31 t32 t30).bind fun o => match o with
        | (t42, t43, t44, t45) =>
        some (t45, t42, t43, t44)).bind fun o => match o with
      | (t34, t35, t36, t37) => 
      ((some [(nf 4845873199050653696), (nf 14069245235905429504), (nf 4607182418800017408)]).bind fun t50 =>
        (T_girderlaw10_of 1 3 t50).bind fun o => match o with
        | (t51, t52, t53) =>
        (T_matrix_Mul t51 t52 t50 t31 t32 t30).bind fun o => match o with
        | (t54, t55, t56, t57) =>
        some (t57, t54, t55, t56)).bind fun o => match o with
      | (t46, t47, t48, t49) => 
      (T_math_Copysign (nf 0) (nf 13830554455654793216)).bind fun t58 =>
      (some [t58]).bind fun t59 =>
      (T_girderlaw10_of 1 1 t59).bind fun o => match o with
      | (t60, t61, t62) =>
      (some [(nf 4607182418800017408)]).bind fun t63 =>
      (T_girderlaw10_of 1 1 t63).bind fun o => match o with
      | (t64, t65, t66) =>
      (T_matrix_Mul t60 t61 t59 t64 t65 t63).bind fun o => match o with
      | (t67, t68, t69, t70) =>
      (some [(nf 0)]).bind fun t71 =>
      (T_girderlaw10_of 1 1 t71).bind fun o => match o with
      | (t72, t73, t74) =>
      (T_math_Inf 1).bind fun t75 =>
      (some [t75]).bind fun t76 =>
      (T_girderlaw10_of 1 1 t76).bind fun o => match o with
      | (t77, t78, t79) =>
      (T_matrix_Mul t72 t73 t71 t77 t78 t76).bind fun o => match o with
      | (t80, t81, t82, t83) =>
      (some [(nf 4845873199050653696), (nf 4607182418800017408)]).bind fun t84 =>
      (T_girderlaw10_of 1 2 t84).bind fun o => match o with
      | (t85, t86, t87) =>
      (T_matrix_Norm t85 t86 t84).bind fun o => match o with
      | (t88, t89) =>
      (T_math_NaN ).bind fun t90 =>
      (some [(nf 4607182418800017408), t90]).bind fun t91 =>
      (T_girderlaw10_of 1 2 t91).bind fun o => match o with
      | (t92, t93, t94) =>
      (T_matrix_Norm t92 t93 t91).bind fun o => match o with
      | (t95, t96) =>
      (T_girderlaw10_of 2 0 (List.map nf [])).bind fun o => match o with
      | (t97, t98, t99) =>
      (T_girderlaw10_of 0 3 (List.map nf [])).bind fun o => match o with
      | (t100, t101, t102) =>
      (T_matrix_Mul t97 t98 (List.map nf []) t100 t101 (List.map nf [])).bind fun o => match o with
      | (t103, t104, t105, t106) =>
      ((some [(nf 0)]).bind fun t108 =>
        (T_girderlaw10_of 1 1 t108).bind fun o => match o with
        | (t109, t110, t111) =>
        (T_girderlaw10_is t35 t36 t37 t34 t109 t110 t108 0).bind fun t112 =>
        cond t112
          ((some [(nf 4607182418800017408)]).bind fun t113 =>
            (T_girderlaw10_of 1 1 t113).bind fun o => match o with
            | (t114, t115, t116) =>
            (T_girderlaw10_is t47 t48 t49 t46 t114 t115 t113 0).bind fun t117 =>
            cond t117
              ((some [(nf 0)]).bind fun t118 =>
                (T_girderlaw10_of 1 1 t118).bind fun o => match o with
                | (t119, t120, t121) =>
                (T_girderlaw10_is t67 t68 t69 t70 t119 t120 t118 0).bind fun t122 =>
                cond t122
                  ((T_math_NaN ).bind fun t123 =>
                    (some [t123]).bind fun t124 =>
                    (T_girderlaw10_of 1 1 t124).bind fun o => match o with
                    | (t125, t126, t127) =>
                    (T_girderlaw10_is t80 t81 t82 t83 t125 t126 t124 0).bind fun t128 =>
                    cond t128
                      ((some [(nf 0), (nf 0), (nf 0), (nf 0), (nf 0), (nf 0)]).bind fun t129 =>
                        (T_girderlaw10_of 2 3 t129).bind fun o => match o with
                        | (t130, t131, t132) =>
                        (T_girderlaw10_is t103 t104 t105 t106 t130 t131 t129 0).bind fun t133 =>
                        some t133)
                      (some false))
                  (some false))
              (some false))
          (some false)).bind fun t107 =>
      ((some (feq t88 (nf 4845873199050653697))).bind fun t135 =>
        cond t135
          (cond (t89 == 0)
              ((some (feq t95 (nf 0))).bind fun t136 =>
                cond t136
                  (cond (t96 == 5)
                      ((T_math_Copysign (nf 0) (nf 13830554455654793216)).bind fun t137 =>
                        (some [(nf 4607182418800017408), (nf 0), t137, (nf 4607182418800017408)]).bind fun t138 =>
                        (T_girderlaw10_of 2 2 t138).bind fun o => match o with
                        | (t139, t140, t141) =>
                        (T_matrix_Symmetric t139 t140 t138).bind fun t142 =>
                        cond (!t142)
                          ((some [(nf 4607182418800017408), (nf 4611686018427387904), (nf 4613937818241073152)]).bind fun t143 =>
                            (T_girderlaw10_of 2 2 t143).bind fun o => match o with
                            | (t144, t145, t146) =>
                            (T_matrix_Right t144 t145 t143).bind fun t147 =>
                            some (!t147))
                          (some false))
                      (some false))
                  (some false))
              (some false))
          (some false)).bind fun t134 =>
      (some [(nf 4607182418800017408)]).bind fun t148 =>
      (T_girderlaw10_of 2 2 t148).bind fun o => match o with
      | (t149, t150, t151) =>
      (T_matrix_Norm t149 t150 t148).bind fun o => match o with
      | (t152, t153) =>
      cond t107
        (cond t134
            ((some (feq t152 (nf 0))).bind fun t154 =>
              cond t154
                (cond (t153 == 4)
                    ((T_girderlaw10_awake ).bind fun t155 =>
                      some t155)
                    (some false))
                (some false))
            (some false))
        (some false))

end Go.Eng
