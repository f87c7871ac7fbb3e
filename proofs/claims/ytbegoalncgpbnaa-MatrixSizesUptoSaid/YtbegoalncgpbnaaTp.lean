/-
  Functions of plain Lean beside functions of the program, printed by a program of the session. No condition.
-/
import Derived.Test.YtbegoalncgpbnaaHandP
set_option linter.unusedSimpArgs false
set_option linter.unnecessarySimpa false
set_option linter.unusedSectionVars false
set_option linter.unusedVariables false
set_option maxRecDepth 100000
namespace Go.Eng
open Go


def T_girderkit_Pick (q0 : Int) (q1 : Int) : Option Int :=
  cond (decide (q1 < 1))
    (some 0)
    ((nz q1).bind fun t2 =>
      (cond (decide ((q0.tmod q1) < 0))
          (some (IntKind.i64.wrap ((q0.tmod q1) + q1)))
          (some (q0.tmod q1))).bind fun t1 =>
      some t1)


def T_girderlaw10_of (q0 : Int) (q1 : Int) (l2 : List Nat) : Option (Int × Int × List Nat) :=
  some (q0, q1, l2)

def T_girderlaw10_laid_b2 (t3 : Int) (t4 : Int) (l2 : List Nat) (q3 : Bool) : (Int × List Nat) → Option ((Int × List Nat) ⊕ (List Nat)) := fun st => match st with
| (t7, t8) =>
  cond (decide (t7 < (IntKind.i64.wrap (t3 * t4))))
    ((some ((l2.length : Nat) : Int)).bind fun t9 =>
      (cond (decide (t9 > 0))
          ((some ((l2.length : Nat) : Int)).bind fun t11 =>
            (nz t11).bind fun t13 =>
            (atI l2 (t7.tmod t11)).bind fun t12 =>
            some t12)
          (some (nf 4607182418800017408))).bind fun t10 =>
      cond q3
        ((some (fgt t10 (nf 13875379345695965184) || feq t10 (nf 13875379345695965184))).bind fun t14 =>
          cond t14
            ((some (flt t10 (nf 4652007308841189376) || feq t10 (nf 4652007308841189376))).bind fun t15 =>
              (cond (!t15)
                  (some (nf 4613937818241073152))
                  (some t10)).bind fun t16 =>
              (cond q3
                  ((f2i t16 .i64).bind fun t18 =>
                    some (nf (FloatKind.f64.nearest t18)))
                  (some t16)).bind fun t17 =>
              (some [t17]).bind fun t19 =>
              (appL t8 t19).bind fun t20 =>
              some (.inl ((IntKind.i64.wrap (t7 + 1)), t20)))
            ((some (nf 4613937818241073152)).bind fun t21 =>
              (cond q3
                  ((f2i t21 .i64).bind fun t23 =>
                    some (nf (FloatKind.f64.nearest t23)))
                  (some t21)).bind fun t22 =>
              (some [t22]).bind fun t24 =>
              (appL t8 t24).bind fun t25 =>
              some (.inl ((IntKind.i64.wrap (t7 + 1)), t25))))
        ((some t10).bind fun t26 =>
          (cond q3
              ((f2i t26 .i64).bind fun t28 =>
                some (nf (FloatKind.f64.nearest t28)))
              (some t26)).bind fun t27 =>
          (some [t27]).bind fun t29 =>
          (appL t8 t29).bind fun t30 =>
          some (.inl ((IntKind.i64.wrap (t7 + 1)), t30))))
    (some (.inr t8))

def T_girderlaw10_laid (q0 : Int) (q1 : Int) (l2 : List Nat) (q3 : Bool) : Option (Int × Int × List Nat) :=
  (T_girderkit_Pick q0 7).bind fun t1 =>
  (T_girderkit_Pick q1 7).bind fun t2 =>
  (T_girderlaw10_of t1 t2 (List.map nf [])).bind fun o => match o with
  | (t3, t4, t5) =>
  (iter (T_girderlaw10_laid_b2 t3 t4 l2 q3) FU (0, (List.map nf []))).bind fun t6 =>
  some (t3, t4, t6)


def T_matrix_fits (q0 : Int) : Option Bool :=
  cond (decide (q0 ≥ 0))
    (some (decide (q0 ≤ 48)))
    (some false)


def T_matrix_Right (q0_0 : Int) (q0_1 : Int) (l0_2 : List Nat) : Option Bool :=
  (T_matrix_fits q0_0).bind fun t1 =>
  cond t1
    ((T_matrix_fits q0_1).bind fun t2 =>
      cond t2
        ((some ((l0_2.length : Nat) : Int)).bind fun t3 =>
          some (t3 == (IntKind.i64.wrap (q0_0 * q0_1))))
        (some false))
    (some false)

def T_slices_IndexFunc___float64_float64_b2 (t1 : Int) (l0 : List Nat) (f1 : Nat → Option Bool) : Int → Option (Int ⊕ (Unit ⊕ Int)) := fun st => match st with
| t2 =>
  cond (decide (t2 < t1))
    ((atI l0 t2).bind fun t3 =>
      (f1 t3).bind fun t4 =>
      cond t4
        (some (.inr (.inr t2)))
        (some (.inl (IntKind.i64.wrap (t2 + 1)))))
    (some (.inr (.inl ())))

def T_slices_IndexFunc___float64_float64 (l0 : List Nat) (f1 : Nat → Option Bool) : Option Int :=
  (some ((l0.length : Nat) : Int)).bind fun t1 =>
  ((iter (T_slices_IndexFunc___float64_float64_b2 t1 l0 f1) FU 0 : Option (Unit ⊕ Int))).bind fun o => match o with
  | .inl () => some (-1)
  | .inr v => some v


def T_slices_ContainsFunc___float64_float64 (l0 : List Nat) (f1 : Nat → Option Bool) : Option Bool :=
  (T_slices_IndexFunc___float64_float64 l0 f1).bind fun t1 =>
  some (decide (t1 ≥ 0))


def T_matrix_Norm_1 (p0 : Nat) : Option Bool :=
  (some (fsub p0 p0)).bind fun t1 =>
  (some (!feq t1 (nf 0))).bind fun t2 =>
  some t2


def T_math_Float64bits (p0 : Nat) : Option Int :=
  cond (isNaN p0) none (some (p0 : Int))


def T_math_Float64frombits (q0 : Int) : Option Nat :=
  some (nf q0.toNat)


def T_math_Abs (p0 : Nat) : Option Nat :=
  some (nf (magF p0))


def T_round_way (q0 : Int) : Option Int :=
  cond (!(decide (q0 < 0)))
    (cond (decide (q0 > 3))
        (some 0)
        (some q0))
    (some 0)


def T_math_IsNaN (p0 : Nat) : Option Bool :=
  (some (!feq p0 p0)).bind fun t1 =>
  some t1


def T_math_IsInf (p0 : Nat) (q1 : Int) : Option Bool :=
  (cond (q1 == 0)
      ((T_math_Abs p0).bind fun t2 =>
        some t2)
      ((cond (decide (q1 < 0))
            ((some (nf (fneg p0))).bind fun t4 =>
              some t4)
            (some p0)).bind fun t3 =>
        some t3)).bind fun t1 =>
  (some (fgt t1 (nf 9218868437227405311))).bind fun t5 =>
  some t5

def T_round_finite_b2 (t1 : Int) (l0 : List Nat) : Int → Option (Int ⊕ (Unit ⊕ Bool)) := fun st => match st with
| t2 =>
  cond (decide (t2 < t1))
    ((atI l0 t2).bind fun t3 =>
      (T_math_IsNaN t3).bind fun t4 =>
      cond (!t4)
        ((T_math_IsInf t3 0).bind fun t5 =>
          cond t5
            (some (.inr (.inr false)))
            (some (.inl (IntKind.i64.wrap (t2 + 1)))))
        (some (.inr (.inr false))))
    (some (.inr (.inl ())))

def T_round_finite (l0 : List Nat) : Option Bool :=
  (some ((l0.length : Nat) : Int)).bind fun t1 =>
  ((iter (T_round_finite_b2 t1 l0) FU 0 : Option (Unit ⊕ Bool))).bind fun o => match o with
  | .inl () => some true
  | .inr v => some v


def T_math_Signbit (p0 : Nat) : Option Bool :=
  cond (isNaN p0) none (some (negF p0))


def T_math_Copysign (p0 : Nat) (p1 : Nat) : Option Nat :=
  cond (isNaN p1) none (some (nf ((if negF p1 then 9223372036854775808 else 0) + magF p0)))


def T_round_none (q0 : Int) : Option Nat :=
  cond (q0 == 1)
    ((T_math_Copysign (nf 0) (nf 13830554455654793216)).bind fun t1 =>
      some t1)
    (some (nf 0))


def T_round_step (p0 : Nat) (q1 : Bool) : Option Nat :=
  (T_math_Float64bits p0).bind fun t1 =>
  ((some (feq p0 (nf 0))).bind fun t3 =>
    (cond t3
        ((cond (!q1)
              (some (IntKind.u64.wrap (BitVec.ofInt IntKind.u64.bits 1 ||| BitVec.ofInt IntKind.u64.bits 9223372036854775808).toNat))
              (some 1)).bind fun t5 =>
          some t5)
        ((some (fgt p0 (nf 0))).bind fun t6 =>
          (cond (q1 == t6)
              (some (IntKind.u64.wrap (t1 + 1)))
              (some (IntKind.u64.wrap (t1 - 1)))).bind fun t7 =>
          some t7)).bind fun t4 =>
    some t4).bind fun t2 =>
  (T_math_Float64frombits t2).bind fun t8 =>
  some t8


def T_round_settle (p0 : Nat) (q1 : Int) (q2 : Int) : Option Nat :=
  (cond (q2 == 3)
      ((T_math_Signbit p0).bind fun t2 =>
        (cond t2
            (some 2)
            (some 1)).bind fun t3 =>
        some t3)
      (some q2)).bind fun t1 =>
  (T_math_IsInf p0 0).bind fun t4 =>
  cond t4
    ((some (fgt p0 (nf 0))).bind fun t5 =>
      cond t5
        (cond (!(t1 == 1))
            ((some (flt p0 (nf 0))).bind fun t6 =>
              cond t6
                (cond (t1 == 2)
                    ((T_math_Copysign (nf 9218868437227405311) p0).bind fun t7 =>
                      some t7)
                    (some p0))
                (some p0))
            ((T_math_Copysign (nf 9218868437227405311) p0).bind fun t8 =>
              some t8))
        ((some (flt p0 (nf 0))).bind fun t9 =>
          cond t9
            (cond (t1 == 2)
                ((T_math_Copysign (nf 9218868437227405311) p0).bind fun t10 =>
                  some t10)
                (some p0))
            (some p0)))
    (cond (decide (q1 < 0))
        (cond (!(t1 == 1))
            (cond (decide (q1 > 0))
                (cond (t1 == 2)
                    ((T_round_step p0 (decide (q1 > 0))).bind fun t11 =>
                      some t11)
                    (some p0))
                (some p0))
            ((T_round_step p0 (decide (q1 > 0))).bind fun t12 =>
              some t12))
        (cond (decide (q1 > 0))
            (cond (t1 == 2)
                ((T_round_step p0 (decide (q1 > 0))).bind fun t13 =>
                  some t13)
                (some p0))
            (some p0)))


def T_round_sign (p0 : Nat) : Option Int :=
  (some (fgt p0 (nf 0))).bind fun t1 =>
  cond t1
    (some 1)
    ((some (flt p0 (nf 0))).bind fun t2 =>
      cond t2
        (some (-1))
        (some 0))


def T_round_Add (p0 : Nat) (p1 : Nat) (q2 : Int) : Option Nat :=
  (T_round_way q2).bind fun t1 =>
  (some (fadd p0 p1)).bind fun t2 =>
  (some [p0, p1]).bind fun t3 =>
  (T_round_finite t3).bind fun t4 =>
  cond (!t4)
    (some t2)
    (((some (feq t2 (nf 0))).bind fun t6 =>
        cond t6
          ((some (!feq p0 (nf 0))).bind fun t7 =>
            cond (!t7)
              ((some (feq t2 (nf 0))).bind fun t8 =>
                cond t8
                  ((T_math_Signbit p0).bind fun t9 =>
                    (T_math_Signbit p1).bind fun t10 =>
                    some (!(t9 == t10)))
                  (some false))
              (some true))
          ((some (feq t2 (nf 0))).bind fun t11 =>
            cond t11
              ((T_math_Signbit p0).bind fun t12 =>
                (T_math_Signbit p1).bind fun t13 =>
                some (!(t12 == t13)))
              (some false))).bind fun t5 =>
      cond t5
        ((T_round_none t1).bind fun t14 =>
          some t14)
        ((some (feq t2 (nf 0))).bind fun t15 =>
          cond t15
            (some t2)
            ((T_math_IsInf t2 0).bind fun t16 =>
              cond t16
                ((T_round_settle t2 0 t1).bind fun t17 =>
                  some t17)
                ((T_math_Abs p0).bind fun t18 =>
                  (T_math_Abs p1).bind fun t19 =>
                  (some (flt t18 t19)).bind fun t20 =>
                  (cond t20
                      (some (p1, p0))
                      (some (p0, p1))).bind fun o => match o with
                  | (t21, t22) => 
                  (some (fsub t2 t21)).bind fun t23 =>
                  (some (fsub t22 t23)).bind fun t24 =>
                  (T_round_sign t24).bind fun t25 =>
                  (T_round_settle t2 t25 t1).bind fun t26 =>
                  some t26))))

def T_vector_Norm_b2 (t1 : Int) (l0 : List Nat) : (Nat × Int) → Option ((Nat × Int) ⊕ (Nat)) := fun st => match st with
| (t3, t4) =>
  cond (decide (t4 < t1))
    ((atI l0 t4).bind fun t5 =>
      (T_math_Abs t5).bind fun t6 =>
      (T_round_Add t3 t6 2).bind fun t7 =>
      some (.inl (t7, (IntKind.i64.wrap (t4 + 1)))))
    (some (.inr t3))

def T_vector_Norm (l0 : List Nat) : Option Nat :=
  (some ((l0.length : Nat) : Int)).bind fun t1 =>
  (iter (T_vector_Norm_b2 t1 l0) FU ((nf 0), 0)).bind fun t2 =>
  some t2

def T_matrix_Norm_b2 (q0_0 : Int) (l0_2 : List Nat) (q0_1 : Int) : (Nat × Int) → Option ((Nat × Int) ⊕ (Nat)) := fun st => match st with
| (t4, t5) =>
  cond (decide (t5 < q0_0))
    ((subL l0_2 (IntKind.i64.wrap (t5 * q0_1)) (IntKind.i64.wrap ((IntKind.i64.wrap (t5 + 1)) * q0_1))).bind fun t6 =>
      (T_vector_Norm t6).bind fun t7 =>
      (some (fmx true t4 t7)).bind fun t8 =>
      some (.inl (t8, (IntKind.i64.wrap (t5 + 1)))))
    (some (.inr t4))

def T_matrix_Norm (q0_0 : Int) (q0_1 : Int) (l0_2 : List Nat) : Option (Nat × Int) :=
  (T_matrix_Right q0_0 q0_1 l0_2).bind fun t1 =>
  cond (!t1)
    (some ((nf 0), 4))
    ((T_slices_ContainsFunc___float64_float64 l0_2 (fun v0 => T_matrix_Norm_1 v0)).bind fun t2 =>
      cond t2
        (some ((nf 0), 5))
        ((iter (T_matrix_Norm_b2 q0_0 l0_2 q0_1) FU ((nf 0), 0)).bind fun t3 =>
          some (t3, 0)))

def T_girderlaw10_finite_b2 (l0 : List Nat) : Int → Option (Int ⊕ (Unit ⊕ Bool)) := fun st => match st with
| t1 =>
  (some ((l0.length : Nat) : Int)).bind fun t2 =>
  cond (decide (t1 < t2))
    ((atI l0 t1).bind fun t3 =>
      (atI l0 t1).bind fun t4 =>
      (some (fsub t3 t4)).bind fun t5 =>
      (some (!feq t5 (nf 0))).bind fun t6 =>
      cond t6
        (some (.inr (.inr false)))
        (some (.inl (IntKind.i64.wrap (t1 + 1)))))
    (some (.inr (.inl ())))

def T_girderlaw10_finite (l0 : List Nat) : Option Bool :=
  ((iter (T_girderlaw10_finite_b2 l0) FU 0 : Option (Unit ⊕ Bool))).bind fun o => match o with
  | .inl () => some true
  | .inr v => some v

def T_matrix_Mul_1_b2 (q2_1 : Int) (l2_2 : List Nat) (q0 : Int) (l3_2 : List Nat) (q3_1 : Int) (q1 : Int) : (Nat × Int) → Option ((Nat × Int) ⊕ (Nat)) := fun st => match st with
| (t2, t3) =>
  cond (decide (t3 < q2_1))
    ((atI l2_2 (IntKind.i64.wrap ((IntKind.i64.wrap (q0 * q2_1)) + t3))).bind fun t4 =>
      (atI l3_2 (IntKind.i64.wrap ((IntKind.i64.wrap (t3 * q3_1)) + q1))).bind fun t5 =>
      (some (fmul t4 t5)).bind fun t6 =>
      (some (fadd t2 t6)).bind fun t7 =>
      some (.inl (t7, (IntKind.i64.wrap (t3 + 1)))))
    (some (.inr t2))

def T_matrix_Mul_1 (q0 : Int) (q1 : Int) (q2_0 : Int) (q2_1 : Int) (l2_2 : List Nat) (q3_0 : Int) (q3_1 : Int) (l3_2 : List Nat) : Option Nat :=
  (iter (T_matrix_Mul_1_b2 q2_1 l2_2 q0 l3_2 q3_1 q1) FU ((nf 0), 0)).bind fun t1 =>
  some t1

def T_matrix_laid_b9 (q1 : Int) (f2 : Int → Int → Option Nat) (t3 : Int) : (Int × List Nat) → Option ((Int × List Nat) ⊕ (List Nat)) := fun st => match st with
| (t6, t7) =>
  cond (decide (t6 < q1))
    ((f2 t3 t6).bind fun t8 =>
      (atI t7 (IntKind.i64.wrap ((IntKind.i64.wrap (t3 * q1)) + t6))).bind fun t9 =>
      (some (t7.set ((IntKind.i64.wrap ((IntKind.i64.wrap (t3 * q1)) + t6))).toNat t8)).bind fun t10 =>
      some (.inl ((IntKind.i64.wrap (t6 + 1)), t10)))
    (some (.inr t7))

def T_matrix_laid_b7 (q0 : Int) (q1 : Int) (f2 : Int → Int → Option Nat) : (Int × List Nat) → Option ((Int × List Nat) ⊕ (List Nat)) := fun st => match st with
| (t3, t4) =>
  cond (decide (t3 < q0))
    ((iter (T_matrix_laid_b9 q1 f2 t3) FU (0, t4)).bind fun t5 =>
      some (.inl ((IntKind.i64.wrap (t3 + 1)), t5)))
    (some (.inr t4))

def T_matrix_laid (q0 : Int) (q1 : Int) (f2 : Int → Int → Option Nat) : Option (Int × Int × List Nat) :=
  (mkL (nf 0) (IntKind.i64.wrap (q0 * q1)) (IntKind.i64.wrap (q0 * q1))).bind fun t1 =>
  (iter (T_matrix_laid_b7 q0 q1 f2) FU (0, t1)).bind fun t2 =>
  some (q0, q1, t2)


def T_matrix_Mul (q0_0 : Int) (q0_1 : Int) (l0_2 : List Nat) (q1_0 : Int) (q1_1 : Int) (l1_2 : List Nat) : Option (Int × Int × List Nat × Int) :=
  ((T_matrix_Right q0_0 q0_1 l0_2).bind fun t2 =>
    cond (!(!t2))
      ((T_matrix_Right q1_0 q1_1 l1_2).bind fun t3 =>
        cond (!(!t3))
          (some (q0_1 != q1_0))
          (some true))
      (some true)).bind fun t1 =>
  cond t1
    (some (0, 0, (List.map nf []), 4))
    ((T_matrix_laid q0_0 q1_1 (fun v0 v1 => T_matrix_Mul_1 v0 v1 q0_0 q0_1 l0_2 q1_0 q1_1 l1_2)).bind fun o => match o with
      | (t4, t5, t6) =>
      some (t4, t5, t6, 0))


def T_matrix_Apply (q0_0 : Int) (q0_1 : Int) (l0_2 : List Nat) (l1 : List Nat) : Option (List Nat × Int) :=
  (some ((l1.length : Nat) : Int)).bind fun t1 =>
  (T_matrix_Mul q0_0 q0_1 l0_2 t1 1 l1).bind fun o => match o with
  | (t2, t3, t4, t5) =>
  some (t4, t5)


def T_girderkit_SameFloat (p0 : Nat) (p1 : Nat) : Option Bool :=
  some (p0 == p1)

def T_girderkit_SameReals_b2 (l0 : List Nat) (l1 : List Nat) : Int → Option (Int ⊕ (Unit ⊕ Bool)) := fun st => match st with
| t3 =>
  (some ((l0.length : Nat) : Int)).bind fun t4 =>
  cond (decide (t3 < t4))
    ((atI l0 t3).bind fun t5 =>
      (atI l1 t3).bind fun t6 =>
      (T_girderkit_SameFloat t5 t6).bind fun t7 =>
      cond (!t7)
        (some (.inr (.inr false)))
        (some (.inl (IntKind.i64.wrap (t3 + 1)))))
    (some (.inr (.inl ())))

def T_girderkit_SameReals (l0 : List Nat) (l1 : List Nat) : Option Bool :=
  (some ((l0.length : Nat) : Int)).bind fun t1 =>
  (some ((l1.length : Nat) : Int)).bind fun t2 =>
  cond (t1 != t2)
    (some false)
    (((iter (T_girderkit_SameReals_b2 l0 l1) FU 0 : Option (Unit ⊕ Bool))).bind fun o => match o with
      | .inl () => some true
      | .inr v => some v)


def T_girderkit_SameMatrix (q0_0 : Int) (q0_1 : Int) (l0_2 : List Nat) (q1_0 : Int) (q1_1 : Int) (l1_2 : List Nat) : Option Bool :=
  cond (q0_0 == q1_0)
    (cond (q0_1 == q1_1)
        ((T_girderkit_SameReals l0_2 l1_2).bind fun t1 =>
          some t1)
        (some false))
    (some false)


def T_girderlaw10_is (q0_0 : Int) (q0_1 : Int) (l0_2 : List Nat) (q1 : Int) (q2_0 : Int) (q2_1 : Int) (l2_2 : List Nat) (q3 : Int) : Option Bool :=
  cond (q1 == q3)
    ((T_girderkit_SameMatrix q0_0 q0_1 l0_2 q2_0 q2_1 l2_2).bind fun t1 =>
      some t1)
    (some false)


def T_girderlaw10_awake  : Option Bool :=
  (some [(nf 4607182418800017408), (nf 4611686018427387904), (nf 4613937818241073152), (nf 4616189618054758400)]).bind fun t1 =>
  (T_girderlaw10_of 2 2 t1).bind fun o => match o with
  | (t2, t3, t4) =>
  (some [(nf 4617315517961601024), (nf 4618441417868443648), (nf 4619567317775286272), (nf 4620693217682128896)]).bind fun t5 =>
  (T_girderlaw10_of 2 2 t5).bind fun o => match o with
  | (t6, t7, t8) =>
  (T_matrix_Mul t2 t3 t1 t6 t7 t5).bind fun o => match o with
  | (t9, t10, t11, t12) =>
  (some [(nf 4607182418800017408), (nf 4611686018427387904), (nf 4613937818241073152), (nf 4616189618054758400)]).bind fun t13 =>
  (T_girderlaw10_of 2 2 t13).bind fun o => match o with
  | (t14, t15, t16) =>
  (some [(nf 4617315517961601024), (nf 4618441417868443648)]).bind fun t17 =>
  (T_matrix_Apply t14 t15 t13 t17).bind fun o => match o with
  | (t18, t19) =>
  (some [(nf 4626041242239631360), (nf 4626885667169763328), (nf 4631248529308778496), (nf 4632233691727265792)]).bind fun t20 =>
  (T_girderlaw10_of 2 2 t20).bind fun o => match o with
  | (t21, t22, t23) =>
  (T_girderlaw10_is t9 t10 t11 t12 t21 t22 t20 0).bind fun t24 =>
  cond t24
    (cond (t19 == 0)
        ((some [(nf 4625478292286210048), (nf 4630685579355357184)]).bind fun t25 =>
          (T_girderkit_SameReals t18 t25).bind fun t26 =>
          some t26)
        (some false))
    (some false)


def T_girderkit_CopyReals (l0 : List Nat) : Option (List Nat) :=
  (appL (List.map nf []) l0).bind fun t1 =>
  some t1

def T_girderlaw10_MatrixSizes_b7 (t2 : Int) (t3 : List Nat) (t13 : Int) (t19 : Nat) : Int → Option (Int ⊕ (Unit ⊕ Bool)) := fun st => match st with
| t23 =>
  cond (decide (t23 < t2))
    ((atI t3 (IntKind.i64.wrap ((IntKind.i64.wrap (t13 * t2)) + t23))).bind fun t24 =>
      (some (fgt t24 t19)).bind fun t25 =>
      cond (!t25)
        ((some (nf (fneg t24))).bind fun t26 =>
          (some (fgt t26 t19)).bind fun t27 =>
          cond t27
            (some (.inr (.inr false)))
            (some (.inl (IntKind.i64.wrap (t23 + 1)))))
        (some (.inr (.inr false))))
    (some (.inr (.inl ())))

def T_girderlaw10_MatrixSizes_b5 (t1 : Int) (t3 : List Nat) (t2 : Int) (t4 : Nat) : (Nat × Int) → Option ((Nat × Int) ⊕ (Nat ⊕ Bool)) := fun st => match st with
| (t12, t13) =>
  cond (decide (t13 < t1))
    ((subL t3 (IntKind.i64.wrap (t13 * t2)) (IntKind.i64.wrap ((IntKind.i64.wrap (t13 + 1)) * t2))).bind fun t14 =>
      (T_girderkit_CopyReals t14).bind fun t15 =>
      (T_girderlaw10_of 1 t2 t15).bind fun o => match o with
      | (t16, t17, t18) =>
      (T_matrix_Norm t16 t17 t15).bind fun o => match o with
      | (t19, t20) =>
      cond (!(t20 != 0))
        ((some (fgt t19 t4)).bind fun t21 =>
          cond t21
            (some (.inr (.inr false)))
            ((some (fmx true t12 t19)).bind fun t22 =>
              ((iter (T_girderlaw10_MatrixSizes_b7 t2 t3 t13 t19) FU 0 : Option (Unit ⊕ Bool))).bind fun o => match o with
              | .inl () => some (.inl (t22, (IntKind.i64.wrap (t13 + 1))))
              | .inr v => some (.inr (.inr v))))
        (some (.inr (.inr false))))
    (some (.inr (.inl t12)))

def T_girderlaw10_MatrixSizes_b9 (t29 : Int) (l3 : List Bool) : (Int × List Nat) → Option ((Int × List Nat) ⊕ (List Nat)) := fun st => match st with
| (t34, t35) =>
  cond (decide (t34 < t29))
    (((some [(nf 4607182418800017408)]).bind fun t37 =>
        (appL t35 t37).bind fun t38 =>
        (some ((l3.length : Nat) : Int)).bind fun t39 =>
        cond (decide (t34 < t39))
          ((atI l3 t34).bind fun t40 =>
            (cond t40
                ((atI t38 t34).bind fun t42 =>
                  (some (t38.set (t34).toNat (nf 13830554455654793216))).bind fun t43 =>
                  some t43)
                (some t38)).bind fun t41 =>
            some t41)
          ((some ()).bind fun _ =>
            some t38)).bind fun t36 =>
      some (.inl ((IntKind.i64.wrap (t34 + 1)), t36)))
    (some (.inr t35))

def T_girderlaw10_MatrixSizes_b11 (t44 : List Nat) (t31 : Nat) : Int → Option (Int ⊕ (Unit ⊕ Bool)) := fun st => match st with
| t48 =>
  (some ((t44.length : Nat) : Int)).bind fun t49 =>
  cond (decide (t48 < t49))
    ((atI t44 t48).bind fun t50 =>
      (some (fgt t50 t31)).bind fun t51 =>
      cond (!t51)
        ((atI t44 t48).bind fun t52 =>
          (some (nf (fneg t52))).bind fun t53 =>
          (some (fgt t53 t31)).bind fun t54 =>
          cond t54
            (some (.inr (.inr false)))
            (some (.inl (IntKind.i64.wrap (t48 + 1)))))
        (some (.inr (.inr false))))
    (some (.inr (.inl ())))

def T_girderlaw10_MatrixSizes (q0 : Int) (q1 : Int) (l2 : List Nat) (l3 : List Bool) : Option Bool :=
  (T_girderlaw10_laid q0 q1 l2 false).bind fun o => match o with
  | (t1, t2, t3) =>
  (T_matrix_Norm t1 t2 t3).bind fun o => match o with
  | (t4, t5) =>
  (T_girderlaw10_finite t3).bind fun t6 =>
  cond (!t6)
    (cond (t5 == 5)
        ((some (feq t4 (nf 0))).bind fun t7 =>
          cond t7
            ((T_girderlaw10_awake ).bind fun t8 =>
              some t8)
            (some false))
        (some false))
    ((cond (!(t5 != 0))
          ((some (fgt t4 (nf 0) || feq t4 (nf 0))).bind fun t10 =>
            some (!t10))
          (some true)).bind fun t9 =>
      cond t9
        (some false)
        (((iter (T_girderlaw10_MatrixSizes_b5 t1 t3 t2 t4) FU ((nf 0), 0) : Option (Nat ⊕ Bool))).bind fun o => match o with
          | .inl t11 => 
            ((T_girderlaw10_laid q0 q1 l2 true).bind fun o => match o with
              | (t28, t29, t30) =>
              (T_matrix_Norm t28 t29 t30).bind fun o => match o with
              | (t31, t32) =>
              (iter (T_girderlaw10_MatrixSizes_b9 t29 l3) FU (0, (List.map nf []))).bind fun t33 =>
              (T_matrix_Apply t28 t29 t30 t33).bind fun o => match o with
              | (t44, t45) =>
              (cond (!(t32 != 0))
                  (cond (!(t45 != 0))
                      ((some ((t44.length : Nat) : Int)).bind fun t47 =>
                        some (t47 != t28))
                      (some true))
                  (some true)).bind fun t46 =>
              cond t46
                (some false)
                (((iter (T_girderlaw10_MatrixSizes_b11 t44 t31) FU 0 : Option (Unit ⊕ Bool))).bind fun o => match o with
                  | .inl () => 
                    ((some (feq t11 t4)).bind fun t55 =>
                      cond t55
                        ((T_girderlaw10_awake ).bind fun t56 =>
                          some t56)
                        (some false))
                  | .inr v => some v))
          | .inr v => some v))

end Go.Eng
