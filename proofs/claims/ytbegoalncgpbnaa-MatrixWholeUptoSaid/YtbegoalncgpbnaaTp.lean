/-
  Functions of plain Lean beside functions of the program, printed by a program of the session. No condition.
-/
import Derived.Test.YtbegoalncgpbnaaHandP
set_option linter.unusedSimpArgs false
set_option linter.unnecessarySimpa false
set_option linter.unusedSectionVars false
set_option linter.unusedVariables false
set_option maxRecDepth 100000
namespace Go.Eng
open Go


def T_girderkit_Pick (q0 : Int) (q1 : Int) : Option Int :=
  cond (decide (q1 < 1))
    (some 0)
    ((nz q1).bind fun t2 =>
      (cond (decide ((q0.tmod q1) < 0))
          (some (IntKind.i64.wrap ((q0.tmod q1) + q1)))
          (some (q0.tmod q1))).bind fun t1 =>
      some t1)


def T_girderlaw10_of (q0 : Int) (q1 : Int) (l2 : List Nat) : Option (Int × Int × List Nat) :=
  some (q0, q1, l2)

def T_girderlaw10_laid_b2 (t3 : Int) (t4 : Int) (l2 : List Nat) (q3 : Bool) : (Int × List Nat) → Option ((Int × List Nat) ⊕ (List Nat)) := fun st => match st with
| (t7, t8) =>
  cond (decide (t7 < (IntKind.i64.wrap (t3 * t4))))
    ((some ((l2.length : Nat) : Int)).bind fun t9 =>
      (cond (decide (t9 > 0))
          ((some ((l2.length : Nat) : Int)).bind fun t11 =>
            (nz t11).bind fun t13 =>
            (atI l2 (t7.tmod t11)).bind fun t12 =>
            some t12)
          (some (nf 4607182418800017408))).bind fun t10 =>
      cond q3
        ((some (fgt t10 (nf 13875379345695965184) || feq t10 (nf 13875379345695965184))).bind fun t14 =>
          cond t14
            ((some (flt t10 (nf 4652007308841189376) || feq t10 (nf 4652007308841189376))).bind fun t15 =>
              (cond (!t15)
                  (some (nf 4613937818241073152))
                  (some t10)).bind fun t16 =>
              (cond q3
                  ((f2i t16 .i64).bind fun t18 =>
                    some (nf (FloatKind.f64.nearest t18)))
                  (some t16)).bind fun t17 =>
              (some [t17]).bind fun t19 =>
              (appL t8 t19).bind fun t20 =>
              some (.inl ((IntKind.i64.wrap (t7 + 1)), t20)))
            ((some (nf 4613937818241073152)).bind fun t21 =>
              (cond q3
                  ((f2i t21 .i64).bind fun t23 =>
                    some (nf (FloatKind.f64.nearest t23)))
                  (some t21)).bind fun t22 =>
              (some [t22]).bind fun t24 =>
              (appL t8 t24).bind fun t25 =>
              some (.inl ((IntKind.i64.wrap (t7 + 1)), t25))))
        ((some t10).bind fun t26 =>
          (cond q3
              ((f2i t26 .i64).bind fun t28 =>
                some (nf (FloatKind.f64.nearest t28)))
              (some t26)).bind fun t27 =>
          (some [t27]).bind fun t29 =>
          (appL t8 t29).bind fun t30 =>
          some (.inl ((IntKind.i64.wrap (t7 + 1)), t30))))
    (some (.inr t8))

def T_girderlaw10_laid (q0 : Int) (q1 : Int) (l2 : List Nat) (q3 : Bool) : Option (Int × Int × List Nat) :=
  (T_girderkit_Pick q0 7).bind fun t1 =>
  (T_girderkit_Pick q1 7).bind fun t2 =>
  (T_girderlaw10_of t1 t2 (List.map nf [])).bind fun o => match o with
  | (t3, t4, t5) =>
  (iter (T_girderlaw10_laid_b2 t3 t4 l2 q3) FU (0, (List.map nf []))).bind fun t6 =>
  some (t3, t4, t6)


def T_matrix_fits (q0 : Int) : Option Bool :=
  cond (decide (q0 ≥ 0))
    (some (decide (q0 ≤ 48)))
    (some false)


def T_matrix_Right (q0_0 : Int) (q0_1 : Int) (l0_2 : List Nat) : Option Bool :=
  (T_matrix_fits q0_0).bind fun t1 =>
  cond t1
    ((T_matrix_fits q0_1).bind fun t2 =>
      cond t2
        ((some ((l0_2.length : Nat) : Int)).bind fun t3 =>
          some (t3 == (IntKind.i64.wrap (q0_0 * q0_1))))
        (some false))
    (some false)

def T_matrix_Mul_1_b2 (q2_1 : Int) (l2_2 : List Nat) (q0 : Int) (l3_2 : List Nat) (q3_1 : Int) (q1 : Int) : (Nat × Int) → Option ((Nat × Int) ⊕ (Nat)) := fun st => match st with
| (t2, t3) =>
  cond (decide (t3 < q2_1))
    ((atI l2_2 (IntKind.i64.wrap ((IntKind.i64.wrap (q0 * q2_1)) + t3))).bind fun t4 =>
      (atI l3_2 (IntKind.i64.wrap ((IntKind.i64.wrap (t3 * q3_1)) + q1))).bind fun t5 =>
      (some (fmul t4 t5)).bind fun t6 =>
      (some (fadd t2 t6)).bind fun t7 =>
      some (.inl (t7, (IntKind.i64.wrap (t3 + 1)))))
    (some (.inr t2))

def T_matrix_Mul_1 (q0 : Int) (q1 : Int) (q2_0 : Int) (q2_1 : Int) (l2_2 : List Nat) (q3_0 : Int) (q3_1 : Int) (l3_2 : List Nat) : Option Nat :=
  (iter (T_matrix_Mul_1_b2 q2_1 l2_2 q0 l3_2 q3_1 q1) FU ((nf 0), 0)).bind fun t1 =>
  some t1

def T_matrix_laid_b9 (q1 : Int) (f2 : Int → Int → Option Nat) (t3 : Int) : (Int × List Nat) → Option ((Int × List Nat) ⊕ (List Nat)) := fun st => match st with
| (t6, t7) =>
  cond (decide (t6 < q1))
    ((f2 t3 t6).bind fun t8 =>
      (atI t7 (IntKind.i64.wrap ((IntKind.i64.wrap (t3 * q1)) + t6))).bind fun t9 =>
      (some (t7.set ((IntKind.i64.wrap ((IntKind.i64.wrap (t3 * q1)) + t6))).toNat t8)).bind fun t10 =>
      some (.inl ((IntKind.i64.wrap (t6 + 1)), t10)))
    (some (.inr t7))

def T_matrix_laid_b7 (q0 : Int) (q1 : Int) (f2 : Int → Int → Option Nat) : (Int × List Nat) → Option ((Int × List Nat) ⊕ (List Nat)) := fun st => match st with
| (t3, t4) =>
  cond (decide (t3 < q0))
    ((iter (T_matrix_laid_b9 q1 f2 t3) FU (0, t4)).bind fun t5 =>
      some (.inl ((IntKind.i64.wrap (t3 + 1)), t5)))
    (some (.inr t4))

def T_matrix_laid (q0 : Int) (q1 : Int) (f2 : Int → Int → Option Nat) : Option (Int × Int × List Nat) :=
  (mkL (nf 0) (IntKind.i64.wrap (q0 * q1)) (IntKind.i64.wrap (q0 * q1))).bind fun t1 =>
  (iter (T_matrix_laid_b7 q0 q1 f2) FU (0, t1)).bind fun t2 =>
  some (q0, q1, t2)


def T_matrix_Mul (q0_0 : Int) (q0_1 : Int) (l0_2 : List Nat) (q1_0 : Int) (q1_1 : Int) (l1_2 : List Nat) : Option (Int × Int × List Nat × Int) :=
  ((T_matrix_Right q0_0 q0_1 l0_2).bind fun t2 =>
    cond (!(!t2))
      ((T_matrix_Right q1_0 q1_1 l1_2).bind fun t3 =>
        cond (!(!t3))
          (some (q0_1 != q1_0))
          (some true))
      (some true)).bind fun t1 =>
  cond t1
    (some (0, 0, (List.map nf []), 4))
    ((T_matrix_laid q0_0 q1_1 (fun v0 v1 => T_matrix_Mul_1 v0 v1 q0_0 q0_1 l0_2 q1_0 q1_1 l1_2)).bind fun o => match o with
      | (t4, t5, t6) =>
      some (t4, t5, t6, 0))


def T_matrix_Make_1 (q0 : Int) (q1 : Int) : Option Nat :=
  some (nf 0)


def T_matrix_Make (q0 : Int) (q1 : Int) : Option (Int × Int × List Nat × Int) :=
  (T_matrix_fits q0).bind fun t1 =>
  cond (!(!t1))
    ((T_matrix_fits q1).bind fun t2 =>
      cond (!t2)
        (some (0, 0, (List.map nf []), 2))
        ((T_matrix_laid q0 q1 (fun v0 v1 => T_matrix_Make_1 v0 v1)).bind fun o => match o with
          | (t3, t4, t5) =>
          some (t3, t4, t5, 0)))
    (some (0, 0, (List.map nf []), 2))

def T_matrix_Identity_b2 (t1 : Int) (q0 : Int) : (Int × List Nat) → Option ((Int × List Nat) ⊕ (List Nat)) := fun st => match st with
| (t6, t7) =>
  cond (decide (t6 < t1))
    ((atI t7 (IntKind.i64.wrap ((IntKind.i64.wrap (t6 * q0)) + t6))).bind fun t8 =>
      (some (t7.set ((IntKind.i64.wrap ((IntKind.i64.wrap (t6 * q0)) + t6))).toNat (nf 4607182418800017408))).bind fun t9 =>
      some (.inl ((IntKind.i64.wrap (t6 + 1)), t9)))
    (some (.inr t7))

def T_matrix_Identity (q0 : Int) : Option (Int × Int × List Nat × Int) :=
  (T_matrix_Make q0 q0).bind fun o => match o with
  | (t1, t2, t3, t4) =>
  (iter (T_matrix_Identity_b2 t1 q0) FU (0, t3)).bind fun t5 =>
  some (t1, t2, t5, t4)


def T_matrix_Sub_1 (q0 : Int) (q1 : Int) (q2_0 : Int) (q2_1 : Int) (l2_2 : List Nat) (q3_0 : Int) (q3_1 : Int) (l3_2 : List Nat) : Option Nat :=
  (atI l2_2 (IntKind.i64.wrap ((IntKind.i64.wrap (q0 * q2_1)) + q1))).bind fun t1 =>
  (atI l3_2 (IntKind.i64.wrap ((IntKind.i64.wrap (q0 * q2_1)) + q1))).bind fun t2 =>
  (some (fsub t1 t2)).bind fun t3 =>
  some t3


def T_matrix_Sub (q0_0 : Int) (q0_1 : Int) (l0_2 : List Nat) (q1_0 : Int) (q1_1 : Int) (l1_2 : List Nat) : Option (Int × Int × List Nat × Int) :=
  ((T_matrix_Right q0_0 q0_1 l0_2).bind fun t2 =>
    cond (!(!t2))
      ((T_matrix_Right q1_0 q1_1 l1_2).bind fun t3 =>
        cond (!(!t3))
          (cond (!(q0_0 != q1_0))
              (some (q0_1 != q1_1))
              (some true))
          (some true))
      (some true)).bind fun t1 =>
  cond t1
    (some (0, 0, (List.map nf []), 4))
    ((T_matrix_laid q0_0 q0_1 (fun v0 v1 => T_matrix_Sub_1 v0 v1 q0_0 q0_1 l0_2 q1_0 q1_1 l1_2)).bind fun o => match o with
      | (t4, t5, t6) =>
      some (t4, t5, t6, 0))

def T_girderlaw10_finite_b2 (l0 : List Nat) : Int → Option (Int ⊕ (Unit ⊕ Bool)) := fun st => match st with
| t1 =>
  (some ((l0.length : Nat) : Int)).bind fun t2 =>
  cond (decide (t1 < t2))
    ((atI l0 t1).bind fun t3 =>
      (atI l0 t1).bind fun t4 =>
      (some (fsub t3 t4)).bind fun t5 =>
      (some (!feq t5 (nf 0))).bind fun t6 =>
      cond t6
        (some (.inr (.inr false)))
        (some (.inl (IntKind.i64.wrap (t1 + 1)))))
    (some (.inr (.inl ())))

def T_girderlaw10_finite (l0 : List Nat) : Option Bool :=
  ((iter (T_girderlaw10_finite_b2 l0) FU 0 : Option (Unit ⊕ Bool))).bind fun o => match o with
  | .inl () => some true
  | .inr v => some v


def T_math_Float64bits (p0 : Nat) : Option Int :=
  cond (isNaN p0) none (some (p0 : Int))


def T_girderkit_SameFloat (p0 : Nat) (p1 : Nat) : Option Bool :=
  some (p0 == p1)


def T_matrix_Apply (q0_0 : Int) (q0_1 : Int) (l0_2 : List Nat) (l1 : List Nat) : Option (List Nat × Int) :=
  (some ((l1.length : Nat) : Int)).bind fun t1 =>
  (T_matrix_Mul q0_0 q0_1 l0_2 t1 1 l1).bind fun o => match o with
  | (t2, t3, t4, t5) =>
  some (t4, t5)

def T_girderkit_SameReals_b2 (l0 : List Nat) (l1 : List Nat) : Int → Option (Int ⊕ (Unit ⊕ Bool)) := fun st => match st with
| t3 =>
  (some ((l0.length : Nat) : Int)).bind fun t4 =>
  cond (decide (t3 < t4))
    ((atI l0 t3).bind fun t5 =>
      (atI l1 t3).bind fun t6 =>
      (T_girderkit_SameFloat t5 t6).bind fun t7 =>
      cond (!t7)
        (some (.inr (.inr false)))
        (some (.inl (IntKind.i64.wrap (t3 + 1)))))
    (some (.inr (.inl ())))

def T_girderkit_SameReals (l0 : List Nat) (l1 : List Nat) : Option Bool :=
  (some ((l0.length : Nat) : Int)).bind fun t1 =>
  (some ((l1.length : Nat) : Int)).bind fun t2 =>
  cond (t1 != t2)
    (some false)
    (((iter (T_girderkit_SameReals_b2 l0 l1) FU 0 : Option (Unit ⊕ Bool))).bind fun o => match o with
      | .inl () => some true
      | .inr v => some v)


def T_girderkit_SameMatrix (q0_0 : Int) (q0_1 : Int) (l0_2 : List Nat) (q1_0 : Int) (q1_1 : Int) (l1_2 : List Nat) : Option Bool :=
  cond (q0_0 == q1_0)
    (cond (q0_1 == q1_1)
        ((T_girderkit_SameReals l0_2 l1_2).bind fun t1 =>
          some t1)
        (some false))
    (some false)


def T_girderlaw10_is (q0_0 : Int) (q0_1 : Int) (l0_2 : List Nat) (q1 : Int) (q2_0 : Int) (q2_1 : Int) (l2_2 : List Nat) (q3 : Int) : Option Bool :=
  cond (q1 == q3)
    ((T_girderkit_SameMatrix q0_0 q0_1 l0_2 q2_0 q2_1 l2_2).bind fun t1 =>
      some t1)
    (some false)


def T_girderlaw10_awake  : Option Bool :=
  (some [(nf 4607182418800017408), (nf 4611686018427387904), (nf 4613937818241073152), (nf 4616189618054758400)]).bind fun t1 =>
  (T_girderlaw10_of 2 2 t1).bind fun o => match o with
  | (t2, t3, t4) =>
  (some [(nf 4617315517961601024), (nf 4618441417868443648), (nf 4619567317775286272), (nf 4620693217682128896)]).bind fun t5 =>
  (T_girderlaw10_of 2 2 t5).bind fun o => match o with
  | (t6, t7, t8) =>
  (T_matrix_Mul t2 t3 t1 t6 t7 t5).bind fun o => match o with
  | (t9, t10, t11, t12) =>
  (some [(nf 4607182418800017408), (nf 4611686018427387904), (nf 4613937818241073152), (nf 4616189618054758400)]).bind fun t13 =>
  (T_girderlaw10_of 2 2 t13).bind fun o => match o with
  | (t14, t15, t16) =>
  (some [(nf 4617315517961601024), (nf 4618441417868443648)]).bind fun t17 =>
  (T_matrix_Apply t14 t15 t13 t17).bind fun o => match o with
  | (t18, t19) =>
  (some [(nf 4626041242239631360), (nf 4626885667169763328), (nf 4631248529308778496), (nf 4632233691727265792)]).bind fun t20 =>
  (T_girderlaw10_of 2 2 t20).bind fun o => match o with
  | (t21, t22, t23) =>
  (T_girderlaw10_is t9 t10 t11 t12 t21 t22 t20 0).bind fun t24 =>
  cond t24
    (cond (t19 == 0)
        ((some [(nf 4625478292286210048), (nf 4630685579355357184)]).bind fun t25 =>
          (T_girderkit_SameReals t18 t25).bind fun t26 =>
          some t26)
        (some false))
    (some false)

def T_girderlaw10_MatrixWhole_b41 (t5 : Int) (t3 : List Nat) (t30 : Int) (t2 : Int) (t34 : Int) (t6 : List Nat) (t9 : List Nat) (t8 : Int) (t31 : Int) : (Int × Int) → Option ((Int × Int) ⊕ (Int)) := fun st => match st with
| (t36, t37) =>
  cond (decide (t37 < t5))
    ((atI t3 (IntKind.i64.wrap ((IntKind.i64.wrap (t30 * t2)) + t34))).bind fun t38 =>
      (f2i t38 .i64).bind fun t39 =>
      (atI t6 (IntKind.i64.wrap ((IntKind.i64.wrap (t34 * t5)) + t37))).bind fun t40 =>
      (f2i t40 .i64).bind fun t41 =>
      (atI t9 (IntKind.i64.wrap ((IntKind.i64.wrap (t37 * t8)) + t31))).bind fun t42 =>
      (f2i t42 .i64).bind fun t43 =>
      some (.inl ((IntKind.i64.wrap (t36 + (IntKind.i64.wrap ((IntKind.i64.wrap (t39 * t41)) * t43)))), (IntKind.i64.wrap (t37 + 1)))))
    (some (.inr t36))

def T_girderlaw10_MatrixWhole_b39 (t4 : Int) (t5 : Int) (t3 : List Nat) (t30 : Int) (t2 : Int) (t6 : List Nat) (t9 : List Nat) (t8 : Int) (t31 : Int) : (Int × Int) → Option ((Int × Int) ⊕ (Int)) := fun st => match st with
| (t33, t34) =>
  cond (decide (t34 < t4))
    ((iter (T_girderlaw10_MatrixWhole_b41 t5 t3 t30 t2 t34 t6 t9 t8 t31) FU (t33, 0)).bind fun t35 =>
      some (.inl (t35, (IntKind.i64.wrap (t34 + 1)))))
    (some (.inr t33))

def T_girderlaw10_MatrixWhole_b34 (t8 : Int) (t4 : Int) (t5 : Int) (t3 : List Nat) (t30 : Int) (t2 : Int) (t6 : List Nat) (t9 : List Nat) (t20 : List Nat) (t24 : List Nat) : Int → Option (Int ⊕ (Unit ⊕ Bool)) := fun st => match st with
| t31 =>
  cond (decide (t31 < t8))
    ((iter (T_girderlaw10_MatrixWhole_b39 t4 t5 t3 t30 t2 t6 t9 t8 t31) FU (0, 0)).bind fun t32 =>
      (atI t20 (IntKind.i64.wrap ((IntKind.i64.wrap (t30 * t8)) + t31))).bind fun t44 =>
      (atI t24 (IntKind.i64.wrap ((IntKind.i64.wrap (t30 * t8)) + t31))).bind fun t45 =>
      (some (!feq t44 t45)).bind fun t46 =>
      cond (!t46)
        ((some (!feq t44 (nf (FloatKind.f64.nearest t32)))).bind fun t47 =>
          cond t47
            (some (.inr (.inr false)))
            (some (.inl (IntKind.i64.wrap (t31 + 1)))))
        (some (.inr (.inr false))))
    (some (.inr (.inl ())))

def T_girderlaw10_MatrixWhole_b23 (t1 : Int) (t8 : Int) (t4 : Int) (t5 : Int) (t3 : List Nat) (t2 : Int) (t6 : List Nat) (t9 : List Nat) (t20 : List Nat) (t24 : List Nat) : Int → Option (Int ⊕ (Unit ⊕ Bool)) := fun st => match st with
| t30 =>
  cond (decide (t30 < t1))
    (((iter (T_girderlaw10_MatrixWhole_b34 t8 t4 t5 t3 t30 t2 t6 t9 t20 t24) FU 0 : Option (Unit ⊕ Bool))).bind fun o => match o with
      | .inl () => some (.inl (IntKind.i64.wrap (t30 + 1)))
      | .inr v => some (.inr (.inr v)))
    (some (.inr (.inl ())))

def T_girderlaw10_MatrixWhole_b43 (t50 : List Nat) (t61 : List Nat) (t65 : List Nat) (t75 : Int) (t74 : List Nat) : Int → Option (Int ⊕ (Unit ⊕ Bool)) := fun st => match st with
| t76 =>
  (some ((t50.length : Nat) : Int)).bind fun t77 =>
  cond (decide (t76 < t77))
    ((T_girderlaw10_finite t50).bind fun t78 =>
      cond t78
        ((atI t61 t76).bind fun t79 =>
          (atI t50 t76).bind fun t80 =>
          (some (!feq t79 t80)).bind fun t81 =>
          cond (!t81)
            ((atI t65 t76).bind fun t82 =>
              (atI t50 t76).bind fun t83 =>
              (some (!feq t82 t83)).bind fun t84 =>
              cond (!t84)
                (cond (!(t75 != 0))
                    ((atI t74 t76).bind fun t85 =>
                      (T_girderkit_SameFloat t85 (nf 0)).bind fun t86 =>
                      cond (!t86)
                        (some (.inr (.inr false)))
                        (some (.inl (IntKind.i64.wrap (t76 + 1)))))
                    (some (.inr (.inr false))))
                (some (.inr (.inr false))))
            (some (.inr (.inr false))))
        (some (.inl (IntKind.i64.wrap (t76 + 1)))))
    (some (.inr (.inl ())))

def T_girderlaw10_MatrixWhole (q0 : Int) (q1 : Int) (q2 : Int) (q3 : Int) (l4 : List Nat) (l5 : List Nat) (l6 : List Nat) : Option Bool :=
  (T_girderlaw10_laid q0 q1 l4 true).bind fun o => match o with
  | (t1, t2, t3) =>
  (T_girderlaw10_laid q1 q2 l5 true).bind fun o => match o with
  | (t4, t5, t6) =>
  (T_girderlaw10_laid q2 q3 l6 true).bind fun o => match o with
  | (t7, t8, t9) =>
  (T_matrix_Mul t1 t2 t3 t4 t5 t6).bind fun o => match o with
  | (t10, t11, t12, t13) =>
  (T_matrix_Mul t4 t5 t6 t7 t8 t9).bind fun o => match o with
  | (t14, t15, t16, t17) =>
  (T_matrix_Mul t10 t11 t12 t7 t8 t9).bind fun o => match o with
  | (t18, t19, t20, t21) =>
  (T_matrix_Mul t1 t2 t3 t14 t15 t16).bind fun o => match o with
  | (t22, t23, t24, t25) =>
  (cond (!(t13 != 0))
      (cond (!(t17 != 0))
          (cond (!(t21 != 0))
              (cond (!(t25 != 0))
                  ((some ((t20.length : Nat) : Int)).bind fun t27 =>
                    (some ((t24.length : Nat) : Int)).bind fun t28 =>
                    cond (!(t27 != t28))
                      ((some ((t20.length : Nat) : Int)).bind fun t29 =>
                        some (t29 != (IntKind.i64.wrap (t1 * t8))))
                      (some true))
                  (some true))
              (some true))
          (some true))
      (some true)).bind fun t26 =>
  cond t26
    (some false)
    (((iter (T_girderlaw10_MatrixWhole_b23 t1 t8 t4 t5 t3 t2 t6 t9 t20 t24) FU 0 : Option (Unit ⊕ Bool))).bind fun o => match o with
      | .inl () => 
        ((T_girderlaw10_laid q0 q1 l4 false).bind fun o => match o with
          | (t48, t49, t50) =>
          (T_matrix_Identity t49).bind fun o => match o with
          | (t51, t52, t53, t54) =>
          (T_matrix_Identity t48).bind fun o => match o with
          | (t55, t56, t57, t58) =>
          (T_matrix_Mul t48 t49 t50 t51 t52 t53).bind fun o => match o with
          | (t59, t60, t61, t62) =>
          (T_matrix_Mul t55 t56 t57 t48 t49 t50).bind fun o => match o with
          | (t63, t64, t65, t66) =>
          (cond (!(t54 != 0))
              (cond (!(t58 != 0))
                  (cond (!(t62 != 0))
                      (cond (!(t66 != 0))
                          ((some ((t61.length : Nat) : Int)).bind fun t68 =>
                            (some ((t50.length : Nat) : Int)).bind fun t69 =>
                            cond (!(t68 != t69))
                              ((some ((t65.length : Nat) : Int)).bind fun t70 =>
                                (some ((t50.length : Nat) : Int)).bind fun t71 =>
                                some (t70 != t71))
                              (some true))
                          (some true))
                      (some true))
                  (some true))
              (some true)).bind fun t67 =>
          cond t67
            (some false)
            ((T_matrix_Sub t48 t49 t50 t48 t49 t50).bind fun o => match o with
              | (t72, t73, t74, t75) =>
              ((iter (T_girderlaw10_MatrixWhole_b43 t50 t61 t65 t75 t74) FU 0 : Option (Unit ⊕ Bool))).bind fun o => match o with
              | .inl () => 
                ((T_girderlaw10_awake ).bind fun t87 =>
                  some t87)
              | .inr v => some v))
      | .inr v => some v)


def T_matrix_Transpose_1 (q0 : Int) (q1 : Int) (q2_0 : Int) (q2_1 : Int) (l2_2 : List Nat) : Option Nat :=
  (atI l2_2 (IntKind.i64.wrap ((IntKind.i64.wrap (q1 * q2_1)) + q0))).bind fun t1 =>
  some t1


def T_matrix_Transpose (q0_0 : Int) (q0_1 : Int) (l0_2 : List Nat) : Option (Int × Int × List Nat × Int) :=
  (T_matrix_Right q0_0 q0_1 l0_2).bind fun t1 =>
  cond (!t1)
    (some (0, 0, (List.map nf []), 4))
    ((T_matrix_laid q0_1 q0_0 (fun v0 v1 => T_matrix_Transpose_1 v0 v1 q0_0 q0_1 l0_2)).bind fun o => match o with
      | (t2, t3, t4) =>
      some (t2, t3, t4, 0))

end Go.Eng
