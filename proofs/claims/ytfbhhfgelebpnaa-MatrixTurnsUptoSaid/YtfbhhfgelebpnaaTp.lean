/-
  Functions of plain Lean beside functions of the program, printed by a program of the session. No condition.
-/
import Derived.Test.YtfbhhfgelebpnaaHandP
set_option linter.unusedSimpArgs false
set_option linter.unusedVariables false
set_option maxRecDepth 100000
namespace Go.Eng
open Go


def T_girderkit_mark (q0 : Int) (q1 : Int) : Option Int :=
  some (IntKind.i64.wrap ((IntKind.i64.wrap (1000003 * (IntKind.i64.wrap (q0 + 7)))) + q1))


def T_girderkit_LentReals (l0 : List Nat) : Option (List Nat) :=
  cond (decide (l0.length ≤ 4294967000)) (some l0) none


def T_girderkit_LentMatrix (q0_0 : Int) (q0_1 : Int) (l0_2 : List Nat) : Option (Int × Int × List Nat) :=
  (T_girderkit_LentReals l0_2).bind fun t1 =>
  some (q0_0, q0_1, t1)


def T_matrix_fits (q0 : Int) : Option Bool :=
  cond (decide (q0 ≥ 0))
    (some (decide (q0 ≤ 48)))
    (some false)


def T_matrix_Right (q0_0 : Int) (q0_1 : Int) (l0_2 : List Nat) : Option Bool :=
  (T_matrix_fits q0_0).bind fun t1 =>
  cond t1
    ((T_matrix_fits q0_1).bind fun t2 =>
      cond t2
        ((some ((l0_2.length : Nat) : Int)).bind fun t3 =>
          some (t3 == (IntKind.i64.wrap (q0_0 * q0_1))))
        (some false))
    (some false)

def T_matrix_Mul_1_b2 (q2_1 : Int) (l2_2 : List Nat) (q0 : Int) (l3_2 : List Nat) (q3_1 : Int) (q1 : Int) : (Nat × Int) → Option ((Nat × Int) ⊕ (Nat)) := fun st => match st with
| (t2, t3) =>
  cond (decide (t3 < q2_1))
    ((atI l2_2 (IntKind.i64.wrap ((IntKind.i64.wrap (q0 * q2_1)) + t3))).bind fun t4 =>
      (atI l3_2 (IntKind.i64.wrap ((IntKind.i64.wrap (t3 * q3_1)) + q1))).bind fun t5 =>
      (some (fmul t4 t5)).bind fun t6 =>
      (some (fadd t2 t6)).bind fun t7 =>
      some (.inl (t7, (IntKind.i64.wrap (t3 + 1)))))
    (some (.inr t2))

def T_matrix_Mul_1 (q0 : Int) (q1 : Int) (q2_0 : Int) (q2_1 : Int) (l2_2 : List Nat) (q3_0 : Int) (q3_1 : Int) (l3_2 : List Nat) : Option Nat :=
  (iter (T_matrix_Mul_1_b2 q2_1 l2_2 q0 l3_2 q3_1 q1) FU ((nf 0), 0)).bind fun t1 =>
  some t1

def T_matrix_laid_b14 (q1 : Int) (f2 : Int → Int → Option Nat) (t3 : Int) : (Int × List Nat) → Option ((Int × List Nat) ⊕ (List Nat)) := fun st => match st with
| (t6, t7) =>
  cond (decide (t6 < q1))
    ((f2 t3 t6).bind fun t8 =>
      (atI t7 (IntKind.i64.wrap ((IntKind.i64.wrap (t3 * q1)) + t6))).bind fun t9 =>
      (some (t7.set ((IntKind.i64.wrap ((IntKind.i64.wrap (t3 * q1)) + t6))).toNat t8)).bind fun t10 =>
      some (.inl ((IntKind.i64.wrap (t6 + 1)), t10)))
    (some (.inr t7))

def T_matrix_laid_b12 (q0 : Int) (q1 : Int) (f2 : Int → Int → Option Nat) : (Int × List Nat) → Option ((Int × List Nat) ⊕ (List Nat)) := fun st => match st with
| (t3, t4) =>
  cond (decide (t3 < q0))
    ((iter (T_matrix_laid_b14 q1 f2 t3) FU (0, t4)).bind fun t5 =>
      some (.inl ((IntKind.i64.wrap (t3 + 1)), t5)))
    (some (.inr t4))

def T_matrix_laid (q0 : Int) (q1 : Int) (f2 : Int → Int → Option Nat) : Option (Int × Int × List Nat) :=
  (mkL (nf 0) (IntKind.i64.wrap (q0 * q1)) (IntKind.i64.wrap (q0 * q1))).bind fun t1 =>
  (iter (T_matrix_laid_b12 q0 q1 f2) FU (0, t1)).bind fun t2 =>
  some (q0, q1, t2)


def T_matrix_Mul (q0_0 : Int) (q0_1 : Int) (l0_2 : List Nat) (q1_0 : Int) (q1_1 : Int) (l1_2 : List Nat) : Option (Int × Int × List Nat × Int) :=
  ((T_matrix_Right q0_0 q0_1 l0_2).bind fun t2 =>
    cond (!(!t2))
      ((T_matrix_Right q1_0 q1_1 l1_2).bind fun t3 =>
        cond (!(!t3))
          (some (q0_1 != q1_0))
          (some true))
      (some true)).bind fun t1 =>
  cond t1
    (some (0, 0, (List.map nf []), 4))
    ((T_matrix_laid q0_0 q1_1 (fun v0 v1 => T_matrix_Mul_1 v0 v1 q0_0 q0_1 l0_2 q1_0 q1_1 l1_2)).bind fun o => match o with
      | (t4, t5, t6) =>
      some (t4, t5, t6, 0))


def T_girderref10_may (q0 : Int) : Option Bool :=
  cond (decide (q0 ≥ 0))
    (some (decide (q0 ≤ 48)))
    (some false)


def T_girderref10_Right (q0_0 : Int) (q0_1 : Int) (l0_2 : List Nat) : Option Bool :=
  (T_girderref10_may q0_0).bind fun t1 =>
  cond t1
    ((T_girderref10_may q0_1).bind fun t2 =>
      cond t2
        ((some ((l0_2.length : Nat) : Int)).bind fun t3 =>
          some (t3 == (IntKind.i64.wrap (q0_0 * q0_1))))
        (some false))
    (some false)


def T_girderref10_Make (q0 : Int) (q1 : Int) : Option (Int × Int × List Nat × Int) :=
  (T_girderref10_may q0).bind fun t1 =>
  cond (!(!t1))
    ((T_girderref10_may q1).bind fun t2 =>
      cond (!t2)
        (some (0, 0, (List.map nf []), 2))
        ((mkL (nf 0) (IntKind.i64.wrap (q0 * q1)) (IntKind.i64.wrap (q0 * q1))).bind fun t3 =>
          some (q0, q1, t3, 0)))
    (some (0, 0, (List.map nf []), 2))


def T_girderref10_At (q0_0 : Int) (q0_1 : Int) (l0_2 : List Nat) (q1 : Int) (q2 : Int) : Option Nat :=
  (atI l0_2 (IntKind.i64.wrap ((IntKind.i64.wrap (q1 * q0_1)) + q2))).bind fun t1 =>
  some t1

def T_girderref10_Mul_b110 (q0_1 : Int) (q0_0 : Int) (l0_2 : List Nat) (t9 : Int) (q1_0 : Int) (q1_1 : Int) (l1_2 : List Nat) (t12 : Int) : (Nat × Int) → Option ((Nat × Int) ⊕ (Nat)) := fun st => match st with
| (t15, t16) =>
  cond (decide (t16 < q0_1))
    ((T_girderref10_At q0_0 q0_1 l0_2 t9 t16).bind fun t17 =>
      (T_girderref10_At q1_0 q1_1 l1_2 t16 t12).bind fun t18 =>
      (some (fmul t17 t18)).bind fun t19 =>
      (some (fadd t15 t19)).bind fun t20 =>
      some (.inl (t20, (IntKind.i64.wrap (t16 + 1)))))
    (some (.inr t15))

def T_girderref10_Mul_b108 (q1_1 : Int) (q0_1 : Int) (q0_0 : Int) (l0_2 : List Nat) (t9 : Int) (q1_0 : Int) (l1_2 : List Nat) : (Int × List Nat) → Option ((Int × List Nat) ⊕ (List Nat)) := fun st => match st with
| (t12, t13) =>
  cond (decide (t12 < q1_1))
    ((iter (T_girderref10_Mul_b110 q0_1 q0_0 l0_2 t9 q1_0 q1_1 l1_2 t12) FU ((nf 0), 0)).bind fun t14 =>
      (atI t13 (IntKind.i64.wrap ((IntKind.i64.wrap (t9 * q1_1)) + t12))).bind fun t21 =>
      (some (t13.set ((IntKind.i64.wrap ((IntKind.i64.wrap (t9 * q1_1)) + t12))).toNat t14)).bind fun t22 =>
      some (.inl ((IntKind.i64.wrap (t12 + 1)), t22)))
    (some (.inr t13))

def T_girderref10_Mul_b92 (q0_0 : Int) (q1_1 : Int) (q0_1 : Int) (l0_2 : List Nat) (q1_0 : Int) (l1_2 : List Nat) : (Int × List Nat) → Option ((Int × List Nat) ⊕ (List Nat)) := fun st => match st with
| (t9, t10) =>
  cond (decide (t9 < q0_0))
    ((iter (T_girderref10_Mul_b108 q1_1 q0_1 q0_0 l0_2 t9 q1_0 l1_2) FU (0, t10)).bind fun t11 =>
      some (.inl ((IntKind.i64.wrap (t9 + 1)), t11)))
    (some (.inr t10))

def T_girderref10_Mul (q0_0 : Int) (q0_1 : Int) (l0_2 : List Nat) (q1_0 : Int) (q1_1 : Int) (l1_2 : List Nat) : Option (Int × Int × List Nat × Int) :=
  ((T_girderref10_Right q0_0 q0_1 l0_2).bind fun t2 =>
    cond (!(!t2))
      ((T_girderref10_Right q1_0 q1_1 l1_2).bind fun t3 =>
        cond (!(!t3))
          (some (q0_1 != q1_0))
          (some true))
      (some true)).bind fun t1 =>
  cond t1
    (some (0, 0, (List.map nf []), 4))
    ((T_girderref10_Make q0_0 q1_1).bind fun o => match o with
      | (t4, t5, t6, t7) =>
      (iter (T_girderref10_Mul_b92 q0_0 q1_1 q0_1 l0_2 q1_0 l1_2) FU (0, t6)).bind fun t8 =>
      some (t4, t5, t8, 0))


def T_matrix_Apply (q0_0 : Int) (q0_1 : Int) (l0_2 : List Nat) (l1 : List Nat) : Option (List Nat × Int) :=
  (some ((l1.length : Nat) : Int)).bind fun t1 =>
  (T_matrix_Mul q0_0 q0_1 l0_2 t1 1 l1).bind fun o => match o with
  | (t2, t3, t4, t5) =>
  some (t4, t5)

def T_girderref10_Apply_b14 (q0_1 : Int) (l1 : List Nat) (q0_0 : Int) (l0_2 : List Nat) (t5 : Int) : (Nat × Int) → Option ((Nat × Int) ⊕ (Nat)) := fun st => match st with
| (t8, t9) =>
  cond (decide (t9 < q0_1))
    ((atI l1 t9).bind fun t10 =>
      (T_girderref10_At q0_0 q0_1 l0_2 t5 t9).bind fun t11 =>
      (some (fmul t11 t10)).bind fun t12 =>
      (some (fadd t8 t12)).bind fun t13 =>
      some (.inl (t13, (IntKind.i64.wrap (t9 + 1)))))
    (some (.inr t8))

def T_girderref10_Apply_b12 (q0_0 : Int) (q0_1 : Int) (l1 : List Nat) (l0_2 : List Nat) : (Int × List Nat) → Option ((Int × List Nat) ⊕ (List Nat)) := fun st => match st with
| (t5, t6) =>
  cond (decide (t5 < q0_0))
    ((iter (T_girderref10_Apply_b14 q0_1 l1 q0_0 l0_2 t5) FU ((nf 0), 0)).bind fun t7 =>
      (some [t7]).bind fun t14 =>
      (appL t6 t14).bind fun t15 =>
      some (.inl ((IntKind.i64.wrap (t5 + 1)), t15)))
    (some (.inr t6))

def T_girderref10_Apply (q0_0 : Int) (q0_1 : Int) (l0_2 : List Nat) (l1 : List Nat) : Option (List Nat × Int) :=
  ((T_girderref10_Right q0_0 q0_1 l0_2).bind fun t2 =>
    cond (!(!t2))
      ((some ((l1.length : Nat) : Int)).bind fun t3 =>
        some (t3 != q0_1))
      (some true)).bind fun t1 =>
  cond t1
    (some ((List.map nf []), 4))
    ((iter (T_girderref10_Apply_b12 q0_0 q0_1 l1 l0_2) FU (0, (List.map nf []))).bind fun t4 =>
      some (t4, 0))


def T_math_Float64bits (p0 : Nat) : Option Int :=
  cond (isNaN p0) none (some (p0 : Int))


def T_girderkit_SameFloat (p0 : Nat) (p1 : Nat) : Option Bool :=
  some (p0 == p1)

def T_girderkit_SameReals_b2 (l0 : List Nat) (l1 : List Nat) : Int → Option (Int ⊕ (Unit ⊕ Bool)) := fun st => match st with
| t3 =>
  (some ((l0.length : Nat) : Int)).bind fun t4 =>
  cond (decide (t3 < t4))
    ((atI l0 t3).bind fun t5 =>
      (atI l1 t3).bind fun t6 =>
      (T_girderkit_SameFloat t5 t6).bind fun t7 =>
      cond (!t7)
        (some (.inr (.inr false)))
        (some (.inl (IntKind.i64.wrap (t3 + 1)))))
    (some (.inr (.inl ())))

def T_girderkit_SameReals (l0 : List Nat) (l1 : List Nat) : Option Bool :=
  (some ((l0.length : Nat) : Int)).bind fun t1 =>
  (some ((l1.length : Nat) : Int)).bind fun t2 =>
  cond (t1 != t2)
    (some false)
    (((iter (T_girderkit_SameReals_b2 l0 l1) FU 0 : Option (Unit ⊕ Bool))).bind fun o => match o with
      | .inl () => some true
      | .inr v => some v)


def T_girderkit_SameMatrix (q0_0 : Int) (q0_1 : Int) (l0_2 : List Nat) (q1_0 : Int) (q1_1 : Int) (l1_2 : List Nat) : Option Bool :=
  cond (q0_0 == q1_0)
    (cond (q0_1 == q1_1)
        ((T_girderkit_SameReals l0_2 l1_2).bind fun t1 =>
          some t1)
        (some false))
    (some false)


def T_girderlaw10_is (q0_0 : Int) (q0_1 : Int) (l0_2 : List Nat) (q1 : Int) (q2_0 : Int) (q2_1 : Int) (l2_2 : List Nat) (q3 : Int) : Option Bool :=
  cond (q1 == q3)
    ((T_girderkit_SameMatrix q0_0 q0_1 l0_2 q2_0 q2_1 l2_2).bind fun t1 =>
      some t1)
    (some false)


def T_girderkit_KeptReals (l0 : List Nat) (l1 : List Nat) : Option Bool :=
  cond (decide (l1.length ≤ 4294967000)) (some true) none


def T_girderkit_KeptMatrix (q0_0 : Int) (q0_1 : Int) (l0_2 : List Nat) (q1_0 : Int) (q1_1 : Int) (l1_2 : List Nat) : Option Bool :=
  (T_girderkit_SameMatrix q0_0 q0_1 l0_2 q1_0 q1_1 l1_2).bind fun t1 =>
  cond t1
    ((T_girderkit_KeptReals l0_2 l1_2).bind fun t2 =>
      some t2)
    (some false)


def T_girderlaw10_of (q0 : Int) (q1 : Int) (l2 : List Nat) : Option (Int × Int × List Nat) :=
  some (q0, q1, l2)


def T_girderlaw10_awake  : Option Bool :=
  (some [(nf 4607182418800017408), (nf 4611686018427387904), (nf 4613937818241073152), (nf 4616189618054758400)]).bind fun t1 =>
  (T_girderlaw10_of 2 2 t1).bind fun o => match o with
  | (t2, t3, t4) =>
  (some [(nf 4617315517961601024), (nf 4618441417868443648), (nf 4619567317775286272), (nf 4620693217682128896)]).bind fun t5 =>
  (T_girderlaw10_of 2 2 t5).bind fun o => match o with
  | (t6, t7, t8) =>
  (T_matrix_Mul t2 t3 t1 t6 t7 t5).bind fun o => match o with
  | (t9, t10, t11, t12) =>
  (some [(nf 4607182418800017408), (nf 4611686018427387904), (nf 4613937818241073152), (nf 4616189618054758400)]).bind fun t13 =>
  (T_girderlaw10_of 2 2 t13).bind fun o => match o with
  | (t14, t15, t16) =>
  (some [(nf 4617315517961601024), (nf 4618441417868443648)]).bind fun t17 =>
  (T_matrix_Apply t14 t15 t13 t17).bind fun o => match o with
  | (t18, t19) =>
  (some [(nf 4626041242239631360), (nf 4626885667169763328), (nf 4631248529308778496), (nf 4632233691727265792)]).bind fun t20 =>
  (T_girderlaw10_of 2 2 t20).bind fun o => match o with
  | (t21, t22, t23) =>
  (T_girderlaw10_is t9 t10 t11 t12 t21 t22 t20 0).bind fun t24 =>
  cond t24
    (cond (t19 == 0)
        ((some [(nf 4625478292286210048), (nf 4630685579355357184)]).bind fun t25 =>
          (T_girderkit_SameReals t18 t25).bind fun t26 =>
          some t26)
        (some false))
    (some false)


def T_girderlaw10_MatrixTimes (q0_0 : Int) (q0_1 : Int) (l0_2 : List Nat) (q1_0 : Int) (q1_1 : Int) (l1_2 : List Nat) (l2 : List Nat) : Option Bool :=
  ((T_girderkit_LentMatrix q0_0 q0_1 l0_2).bind fun o => match o with
    | (t8, t9, t10) =>
    (T_girderkit_LentMatrix q1_0 q1_1 l1_2).bind fun o => match o with
    | (t11, t12, t13) =>
    (T_girderkit_LentReals l2).bind fun t14 =>
    some (t11, t12, t8, t9, t14, t13, t10)).bind fun o => match o with
  | (t1, t2, t3, t4, t5, t6, t7) => 
  (T_matrix_Mul t3 t4 t7 t1 t2 t6).bind fun o => match o with
  | (t15, t16, t17, t18) =>
  (T_girderref10_Mul q0_0 q0_1 l0_2 q1_0 q1_1 l1_2).bind fun o => match o with
  | (t19, t20, t21, t22) =>
  (T_matrix_Apply t3 t4 t7 t5).bind fun o => match o with
  | (t23, t24) =>
  (T_girderref10_Apply q0_0 q0_1 l0_2 l2).bind fun o => match o with
  | (t25, t26) =>
  (T_girderlaw10_is t15 t16 t17 t18 t19 t20 t21 t22).bind fun t27 =>
  cond t27
    ((T_girderkit_SameReals t23 t25).bind fun t28 =>
      cond t28
        (cond (t24 == t26)
            ((T_girderkit_KeptMatrix t3 t4 t7 q0_0 q0_1 l0_2).bind fun t29 =>
              cond t29
                ((T_girderkit_KeptMatrix t1 t2 t6 q1_0 q1_1 l1_2).bind fun t30 =>
                  cond t30
                    ((T_girderkit_KeptReals t5 l2).bind fun t31 =>
                      cond t31
                        ((T_girderlaw10_awake ).bind fun t32 =>
                          some t32)
                        (some false))
                    (some false))
                (some false))
            (some false))
        (some false))
    (some false)


def T_girderkit_Pick (q0 : Int) (q1 : Int) : Option Int :=
  cond (decide (q1 < 1))
    (some 0)
    ((nz q1).bind fun t2 =>
      (cond (decide ((q0.tmod q1) < 0))
          (some (IntKind.i64.wrap ((q0.tmod q1) + q1)))
          (some (q0.tmod q1))).bind fun t1 =>
      some t1)

def T_girderlaw10_laid_b2 (t3 : Int) (t4 : Int) (l2 : List Nat) (q3 : Bool) : (Int × List Nat) → Option ((Int × List Nat) ⊕ (List Nat)) := fun st => match st with
| (t7, t8) =>
  cond (decide (t7 < (IntKind.i64.wrap (t3 * t4))))
    ((some ((l2.length : Nat) : Int)).bind fun t9 =>
      (cond (decide (t9 > 0))
          ((some ((l2.length : Nat) : Int)).bind fun t11 =>
            (nz t11).bind fun t13 =>
            (atI l2 (t7.tmod t11)).bind fun t12 =>
            some t12)
          (some (nf 4607182418800017408))).bind fun t10 =>
      cond q3
        ((some (fgt t10 (nf 13875379345695965184) || feq t10 (nf 13875379345695965184))).bind fun t14 =>
          cond t14
            ((some (flt t10 (nf 4652007308841189376) || feq t10 (nf 4652007308841189376))).bind fun t15 =>
              (cond (!t15)
                  (some (nf 4613937818241073152))
                  (some t10)).bind fun t16 =>
              (cond q3
                  ((f2i t16 .i64).bind fun t18 =>
                    some (nf (FloatKind.f64.nearest t18)))
                  (some t16)).bind fun t17 =>
              (some [t17]).bind fun t19 =>
              (appL t8 t19).bind fun t20 =>
              some (.inl ((IntKind.i64.wrap (t7 + 1)), t20)))
            ((some (nf 4613937818241073152)).bind fun t21 =>
              (cond q3
                  ((f2i t21 .i64).bind fun t23 =>
                    some (nf (FloatKind.f64.nearest t23)))
                  (some t21)).bind fun t22 =>
              (some [t22]).bind fun t24 =>
              (appL t8 t24).bind fun t25 =>
              some (.inl ((IntKind.i64.wrap (t7 + 1)), t25))))
        ((some t10).bind fun t26 =>
          (cond q3
              ((f2i t26 .i64).bind fun t28 =>
                some (nf (FloatKind.f64.nearest t28)))
              (some t26)).bind fun t27 =>
          (some [t27]).bind fun t29 =>
          (appL t8 t29).bind fun t30 =>
          some (.inl ((IntKind.i64.wrap (t7 + 1)), t30))))
    (some (.inr t8))

def T_girderlaw10_laid (q0 : Int) (q1 : Int) (l2 : List Nat) (q3 : Bool) : Option (Int × Int × List Nat) :=
  (T_girderkit_Pick q0 7).bind fun t1 =>
  (T_girderkit_Pick q1 7).bind fun t2 =>
  (T_girderlaw10_of t1 t2 (List.map nf [])).bind fun o => match o with
  | (t3, t4, t5) =>
  (iter (T_girderlaw10_laid_b2 t3 t4 l2 q3) FU (0, (List.map nf []))).bind fun t6 =>
  some (t3, t4, t6)


def T_matrix_Make_1 (q0 : Int) (q1 : Int) : Option Nat :=
  some (nf 0)


def T_matrix_Make (q0 : Int) (q1 : Int) : Option (Int × Int × List Nat × Int) :=
  (T_matrix_fits q0).bind fun t1 =>
  cond (!(!t1))
    ((T_matrix_fits q1).bind fun t2 =>
      cond (!t2)
        (some (0, 0, (List.map nf []), 2))
        ((T_matrix_laid q0 q1 (fun v0 v1 => T_matrix_Make_1 v0 v1)).bind fun o => match o with
          | (t3, t4, t5) =>
          some (t3, t4, t5, 0)))
    (some (0, 0, (List.map nf []), 2))

def T_matrix_Identity_b2 (t1 : Int) (q0 : Int) : (Int × List Nat) → Option ((Int × List Nat) ⊕ (List Nat)) := fun st => match st with
| (t6, t7) =>
  cond (decide (t6 < t1))
    ((atI t7 (IntKind.i64.wrap ((IntKind.i64.wrap (t6 * q0)) + t6))).bind fun t8 =>
      (some (t7.set ((IntKind.i64.wrap ((IntKind.i64.wrap (t6 * q0)) + t6))).toNat (nf 4607182418800017408))).bind fun t9 =>
      some (.inl ((IntKind.i64.wrap (t6 + 1)), t9)))
    (some (.inr t7))

def T_matrix_Identity (q0 : Int) : Option (Int × Int × List Nat × Int) :=
  (T_matrix_Make q0 q0).bind fun o => match o with
  | (t1, t2, t3, t4) =>
  (iter (T_matrix_Identity_b2 t1 q0) FU (0, t3)).bind fun t5 =>
  some (t1, t2, t5, t4)


def T_matrix_Sub_1 (q0 : Int) (q1 : Int) (q2_0 : Int) (q2_1 : Int) (l2_2 : List Nat) (q3_0 : Int) (q3_1 : Int) (l3_2 : List Nat) : Option Nat :=
  (atI l2_2 (IntKind.i64.wrap ((IntKind.i64.wrap (q0 * q2_1)) + q1))).bind fun t1 =>
  (atI l3_2 (IntKind.i64.wrap ((IntKind.i64.wrap (q0 * q2_1)) + q1))).bind fun t2 =>
  (some (fsub t1 t2)).bind fun t3 =>
  some t3


def T_matrix_Sub (q0_0 : Int) (q0_1 : Int) (l0_2 : List Nat) (q1_0 : Int) (q1_1 : Int) (l1_2 : List Nat) : Option (Int × Int × List Nat × Int) :=
  ((T_matrix_Right q0_0 q0_1 l0_2).bind fun t2 =>
    cond (!(!t2))
      ((T_matrix_Right q1_0 q1_1 l1_2).bind fun t3 =>
        cond (!(!t3))
          (cond (!(q0_0 != q1_0))
              (some (q0_1 != q1_1))
              (some true))
          (some true))
      (some true)).bind fun t1 =>
  cond t1
    (some (0, 0, (List.map nf []), 4))
    ((T_matrix_laid q0_0 q0_1 (fun v0 v1 => T_matrix_Sub_1 v0 v1 q0_0 q0_1 l0_2 q1_0 q1_1 l1_2)).bind fun o => match o with
      | (t4, t5, t6) =>
      some (t4, t5, t6, 0))

def T_girderlaw10_finite_b2 (l0 : List Nat) : Int → Option (Int ⊕ (Unit ⊕ Bool)) := fun st => match st with
| t1 =>
  (some ((l0.length : Nat) : Int)).bind fun t2 =>
  cond (decide (t1 < t2))
    ((atI l0 t1).bind fun t3 =>
      (atI l0 t1).bind fun t4 =>
      (some (fsub t3 t4)).bind fun t5 =>
      (some (!feq t5 (nf 0))).bind fun t6 =>
      cond t6
        (some (.inr (.inr false)))
        (some (.inl (IntKind.i64.wrap (t1 + 1)))))
    (some (.inr (.inl ())))

def T_girderlaw10_finite (l0 : List Nat) : Option Bool :=
  ((iter (T_girderlaw10_finite_b2 l0) FU 0 : Option (Unit ⊕ Bool))).bind fun o => match o with
  | .inl () => some true
  | .inr v => some v

def T_girderlaw10_MatrixWhole_b170 (t5 : Int) (t3 : List Nat) (t30 : Int) (t2 : Int) (t34 : Int) (t6 : List Nat) (t9 : List Nat) (t8 : Int) (t31 : Int) : (Int × Int) → Option ((Int × Int) ⊕ (Int)) := fun st => match st with
| (t36, t37) =>
  cond (decide (t37 < t5))
    ((atI t3 (IntKind.i64.wrap ((IntKind.i64.wrap (t30 * t2)) + t34))).bind fun t38 =>
      (f2i t38 .i64).bind fun t39 =>
      (atI t6 (IntKind.i64.wrap ((IntKind.i64.wrap (t34 * t5)) + t37))).bind fun t40 =>
      (f2i t40 .i64).bind fun t41 =>
      (atI t9 (IntKind.i64.wrap ((IntKind.i64.wrap (t37 * t8)) + t31))).bind fun t42 =>
      (f2i t42 .i64).bind fun t43 =>
      some (.inl ((IntKind.i64.wrap (t36 + (IntKind.i64.wrap ((IntKind.i64.wrap (t39 * t41)) * t43)))), (IntKind.i64.wrap (t37 + 1)))))
    (some (.inr t36))

def T_girderlaw10_MatrixWhole_b168 (t4 : Int) (t5 : Int) (t3 : List Nat) (t30 : Int) (t2 : Int) (t6 : List Nat) (t9 : List Nat) (t8 : Int) (t31 : Int) : (Int × Int) → Option ((Int × Int) ⊕ (Int)) := fun st => match st with
| (t33, t34) =>
  cond (decide (t34 < t4))
    ((iter (T_girderlaw10_MatrixWhole_b170 t5 t3 t30 t2 t34 t6 t9 t8 t31) FU (t33, 0)).bind fun t35 =>
      some (.inl (t35, (IntKind.i64.wrap (t34 + 1)))))
    (some (.inr t33))

def T_girderlaw10_MatrixWhole_b160 (t8 : Int) (t4 : Int) (t5 : Int) (t3 : List Nat) (t30 : Int) (t2 : Int) (t6 : List Nat) (t9 : List Nat) (t20 : List Nat) (t24 : List Nat) : Int → Option (Int ⊕ (Unit ⊕ Bool)) := fun st => match st with
| t31 =>
  cond (decide (t31 < t8))
    ((iter (T_girderlaw10_MatrixWhole_b168 t4 t5 t3 t30 t2 t6 t9 t8 t31) FU (0, 0)).bind fun t32 =>
      (atI t20 (IntKind.i64.wrap ((IntKind.i64.wrap (t30 * t8)) + t31))).bind fun t44 =>
      (atI t24 (IntKind.i64.wrap ((IntKind.i64.wrap (t30 * t8)) + t31))).bind fun t45 =>
      (some (!feq t44 t45)).bind fun t46 =>
      cond (!t46)
        ((some (!feq t44 (nf (FloatKind.f64.nearest t32)))).bind fun t47 =>
          cond t47
            (some (.inr (.inr false)))
            (some (.inl (IntKind.i64.wrap (t31 + 1)))))
        (some (.inr (.inr false))))
    (some (.inr (.inl ())))

def T_girderlaw10_MatrixWhole_b128 (t1 : Int) (t8 : Int) (t4 : Int) (t5 : Int) (t3 : List Nat) (t2 : Int) (t6 : List Nat) (t9 : List Nat) (t20 : List Nat) (t24 : List Nat) : Int → Option (Int ⊕ (Unit ⊕ Bool)) := fun st => match st with
| t30 =>
  cond (decide (t30 < t1))
    (((iter (T_girderlaw10_MatrixWhole_b160 t8 t4 t5 t3 t30 t2 t6 t9 t20 t24) FU 0 : Option (Unit ⊕ Bool))).bind fun o => match o with
      | .inl () => some (.inl (IntKind.i64.wrap (t30 + 1)))
      | .inr v => some (.inr (.inr v)))
    (some (.inr (.inl ())))

def T_girderlaw10_MatrixWhole_b172 (t50 : List Nat) (t61 : List Nat) (t65 : List Nat) (t75 : Int) (t74 : List Nat) : Int → Option (Int ⊕ (Unit ⊕ Bool)) := fun st => match st with
| t76 =>
  (some ((t50.length : Nat) : Int)).bind fun t77 =>
  cond (decide (t76 < t77))
    ((T_girderlaw10_finite t50).bind fun t78 =>
      cond t78
        ((atI t61 t76).bind fun t79 =>
          (atI t50 t76).bind fun t80 =>
          (some (!feq t79 t80)).bind fun t81 =>
          cond (!t81)
            ((atI t65 t76).bind fun t82 =>
              (atI t50 t76).bind fun t83 =>
              (some (!feq t82 t83)).bind fun t84 =>
              cond (!t84)
                (cond (!(t75 != 0))
                    ((atI t74 t76).bind fun t85 =>
                      (T_girderkit_SameFloat t85 (nf 0)).bind fun t86 =>
                      cond (!t86)
                        (some (.inr (.inr false)))
                        (some (.inl (IntKind.i64.wrap (t76 + 1)))))
                    (some (.inr (.inr false))))
                (some (.inr (.inr false))))
            (some (.inr (.inr false))))
        (some (.inl (IntKind.i64.wrap (t76 + 1)))))
    (some (.inr (.inl ())))

def T_girderlaw10_MatrixWhole (q0 : Int) (q1 : Int) (q2 : Int) (q3 : Int) (l4 : List Nat) (l5 : List Nat) (l6 : List Nat) : Option Bool :=
  (T_girderlaw10_laid q0 q1 l4 true).bind fun o => match o with
  | (t1, t2, t3) =>
  (T_girderlaw10_laid q1 q2 l5 true).bind fun o => match o with
  | (t4, t5, t6) =>
  (T_girderlaw10_laid q2 q3 l6 true).bind fun o => match o with
  | (t7, t8, t9) =>
  (T_matrix_Mul t1 t2 t3 t4 t5 t6).bind fun o => match o with
  | (t10, t11, t12, t13) =>
  (T_matrix_Mul t4 t5 t6 t7 t8 t9).bind fun o => match o with
  | (t14, t15, t16, t17) =>
  (T_matrix_Mul t10 t11 t12 t7 t8 t9).bind fun o => match o with
  | (t18, t19, t20, t21) =>
  (T_matrix_Mul t1 t2 t3 t14 t15 t16).bind fun o => match o with
  | (t22, t23, t24, t25) =>
  (cond (!(t13 != 0))
      (cond (!(t17 != 0))
          (cond (!(t21 != 0))
              (cond (!(t25 != 0))
                  ((some ((t20.length : Nat) : Int)).bind fun t27 =>
                    (some ((t24.length : Nat) : Int)).bind fun t28 =>
                    cond (!(t27 != t28))
                      ((some ((t20.length : Nat) : Int)).bind fun t29 =>
                        some (t29 != (IntKind.i64.wrap (t1 * t8))))
                      (some true))
                  (some true))
              (some true))
          (some true))
      (some true)).bind fun t26 =>
  cond t26
    (some false)
    (((iter (T_girderlaw10_MatrixWhole_b128 t1 t8 t4 t5 t3 t2 t6 t9 t20 t24) FU 0 : Option (Unit ⊕ Bool))).bind fun o => match o with
      | .inl () => 
        ((T_girderlaw10_laid q0 q1 l4 false).bind fun o => match o with
          | (t48, t49, t50) =>
          (T_matrix_Identity t49).bind fun o => match o with
          | (t51, t52, t53, t54) =>
          (T_matrix_Identity t48).bind fun o => match o with
          | (t55, t56, t57, t58) =>
          (T_matrix_Mul t48 t49 t50 t51 t52 t53).bind fun o => match o with
          | (t59, t60, t61, t62) =>
          (T_matrix_Mul t55 t56 t57 t48 t49 t50).bind fun o => match o with
          | (t63, t64, t65, t66) =>
          (cond (!(t54 != 0))
              (cond (!(t58 != 0))
                  (cond (!(t62 != 0))
                      (cond (!(t66 != 0))
                          ((some ((t61.length : Nat) : Int)).bind fun t68 =>
                            (some ((t50.length : Nat) : Int)).bind fun t69 =>
                            cond (!(t68 != t69))
                              ((some ((t65.length : Nat) : Int)).bind fun t70 =>
                                (some ((t50.length : Nat) : Int)).bind fun t71 =>
                                some (t70 != t71))
                              (some true))
                          (some true))
                      (some true))
                  (some true))
              (some true)).bind fun t67 =>
          cond t67
            (some false)
            ((T_matrix_Sub t48 t49 t50 t48 t49 t50).bind fun o => match o with
              | (t72, t73, t74, t75) =>
              ((iter (T_girderlaw10_MatrixWhole_b172 t50 t61 t65 t75 t74) FU 0 : Option (Unit ⊕ Bool))).bind fun o => match o with
              | .inl () => 
                ((T_girderlaw10_awake ).bind fun t87 =>
                  some t87)
              | .inr v => some v))
      | .inr v => some v)


def T_matrix_Transpose_1 (q0 : Int) (q1 : Int) (q2_0 : Int) (q2_1 : Int) (l2_2 : List Nat) : Option Nat :=
  (atI l2_2 (IntKind.i64.wrap ((IntKind.i64.wrap (q1 * q2_1)) + q0))).bind fun t1 =>
  some t1


def T_matrix_Transpose (q0_0 : Int) (q0_1 : Int) (l0_2 : List Nat) : Option (Int × Int × List Nat × Int) :=
  (T_matrix_Right q0_0 q0_1 l0_2).bind fun t1 =>
  cond (!t1)
    (some (0, 0, (List.map nf []), 4))
    ((T_matrix_laid q0_1 q0_0 (fun v0 v1 => T_matrix_Transpose_1 v0 v1 q0_0 q0_1 l0_2)).bind fun o => match o with
      | (t2, t3, t4) =>
      some (t2, t3, t4, 0))


def T_math_IsNaN (p0 : Nat) : Option Bool :=
  (some (!feq p0 p0)).bind fun t1 =>
  some t1


def T_vector_Same (l0 : List Nat) (l1 : List Nat) : Option Bool :=
  cond (decide (l0.length ≤ 4294967296)) (some (l0 == l1)) none


def T_matrix_Same (q0_0 : Int) (q0_1 : Int) (l0_2 : List Nat) (q1_0 : Int) (q1_1 : Int) (l1_2 : List Nat) : Option Bool :=
  cond (q0_0 == q1_0)
    (cond (q0_1 == q1_1)
        ((T_vector_Same l0_2 l1_2).bind fun t1 =>
          some t1)
        (some false))
    (some false)


def T_matrix_Symmetric (q0_0 : Int) (q0_1 : Int) (l0_2 : List Nat) : Option Bool :=
  (T_matrix_Transpose q0_0 q0_1 l0_2).bind fun o => match o with
  | (t1, t2, t3, t4) =>
  cond (t4 == 0)
    ((T_matrix_Same t1 t2 t3 q0_0 q0_1 l0_2).bind fun t5 =>
      some t5)
    (some false)

def T_girderlaw10_MatrixTurns_b16 (t4 : Int) (t6 : List Nat) (t5 : Int) (t35 : Int) : (Int × List Nat) → Option ((Int × List Nat) ⊕ (List Nat)) := fun st => match st with
| (t37, t38) =>
  cond (decide (t37 < t4))
    ((atI t6 (IntKind.i64.wrap ((IntKind.i64.wrap (t37 * t5)) + t35))).bind fun t39 =>
      (some [t39]).bind fun t40 =>
      (appL t38 t40).bind fun t41 =>
      some (.inl ((IntKind.i64.wrap (t37 + 1)), t41)))
    (some (.inr t38))

def T_girderlaw10_MatrixTurns_b18 (t1 : Int) (t9 : List Nat) (t5 : Int) (t35 : Int) : (Int × List Nat) → Option ((Int × List Nat) ⊕ (List Nat)) := fun st => match st with
| (t43, t44) =>
  cond (decide (t43 < t1))
    ((atI t9 (IntKind.i64.wrap ((IntKind.i64.wrap (t43 * t5)) + t35))).bind fun t45 =>
      (some [t45]).bind fun t46 =>
      (appL t44 t46).bind fun t47 =>
      some (.inl ((IntKind.i64.wrap (t43 + 1)), t47)))
    (some (.inr t44))

def T_girderlaw10_MatrixTurns_b14 (t5 : Int) (t4 : Int) (t6 : List Nat) (t1 : Int) (t9 : List Nat) (t2 : Int) (t3 : List Nat) : Int → Option (Int ⊕ (Unit ⊕ Bool)) := fun st => match st with
| t35 =>
  cond (decide (t35 < t5))
    ((iter (T_girderlaw10_MatrixTurns_b16 t4 t6 t5 t35) FU (0, (List.map nf []))).bind fun t36 =>
      (iter (T_girderlaw10_MatrixTurns_b18 t1 t9 t5 t35) FU (0, (List.map nf []))).bind fun t42 =>
      (T_matrix_Apply t1 t2 t3 t36).bind fun o => match o with
      | (t48, t49) =>
      cond (!(t49 != 0))
        ((T_girderkit_SameReals t48 t42).bind fun t50 =>
          cond (!t50)
            (some (.inr (.inr false)))
            (some (.inl (IntKind.i64.wrap (t35 + 1)))))
        (some (.inr (.inr false))))
    (some (.inr (.inl ())))

def T_girderlaw10_MatrixTurns (q0 : Int) (q1 : Int) (q2 : Int) (l3 : List Nat) (l4 : List Nat) : Option Bool :=
  (T_girderlaw10_laid q0 q1 l3 false).bind fun o => match o with
  | (t1, t2, t3) =>
  (T_girderlaw10_laid q1 q2 l4 false).bind fun o => match o with
  | (t4, t5, t6) =>
  (T_matrix_Mul t1 t2 t3 t4 t5 t6).bind fun o => match o with
  | (t7, t8, t9, t10) =>
  (T_matrix_Transpose t7 t8 t9).bind fun o => match o with
  | (t11, t12, t13, t14) =>
  (T_matrix_Transpose t1 t2 t3).bind fun o => match o with
  | (t15, t16, t17, t18) =>
  (T_matrix_Transpose t4 t5 t6).bind fun o => match o with
  | (t19, t20, t21, t22) =>
  (T_matrix_Mul t19 t20 t21 t15 t16 t17).bind fun o => match o with
  | (t23, t24, t25, t26) =>
  (T_matrix_Transpose t15 t16 t17).bind fun o => match o with
  | (t27, t28, t29, t30) =>
  (cond (!(t10 != 0))
      (cond (!(t14 != 0))
          (cond (!(t18 != 0))
              (cond (!(t22 != 0))
                  (cond (!(t26 != 0))
                      (cond (!(t30 != 0))
                          ((T_girderkit_SameMatrix t11 t12 t13 t23 t24 t25).bind fun t32 =>
                            cond (!(!t32))
                              ((T_girderkit_SameMatrix t27 t28 t29 t1 t2 t3).bind fun t33 =>
                                cond (!(!t33))
                                  ((T_matrix_Same t11 t12 t13 t23 t24 t25).bind fun t34 =>
                                    some (!t34))
                                  (some true))
                              (some true))
                          (some true))
                      (some true))
                  (some true))
              (some true))
          (some true))
      (some true)).bind fun t31 =>
  cond t31
    (some false)
    (((iter (T_girderlaw10_MatrixTurns_b14 t5 t4 t6 t1 t9 t2 t3) FU 0 : Option (Unit ⊕ Bool))).bind fun o => match o with
      | .inl () => 
        (cond (t1 == t5)
            ((T_girderkit_SameMatrix t19 t20 t21 t1 t2 t3).bind fun t51 =>
              cond t51
                (cond (t1 == t2)
                    ((T_matrix_Symmetric t7 t8 t9).bind fun t52 =>
                      cond (!t52)
                        (some false)
                        ((T_girderlaw10_awake ).bind fun t53 =>
                          some t53))
                    ((T_girderlaw10_awake ).bind fun t54 =>
                      some t54))
                ((T_girderlaw10_awake ).bind fun t55 =>
                  some t55))
            ((T_girderlaw10_awake ).bind fun t56 =>
              some t56))
      | .inr v => some v)

def T_slices_IndexFunc___float64_float64_b2 (t1 : Int) (l0 : List Nat) (f1 : Nat → Option Bool) : Int → Option (Int ⊕ (Unit ⊕ Int)) := fun st => match st with
| t2 =>
  cond (decide (t2 < t1))
    ((atI l0 t2).bind fun t3 =>
      (f1 t3).bind fun t4 =>
      cond t4
        (some (.inr (.inr t2)))
        (some (.inl (IntKind.i64.wrap (t2 + 1)))))
    (some (.inr (.inl ())))

def T_slices_IndexFunc___float64_float64 (l0 : List Nat) (f1 : Nat → Option Bool) : Option Int :=
  (some ((l0.length : Nat) : Int)).bind fun t1 =>
  ((iter (T_slices_IndexFunc___float64_float64_b2 t1 l0 f1) FU 0 : Option (Unit ⊕ Int))).bind fun o => match o with
  | .inl () => some (-1)
  | .inr v => some v


def T_slices_ContainsFunc___float64_float64 (l0 : List Nat) (f1 : Nat → Option Bool) : Option Bool :=
  (T_slices_IndexFunc___float64_float64 l0 f1).bind fun t1 =>
  some (decide (t1 ≥ 0))


def T_matrix_Norm_1 (p0 : Nat) : Option Bool :=
  (some (fsub p0 p0)).bind fun t1 =>
  (some (!feq t1 (nf 0))).bind fun t2 =>
  some t2


def T_math_Float64frombits (q0 : Int) : Option Nat :=
  some (nf q0.toNat)


def T_math_Abs (p0 : Nat) : Option Nat :=
  some (nf (magF p0))


def T_round_way (q0 : Int) : Option Int :=
  cond (!(decide (q0 < 0)))
    (cond (decide (q0 > 3))
        (some 0)
        (some q0))
    (some 0)


def T_math_IsInf (p0 : Nat) (q1 : Int) : Option Bool :=
  (cond (q1 == 0)
      ((T_math_Abs p0).bind fun t2 =>
        some t2)
      ((cond (decide (q1 < 0))
            ((some (nf (fneg p0))).bind fun t4 =>
              some t4)
            (some p0)).bind fun t3 =>
        some t3)).bind fun t1 =>
  (some (fgt t1 (nf 9218868437227405311))).bind fun t5 =>
  some t5

def T_round_finite_b2 (t1 : Int) (l0 : List Nat) : Int → Option (Int ⊕ (Unit ⊕ Bool)) := fun st => match st with
| t2 =>
  cond (decide (t2 < t1))
    ((atI l0 t2).bind fun t3 =>
      (T_math_IsNaN t3).bind fun t4 =>
      cond (!t4)
        ((T_math_IsInf t3 0).bind fun t5 =>
          cond t5
            (some (.inr (.inr false)))
            (some (.inl (IntKind.i64.wrap (t2 + 1)))))
        (some (.inr (.inr false))))
    (some (.inr (.inl ())))

def T_round_finite (l0 : List Nat) : Option Bool :=
  (some ((l0.length : Nat) : Int)).bind fun t1 =>
  ((iter (T_round_finite_b2 t1 l0) FU 0 : Option (Unit ⊕ Bool))).bind fun o => match o with
  | .inl () => some true
  | .inr v => some v


def T_math_Signbit (p0 : Nat) : Option Bool :=
  cond (isNaN p0) none (some (negF p0))


def T_math_Copysign (p0 : Nat) (p1 : Nat) : Option Nat :=
  cond (isNaN p1) none (some (nf ((if negF p1 then 9223372036854775808 else 0) + magF p0)))


def T_round_none (q0 : Int) : Option Nat :=
  cond (q0 == 1)
    ((T_math_Copysign (nf 0) (nf 13830554455654793216)).bind fun t1 =>
      some t1)
    (some (nf 0))


def T_round_step (p0 : Nat) (q1 : Bool) : Option Nat :=
  (T_math_Float64bits p0).bind fun t1 =>
  ((some (feq p0 (nf 0))).bind fun t3 =>
    (cond t3
        ((cond (!q1)
              (some (IntKind.u64.wrap (BitVec.ofInt IntKind.u64.bits 1 ||| BitVec.ofInt IntKind.u64.bits 9223372036854775808).toNat))
              (some 1)).bind fun t5 =>
          some t5)
        ((some (fgt p0 (nf 0))).bind fun t6 =>
          (cond (q1 == t6)
              (some (IntKind.u64.wrap (t1 + 1)))
              (some (IntKind.u64.wrap (t1 - 1)))).bind fun t7 =>
          some t7)).bind fun t4 =>
    some t4).bind fun t2 =>
  (T_math_Float64frombits t2).bind fun t8 =>
  some t8


def T_round_settle (p0 : Nat) (q1 : Int) (q2 : Int) : Option Nat :=
  (cond (q2 == 3)
      ((T_math_Signbit p0).bind fun t2 =>
        (cond t2
            (some 2)
            (some 1)).bind fun t3 =>
        some t3)
      (some q2)).bind fun t1 =>
  (T_math_IsInf p0 0).bind fun t4 =>
  cond t4
    ((some (fgt p0 (nf 0))).bind fun t5 =>
      cond t5
        (cond (!(t1 == 1))
            ((some (flt p0 (nf 0))).bind fun t6 =>
              cond t6
                (cond (t1 == 2)
                    ((T_math_Copysign (nf 9218868437227405311) p0).bind fun t7 =>
                      some t7)
                    (some p0))
                (some p0))
            ((T_math_Copysign (nf 9218868437227405311) p0).bind fun t8 =>
              some t8))
        ((some (flt p0 (nf 0))).bind fun t9 =>
          cond t9
            (cond (t1 == 2)
                ((T_math_Copysign (nf 9218868437227405311) p0).bind fun t10 =>
                  some t10)
                (some p0))
            (some p0)))
    (cond (decide (q1 < 0))
        (cond (!(t1 == 1))
            (cond (decide (q1 > 0))
                (cond (t1 == 2)
                    ((T_round_step p0 (decide (q1 > 0))).bind fun t11 =>
                      some t11)
                    (some p0))
                (some p0))
            ((T_round_step p0 (decide (q1 > 0))).bind fun t12 =>
              some t12))
        (cond (decide (q1 > 0))
            (cond (t1 == 2)
                ((T_round_step p0 (decide (q1 > 0))).bind fun t13 =>
                  some t13)
                (some p0))
            (some p0)))


def T_round_sign (p0 : Nat) : Option Int :=
  (some (fgt p0 (nf 0))).bind fun t1 =>
  cond t1
    (some 1)
    ((some (flt p0 (nf 0))).bind fun t2 =>
      cond t2
        (some (-1))
        (some 0))


def T_round_Add (p0 : Nat) (p1 : Nat) (q2 : Int) : Option Nat :=
  (T_round_way q2).bind fun t1 =>
  (some (fadd p0 p1)).bind fun t2 =>
  (some [p0, p1]).bind fun t3 =>
  (T_round_finite t3).bind fun t4 =>
  cond (!t4)
    (some t2)
    (((some (feq t2 (nf 0))).bind fun t6 =>
        cond t6
          ((some (!feq p0 (nf 0))).bind fun t7 =>
            cond (!t7)
              ((some (feq t2 (nf 0))).bind fun t8 =>
                cond t8
                  ((T_math_Signbit p0).bind fun t9 =>
                    (T_math_Signbit p1).bind fun t10 =>
                    some (!(t9 == t10)))
                  (some false))
              (some true))
          ((some (feq t2 (nf 0))).bind fun t11 =>
            cond t11
              ((T_math_Signbit p0).bind fun t12 =>
                (T_math_Signbit p1).bind fun t13 =>
                some (!(t12 == t13)))
              (some false))).bind fun t5 =>
      cond t5
        ((T_round_none t1).bind fun t14 =>
          some t14)
        ((some (feq t2 (nf 0))).bind fun t15 =>
          cond t15
            (some t2)
            ((T_math_IsInf t2 0).bind fun t16 =>
              cond t16
                ((T_round_settle t2 0 t1).bind fun t17 =>
                  some t17)
                ((T_math_Abs p0).bind fun t18 =>
                  (T_math_Abs p1).bind fun t19 =>
                  (some (flt t18 t19)).bind fun t20 =>
                  (cond t20
                      (some (p1, p0))
                      (some (p0, p1))).bind fun o => match o with
                  | (t21, t22) => 
                  (some (fsub t2 t21)).bind fun t23 =>
                  (some (fsub t22 t23)).bind fun t24 =>
                  (T_round_sign t24).bind fun t25 =>
                  (T_round_settle t2 t25 t1).bind fun t26 =>
                  some t26))))

def T_vector_Norm_b2 (t1 : Int) (l0 : List Nat) : (Nat × Int) → Option ((Nat × Int) ⊕ (Nat)) := fun st => match st with
| (t3, t4) =>
  cond (decide (t4 < t1))
    ((atI l0 t4).bind fun t5 =>
      (T_math_Abs t5).bind fun t6 =>
      (T_round_Add t3 t6 2).bind fun t7 =>
      some (.inl (t7, (IntKind.i64.wrap (t4 + 1)))))
    (some (.inr t3))

def T_vector_Norm (l0 : List Nat) : Option Nat :=
  (some ((l0.length : Nat) : Int)).bind fun t1 =>
  (iter (T_vector_Norm_b2 t1 l0) FU ((nf 0), 0)).bind fun t2 =>
  some t2

def T_matrix_Norm_b2 (q0_0 : Int) (l0_2 : List Nat) (q0_1 : Int) : (Nat × Int) → Option ((Nat × Int) ⊕ (Nat)) := fun st => match st with
| (t4, t5) =>
  cond (decide (t5 < q0_0))
    ((subL l0_2 (IntKind.i64.wrap (t5 * q0_1)) (IntKind.i64.wrap ((IntKind.i64.wrap (t5 + 1)) * q0_1))).bind fun t6 =>
      (T_vector_Norm t6).bind fun t7 =>
      (some (fmx true t4 t7)).bind fun t8 =>
      some (.inl (t8, (IntKind.i64.wrap (t5 + 1)))))
    (some (.inr t4))

def T_matrix_Norm (q0_0 : Int) (q0_1 : Int) (l0_2 : List Nat) : Option (Nat × Int) :=
  (T_matrix_Right q0_0 q0_1 l0_2).bind fun t1 =>
  cond (!t1)
    (some ((nf 0), 4))
    ((T_slices_ContainsFunc___float64_float64 l0_2 (fun v0 => T_matrix_Norm_1 v0)).bind fun t2 =>
      cond t2
        (some ((nf 0), 5))
        ((iter (T_matrix_Norm_b2 q0_0 l0_2 q0_1) FU ((nf 0), 0)).bind fun t3 =>
          some (t3, 0)))


def T_girderkit_CopyReals (l0 : List Nat) : Option (List Nat) :=
  (appL (List.map nf []) l0).bind fun t1 =>
  some t1

def T_girderlaw10_MatrixSizes_b10 (t2 : Int) (t3 : List Nat) (t13 : Int) (t19 : Nat) : Int → Option (Int ⊕ (Unit ⊕ Bool)) := fun st => match st with
| t23 =>
  cond (decide (t23 < t2))
    ((atI t3 (IntKind.i64.wrap ((IntKind.i64.wrap (t13 * t2)) + t23))).bind fun t24 =>
      (some (fgt t24 t19)).bind fun t25 =>
      cond (!t25)
        ((some (nf (fneg t24))).bind fun t26 =>
          (some (fgt t26 t19)).bind fun t27 =>
          cond t27
            (some (.inr (.inr false)))
            (some (.inl (IntKind.i64.wrap (t23 + 1)))))
        (some (.inr (.inr false))))
    (some (.inr (.inl ())))

def T_girderlaw10_MatrixSizes_b8 (t1 : Int) (t3 : List Nat) (t2 : Int) (t4 : Nat) : (Nat × Int) → Option ((Nat × Int) ⊕ (Nat ⊕ Bool)) := fun st => match st with
| (t12, t13) =>
  cond (decide (t13 < t1))
    ((subL t3 (IntKind.i64.wrap (t13 * t2)) (IntKind.i64.wrap ((IntKind.i64.wrap (t13 + 1)) * t2))).bind fun t14 =>
      (T_girderkit_CopyReals t14).bind fun t15 =>
      (T_girderlaw10_of 1 t2 t15).bind fun o => match o with
      | (t16, t17, t18) =>
      (T_matrix_Norm t16 t17 t15).bind fun o => match o with
      | (t19, t20) =>
      cond (!(t20 != 0))
        ((some (fgt t19 t4)).bind fun t21 =>
          cond t21
            (some (.inr (.inr false)))
            ((some (fmx true t12 t19)).bind fun t22 =>
              ((iter (T_girderlaw10_MatrixSizes_b10 t2 t3 t13 t19) FU 0 : Option (Unit ⊕ Bool))).bind fun o => match o with
              | .inl () => some (.inl (t22, (IntKind.i64.wrap (t13 + 1))))
              | .inr v => some (.inr (.inr v))))
        (some (.inr (.inr false))))
    (some (.inr (.inl t12)))

def T_girderlaw10_MatrixSizes_b12 (t29 : Int) (l3 : List Bool) : (Int × List Nat) → Option ((Int × List Nat) ⊕ (List Nat)) := fun st => match st with
| (t34, t35) =>
  cond (decide (t34 < t29))
    (((some [(nf 4607182418800017408)]).bind fun t37 =>
        (appL t35 t37).bind fun t38 =>
        (some ((l3.length : Nat) : Int)).bind fun t39 =>
        cond (decide (t34 < t39))
          ((atI l3 t34).bind fun t40 =>
            (cond t40
                ((atI t38 t34).bind fun t42 =>
                  (some (t38.set (t34).toNat (nf 13830554455654793216))).bind fun t43 =>
                  some t43)
                (some t38)).bind fun t41 =>
            some t41)
          ((some ()).bind fun _ =>
            some t38)).bind fun t36 =>
      some (.inl ((IntKind.i64.wrap (t34 + 1)), t36)))
    (some (.inr t35))

def T_girderlaw10_MatrixSizes_b14 (t44 : List Nat) (t31 : Nat) : Int → Option (Int ⊕ (Unit ⊕ Bool)) := fun st => match st with
| t48 =>
  (some ((t44.length : Nat) : Int)).bind fun t49 =>
  cond (decide (t48 < t49))
    ((atI t44 t48).bind fun t50 =>
      (some (fgt t50 t31)).bind fun t51 =>
      cond (!t51)
        ((atI t44 t48).bind fun t52 =>
          (some (nf (fneg t52))).bind fun t53 =>
          (some (fgt t53 t31)).bind fun t54 =>
          cond t54
            (some (.inr (.inr false)))
            (some (.inl (IntKind.i64.wrap (t48 + 1)))))
        (some (.inr (.inr false))))
    (some (.inr (.inl ())))

def T_girderlaw10_MatrixSizes (q0 : Int) (q1 : Int) (l2 : List Nat) (l3 : List Bool) : Option Bool :=
  (T_girderlaw10_laid q0 q1 l2 false).bind fun o => match o with
  | (t1, t2, t3) =>
  (T_matrix_Norm t1 t2 t3).bind fun o => match o with
  | (t4, t5) =>
  (T_girderlaw10_finite t3).bind fun t6 =>
  cond (!t6)
    (cond (t5 == 5)
        ((some (feq t4 (nf 0))).bind fun t7 =>
          cond t7
            ((T_girderlaw10_awake ).bind fun t8 =>
              some t8)
            (some false))
        (some false))
    ((cond (!(t5 != 0))
          ((some (fgt t4 (nf 0) || feq t4 (nf 0))).bind fun t10 =>
            some (!t10))
          (some true)).bind fun t9 =>
      cond t9
        (some false)
        (((iter (T_girderlaw10_MatrixSizes_b8 t1 t3 t2 t4) FU ((nf 0), 0) : Option (Nat ⊕ Bool))).bind fun o => match o with
          | .inl t11 => 
            ((T_girderlaw10_laid q0 q1 l2 true).bind fun o => match o with
              | (t28, t29, t30) =>
              (T_matrix_Norm t28 t29 t30).bind fun o => match o with
              | (t31, t32) =>
              (iter (T_girderlaw10_MatrixSizes_b12 t29 l3) FU (0, (List.map nf []))).bind fun t33 =>
              (T_matrix_Apply t28 t29 t30 t33).bind fun o => match o with
              | (t44, t45) =>
              (cond (!(t32 != 0))
                  (cond (!(t45 != 0))
                      ((some ((t44.length : Nat) : Int)).bind fun t47 =>
                        some (t47 != t28))
                      (some true))
                  (some true)).bind fun t46 =>
              cond t46
                (some false)
                (((iter (T_girderlaw10_MatrixSizes_b14 t44 t31) FU 0 : Option (Unit ⊕ Bool))).bind fun o => match o with
                  | .inl () => 
                    ((some (feq t11 t4)).bind fun t55 =>
                      cond t55
                        ((T_girderlaw10_awake ).bind fun t56 =>
                          some t56)
                        (some false))
                  | .inr v => some v))
          | .inr v => some v))

def T_girderref10_Identity_b2 (t4 : Int) (q0 : Int) : (Int × List Nat) → Option ((Int × List Nat) ⊕ (List Nat)) := fun st => match st with
| (t6, t7) =>
  cond (t4 == 0)
    (cond (decide (t6 < q0))
        ((atI t7 (IntKind.i64.wrap ((IntKind.i64.wrap (t6 * q0)) + t6))).bind fun t8 =>
          (some (t7.set ((IntKind.i64.wrap ((IntKind.i64.wrap (t6 * q0)) + t6))).toNat (nf 4607182418800017408))).bind fun t9 =>
          some (.inl ((IntKind.i64.wrap (t6 + 1)), t9)))
        (some (.inr t7)))
    (some (.inr t7))

def T_girderref10_Identity (q0 : Int) : Option (Int × Int × List Nat × Int) :=
  (T_girderref10_Make q0 q0).bind fun o => match o with
  | (t1, t2, t3, t4) =>
  (iter (T_girderref10_Identity_b2 t4 q0) FU (0, t3)).bind fun t5 =>
  some (t1, t2, t5, t4)


def T_girderref01_fields (p0 : Nat) : Option (Bool × Int × Int) :=
  (T_math_Float64bits p0).bind fun t1 =>
  some (((t1.fdiv (2 ^ (min (63 : Int).toNat IntKind.u64.bits))) == 1), (IntKind.i64.wrap ((IntKind.u64.wrap (t1.tdiv 4503599627370496)).tmod 2048)), (t1.tmod 4503599627370496))


def T_girderref01_Kind (p0 : Nat) : Option Int :=
  some (if expF p0 = 2047 then (if fracF p0 = 0 then 3 else 4) else if expF p0 = 0 then (if fracF p0 = 0 then 0 else 1) else 2)


def T_girderref01_Nan (p0 : Nat) : Option Bool :=
  (T_girderref01_Kind p0).bind fun t1 =>
  some (t1 == 4)


def T_girderref01_Same (p0 : Nat) (p1 : Nat) : Option Bool :=
  some (p0 == p1)

def T_girderref10_Same_b2 (l0_2 : List Nat) (l1_2 : List Nat) : Int → Option (Int ⊕ (Unit ⊕ Bool)) := fun st => match st with
| t4 =>
  (some ((l0_2.length : Nat) : Int)).bind fun t5 =>
  cond (decide (t4 < t5))
    ((atI l0_2 t4).bind fun t6 =>
      (atI l1_2 t4).bind fun t7 =>
      (T_girderref01_Same t6 t7).bind fun t8 =>
      cond (!t8)
        (some (.inr (.inr false)))
        (some (.inl (IntKind.i64.wrap (t4 + 1)))))
    (some (.inr (.inl ())))

def T_girderref10_Same (q0_0 : Int) (q0_1 : Int) (l0_2 : List Nat) (q1_0 : Int) (q1_1 : Int) (l1_2 : List Nat) : Option Bool :=
  (cond (!(q0_0 != q1_0))
      (cond (!(q0_1 != q1_1))
          ((some ((l0_2.length : Nat) : Int)).bind fun t2 =>
            (some ((l1_2.length : Nat) : Int)).bind fun t3 =>
            some (t2 != t3))
          (some true))
      (some true)).bind fun t1 =>
  cond t1
    (some false)
    (((iter (T_girderref10_Same_b2 l0_2 l1_2) FU 0 : Option (Unit ⊕ Bool))).bind fun o => match o with
      | .inl () => some true
      | .inr v => some v)

def T_girderref10_Symmetric_b10 (t3 : Int) (q0_0 : Int) (q0_1 : Int) (l0_2 : List Nat) : Int → Option (Int ⊕ (Unit ⊕ Bool)) := fun st => match st with
| t4 =>
  cond (decide (t4 < t3))
    ((T_girderref10_At q0_0 q0_1 l0_2 t3 t4).bind fun t5 =>
      (T_girderref10_At q0_0 q0_1 l0_2 t4 t3).bind fun t6 =>
      (T_girderref01_Same t5 t6).bind fun t7 =>
      cond (!t7)
        (some (.inr (.inr false)))
        (some (.inl (IntKind.i64.wrap (t4 + 1)))))
    (some (.inr (.inl ())))

def T_girderref10_Symmetric_b8 (q0_0 : Int) (q0_1 : Int) (l0_2 : List Nat) : Int → Option (Int ⊕ (Unit ⊕ Bool)) := fun st => match st with
| t3 =>
  cond (decide (t3 < q0_0))
    (((iter (T_girderref10_Symmetric_b10 t3 q0_0 q0_1 l0_2) FU 0 : Option (Unit ⊕ Bool))).bind fun o => match o with
      | .inl () => some (.inl (IntKind.i64.wrap (t3 + 1)))
      | .inr v => some (.inr (.inr v)))
    (some (.inr (.inl ())))

def T_girderref10_Symmetric (q0_0 : Int) (q0_1 : Int) (l0_2 : List Nat) : Option Bool :=
  ((T_girderref10_Right q0_0 q0_1 l0_2).bind fun t2 =>
    cond (!(!t2))
      (some (q0_0 != q0_1))
      (some true)).bind fun t1 =>
  cond t1
    (some false)
    (((iter (T_girderref10_Symmetric_b8 q0_0 q0_1 l0_2) FU 0 : Option (Unit ⊕ Bool))).bind fun o => match o with
      | .inl () => some true
      | .inr v => some v)

def T_girderref10_Transpose_b14 (q0_1 : Int) (q0_0 : Int) (l0_2 : List Nat) (t7 : Int) : (Int × List Nat) → Option ((Int × List Nat) ⊕ (List Nat)) := fun st => match st with
| (t10, t11) =>
  cond (decide (t10 < q0_1))
    ((T_girderref10_At q0_0 q0_1 l0_2 t7 t10).bind fun t12 =>
      (atI t11 (IntKind.i64.wrap ((IntKind.i64.wrap (t10 * q0_0)) + t7))).bind fun t13 =>
      (some (t11.set ((IntKind.i64.wrap ((IntKind.i64.wrap (t10 * q0_0)) + t7))).toNat t12)).bind fun t14 =>
      some (.inl ((IntKind.i64.wrap (t10 + 1)), t14)))
    (some (.inr t11))

def T_girderref10_Transpose_b12 (q0_0 : Int) (q0_1 : Int) (l0_2 : List Nat) : (Int × List Nat) → Option ((Int × List Nat) ⊕ (List Nat)) := fun st => match st with
| (t7, t8) =>
  cond (decide (t7 < q0_0))
    ((iter (T_girderref10_Transpose_b14 q0_1 q0_0 l0_2 t7) FU (0, t8)).bind fun t9 =>
      some (.inl ((IntKind.i64.wrap (t7 + 1)), t9)))
    (some (.inr t8))

def T_girderref10_Transpose (q0_0 : Int) (q0_1 : Int) (l0_2 : List Nat) : Option (Int × Int × List Nat × Int) :=
  (T_girderref10_Right q0_0 q0_1 l0_2).bind fun t1 =>
  cond (!t1)
    (some (0, 0, (List.map nf []), 4))
    ((T_girderref10_Make q0_1 q0_0).bind fun o => match o with
      | (t2, t3, t4, t5) =>
      (iter (T_girderref10_Transpose_b12 q0_0 q0_1 l0_2) FU (0, t4)).bind fun t6 =>
      some (t2, t3, t6, 0))

def T_girderref10_Sub_b2 (l0_2 : List Nat) (l1_2 : List Nat) : (Int × List Nat) → Option ((Int × List Nat) ⊕ (List Nat)) := fun st => match st with
| (t9, t10) =>
  (some ((l0_2.length : Nat) : Int)).bind fun t11 =>
  cond (decide (t9 < t11))
    ((atI l0_2 t9).bind fun t12 =>
      (atI l1_2 t9).bind fun t13 =>
      (some (fsub t12 t13)).bind fun t14 =>
      (atI t10 t9).bind fun t15 =>
      (some (t10.set (t9).toNat t14)).bind fun t16 =>
      some (.inl ((IntKind.i64.wrap (t9 + 1)), t16)))
    (some (.inr t10))

def T_girderref10_Sub (q0_0 : Int) (q0_1 : Int) (l0_2 : List Nat) (q1_0 : Int) (q1_1 : Int) (l1_2 : List Nat) : Option (Int × Int × List Nat × Int) :=
  ((T_girderref10_Right q0_0 q0_1 l0_2).bind fun t2 =>
    cond (!(!t2))
      ((T_girderref10_Right q1_0 q1_1 l1_2).bind fun t3 =>
        cond (!(!t3))
          (cond (!(q0_0 != q1_0))
              (some (q0_1 != q1_1))
              (some true))
          (some true))
      (some true)).bind fun t1 =>
  cond t1
    (some (0, 0, (List.map nf []), 4))
    ((T_girderref10_Make q0_0 q0_1).bind fun o => match o with
      | (t4, t5, t6, t7) =>
      (iter (T_girderref10_Sub_b2 l0_2 l1_2) FU (0, t6)).bind fun t8 =>
      some (t4, t5, t8, 0))


def T_girderref01_Finite (p0 : Nat) : Option Bool :=
  (T_girderref01_Kind p0).bind fun t1 =>
  some (decide (t1 < 3))


def T_girderref03_Finite (p0 : Nat) : Option Bool :=
  (some (fsub p0 p0)).bind fun t1 =>
  (some (feq t1 (nf 0))).bind fun t2 =>
  some t2


def T_girderref03_great (p0 : Nat) (q1 : Int) : Option Nat :=
  cond (!(q1 == 3))
    ((some (fgt p0 (nf 0))).bind fun t1 =>
      cond t1
        (cond (!(q1 == 1))
            ((some (flt p0 (nf 0))).bind fun t2 =>
              cond t2
                (cond (q1 == 2)
                    ((T_math_Copysign (nf 9218868437227405311) p0).bind fun t3 =>
                      some t3)
                    (some p0))
                (some p0))
            ((T_math_Copysign (nf 9218868437227405311) p0).bind fun t4 =>
              some t4))
        ((some (flt p0 (nf 0))).bind fun t5 =>
          cond t5
            (cond (q1 == 2)
                ((T_math_Copysign (nf 9218868437227405311) p0).bind fun t6 =>
                  some t6)
                (some p0))
            (some p0)))
    ((T_math_Copysign (nf 9218868437227405311) p0).bind fun t7 =>
      some t7)


def T_girderref03_nought (q0 : Bool) (q1 : Bool) (p2 : Nat) (q3 : Int) : Option Nat :=
  cond q0
    ((some (feq p2 (nf 0))).bind fun t1 =>
      cond t1
        ((T_math_Signbit p2).bind fun t2 =>
          cond (q1 == t2)
            (some p2)
            (cond (q3 == 1)
                ((T_math_Copysign (nf 0) (nf 13830554455654793216)).bind fun t3 =>
                  some t3)
                (some (nf 0))))
        (cond (q3 == 1)
            ((T_math_Copysign (nf 0) (nf 13830554455654793216)).bind fun t4 =>
              some t4)
            (some (nf 0))))
    (cond (q3 == 1)
        ((T_math_Copysign (nf 0) (nf 13830554455654793216)).bind fun t5 =>
          some t5)
        (some (nf 0)))


def T_girderref03_sign (p0 : Nat) : Option Int :=
  (some (flt p0 (nf 0))).bind fun t1 =>
  cond t1
    (some (-1))
    ((some (fgt p0 (nf 0))).bind fun t2 =>
      cond t2
        (some 1)
        (some 0))


def T_girderref03_further (p0 : Nat) : Option Nat :=
  (T_math_Float64bits p0).bind fun t1 =>
  (T_math_Float64frombits (IntKind.u64.wrap (t1 + 1))).bind fun t2 =>
  some t2


def T_girderref03_nearer (p0 : Nat) : Option Nat :=
  (T_math_Float64bits p0).bind fun t1 =>
  (T_math_Float64frombits (IntKind.u64.wrap (t1 - 1))).bind fun t2 =>
  some t2


def T_girderref03_up (p0 : Nat) : Option Nat :=
  (some (feq p0 (nf 0))).bind fun t1 =>
  cond t1
    ((T_math_Float64frombits 1).bind fun t2 =>
      some t2)
    ((some (fgt p0 (nf 0))).bind fun t3 =>
      cond t3
        ((T_girderref03_further p0).bind fun t4 =>
          some t4)
        ((T_girderref03_nearer p0).bind fun t5 =>
          some t5))


def T_girderref03_down (p0 : Nat) : Option Nat :=
  (some (nf (fneg p0))).bind fun t1 =>
  (T_girderref03_up t1).bind fun t2 =>
  (some (nf (fneg t2))).bind fun t3 =>
  some t3


def T_girderref03_side (p0 : Nat) (q1 : Int) (q2 : Int) : Option Nat :=
  (T_math_Signbit p0).bind fun t1 =>
  (cond (decide (q1 < 0))
      (cond (!(q2 == 1))
          (cond (q2 == 3)
              (cond (!t1)
                  ((some (!feq p0 (nf 0))).bind fun t3 =>
                    some t3)
                  (some false))
              (some false))
          (some true))
      (some false)).bind fun t2 =>
  cond t2
    ((T_girderref03_down p0).bind fun t4 =>
      some t4)
    (cond (decide (q1 > 0))
        (cond (!(q2 == 2))
            (cond (q2 == 3)
                (cond t1
                    ((some (!feq p0 (nf 0))).bind fun t5 =>
                      cond t5
                        ((T_girderref03_up p0).bind fun t6 =>
                          some t6)
                        (some p0))
                    (some p0))
                (some p0))
            ((T_girderref03_up p0).bind fun t7 =>
              some t7))
        (some p0))


def T_girderref03_Add (p0 : Nat) (p1 : Nat) (q2 : Int) : Option Nat :=
  (some (fadd p0 p1)).bind fun t1 =>
  (T_girderref03_Finite p0).bind fun t2 =>
  cond (!(!t2))
    ((T_girderref03_Finite p1).bind fun t3 =>
      cond (!t3)
        (some t1)
        ((T_girderref03_Finite t1).bind fun t4 =>
          cond (!t4)
            ((T_girderref03_great t1 q2).bind fun t5 =>
              some t5)
            ((some (feq t1 (nf 0))).bind fun t6 =>
              cond t6
                ((some (feq p0 (nf 0))).bind fun t7 =>
                  (T_math_Signbit p0).bind fun t8 =>
                  (T_girderref03_nought t7 t8 p1 q2).bind fun t9 =>
                  some t9)
                ((T_math_Abs p0).bind fun t10 =>
                  (T_math_Abs p1).bind fun t11 =>
                  (some (flt t10 t11)).bind fun t12 =>
                  (cond t12
                      (some (p1, p0))
                      (some (p0, p1))).bind fun o => match o with
                  | (t13, t14) => 
                  (some (fsub t1 t13)).bind fun t15 =>
                  (some (fsub t14 t15)).bind fun t16 =>
                  (T_girderref03_sign t16).bind fun t17 =>
                  (T_girderref03_side t1 t17 q2).bind fun t18 =>
                  some t18))))
    (some t1)

def T_girderref10_Norm_b2 (l0_2 : List Nat) : Int → Option (Int ⊕ (Unit ⊕ (Nat × Int))) := fun st => match st with
| t2 =>
  (some ((l0_2.length : Nat) : Int)).bind fun t3 =>
  cond (decide (t2 < t3))
    ((atI l0_2 t2).bind fun t4 =>
      (T_girderref01_Finite t4).bind fun t5 =>
      cond (!t5)
        (some (.inr (.inr ((nf 0), 5))))
        (some (.inl (IntKind.i64.wrap (t2 + 1)))))
    (some (.inr (.inl ())))

def T_girderref10_Norm_b20 (q0_1 : Int) (q0_0 : Int) (l0_2 : List Nat) (t8 : Int) : (Nat × Int) → Option ((Nat × Int) ⊕ (Nat)) := fun st => match st with
| (t11, t12) =>
  cond (decide (t12 < q0_1))
    ((T_girderref10_At q0_0 q0_1 l0_2 t8 t12).bind fun t13 =>
      (some (flt t13 (nf 0))).bind fun t14 =>
      (cond t14
          ((some (nf (fneg t13))).bind fun t16 =>
            some t16)
          (some t13)).bind fun t15 =>
      (T_girderref03_Add t11 t15 2).bind fun t17 =>
      some (.inl (t17, (IntKind.i64.wrap (t12 + 1)))))
    (some (.inr t11))

def T_girderref10_Norm_b16 (q0_0 : Int) (q0_1 : Int) (l0_2 : List Nat) : (Nat × Int) → Option ((Nat × Int) ⊕ (Nat)) := fun st => match st with
| (t7, t8) =>
  cond (decide (t8 < q0_0))
    (((iter (T_girderref10_Norm_b20 q0_1 q0_0 l0_2 t8) FU ((nf 0), 0)).bind fun t10 =>
        (some (fgt t10 t7)).bind fun t18 =>
        (cond t18
            (some t10)
            (some t7)).bind fun t19 =>
        some t19).bind fun t9 =>
      some (.inl (t9, (IntKind.i64.wrap (t8 + 1)))))
    (some (.inr t7))

def T_girderref10_Norm (q0_0 : Int) (q0_1 : Int) (l0_2 : List Nat) : Option (Nat × Int) :=
  (T_girderref10_Right q0_0 q0_1 l0_2).bind fun t1 =>
  cond (!t1)
    (some ((nf 0), 4))
    (((iter (T_girderref10_Norm_b2 l0_2) FU 0 : Option (Unit ⊕ (Nat × Int)))).bind fun o => match o with
      | .inl () => 
        ((iter (T_girderref10_Norm_b16 q0_0 q0_1 l0_2) FU ((nf 0), 0)).bind fun t6 =>
          some (t6, 0))
      | .inr v => some v)


def T_girderlaw10_MatrixTells (q0_0 : Int) (q0_1 : Int) (l0_2 : List Nat) (q1_0 : Int) (q1_1 : Int) (l1_2 : List Nat) (q2 : Int) (q3 : Int) : Option Bool :=
  ((T_girderkit_LentMatrix q0_0 q0_1 l0_2).bind fun o => match o with
    | (t7, t8, t9) =>
    (T_girderkit_LentMatrix q1_0 q1_1 l1_2).bind fun o => match o with
    | (t10, t11, t12) =>
    some (t10, t11, t7, t8, t12, t9)).bind fun o => match o with
  | (t1, t2, t3, t4, t5, t6) => 
  (T_matrix_Make q2 q3).bind fun o => match o with
  | (t13, t14, t15, t16) =>
  (T_girderref10_Make q2 q3).bind fun o => match o with
  | (t17, t18, t19, t20) =>
  (T_girderlaw10_is t13 t14 t15 t16 t17 t18 t19 t20).bind fun t21 =>
  cond (!t21)
    (some false)
    ((T_matrix_Identity q2).bind fun o => match o with
      | (t22, t23, t24, t25) =>
      (T_girderref10_Identity q2).bind fun o => match o with
      | (t26, t27, t28, t29) =>
      ((T_girderlaw10_is t22 t23 t24 t25 t26 t27 t28 t29).bind fun t31 =>
        cond (!(!t31))
          ((T_matrix_Right t3 t4 t6).bind fun t32 =>
            (T_girderref10_Right q0_0 q0_1 l0_2).bind fun t33 =>
            cond (!(!(t32 == t33)))
              ((T_matrix_Same t3 t4 t6 t1 t2 t5).bind fun t34 =>
                (T_girderref10_Same q0_0 q0_1 l0_2 q1_0 q1_1 l1_2).bind fun t35 =>
                cond (!(!(t34 == t35)))
                  ((T_matrix_Symmetric t3 t4 t6).bind fun t36 =>
                    (T_girderref10_Symmetric q0_0 q0_1 l0_2).bind fun t37 =>
                    cond (!(!(t36 == t37)))
                      ((T_matrix_Symmetric t1 t2 t5).bind fun t38 =>
                        (T_girderref10_Symmetric q1_0 q1_1 l1_2).bind fun t39 =>
                        some (!(t38 == t39)))
                      (some true))
                  (some true))
              (some true))
          (some true)).bind fun t30 =>
      cond t30
        (some false)
        ((T_matrix_Transpose t3 t4 t6).bind fun o => match o with
          | (t40, t41, t42, t43) =>
          (T_girderref10_Transpose q0_0 q0_1 l0_2).bind fun o => match o with
          | (t44, t45, t46, t47) =>
          (T_girderlaw10_is t40 t41 t42 t43 t44 t45 t46 t47).bind fun t48 =>
          cond (!t48)
            (some false)
            ((T_matrix_Sub t3 t4 t6 t1 t2 t5).bind fun o => match o with
              | (t49, t50, t51, t52) =>
              (T_girderref10_Sub q0_0 q0_1 l0_2 q1_0 q1_1 l1_2).bind fun o => match o with
              | (t53, t54, t55, t56) =>
              (T_matrix_Norm t3 t4 t6).bind fun o => match o with
              | (t57, t58) =>
              (T_girderref10_Norm q0_0 q0_1 l0_2).bind fun o => match o with
              | (t59, t60) =>
              (T_girderlaw10_is t49 t50 t51 t52 t53 t54 t55 t56).bind fun t61 =>
              cond t61
                ((T_girderkit_SameFloat t57 t59).bind fun t62 =>
                  cond t62
                    (cond (t58 == t60)
                        ((T_girderkit_KeptMatrix t3 t4 t6 q0_0 q0_1 l0_2).bind fun t63 =>
                          cond t63
                            ((T_girderkit_KeptMatrix t1 t2 t5 q1_0 q1_1 l1_2).bind fun t64 =>
                              cond t64
                                ((T_girderlaw10_awake ).bind fun t65 =>
                                  some t65)
                                (some false))
                            (some false))
                        (some false))
                    (some false))
                (some false))))


def T_math_Inf (q0 : Int) : Option Nat :=
  (cond (decide (q0 ≥ 0))
      (some 9218868437227405312)
      (some 18442240474082181120)).bind fun t1 =>
  (T_math_Float64frombits t1).bind fun t2 =>
  some t2


def T_math_NaN  : Option Nat :=
  (T_math_Float64frombits 9221120237041090561).bind fun t1 =>
  some t1


def T_girderlaw10_MatrixNumbers  : Option Bool :=
  (T_matrix_Make 48 48).bind fun o => match o with
  | (t1, t2, t3, t4) =>
  (T_matrix_Make 49 1).bind fun o => match o with
  | (t5, t6, t7, t8) =>
  (T_matrix_Make 1 (-1)).bind fun o => match o with
  | (t9, t10, t11, t12) =>
  (T_matrix_Identity 49).bind fun o => match o with
  | (t13, t14, t15, t16) =>
  (T_matrix_Make 2 0).bind fun o => match o with
  | (t17, t18, t19, t20) =>
  (cond (!(t4 != 0))
      ((some ((t3.length : Nat) : Int)).bind fun t22 =>
        cond (!(t22 != 2304))
          ((T_girderlaw10_is t5 t6 t7 t8 0 0 (List.map nf []) 2).bind fun t23 =>
            cond (!(!t23))
              ((T_girderlaw10_is t9 t10 t11 t12 0 0 (List.map nf []) 2).bind fun t24 =>
                cond (!(!t24))
                  ((T_girderlaw10_is t13 t14 t15 t16 0 0 (List.map nf []) 2).bind fun t25 =>
                    cond (!(!t25))
                      ((T_girderlaw10_of 2 0 (List.map nf [])).bind fun o => match o with
                        | (t26, t27, t28) =>
                        (T_girderlaw10_is t17 t18 t19 t20 t26 t27 (List.map nf []) 0).bind fun t29 =>
                        some (!t29))
                      (some true))
                  (some true))
              (some true))
          (some true))
      (some true)).bind fun t21 =>
  cond t21
    (some false)
    ((some [(nf 4607182418800017408), (nf 4607182418800017408), (nf 4607182418800017408)]).bind fun t30 =>
      (T_girderlaw10_of 3 1 t30).bind fun o => match o with
      | (t31, t32, t33) =>
      ((some [(nf 4845873199050653696), (nf 4607182418800017408), (nf 14069245235905429504)]).bind fun t38 =>
        (T_girderlaw10_of 1 3 t38).bind fun o => match o with
        | (t39, t40, t41) =>
        (T_matrix_Mul t39 t40 t38 t31 t32 t30).bind fun o => match o with
        | (t42, t43, t44, t45) =>
        some (t45, t42, t43, t44)).bind fun o => match o with
      | (t34, t35, t36, t37) => 
      ((some [(nf 4845873199050653696), (nf 14069245235905429504), (nf 4607182418800017408)]).bind fun t50 =>
        (T_girderlaw10_of 1 3 t50).bind fun o => match o with
        | (t51, t52, t53) =>
        (T_matrix_Mul t51 t52 t50 t31 t32 t30).bind fun o => match o with
        | (t54, t55, t56, t57) =>
        some (t57, t54, t55, t56)).bind fun o => match o with
      | (t46, t47, t48, t49) => 
      (T_math_Copysign (nf 0) (nf 13830554455654793216)).bind fun t58 =>
      (some [t58]).bind fun t59 =>
      (T_girderlaw10_of 1 1 t59).bind fun o => match o with
      | (t60, t61, t62) =>
      (some [(nf 4607182418800017408)]).bind fun t63 =>
      (T_girderlaw10_of 1 1 t63).bind fun o => match o with
      | (t64, t65, t66) =>
      (T_matrix_Mul t60 t61 t59 t64 t65 t63).bind fun o => match o with
      | (t67, t68, t69, t70) =>
      (some [(nf 0)]).bind fun t71 =>
      (T_girderlaw10_of 1 1 t71).bind fun o => match o with
      | (t72, t73, t74) =>
      (T_math_Inf 1).bind fun t75 =>
      (some [t75]).bind fun t76 =>
      (T_girderlaw10_of 1 1 t76).bind fun o => match o with
      | (t77, t78, t79) =>
      (T_matrix_Mul t72 t73 t71 t77 t78 t76).bind fun o => match o with
      | (t80, t81, t82, t83) =>
      (some [(nf 4845873199050653696), (nf 4607182418800017408)]).bind fun t84 =>
      (T_girderlaw10_of 1 2 t84).bind fun o => match o with
      | (t85, t86, t87) =>
      (T_matrix_Norm t85 t86 t84).bind fun o => match o with
      | (t88, t89) =>
      (T_math_NaN ).bind fun t90 =>
      (some [(nf 4607182418800017408), t90]).bind fun t91 =>
      (T_girderlaw10_of 1 2 t91).bind fun o => match o with
      | (t92, t93, t94) =>
      (T_matrix_Norm t92 t93 t91).bind fun o => match o with
      | (t95, t96) =>
      (T_girderlaw10_of 2 0 (List.map nf [])).bind fun o => match o with
      | (t97, t98, t99) =>
      (T_girderlaw10_of 0 3 (List.map nf [])).bind fun o => match o with
      | (t100, t101, t102) =>
      (T_matrix_Mul t97 t98 (List.map nf []) t100 t101 (List.map nf [])).bind fun o => match o with
      | (t103, t104, t105, t106) =>
      ((some [(nf 0)]).bind fun t108 =>
        (T_girderlaw10_of 1 1 t108).bind fun o => match o with
        | (t109, t110, t111) =>
        (T_girderlaw10_is t35 t36 t37 t34 t109 t110 t108 0).bind fun t112 =>
        cond t112
          ((some [(nf 4607182418800017408)]).bind fun t113 =>
            (T_girderlaw10_of 1 1 t113).bind fun o => match o with
            | (t114, t115, t116) =>
            (T_girderlaw10_is t47 t48 t49 t46 t114 t115 t113 0).bind fun t117 =>
            cond t117
              ((some [(nf 0)]).bind fun t118 =>
                (T_girderlaw10_of 1 1 t118).bind fun o => match o with
                | (t119, t120, t121) =>
                (T_girderlaw10_is t67 t68 t69 t70 t119 t120 t118 0).bind fun t122 =>
                cond t122
                  ((T_math_NaN ).bind fun t123 =>
                    (some [t123]).bind fun t124 =>
                    (T_girderlaw10_of 1 1 t124).bind fun o => match o with
                    | (t125, t126, t127) =>
                    (T_girderlaw10_is t80 t81 t82 t83 t125 t126 t124 0).bind fun t128 =>
                    cond t128
                      ((some [(nf 0), (nf 0), (nf 0), (nf 0), (nf 0), (nf 0)]).bind fun t129 =>
                        (T_girderlaw10_of 2 3 t129).bind fun o => match o with
                        | (t130, t131, t132) =>
                        (T_girderlaw10_is t103 t104 t105 t106 t130 t131 t129 0).bind fun t133 =>
                        some t133)
                      (some false))
                  (some false))
              (some false))
          (some false)).bind fun t107 =>
      ((some (feq t88 (nf 4845873199050653697))).bind fun t135 =>
        cond t135
          (cond (t89 == 0)
              ((some (feq t95 (nf 0))).bind fun t136 =>
                cond t136
                  (cond (t96 == 5)
                      ((T_math_Copysign (nf 0) (nf 13830554455654793216)).bind fun t137 =>
                        (some [(nf 4607182418800017408), (nf 0), t137, (nf 4607182418800017408)]).bind fun t138 =>
                        (T_girderlaw10_of 2 2 t138).bind fun o => match o with
                        | (t139, t140, t141) =>
                        (T_matrix_Symmetric t139 t140 t138).bind fun t142 =>
                        cond (!t142)
                          ((some [(nf 4607182418800017408), (nf 4611686018427387904), (nf 4613937818241073152)]).bind fun t143 =>
                            (T_girderlaw10_of 2 2 t143).bind fun o => match o with
                            | (t144, t145, t146) =>
                            (T_matrix_Right t144 t145 t143).bind fun t147 =>
                            some (!t147))
                          (some false))
                      (some false))
                  (some false))
              (some false))
          (some false)).bind fun t134 =>
      (some [(nf 4607182418800017408)]).bind fun t148 =>
      (T_girderlaw10_of 2 2 t148).bind fun o => match o with
      | (t149, t150, t151) =>
      (T_matrix_Norm t149 t150 t148).bind fun o => match o with
      | (t152, t153) =>
      cond t107
        (cond t134
            ((some (feq t152 (nf 0))).bind fun t154 =>
              cond t154
                (cond (t153 == 4)
                    ((T_girderlaw10_awake ).bind fun t155 =>
                      some t155)
                    (some false))
                (some false))
            (some false))
        (some false))

end Go.Eng
