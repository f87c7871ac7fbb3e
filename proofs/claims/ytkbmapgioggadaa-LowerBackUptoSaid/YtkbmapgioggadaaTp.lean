/-
  Functions of plain Lean beside functions of the program, printed by a program of the session. No condition.
-/
import Derived.Test.YtkbmapgioggadaaHandP
set_option linter.unusedSimpArgs false
set_option linter.unnecessarySimpa false
set_option linter.unusedSectionVars false
set_option linter.unusedVariables false
set_option maxRecDepth 100000
namespace Go.Eng
open Go


def T_matrix_fits (q0 : Int) : Option Bool :=
  cond (decide (q0 ≥ 0))
    (some (decide (q0 ≤ 48)))
    (some false)


def T_matrix_Right (q0_0 : Int) (q0_1 : Int) (l0_2 : List Nat) : Option Bool :=
  (T_matrix_fits q0_0).bind fun t1 =>
  cond t1
    ((T_matrix_fits q0_1).bind fun t2 =>
      cond t2
        ((some ((l0_2.length : Nat) : Int)).bind fun t3 =>
          some (t3 == (IntKind.i64.wrap (q0_0 * q0_1))))
        (some false))
    (some false)


def T_matrix_Transpose_1 (q0 : Int) (q1 : Int) (q2_0 : Int) (q2_1 : Int) (l2_2 : List Nat) : Option Nat :=
  (atI l2_2 (IntKind.i64.wrap ((IntKind.i64.wrap (q1 * q2_1)) + q0))).bind fun t1 =>
  some t1

def T_matrix_laid_b9 (q1 : Int) (f2 : Int → Int → Option Nat) (t3 : Int) : (Int × List Nat) → Option ((Int × List Nat) ⊕ (List Nat)) := fun st => match st with
| (t6, t7) =>
  cond (decide (t6 < q1))
    ((f2 t3 t6).bind fun t8 =>
      (atI t7 (IntKind.i64.wrap ((IntKind.i64.wrap (t3 * q1)) + t6))).bind fun t9 =>
      (some (t7.set ((IntKind.i64.wrap ((IntKind.i64.wrap (t3 * q1)) + t6))).toNat t8)).bind fun t10 =>
      some (.inl ((IntKind.i64.wrap (t6 + 1)), t10)))
    (some (.inr t7))

def T_matrix_laid_b7 (q0 : Int) (q1 : Int) (f2 : Int → Int → Option Nat) : (Int × List Nat) → Option ((Int × List Nat) ⊕ (List Nat)) := fun st => match st with
| (t3, t4) =>
  cond (decide (t3 < q0))
    ((iter (T_matrix_laid_b9 q1 f2 t3) FU (0, t4)).bind fun t5 =>
      some (.inl ((IntKind.i64.wrap (t3 + 1)), t5)))
    (some (.inr t4))

def T_matrix_laid (q0 : Int) (q1 : Int) (f2 : Int → Int → Option Nat) : Option (Int × Int × List Nat) :=
  (mkL (nf 0) (IntKind.i64.wrap (q0 * q1)) (IntKind.i64.wrap (q0 * q1))).bind fun t1 =>
  (iter (T_matrix_laid_b7 q0 q1 f2) FU (0, t1)).bind fun t2 =>
  some (q0, q1, t2)


def T_matrix_Transpose (q0_0 : Int) (q0_1 : Int) (l0_2 : List Nat) : Option (Int × Int × List Nat × Int) :=
  (T_matrix_Right q0_0 q0_1 l0_2).bind fun t1 =>
  cond (!t1)
    (some (0, 0, (List.map nf []), 4))
    ((T_matrix_laid q0_1 q0_0 (fun v0 v1 => T_matrix_Transpose_1 v0 v1 q0_0 q0_1 l0_2)).bind fun o => match o with
      | (t2, t3, t4) =>
      some (t2, t3, t4, 0))


def T_math_Float64bits (p0 : Nat) : Option Int :=
  cond (isNaN p0) none (some (p0 : Int))


def T_math_IsNaN (p0 : Nat) : Option Bool :=
  (some (!feq p0 p0)).bind fun t1 =>
  some t1


def T_vector_Same (l0 : List Nat) (l1 : List Nat) : Option Bool :=
  cond (decide (l0.length ≤ 4294967296)) (some (l0 == l1)) none


def T_matrix_Same (q0_0 : Int) (q0_1 : Int) (l0_2 : List Nat) (q1_0 : Int) (q1_1 : Int) (l1_2 : List Nat) : Option Bool :=
  cond (q0_0 == q1_0)
    (cond (q0_1 == q1_1)
        ((T_vector_Same l0_2 l1_2).bind fun t1 =>
          some t1)
        (some false))
    (some false)


def T_matrix_Symmetric (q0_0 : Int) (q0_1 : Int) (l0_2 : List Nat) : Option Bool :=
  (T_matrix_Transpose q0_0 q0_1 l0_2).bind fun o => match o with
  | (t1, t2, t3, t4) =>
  cond (t4 == 0)
    ((T_matrix_Same t1 t2 t3 q0_0 q0_1 l0_2).bind fun t5 =>
      some t5)
    (some false)


def T_math_Float64frombits (q0 : Int) : Option Nat :=
  some (nf q0.toNat)


def T_math_Abs (p0 : Nat) : Option Nat :=
  some (nf (magF p0))


def T_math_IsInf (p0 : Nat) (q1 : Int) : Option Bool :=
  (cond (q1 == 0)
      ((T_math_Abs p0).bind fun t2 =>
        some t2)
      ((cond (decide (q1 < 0))
            ((some (nf (fneg p0))).bind fun t4 =>
              some t4)
            (some p0)).bind fun t3 =>
        some t3)).bind fun t1 =>
  (some (fgt t1 (nf 9218868437227405311))).bind fun t5 =>
  some t5


def T_lower_finite (p0 : Nat) : Option Bool :=
  (T_math_IsNaN p0).bind fun t1 =>
  cond (!t1)
    ((T_math_IsInf p0 0).bind fun t2 =>
      some (!t2))
    (some false)


def T_lower_row (l0 : List Nat) (q1 : Int) : Option (Int × Int) :=
  (subL l0 (IntKind.i64.wrap ((IntKind.i64.wrap (q1 * (IntKind.i64.wrap (q1 - 1)))).tdiv 2)) (IntKind.i64.wrap ((IntKind.i64.wrap ((IntKind.i64.wrap (q1 * (IntKind.i64.wrap (q1 - 1)))).tdiv 2)) + q1))).bind fun t1 =>
  some ((IntKind.i64.wrap ((IntKind.i64.wrap (q1 * (IntKind.i64.wrap (q1 - 1)))).tdiv 2)), (IntKind.i64.wrap ((IntKind.i64.wrap ((IntKind.i64.wrap (q1 * (IntKind.i64.wrap (q1 - 1)))).tdiv 2)) + q1)))

def T_lower_Factor_b2 (t2 : Int) (l0_2 : List Nat) : (Int × Int × Int) → Option ((Int × Int × Int) ⊕ ((Int × Int) ⊕ (Int × List Nat × List Nat × Int × Int))) := fun st => match st with
| (t5, t6, t7) =>
  cond (decide (t7 < t2))
    ((atI l0_2 t7).bind fun t8 =>
      (T_lower_finite t8).bind fun t9 =>
      cond (!t9)
        (some (.inr (.inr (0, (List.map nf []), (List.map nf []), 5, 0))))
        (some (.inl (t5, t6, (IntKind.i64.wrap (t7 + 1))))))
    (some (.inr (.inl (t5, t6))))

def T_lower_Factor_b31 (t29 : Int) (t27 : List Nat) (t23 : List Nat) : (Nat × Int × List Nat) → Option ((Nat × Int × List Nat) ⊕ ((Nat × List Nat))) := fun st => match st with
| (t32, t33, t34) =>
  cond (decide (t33 < t29))
    ((atI t27 t33).bind fun t35 =>
      (atI t23 t33).bind fun t36 =>
      (some (fmul t35 t36)).bind fun t37 =>
      (atI t34 t33).bind fun t38 =>
      (some (t34.set (t33).toNat t37)).bind fun t39 =>
      (atI t39 t33).bind fun t40 =>
      (some (fmul t40 t35)).bind fun t41 =>
      (some (fsub t32 t41)).bind fun t42 =>
      some (.inl (t42, (IntKind.i64.wrap (t33 + 1)), t39)))
    (some (.inr (t32, t34)))

def T_lower_Factor_b40 (t21 : Int) (t57 : List Nat) (t31 : List Nat) : (Nat × Int) → Option ((Nat × Int) ⊕ (Nat)) := fun st => match st with
| (t60, t61) =>
  cond (decide (t61 < t21))
    ((atI t57 t61).bind fun t62 =>
      (atI t31 t61).bind fun t63 =>
      (some (fmul t62 t63)).bind fun t64 =>
      (some (fsub t60 t64)).bind fun t65 =>
      some (.inl (t65, (IntKind.i64.wrap (t61 + 1)))))
    (some (.inr t60))

def T_lower_Factor_b38 (q0_0 : Int) (l0_2 : List Nat) (t21 : Int) (t31 : List Nat) (t47 : List Nat) : (Int × Int × Int × List Nat) → Option ((Int × Int × Int × List Nat) ⊕ ((Int × Int × List Nat) ⊕ (Int × Int × List Nat × List Nat))) := fun st => match st with
| (t51, t52, t53, t54) =>
  cond (decide (t53 < q0_0))
    ((T_lower_row t54 t53).bind fun o => match o with
      | (t55, t56) =>
      (subL t54 t55 t56).bind fun t57 =>
      (atI l0_2 (IntKind.i64.wrap ((IntKind.i64.wrap (t53 * q0_0)) + t21))).bind fun t58 =>
      (iter (T_lower_Factor_b40 t21 t57 t31) FU (t58, 0)).bind fun t59 =>
      (atI t47 t21).bind fun t66 =>
      (some (fdiv t59 t66)).bind fun t67 =>
      (atI t57 t21).bind fun t68 =>
      (some (t54.set ((t55).toNat + (t21).toNat) t67)).bind fun t69 =>
      (subL t69 t55 t56).bind fun t70 =>
      (atI t70 t21).bind fun t71 =>
      (T_lower_finite t71).bind fun t72 =>
      cond (!t72)
        (some (.inr (.inr (6, t21, t47, t69))))
        (some (.inl (t51, t52, (IntKind.i64.wrap (t53 + 1)), t69))))
    (some (.inr (.inl (t51, t52, t54))))

def T_lower_Factor_b29 (q0_0 : Int) (l0_2 : List Nat) : (Int × Int × Int × List Nat × List Nat × List Nat) → Option ((Int × Int × Int × List Nat × List Nat × List Nat) ⊕ ((Int × Int × List Nat × List Nat))) := fun st => match st with
| (t19, t20, t21, t22, t23, t24) =>
  cond (decide (t21 < q0_0))
    ((T_lower_row t24 t21).bind fun o => match o with
      | (t25, t26) =>
      (subL t24 t25 t26).bind fun t27 =>
      (atI l0_2 (IntKind.i64.wrap ((IntKind.i64.wrap (t21 * q0_0)) + t21))).bind fun t28 =>
      (some ((t27.length : Nat) : Int)).bind fun t29 =>
      (iter (T_lower_Factor_b31 t29 t27 t23) FU (t28, 0, t22)).bind fun o => match o with
      | (t30, t31) => 
      ((some (fgt t30 (nf 0))).bind fun t44 =>
        cond (!(!t44))
          ((T_lower_finite t30).bind fun t45 =>
            some (!t45))
          (some true)).bind fun t43 =>
      cond t43
        (some (.inr (220, t21, t23, t24)))
        ((atI t23 t21).bind fun t46 =>
          (some (t23.set (t21).toNat t30)).bind fun t47 =>
          ((iter (T_lower_Factor_b38 q0_0 l0_2 t21 t31 t47) FU (t19, t20, (IntKind.i64.wrap (t21 + 1)), t24) : Option ((Int × Int × List Nat) ⊕ (Int × Int × List Nat × List Nat)))).bind fun o => match o with
          | .inl (t48, t49, t50) => some (.inl (t48, t49, (IntKind.i64.wrap (t21 + 1)), t31, t47, t50))
          | .inr v => some (.inr v)))
    (some (.inr (t19, t20, t23, t24)))

def T_lower_Factor (q0_0 : Int) (q0_1 : Int) (l0_2 : List Nat) : Option (Int × List Nat × List Nat × Int × Int) :=
  (T_matrix_Symmetric q0_0 q0_1 l0_2).bind fun t1 =>
  cond (!t1)
    (some (0, (List.map nf []), (List.map nf []), 4, 0))
    ((some ((l0_2.length : Nat) : Int)).bind fun t2 =>
      ((iter (T_lower_Factor_b2 t2 l0_2) FU (0, 0, 0) : Option ((Int × Int) ⊕ (Int × List Nat × List Nat × Int × Int)))).bind fun o => match o with
      | .inl (t3, t4) => 
        (((mkL (nf 0) (IntKind.i64.wrap ((IntKind.i64.wrap (q0_0 * (IntKind.i64.wrap (q0_0 - 1)))).tdiv 2)) (IntKind.i64.wrap ((IntKind.i64.wrap (q0_0 * (IntKind.i64.wrap (q0_0 - 1)))).tdiv 2))).bind fun t12 =>
            (mkL (nf 0) q0_0 q0_0).bind fun t13 =>
            some (t13, t12)).bind fun o => match o with
          | (t10, t11) => 
          (mkL (nf 0) q0_0 q0_0).bind fun t14 =>
          (iter (T_lower_Factor_b29 q0_0 l0_2) FU (t3, t4, 0, t14, t10, t11)).bind fun o => match o with
          | (t15, t16, t17, t18) => 
          cond (t15 != 0)
            (some (0, (List.map nf []), (List.map nf []), t15, t16))
            (some (q0_0, t18, t17, 0, 0)))
      | .inr v => some v)


def T_girderref10_may (q0 : Int) : Option Bool :=
  cond (decide (q0 ≥ 0))
    (some (decide (q0 ≤ 48)))
    (some false)


def T_girderref10_Right (q0_0 : Int) (q0_1 : Int) (l0_2 : List Nat) : Option Bool :=
  (T_girderref10_may q0_0).bind fun t1 =>
  cond t1
    ((T_girderref10_may q0_1).bind fun t2 =>
      cond t2
        ((some ((l0_2.length : Nat) : Int)).bind fun t3 =>
          some (t3 == (IntKind.i64.wrap (q0_0 * q0_1))))
        (some false))
    (some false)


def T_girderref10_At (q0_0 : Int) (q0_1 : Int) (l0_2 : List Nat) (q1 : Int) (q2 : Int) : Option Nat :=
  (atI l0_2 (IntKind.i64.wrap ((IntKind.i64.wrap (q1 * q0_1)) + q2))).bind fun t1 =>
  some t1


def T_girderref01_fields (p0 : Nat) : Option (Bool × Int × Int) :=
  (T_math_Float64bits p0).bind fun t1 =>
  some (((t1.fdiv (2 ^ (min (63 : Int).toNat IntKind.u64.bits))) == 1), (IntKind.i64.wrap ((IntKind.u64.wrap (t1.tdiv 4503599627370496)).tmod 2048)), (t1.tmod 4503599627370496))


def T_girderref01_Kind (p0 : Nat) : Option Int :=
  some (if expF p0 = 2047 then (if fracF p0 = 0 then 3 else 4) else if expF p0 = 0 then (if fracF p0 = 0 then 0 else 1) else 2)


def T_girderref01_Nan (p0 : Nat) : Option Bool :=
  (T_girderref01_Kind p0).bind fun t1 =>
  some (t1 == 4)


def T_girderref01_Same (p0 : Nat) (p1 : Nat) : Option Bool :=
  some (p0 == p1)

def T_girderref10_Symmetric_b7 (t3 : Int) (q0_0 : Int) (q0_1 : Int) (l0_2 : List Nat) : Int → Option (Int ⊕ (Unit ⊕ Bool)) := fun st => match st with
| t4 =>
  cond (decide (t4 < t3))
    ((T_girderref10_At q0_0 q0_1 l0_2 t3 t4).bind fun t5 =>
      (T_girderref10_At q0_0 q0_1 l0_2 t4 t3).bind fun t6 =>
      (T_girderref01_Same t5 t6).bind fun t7 =>
      cond (!t7)
        (some (.inr (.inr false)))
        (some (.inl (IntKind.i64.wrap (t4 + 1)))))
    (some (.inr (.inl ())))

def T_girderref10_Symmetric_b5 (q0_0 : Int) (q0_1 : Int) (l0_2 : List Nat) : Int → Option (Int ⊕ (Unit ⊕ Bool)) := fun st => match st with
| t3 =>
  cond (decide (t3 < q0_0))
    (((iter (T_girderref10_Symmetric_b7 t3 q0_0 q0_1 l0_2) FU 0 : Option (Unit ⊕ Bool))).bind fun o => match o with
      | .inl () => some (.inl (IntKind.i64.wrap (t3 + 1)))
      | .inr v => some (.inr (.inr v)))
    (some (.inr (.inl ())))

def T_girderref10_Symmetric (q0_0 : Int) (q0_1 : Int) (l0_2 : List Nat) : Option Bool :=
  ((T_girderref10_Right q0_0 q0_1 l0_2).bind fun t2 =>
    cond (!(!t2))
      (some (q0_0 != q0_1))
      (some true)).bind fun t1 =>
  cond t1
    (some false)
    (((iter (T_girderref10_Symmetric_b5 q0_0 q0_1 l0_2) FU 0 : Option (Unit ⊕ Bool))).bind fun o => match o with
      | .inl () => some true
      | .inr v => some v)


def T_girderref03_Finite (p0 : Nat) : Option Bool :=
  (some (fsub p0 p0)).bind fun t1 =>
  (some (feq t1 (nf 0))).bind fun t2 =>
  some t2


def T_girderref12_At (l0 : List Nat) (q1 : Int) (q2 : Int) : Option Nat :=
  cond (q1 == q2)
    (some (nf 4607182418800017408))
    ((atI l0 (IntKind.i64.wrap ((IntKind.i64.wrap ((IntKind.i64.wrap (q1 * (IntKind.i64.wrap (q1 - 1)))).tdiv 2)) + q2))).bind fun t1 =>
      some t1)

def T_girderref12_Factor_b2 (l0_2 : List Nat) : Int → Option (Int ⊕ (Unit ⊕ (Int × List Nat × List Nat × Int × Int))) := fun st => match st with
| t2 =>
  (some ((l0_2.length : Nat) : Int)).bind fun t3 =>
  cond (decide (t2 < t3))
    ((atI l0_2 t2).bind fun t4 =>
      (T_girderref03_Finite t4).bind fun t5 =>
      cond (!t5)
        (some (.inr (.inr (0, (List.map nf []), (List.map nf []), 5, 0))))
        (some (.inl (IntKind.i64.wrap (t2 + 1)))))
    (some (.inr (.inl ())))

def T_girderref12_Factor_b31 (t10 : Int) (t11 : List Nat) (t12 : List Nat) : (Int × List Nat) → Option ((Int × List Nat) ⊕ (List Nat)) := fun st => match st with
| (t15, t16) =>
  cond (decide (t15 < t10))
    ((atI t11 t15).bind fun t17 =>
      (T_girderref12_At t12 t10 t15).bind fun t18 =>
      (some (fmul t18 t17)).bind fun t19 =>
      (atI t16 t15).bind fun t20 =>
      (some (t16.set (t15).toNat t19)).bind fun t21 =>
      some (.inl ((IntKind.i64.wrap (t15 + 1)), t21)))
    (some (.inr t16))

def T_girderref12_Factor_b41 (t10 : Int) (t14 : List Nat) (t26 : List Nat) (t24 : Int) : (Nat × Int) → Option ((Nat × Int) ⊕ (Nat)) := fun st => match st with
| (t31, t32) =>
  cond (decide (t32 < t10))
    ((atI t14 t32).bind fun t33 =>
      (T_girderref12_At t26 t24 t32).bind fun t34 =>
      (some (fmul t34 t33)).bind fun t35 =>
      (some (fsub t31 t35)).bind fun t36 =>
      some (.inl (t36, (IntKind.i64.wrap (t32 + 1)))))
    (some (.inr t31))

def T_girderref12_Factor_b38 (q0_0 : Int) (l0_2 : List Nat) (t10 : Int) (t14 : List Nat) : (Int × List Nat × List Nat) → Option ((Int × List Nat × List Nat) ⊕ ((List Nat × List Nat) ⊕ (Int × List Nat × List Nat × Int × Int))) := fun st => match st with
| (t24, t25, t26) =>
  cond (decide (t24 < q0_0))
    ((((atI l0_2 (IntKind.i64.wrap ((IntKind.i64.wrap (t24 * q0_0)) + t10))).bind fun t29 =>
          (iter (T_girderref12_Factor_b41 t10 t14 t26 t24) FU (t29, 0)).bind fun t30 =>
          cond (t24 == t10)
            ((some (fgt t30 (nf 0))).bind fun t37 =>
              cond (!(!t37))
                ((T_girderref03_Finite t30).bind fun t38 =>
                  cond (!t38)
                    (some (.inr (0, (List.map nf []), (List.map nf []), 220, t10)))
                    ((atI t25 t10).bind fun t39 =>
                      (some (t25.set (t10).toNat t30)).bind fun t40 =>
                      some (.inl (t40, t26))))
                (some (.inr (0, (List.map nf []), (List.map nf []), 220, t10))))
            ((atI t25 t10).bind fun t41 =>
              (some (fdiv t30 t41)).bind fun t42 =>
              (T_girderref03_Finite t42).bind fun t43 =>
              cond (!t43)
                (some (.inr (0, (List.map nf []), (List.map nf []), 6, t10)))
                ((atI t26 (IntKind.i64.wrap ((IntKind.i64.wrap ((IntKind.i64.wrap (t24 * (IntKind.i64.wrap (t24 - 1)))).tdiv 2)) + t10))).bind fun t44 =>
                  (some (t26.set ((IntKind.i64.wrap ((IntKind.i64.wrap ((IntKind.i64.wrap (t24 * (IntKind.i64.wrap (t24 - 1)))).tdiv 2)) + t10))).toNat t42)).bind fun t45 =>
                  some (.inl (t25, t45)))) : Option ((List Nat × List Nat) ⊕ (Int × List Nat × List Nat × Int × Int)))).bind fun o => match o with
      | .inl (t27, t28) => some (.inl ((IntKind.i64.wrap (t24 + 1)), t27, t28))
      | .inr v => some (.inr (.inr v)))
    (some (.inr (.inl (t25, t26))))

def T_girderref12_Factor_b29 (q0_0 : Int) (l0_2 : List Nat) : (Int × List Nat × List Nat) → Option ((Int × List Nat × List Nat) ⊕ ((List Nat × List Nat) ⊕ (Int × List Nat × List Nat × Int × Int))) := fun st => match st with
| (t10, t11, t12) =>
  cond (decide (t10 < q0_0))
    ((mkL (nf 0) t10 t10).bind fun t13 =>
      (iter (T_girderref12_Factor_b31 t10 t11 t12) FU (0, t13)).bind fun t14 =>
      ((iter (T_girderref12_Factor_b38 q0_0 l0_2 t10 t14) FU (t10, t11, t12) : Option ((List Nat × List Nat) ⊕ (Int × List Nat × List Nat × Int × Int)))).bind fun o => match o with
      | .inl (t22, t23) => some (.inl ((IntKind.i64.wrap (t10 + 1)), t22, t23))
      | .inr v => some (.inr (.inr v)))
    (some (.inr (.inl (t11, t12))))

def T_girderref12_Factor (q0_0 : Int) (q0_1 : Int) (l0_2 : List Nat) : Option (Int × List Nat × List Nat × Int × Int) :=
  (T_girderref10_Symmetric q0_0 q0_1 l0_2).bind fun t1 =>
  cond (!t1)
    (some (0, (List.map nf []), (List.map nf []), 4, 0))
    (((iter (T_girderref12_Factor_b2 l0_2) FU 0 : Option (Unit ⊕ (Int × List Nat × List Nat × Int × Int)))).bind fun o => match o with
      | .inl () => 
        ((mkL (nf 0) (IntKind.i64.wrap ((IntKind.i64.wrap (q0_0 * (IntKind.i64.wrap (q0_0 - 1)))).tdiv 2)) (IntKind.i64.wrap ((IntKind.i64.wrap (q0_0 * (IntKind.i64.wrap (q0_0 - 1)))).tdiv 2))).bind fun t6 =>
          (mkL (nf 0) q0_0 q0_0).bind fun t7 =>
          ((iter (T_girderref12_Factor_b29 q0_0 l0_2) FU (0, t7, t6) : Option ((List Nat × List Nat) ⊕ (Int × List Nat × List Nat × Int × Int)))).bind fun o => match o with
          | .inl (t8, t9) => some (q0_0, t9, t8, 0, 0)
          | .inr v => some v)
      | .inr v => some v)


def T_girderkit_SameFloat (p0 : Nat) (p1 : Nat) : Option Bool :=
  some (p0 == p1)

def T_girderkit_SameReals_b2 (l0 : List Nat) (l1 : List Nat) : Int → Option (Int ⊕ (Unit ⊕ Bool)) := fun st => match st with
| t3 =>
  (some ((l0.length : Nat) : Int)).bind fun t4 =>
  cond (decide (t3 < t4))
    ((atI l0 t3).bind fun t5 =>
      (atI l1 t3).bind fun t6 =>
      (T_girderkit_SameFloat t5 t6).bind fun t7 =>
      cond (!t7)
        (some (.inr (.inr false)))
        (some (.inl (IntKind.i64.wrap (t3 + 1)))))
    (some (.inr (.inl ())))

def T_girderkit_SameReals (l0 : List Nat) (l1 : List Nat) : Option Bool :=
  (some ((l0.length : Nat) : Int)).bind fun t1 =>
  (some ((l1.length : Nat) : Int)).bind fun t2 =>
  cond (t1 != t2)
    (some false)
    (((iter (T_girderkit_SameReals_b2 l0 l1) FU 0 : Option (Unit ⊕ Bool))).bind fun o => match o with
      | .inl () => some true
      | .inr v => some v)


def T_girderkit_SameFactor (q0_0 : Int) (l0_1 : List Nat) (l0_2 : List Nat) (q1_0 : Int) (l1_1 : List Nat) (l1_2 : List Nat) : Option Bool :=
  cond (q0_0 == q1_0)
    ((T_girderkit_SameReals l0_1 l1_1).bind fun t1 =>
      cond t1
        ((T_girderkit_SameReals l0_2 l1_2).bind fun t2 =>
          some t2)
        (some false))
    (some false)

def T_girderlaw12_mirrored_b2 (l0_2 : List Nat) (q0_0 : Int) : Int → Option (Int ⊕ (Int)) := fun st => match st with
| t2 =>
  cond (decide (t2 < 48))
    ((some ((l0_2.length : Nat) : Int)).bind fun t3 =>
      cond (decide ((IntKind.i64.wrap ((IntKind.i64.wrap (t2 + 1)) * (IntKind.i64.wrap (t2 + 1)))) ≤ t3))
        (cond (decide (t2 < q0_0))
            (some (.inl (IntKind.i64.wrap (t2 + 1))))
            (some (.inr t2)))
        (some (.inr t2)))
    (some (.inr t2))

def T_girderlaw12_mirrored_b11 (t6 : Int) (l0_2 : List Nat) (t1 : Int) : (Int × List Nat) → Option ((Int × List Nat) ⊕ (List Nat)) := fun st => match st with
| (t9, t10) =>
  cond (decide (t9 ≤ t6))
    ((atI l0_2 (IntKind.i64.wrap ((IntKind.i64.wrap (t6 * t1)) + t9))).bind fun t11 =>
      (atI t10 (IntKind.i64.wrap ((IntKind.i64.wrap (t6 * t1)) + t9))).bind fun t12 =>
      (some (t10.set ((IntKind.i64.wrap ((IntKind.i64.wrap (t6 * t1)) + t9))).toNat t11)).bind fun t13 =>
      (atI l0_2 (IntKind.i64.wrap ((IntKind.i64.wrap (t6 * t1)) + t9))).bind fun t14 =>
      (atI t13 (IntKind.i64.wrap ((IntKind.i64.wrap (t9 * t1)) + t6))).bind fun t15 =>
      (some (t13.set ((IntKind.i64.wrap ((IntKind.i64.wrap (t9 * t1)) + t6))).toNat t14)).bind fun t16 =>
      some (.inl ((IntKind.i64.wrap (t9 + 1)), t16)))
    (some (.inr t10))

def T_girderlaw12_mirrored_b9 (t1 : Int) (l0_2 : List Nat) : (Int × List Nat) → Option ((Int × List Nat) ⊕ (List Nat)) := fun st => match st with
| (t6, t7) =>
  cond (decide (t6 < t1))
    ((iter (T_girderlaw12_mirrored_b11 t6 l0_2 t1) FU (0, t7)).bind fun t8 =>
      some (.inl ((IntKind.i64.wrap (t6 + 1)), t8)))
    (some (.inr t7))

def T_girderlaw12_mirrored (q0_0 : Int) (q0_1 : Int) (l0_2 : List Nat) : Option (Int × Int × List Nat) :=
  (iter (T_girderlaw12_mirrored_b2 l0_2 q0_0) FU 0).bind fun t1 =>
  (mkL (nf 0) (IntKind.i64.wrap (t1 * t1)) (IntKind.i64.wrap (t1 * t1))).bind fun t4 =>
  (iter (T_girderlaw12_mirrored_b9 t1 l0_2) FU (0, t4)).bind fun t5 =>
  some (t1, t1, t5)


def T_lower_Right (q0_0 : Int) (l0_1 : List Nat) (l0_2 : List Nat) : Option Bool :=
  cond (decide (q0_0 ≥ 0))
    (cond (decide (q0_0 ≤ 48))
        ((some ((l0_1.length : Nat) : Int)).bind fun t1 =>
          cond (t1 == (IntKind.i64.wrap ((IntKind.i64.wrap (q0_0 * (IntKind.i64.wrap (q0_0 - 1)))).tdiv 2)))
            ((some ((l0_2.length : Nat) : Int)).bind fun t2 =>
              some (t2 == q0_0))
            (some false))
        (some false))
    (some false)


def T_matrix_Make_1 (q0 : Int) (q1 : Int) : Option Nat :=
  some (nf 0)


def T_matrix_Make (q0 : Int) (q1 : Int) : Option (Int × Int × List Nat × Int) :=
  (T_matrix_fits q0).bind fun t1 =>
  cond (!(!t1))
    ((T_matrix_fits q1).bind fun t2 =>
      cond (!t2)
        (some (0, 0, (List.map nf []), 2))
        ((T_matrix_laid q0 q1 (fun v0 v1 => T_matrix_Make_1 v0 v1)).bind fun o => match o with
          | (t3, t4, t5) =>
          some (t3, t4, t5, 0)))
    (some (0, 0, (List.map nf []), 2))

def T_lower_Times_b38 (t15 : Int) (t13 : List Nat) (l0_2 : List Nat) (t21 : List Nat) : (Nat × Int) → Option ((Nat × Int) ⊕ (Nat)) := fun st => match st with
| (t23, t24) =>
  cond (decide (t24 < (IntKind.i64.wrap (t15 + 1))))
    ((atI t13 t24).bind fun t25 =>
      (atI l0_2 t24).bind fun t26 =>
      (some (fmul t25 t26)).bind fun t27 =>
      (atI t21 t24).bind fun t28 =>
      (some (fmul t27 t28)).bind fun t29 =>
      (some (fadd t23 t29)).bind fun t30 =>
      some (.inl (t30, (IntKind.i64.wrap (t24 + 1)))))
    (some (.inr t23))

def T_lower_Times_b36 (t7 : Int) (l0_1 : List Nat) (t13 : List Nat) (l0_2 : List Nat) (q0_0 : Int) : (Int × List Nat) → Option ((Int × List Nat) ⊕ (List Nat)) := fun st => match st with
| (t15, t16) =>
  cond (decide (t15 < (IntKind.i64.wrap (t7 + 1))))
    ((T_lower_row l0_1 t15).bind fun o => match o with
      | (t17, t18) =>
      (subL l0_1 t17 t18).bind fun t19 =>
      (some [(nf 4607182418800017408)]).bind fun t20 =>
      (appL t19 t20).bind fun t21 =>
      (iter (T_lower_Times_b38 t15 t13 l0_2 t21) FU ((nf 0), 0)).bind fun t22 =>
      (atI t16 (IntKind.i64.wrap ((IntKind.i64.wrap (t7 * q0_0)) + t15))).bind fun t31 =>
      (some (t16.set ((IntKind.i64.wrap ((IntKind.i64.wrap (t7 * q0_0)) + t15))).toNat t22)).bind fun t32 =>
      (atI t32 (IntKind.i64.wrap ((IntKind.i64.wrap (t15 * q0_0)) + t7))).bind fun t33 =>
      (some (t32.set ((IntKind.i64.wrap ((IntKind.i64.wrap (t15 * q0_0)) + t7))).toNat t22)).bind fun t34 =>
      some (.inl ((IntKind.i64.wrap (t15 + 1)), t34)))
    (some (.inr t16))

def T_lower_Times_b27 (q0_0 : Int) (l0_1 : List Nat) (l0_2 : List Nat) : (Int × List Nat) → Option ((Int × List Nat) ⊕ (List Nat)) := fun st => match st with
| (t7, t8) =>
  cond (decide (t7 < q0_0))
    ((T_lower_row l0_1 t7).bind fun o => match o with
      | (t9, t10) =>
      (subL l0_1 t9 t10).bind fun t11 =>
      (some [(nf 4607182418800017408)]).bind fun t12 =>
      (appL t11 t12).bind fun t13 =>
      (iter (T_lower_Times_b36 t7 l0_1 t13 l0_2 q0_0) FU (0, t8)).bind fun t14 =>
      some (.inl ((IntKind.i64.wrap (t7 + 1)), t14)))
    (some (.inr t8))

def T_lower_Times (q0_0 : Int) (l0_1 : List Nat) (l0_2 : List Nat) : Option (Int × Int × List Nat × Int) :=
  (T_lower_Right q0_0 l0_1 l0_2).bind fun t1 =>
  cond (!t1)
    (some (0, 0, (List.map nf []), 4))
    ((T_matrix_Make q0_0 q0_0).bind fun o => match o with
      | (t2, t3, t4, t5) =>
      (iter (T_lower_Times_b27 q0_0 l0_1 l0_2) FU (0, t4)).bind fun t6 =>
      some (t2, t3, t6, 0))


def T_girderkit_SameMatrix (q0_0 : Int) (q0_1 : Int) (l0_2 : List Nat) (q1_0 : Int) (q1_1 : Int) (l1_2 : List Nat) : Option Bool :=
  cond (q0_0 == q1_0)
    (cond (q0_1 == q1_1)
        ((T_girderkit_SameReals l0_2 l1_2).bind fun t1 =>
          some t1)
        (some false))
    (some false)


def T_girderlaw12_awake  : Option Bool :=
  (some [(nf 4616189618054758400), (nf 4611686018427387904), (nf 4611686018427387904), (nf 4617315517961601024)]).bind fun t1 =>
  (T_lower_Factor 2 2 t1).bind fun o => match o with
  | (t2, t3, t4, t5, t6) =>
  (T_lower_Times t2 t3 t4).bind fun o => match o with
  | (t7, t8, t9, t10) =>
  (some [(nf 4616189618054758400), (nf 4611686018427387904), (nf 4611686018427387904), (nf 4607182418800017408)]).bind fun t11 =>
  (T_lower_Factor 2 2 t11).bind fun o => match o with
  | (t12, t13, t14, t15, t16) =>
  cond (t5 == 0)
    (cond (t6 == 0)
        ((some [(nf 4602678819172646912)]).bind fun t17 =>
          (some [(nf 4616189618054758400), (nf 4616189618054758400)]).bind fun t18 =>
          (T_girderkit_SameFactor t2 t3 t4 2 t17 t18).bind fun t19 =>
          cond t19
            (cond (t10 == 0)
                ((T_girderkit_SameMatrix t7 t8 t9 2 2 t1).bind fun t20 =>
                  cond t20
                    (cond (t15 == 220)
                        (some (t16 == 1))
                        (some false))
                    (some false))
                (some false))
            (some false))
        (some false))
    (some false)

def T_girderlaw12_LowerFactors_b2  : (Int × Int × Int × List Nat) → Option ((Int × Int × Int × List Nat) ⊕ (Unit ⊕ Bool)) := fun st => match st with
| (t1, t2, t3, t4) =>
  cond (decide (t1 < 2))
    ((T_lower_Factor t2 t3 t4).bind fun o => match o with
      | (t5, t6, t7, t8, t9) =>
      (T_girderref12_Factor t2 t3 t4).bind fun o => match o with
      | (t10, t11, t12, t13, t14) =>
      (T_girderkit_SameFactor t5 t6 t7 t10 t11 t12).bind fun t15 =>
      cond (!(!t15))
        (cond (!(t8 != t13))
            (cond (t9 != t14)
                (some (.inr (.inr false)))
                ((T_girderlaw12_mirrored t2 t3 t4).bind fun o => match o with
                  | (t16, t17, t18) =>
                  some (.inl ((IntKind.i64.wrap (t1 + 1)), t16, t17, t18))))
            (some (.inr (.inr false))))
        (some (.inr (.inr false))))
    (some (.inr (.inl ())))

def T_girderlaw12_LowerFactors (q0_0 : Int) (q0_1 : Int) (l0_2 : List Nat) : Option Bool :=
  ((iter (T_girderlaw12_LowerFactors_b2) FU (0, q0_0, q0_1, l0_2) : Option (Unit ⊕ Bool))).bind fun o => match o with
  | .inl () => 
    ((T_girderlaw12_awake ).bind fun t19 =>
      some t19)
  | .inr v => some v


def T_girderref12_Right (q0_0 : Int) (l0_1 : List Nat) (l0_2 : List Nat) : Option Bool :=
  cond (decide (q0_0 ≥ 0))
    (cond (decide (q0_0 ≤ 48))
        ((some ((l0_1.length : Nat) : Int)).bind fun t1 =>
          cond (t1 == (IntKind.i64.wrap ((IntKind.i64.wrap (q0_0 * (IntKind.i64.wrap (q0_0 - 1)))).tdiv 2)))
            ((some ((l0_2.length : Nat) : Int)).bind fun t2 =>
              some (t2 == q0_0))
            (some false))
        (some false))
    (some false)

def T_girderref12_Times_b38 (t8 : Int) (l0_2 : List Nat) (l0_1 : List Nat) (t5 : Int) : (Nat × Int) → Option ((Nat × Int) ⊕ (Nat)) := fun st => match st with
| (t11, t12) =>
  cond (decide (t12 ≤ t8))
    ((atI l0_2 t12).bind fun t13 =>
      (T_girderref12_At l0_1 t5 t12).bind fun t14 =>
      (some (fmul t14 t13)).bind fun t15 =>
      (T_girderref12_At l0_1 t8 t12).bind fun t16 =>
      (some (fmul t15 t16)).bind fun t17 =>
      (some (fadd t11 t17)).bind fun t18 =>
      some (.inl (t18, (IntKind.i64.wrap (t12 + 1)))))
    (some (.inr t11))

def T_girderref12_Times_b36 (t5 : Int) (l0_2 : List Nat) (l0_1 : List Nat) (q0_0 : Int) : (Int × List Nat) → Option ((Int × List Nat) ⊕ (List Nat)) := fun st => match st with
| (t8, t9) =>
  cond (decide (t8 ≤ t5))
    ((iter (T_girderref12_Times_b38 t8 l0_2 l0_1 t5) FU ((nf 0), 0)).bind fun t10 =>
      (atI t9 (IntKind.i64.wrap ((IntKind.i64.wrap (t5 * q0_0)) + t8))).bind fun t19 =>
      (some (t9.set ((IntKind.i64.wrap ((IntKind.i64.wrap (t5 * q0_0)) + t8))).toNat t10)).bind fun t20 =>
      (atI t20 (IntKind.i64.wrap ((IntKind.i64.wrap (t8 * q0_0)) + t5))).bind fun t21 =>
      (some (t20.set ((IntKind.i64.wrap ((IntKind.i64.wrap (t8 * q0_0)) + t5))).toNat t10)).bind fun t22 =>
      some (.inl ((IntKind.i64.wrap (t8 + 1)), t22)))
    (some (.inr t9))

def T_girderref12_Times_b27 (q0_0 : Int) (l0_2 : List Nat) (l0_1 : List Nat) : (Int × List Nat) → Option ((Int × List Nat) ⊕ (List Nat)) := fun st => match st with
| (t5, t6) =>
  cond (decide (t5 < q0_0))
    ((iter (T_girderref12_Times_b36 t5 l0_2 l0_1 q0_0) FU (0, t6)).bind fun t7 =>
      some (.inl ((IntKind.i64.wrap (t5 + 1)), t7)))
    (some (.inr t6))

def T_girderref12_Times (q0_0 : Int) (l0_1 : List Nat) (l0_2 : List Nat) : Option (Int × Int × List Nat × Int) :=
  (T_girderref12_Right q0_0 l0_1 l0_2).bind fun t1 =>
  cond (!t1)
    (some (0, 0, (List.map nf []), 4))
    (((mkL (nf 0) (IntKind.i64.wrap (q0_0 * q0_0)) (IntKind.i64.wrap (q0_0 * q0_0))).bind fun t3 =>
        some t3).bind fun t2 =>
      (iter (T_girderref12_Times_b27 q0_0 l0_2 l0_1) FU (0, t2)).bind fun t4 =>
      some (q0_0, q0_0, t4, 0))

def T_girderlaw12_LowerTimes_b9 (t4 : List Nat) (t3 : List Nat) : Int → Option (Int ⊕ (Int)) := fun st => match st with
| t18 =>
  cond (decide (t18 < 48))
    ((some ((t4.length : Nat) : Int)).bind fun t19 =>
      cond (decide ((IntKind.i64.wrap (t18 + 1)) ≤ t19))
        ((some ((t3.length : Nat) : Int)).bind fun t20 =>
          cond (decide ((IntKind.i64.wrap ((IntKind.i64.wrap ((IntKind.i64.wrap (t18 + 1)) * t18)).tdiv 2)) ≤ t20))
            (some (.inl (IntKind.i64.wrap (t18 + 1))))
            (some (.inr t18)))
        (some (.inr t18)))
    (some (.inr t18))

def T_girderlaw12_LowerTimes_b7  : (Int × Int × List Nat × List Nat) → Option ((Int × Int × List Nat × List Nat) ⊕ (Unit ⊕ Bool)) := fun st => match st with
| (t1, t2, t3, t4) =>
  cond (decide (t1 < 2))
    ((T_lower_Times t2 t3 t4).bind fun o => match o with
      | (t5, t6, t7, t8) =>
      (T_girderref12_Times t2 t3 t4).bind fun o => match o with
      | (t9, t10, t11, t12) =>
      ((T_lower_Right t2 t3 t4).bind fun t14 =>
        (T_girderref12_Right t2 t3 t4).bind fun t15 =>
        cond (!(!(t14 == t15)))
          ((T_girderkit_SameMatrix t5 t6 t7 t9 t10 t11).bind fun t16 =>
            cond (!(!t16))
              (some (t8 != t12))
              (some true))
          (some true)).bind fun t13 =>
      cond t13
        (some (.inr (.inr false)))
        ((iter (T_girderlaw12_LowerTimes_b9 t4 t3) FU 0).bind fun t17 =>
          (subL t3 0 (IntKind.i64.wrap ((IntKind.i64.wrap (t17 * (IntKind.i64.wrap (t17 - 1)))).tdiv 2))).bind fun t21 =>
          (subL t4 0 t17).bind fun t22 =>
          some (.inl ((IntKind.i64.wrap (t1 + 1)), t17, t21, t22))))
    (some (.inr (.inl ())))

def T_girderlaw12_LowerTimes (q0_0 : Int) (l0_1 : List Nat) (l0_2 : List Nat) : Option Bool :=
  ((iter (T_girderlaw12_LowerTimes_b7) FU (0, q0_0, l0_1, l0_2) : Option (Unit ⊕ Bool))).bind fun o => match o with
  | .inl () => 
    ((T_girderlaw12_awake ).bind fun t23 =>
      some t23)
  | .inr v => some v


def T_math_Copysign (p0 : Nat) (p1 : Nat) : Option Nat :=
  cond (isNaN p1) none (some (nf ((if negF p1 then 9223372036854775808 else 0) + magF p0)))


def T_math_NaN  : Option Nat :=
  (T_math_Float64frombits 9221120237041090561).bind fun t1 =>
  some t1


def T_math_Inf (q0 : Int) : Option Nat :=
  (cond (decide (q0 ≥ 0))
      (some 9218868437227405312)
      (some 18442240474082181120)).bind fun t1 =>
  (T_math_Float64frombits t1).bind fun t2 =>
  some t2

def T_girderlaw12_even_b2 (l0 : List Nat) : Int → Option (Int ⊕ (Unit ⊕ Bool)) := fun st => match st with
| t1 =>
  (some ((l0.length : Nat) : Int)).bind fun t2 =>
  cond (decide (t1 < t2))
    ((atI l0 t1).bind fun t3 =>
      (T_math_Abs t3).bind fun t4 =>
      (some (!feq t4 (nf 0))).bind fun t5 =>
      cond t5
        ((some (fgt t4 (nf 3256102530588868608) || feq t4 (nf 3256102530588868608))).bind fun t6 =>
          cond t6
            ((some (flt t4 (nf 5958262307011166208) || feq t4 (nf 5958262307011166208))).bind fun t7 =>
              cond (!t7)
                (some (.inr (.inr false)))
                (some (.inl (IntKind.i64.wrap (t1 + 1)))))
            (some (.inr (.inr false))))
        (some (.inl (IntKind.i64.wrap (t1 + 1)))))
    (some (.inr (.inl ())))

def T_girderlaw12_even (l0 : List Nat) : Option Bool :=
  ((iter (T_girderlaw12_even_b2 l0) FU 0 : Option (Unit ⊕ Bool))).bind fun o => match o with
  | .inl () => some true
  | .inr v => some v


def T_girderkit_Pick (q0 : Int) (q1 : Int) : Option Int :=
  cond (decide (q1 < 1))
    (some 0)
    ((nz q1).bind fun t2 =>
      (cond (decide ((q0.tmod q1) < 0))
          (some (IntKind.i64.wrap ((q0.tmod q1) + q1)))
          (some (q0.tmod q1))).bind fun t1 =>
      some t1)


def T_math_normalize (p0 : Nat) : Option (Nat × Int) :=
  (T_math_Abs p0).bind fun t1 =>
  (some (flt t1 (nf 4503599627370496))).bind fun t2 =>
  cond t2
    ((some (fmul p0 (nf 4841369599423283200))).bind fun t3 =>
      some (t3, (-52)))
    (some (p0, 0))


def T_math_ldexp (p0 : Nat) (q1 : Int) : Option Nat :=
  (some (feq p0 (nf 0))).bind fun t1 =>
  cond t1
    (some p0)
    (((T_math_IsInf p0 0).bind fun t3 =>
        cond (!t3)
          ((T_math_IsNaN p0).bind fun t4 =>
            some t4)
          (some true)).bind fun t2 =>
      cond t2
        (some p0)
        ((T_math_normalize p0).bind fun o => match o with
          | (t5, t6) =>
          (T_math_Float64bits t5).bind fun t7 =>
          cond (decide ((IntKind.i64.wrap ((IntKind.i64.wrap (q1 + t6)) + (IntKind.i64.wrap ((IntKind.i64.wrap (BitVec.ofInt IntKind.i64.bits (IntKind.i64.wrap (t7.fdiv (2 ^ (min (52 : Int).toNat IntKind.u64.bits)))) &&& BitVec.ofInt IntKind.i64.bits 2047).toNat) - 1023)))) < (-1075)))
            ((T_math_Copysign (nf 0) t5).bind fun t8 =>
              some t8)
            (cond (decide ((IntKind.i64.wrap ((IntKind.i64.wrap (q1 + t6)) + (IntKind.i64.wrap ((IntKind.i64.wrap (BitVec.ofInt IntKind.i64.bits (IntKind.i64.wrap (t7.fdiv (2 ^ (min (52 : Int).toNat IntKind.u64.bits)))) &&& BitVec.ofInt IntKind.i64.bits 2047).toNat) - 1023)))) > 1023))
                ((some (flt t5 (nf 0))).bind fun t9 =>
                  cond t9
                    ((T_math_Inf (-1)).bind fun t10 =>
                      some t10)
                    ((T_math_Inf 1).bind fun t11 =>
                      some t11))
                ((cond (decide ((IntKind.i64.wrap ((IntKind.i64.wrap (q1 + t6)) + (IntKind.i64.wrap ((IntKind.i64.wrap (BitVec.ofInt IntKind.i64.bits (IntKind.i64.wrap (t7.fdiv (2 ^ (min (52 : Int).toNat IntKind.u64.bits)))) &&& BitVec.ofInt IntKind.i64.bits 2047).toNat) - 1023)))) < (-1022)))
                      (some ((IntKind.i64.wrap ((IntKind.i64.wrap ((IntKind.i64.wrap (q1 + t6)) + (IntKind.i64.wrap ((IntKind.i64.wrap (BitVec.ofInt IntKind.i64.bits (IntKind.i64.wrap (t7.fdiv (2 ^ (min (52 : Int).toNat IntKind.u64.bits)))) &&& BitVec.ofInt IntKind.i64.bits 2047).toNat) - 1023)))) + 53)), (nf 4368491638549381120)))
                      (some ((IntKind.i64.wrap ((IntKind.i64.wrap (q1 + t6)) + (IntKind.i64.wrap ((IntKind.i64.wrap (BitVec.ofInt IntKind.i64.bits (IntKind.i64.wrap (t7.fdiv (2 ^ (min (52 : Int).toNat IntKind.u64.bits)))) &&& BitVec.ofInt IntKind.i64.bits 2047).toNat) - 1023)))), (nf 4607182418800017408)))).bind fun o => match o with
                  | (t12, t13) => 
                  (T_math_Float64frombits (IntKind.u64.wrap (BitVec.ofInt IntKind.u64.bits (IntKind.u64.wrap (BitVec.ofInt IntKind.u64.bits t7 &&& ~~~BitVec.ofInt IntKind.u64.bits 9218868437227405312).toNat) ||| BitVec.ofInt IntKind.u64.bits (IntKind.u64.wrap ((IntKind.u64.wrap (IntKind.i64.wrap (t12 + 1023))) * 2 ^ (min (52 : Int).toNat IntKind.u64.bits)))).toNat)).bind fun t14 =>
                  (some (fmul t13 t14)).bind fun t15 =>
                  some t15))))


def T_math_Ldexp (p0 : Nat) (q1 : Int) : Option Nat :=
  (T_math_ldexp p0 q1).bind fun t1 =>
  some t1


def T_girderkit_CopyReals (l0 : List Nat) : Option (List Nat) :=
  (appL (List.map nf []) l0).bind fun t1 =>
  some t1


def T_girderkit_CopyMatrix (q0_0 : Int) (q0_1 : Int) (l0_2 : List Nat) : Option (Int × Int × List Nat) :=
  (T_girderkit_CopyReals l0_2).bind fun t1 =>
  some (q0_0, q0_1, t1)

def T_girderlaw12_LowerScaled_b2 (t15 : Nat) : (Int × List Nat) → Option ((Int × List Nat) ⊕ (List Nat)) := fun st => match st with
| (t20, t21) =>
  (some ((t21.length : Nat) : Int)).bind fun t22 =>
  cond (decide (t20 < t22))
    ((atI t21 t20).bind fun t23 =>
      (some (fmul t23 t15)).bind fun t24 =>
      (atI t21 t20).bind fun t25 =>
      (some (t21.set (t20).toNat t24)).bind fun t26 =>
      some (.inl ((IntKind.i64.wrap (t20 + 1)), t26)))
    (some (.inr t21))

def T_girderlaw12_LowerScaled_b4 (t15 : Nat) : (Int × List Nat) → Option ((Int × List Nat) ⊕ (List Nat)) := fun st => match st with
| (t29, t30) =>
  (some ((t30.length : Nat) : Int)).bind fun t31 =>
  cond (decide (t29 < t31))
    ((atI t30 t29).bind fun t32 =>
      (some (fmul t32 t15)).bind fun t33 =>
      (atI t30 t29).bind fun t34 =>
      (some (t30.set (t29).toNat t33)).bind fun t35 =>
      some (.inl ((IntKind.i64.wrap (t29 + 1)), t35)))
    (some (.inr t30))

def T_girderlaw12_LowerScaled (q0_0 : Int) (q0_1 : Int) (l0_2 : List Nat) (q1 : Int) : Option Bool :=
  (T_girderlaw12_awake ).bind fun t1 =>
  cond (!t1)
    (some false)
    ((T_girderlaw12_mirrored q0_0 q0_1 l0_2).bind fun o => match o with
      | (t2, t3, t4) =>
      (T_lower_Factor t2 t3 t4).bind fun o => match o with
      | (t5, t6, t7, t8, t9) =>
      (cond (!(t8 != 0))
          ((T_girderlaw12_even t4).bind fun t11 =>
            cond (!(!t11))
              ((T_girderlaw12_even t6).bind fun t12 =>
                cond (!(!t12))
                  ((T_girderlaw12_even t7).bind fun t13 =>
                    some (!t13))
                  (some true))
              (some true))
          (some true)).bind fun t10 =>
      cond t10
        (some true)
        ((T_girderkit_Pick q1 41).bind fun t14 =>
          (T_math_Ldexp (nf 4607182418800017408) (IntKind.i64.wrap (t14 - 20))).bind fun t15 =>
          (T_girderkit_CopyMatrix t2 t3 t4).bind fun o => match o with
          | (t16, t17, t18) =>
          (iter (T_girderlaw12_LowerScaled_b2 t15) FU (0, t18)).bind fun t19 =>
          (T_girderkit_CopyReals t7).bind fun t27 =>
          (iter (T_girderlaw12_LowerScaled_b4 t15) FU (0, t27)).bind fun t28 =>
          (T_lower_Factor t16 t17 t19).bind fun o => match o with
          | (t36, t37, t38, t39, t40) =>
          cond (t39 == 0)
            (cond (t40 == 0)
                ((T_girderkit_SameReals t37 t6).bind fun t41 =>
                  cond t41
                    ((T_girderkit_SameReals t38 t28).bind fun t42 =>
                      some t42)
                    (some false))
                (some false))
            (some false)))


def T_girderkit_CopyFactor (q0_0 : Int) (l0_1 : List Nat) (l0_2 : List Nat) : Option (Int × List Nat × List Nat) :=
  (T_girderkit_CopyReals l0_1).bind fun t1 =>
  (T_girderkit_CopyReals l0_2).bind fun t2 =>
  some (q0_0, t1, t2)

def T_girderlaw12_LowerBack_b2 (t2 : Int) (l0 : List Int) : (Int × List Nat) → Option ((Int × List Nat) ⊕ (List Nat)) := fun st => match st with
| (t4, t5) =>
  cond (decide (t4 < (IntKind.i64.wrap ((IntKind.i64.wrap ((if 9 < t2 then 9 else t2) * (IntKind.i64.wrap ((if 9 < t2 then 9 else t2) - 1)))).tdiv 2))))
    ((some ((l0.length : Nat) : Int)).bind fun t6 =>
      (cond (decide (t6 > 0))
          ((some ((l0.length : Nat) : Int)).bind fun t8 =>
            (nz t8).bind fun t11 =>
            (atI l0 (t4.tmod t8)).bind fun t9 =>
            (T_girderkit_Pick (IntKind.i64.wrap (t9 + t4)) 9).bind fun t10 =>
            some (IntKind.i64.wrap (t10 - 4)))
          (some 0)).bind fun t7 =>
      (some [(nf (FloatKind.f64.nearest t7))]).bind fun t12 =>
      (appL t5 t12).bind fun t13 =>
      some (.inl ((IntKind.i64.wrap (t4 + 1)), t13)))
    (some (.inr t5))

def T_girderlaw12_LowerBack_b4 (t2 : Int) (l1 : List Int) : (Int × List Nat) → Option ((Int × List Nat) ⊕ (List Nat)) := fun st => match st with
| (t15, t16) =>
  cond (decide (t15 < (if 9 < t2 then 9 else t2)))
    ((atI l1 t15).bind fun t17 =>
      (T_girderkit_Pick t17 9).bind fun t18 =>
      (T_math_Ldexp (nf 4607182418800017408) (IntKind.i64.wrap (t18 - 4))).bind fun t19 =>
      (some [t19]).bind fun t20 =>
      (appL t16 t20).bind fun t21 =>
      some (.inl ((IntKind.i64.wrap (t15 + 1)), t21)))
    (some (.inr t16))

def T_girderlaw12_LowerBack (l0 : List Int) (l1 : List Int) : Option Bool :=
  (T_girderlaw12_awake ).bind fun t1 =>
  cond (!t1)
    (some false)
    ((some ((l1.length : Nat) : Int)).bind fun t2 =>
      (iter (T_girderlaw12_LowerBack_b2 t2 l0) FU (0, (List.map nf []))).bind fun t3 =>
      (iter (T_girderlaw12_LowerBack_b4 t2 l1) FU (0, (List.map nf []))).bind fun t14 =>
      (T_girderkit_CopyFactor (if 9 < t2 then 9 else t2) t3 t14).bind fun o => match o with
      | (t22, t23, t24) =>
      (T_lower_Times t22 t23 t24).bind fun o => match o with
      | (t25, t26, t27, t28) =>
      (T_lower_Factor t25 t26 t27).bind fun o => match o with
      | (t29, t30, t31, t32, t33) =>
      cond (t28 == 0)
        (cond (t32 == 0)
            ((T_girderkit_SameFactor (if 9 < t2 then 9 else t2) t3 t14 t29 t30 t31).bind fun t34 =>
              some t34)
            (some false))
        (some false))

end Go.Eng
