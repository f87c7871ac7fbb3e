/-
  Functions of plain Lean beside functions of the program, printed by a program of the session. No condition.
-/
import Derived.Test.YtngioelenknhkaaHandP
set_option linter.unusedSimpArgs false
set_option linter.unnecessarySimpa false
set_option linter.unusedSectionVars false
set_option linter.unusedVariables false
set_option maxRecDepth 100000
namespace Go.Eng
open Go


def T_math_Float64bits (p0 : Nat) : Option Int :=
  cond (isNaN p0) none (some (p0 : Int))


def T_math_Float64frombits (q0 : Int) : Option Nat :=
  some (nf q0.toNat)


def T_math_Abs (p0 : Nat) : Option Nat :=
  some (nf (magF p0))

def T_vector_Most_b2 (t1 : Int) (l0 : List Nat) : (Int × Nat × Int) → Option ((Int × Nat × Int) ⊕ ((Int × Nat))) := fun st => match st with
| (t4, t5, t6) =>
  cond (decide (t6 < t1))
    (((atI l0 t6).bind fun t9 =>
        (T_math_Abs t9).bind fun t10 =>
        (some (fgt t10 t5)).bind fun t11 =>
        cond (!t11)
          (cond (decide (t4 < 0))
              ((some (feq t10 (nf 0))).bind fun t12 =>
                (cond t12
                    (some (t6, t10))
                    (some (t4, t5))).bind fun o => match o with
                | (t13, t14) => some (t13, t14))
              ((some (t4, t5)).bind fun o => match o with
                | (t15, t16) => some (t15, t16)))
          ((some (t6, t10)).bind fun o => match o with
            | (t17, t18) => some (t17, t18))).bind fun o => match o with
      | (t7, t8) => some (.inl (t7, t8, (IntKind.i64.wrap (t6 + 1)))))
    (some (.inr (t4, t5)))

def T_vector_Most (l0 : List Nat) : Option (Int × Nat) :=
  (some ((l0.length : Nat) : Int)).bind fun t1 =>
  (iter (T_vector_Most_b2 t1 l0) FU ((-1), (nf 0), 0)).bind fun o => match o with
  | (t2, t3) => some (t2, t3)

def T_girderref09_Most_b2 (l0 : List Nat) : (Int × Nat × Int) → Option ((Int × Nat × Int) ⊕ ((Int × Nat))) := fun st => match st with
| (t3, t4, t5) =>
  (some ((l0.length : Nat) : Int)).bind fun t6 =>
  cond (decide (t5 < t6))
    (((atI l0 t5).bind fun t9 =>
        (atI l0 t5).bind fun t10 =>
        (some (feq t9 t10)).bind fun t11 =>
        cond t11
          (cond (!(decide (t3 < 0)))
              ((atI l0 t5).bind fun t12 =>
                (T_math_Abs t12).bind fun t13 =>
                (some (fgt t13 t4)).bind fun t14 =>
                (cond t14
                    ((atI l0 t5).bind fun t17 =>
                      (T_math_Abs t17).bind fun t18 =>
                      some (t5, t18))
                    (some (t3, t4))).bind fun o => match o with
                | (t15, t16) => some (t15, t16))
              (((atI l0 t5).bind fun t21 =>
                  (T_math_Abs t21).bind fun t22 =>
                  some (t5, t22)).bind fun o => match o with
                | (t19, t20) => some (t19, t20)))
          ((some (t3, t4)).bind fun o => match o with
            | (t23, t24) => some (t23, t24))).bind fun o => match o with
      | (t7, t8) => some (.inl (t7, t8, (IntKind.i64.wrap (t5 + 1)))))
    (some (.inr (t3, t4)))

def T_girderref09_Most (l0 : List Nat) : Option (Int × Nat) :=
  (iter (T_girderref09_Most_b2 l0) FU ((-1), (nf 0), 0)).bind fun o => match o with
  | (t1, t2) => some (t1, t2)


def T_math_IsNaN (p0 : Nat) : Option Bool :=
  (some (!feq p0 p0)).bind fun t1 =>
  some t1


def T_vector_Same (l0 : List Nat) (l1 : List Nat) : Option Bool :=
  cond (decide (l0.length ≤ 4294967296)) (some (l0 == l1)) none


def T_girderref09_Same (l0 : List Nat) (l1 : List Nat) : Option Bool :=
  cond (decide (l0.length ≤ 4294967296)) (some (l0 == l1)) none


def T_round_way (q0 : Int) : Option Int :=
  cond (!(decide (q0 < 0)))
    (cond (decide (q0 > 3))
        (some 0)
        (some q0))
    (some 0)


def T_math_IsInf (p0 : Nat) (q1 : Int) : Option Bool :=
  (cond (q1 == 0)
      ((T_math_Abs p0).bind fun t2 =>
        some t2)
      ((cond (decide (q1 < 0))
            ((some (nf (fneg p0))).bind fun t4 =>
              some t4)
            (some p0)).bind fun t3 =>
        some t3)).bind fun t1 =>
  (some (fgt t1 (nf 9218868437227405311))).bind fun t5 =>
  some t5

def T_round_finite_b2 (t1 : Int) (l0 : List Nat) : Int → Option (Int ⊕ (Unit ⊕ Bool)) := fun st => match st with
| t2 =>
  cond (decide (t2 < t1))
    ((atI l0 t2).bind fun t3 =>
      (T_math_IsNaN t3).bind fun t4 =>
      cond (!t4)
        ((T_math_IsInf t3 0).bind fun t5 =>
          cond t5
            (some (.inr (.inr false)))
            (some (.inl (IntKind.i64.wrap (t2 + 1)))))
        (some (.inr (.inr false))))
    (some (.inr (.inl ())))

def T_round_finite (l0 : List Nat) : Option Bool :=
  (some ((l0.length : Nat) : Int)).bind fun t1 =>
  ((iter (T_round_finite_b2 t1 l0) FU 0 : Option (Unit ⊕ Bool))).bind fun o => match o with
  | .inl () => some true
  | .inr v => some v


def T_math_Signbit (p0 : Nat) : Option Bool :=
  cond (isNaN p0) none (some (negF p0))


def T_math_Copysign (p0 : Nat) (p1 : Nat) : Option Nat :=
  cond (isNaN p1) none (some (nf ((if negF p1 then 9223372036854775808 else 0) + magF p0)))


def T_round_none (q0 : Int) : Option Nat :=
  cond (q0 == 1)
    ((T_math_Copysign (nf 0) (nf 13830554455654793216)).bind fun t1 =>
      some t1)
    (some (nf 0))


def T_round_step (p0 : Nat) (q1 : Bool) : Option Nat :=
  (T_math_Float64bits p0).bind fun t1 =>
  ((some (feq p0 (nf 0))).bind fun t3 =>
    (cond t3
        ((cond (!q1)
              (some (IntKind.u64.wrap (BitVec.ofInt IntKind.u64.bits 1 ||| BitVec.ofInt IntKind.u64.bits 9223372036854775808).toNat))
              (some 1)).bind fun t5 =>
          some t5)
        ((some (fgt p0 (nf 0))).bind fun t6 =>
          (cond (q1 == t6)
              (some (IntKind.u64.wrap (t1 + 1)))
              (some (IntKind.u64.wrap (t1 - 1)))).bind fun t7 =>
          some t7)).bind fun t4 =>
    some t4).bind fun t2 =>
  (T_math_Float64frombits t2).bind fun t8 =>
  some t8


def T_round_settle (p0 : Nat) (q1 : Int) (q2 : Int) : Option Nat :=
  (cond (q2 == 3)
      ((T_math_Signbit p0).bind fun t2 =>
        (cond t2
            (some 2)
            (some 1)).bind fun t3 =>
        some t3)
      (some q2)).bind fun t1 =>
  (T_math_IsInf p0 0).bind fun t4 =>
  cond t4
    ((some (fgt p0 (nf 0))).bind fun t5 =>
      cond t5
        (cond (!(t1 == 1))
            ((some (flt p0 (nf 0))).bind fun t6 =>
              cond t6
                (cond (t1 == 2)
                    ((T_math_Copysign (nf 9218868437227405311) p0).bind fun t7 =>
                      some t7)
                    (some p0))
                (some p0))
            ((T_math_Copysign (nf 9218868437227405311) p0).bind fun t8 =>
              some t8))
        ((some (flt p0 (nf 0))).bind fun t9 =>
          cond t9
            (cond (t1 == 2)
                ((T_math_Copysign (nf 9218868437227405311) p0).bind fun t10 =>
                  some t10)
                (some p0))
            (some p0)))
    (cond (decide (q1 < 0))
        (cond (!(t1 == 1))
            (cond (decide (q1 > 0))
                (cond (t1 == 2)
                    ((T_round_step p0 (decide (q1 > 0))).bind fun t11 =>
                      some t11)
                    (some p0))
                (some p0))
            ((T_round_step p0 (decide (q1 > 0))).bind fun t12 =>
              some t12))
        (cond (decide (q1 > 0))
            (cond (t1 == 2)
                ((T_round_step p0 (decide (q1 > 0))).bind fun t13 =>
                  some t13)
                (some p0))
            (some p0)))


def T_round_sign (p0 : Nat) : Option Int :=
  (some (fgt p0 (nf 0))).bind fun t1 =>
  cond t1
    (some 1)
    ((some (flt p0 (nf 0))).bind fun t2 =>
      cond t2
        (some (-1))
        (some 0))


def T_round_Add (p0 : Nat) (p1 : Nat) (q2 : Int) : Option Nat :=
  (T_round_way q2).bind fun t1 =>
  (some (fadd p0 p1)).bind fun t2 =>
  (some [p0, p1]).bind fun t3 =>
  (T_round_finite t3).bind fun t4 =>
  cond (!t4)
    (some t2)
    (((some (feq t2 (nf 0))).bind fun t6 =>
        cond t6
          ((some (!feq p0 (nf 0))).bind fun t7 =>
            cond (!t7)
              ((some (feq t2 (nf 0))).bind fun t8 =>
                cond t8
                  ((T_math_Signbit p0).bind fun t9 =>
                    (T_math_Signbit p1).bind fun t10 =>
                    some (!(t9 == t10)))
                  (some false))
              (some true))
          ((some (feq t2 (nf 0))).bind fun t11 =>
            cond t11
              ((T_math_Signbit p0).bind fun t12 =>
                (T_math_Signbit p1).bind fun t13 =>
                some (!(t12 == t13)))
              (some false))).bind fun t5 =>
      cond t5
        ((T_round_none t1).bind fun t14 =>
          some t14)
        ((some (feq t2 (nf 0))).bind fun t15 =>
          cond t15
            (some t2)
            ((T_math_IsInf t2 0).bind fun t16 =>
              cond t16
                ((T_round_settle t2 0 t1).bind fun t17 =>
                  some t17)
                ((T_math_Abs p0).bind fun t18 =>
                  (T_math_Abs p1).bind fun t19 =>
                  (some (flt t18 t19)).bind fun t20 =>
                  (cond t20
                      (some (p1, p0))
                      (some (p0, p1))).bind fun o => match o with
                  | (t21, t22) => 
                  (some (fsub t2 t21)).bind fun t23 =>
                  (some (fsub t22 t23)).bind fun t24 =>
                  (T_round_sign t24).bind fun t25 =>
                  (T_round_settle t2 t25 t1).bind fun t26 =>
                  some t26))))

def T_vector_Norm_b2 (t1 : Int) (l0 : List Nat) : (Nat × Int) → Option ((Nat × Int) ⊕ (Nat)) := fun st => match st with
| (t3, t4) =>
  cond (decide (t4 < t1))
    ((atI l0 t4).bind fun t5 =>
      (T_math_Abs t5).bind fun t6 =>
      (T_round_Add t3 t6 2).bind fun t7 =>
      some (.inl (t7, (IntKind.i64.wrap (t4 + 1)))))
    (some (.inr t3))

def T_vector_Norm (l0 : List Nat) : Option Nat :=
  (some ((l0.length : Nat) : Int)).bind fun t1 =>
  (iter (T_vector_Norm_b2 t1 l0) FU ((nf 0), 0)).bind fun t2 =>
  some t2


def T_girderref03_Finite (p0 : Nat) : Option Bool :=
  (some (fsub p0 p0)).bind fun t1 =>
  (some (feq t1 (nf 0))).bind fun t2 =>
  some t2


def T_girderref03_great (p0 : Nat) (q1 : Int) : Option Nat :=
  cond (!(q1 == 3))
    ((some (fgt p0 (nf 0))).bind fun t1 =>
      cond t1
        (cond (!(q1 == 1))
            ((some (flt p0 (nf 0))).bind fun t2 =>
              cond t2
                (cond (q1 == 2)
                    ((T_math_Copysign (nf 9218868437227405311) p0).bind fun t3 =>
                      some t3)
                    (some p0))
                (some p0))
            ((T_math_Copysign (nf 9218868437227405311) p0).bind fun t4 =>
              some t4))
        ((some (flt p0 (nf 0))).bind fun t5 =>
          cond t5
            (cond (q1 == 2)
                ((T_math_Copysign (nf 9218868437227405311) p0).bind fun t6 =>
                  some t6)
                (some p0))
            (some p0)))
    ((T_math_Copysign (nf 9218868437227405311) p0).bind fun t7 =>
      some t7)


def T_girderref03_nought (q0 : Bool) (q1 : Bool) (p2 : Nat) (q3 : Int) : Option Nat :=
  cond q0
    ((some (feq p2 (nf 0))).bind fun t1 =>
      cond t1
        ((T_math_Signbit p2).bind fun t2 =>
          cond (q1 == t2)
            (some p2)
            (cond (q3 == 1)
                ((T_math_Copysign (nf 0) (nf 13830554455654793216)).bind fun t3 =>
                  some t3)
                (some (nf 0))))
        (cond (q3 == 1)
            ((T_math_Copysign (nf 0) (nf 13830554455654793216)).bind fun t4 =>
              some t4)
            (some (nf 0))))
    (cond (q3 == 1)
        ((T_math_Copysign (nf 0) (nf 13830554455654793216)).bind fun t5 =>
          some t5)
        (some (nf 0)))


def T_girderref03_sign (p0 : Nat) : Option Int :=
  (some (flt p0 (nf 0))).bind fun t1 =>
  cond t1
    (some (-1))
    ((some (fgt p0 (nf 0))).bind fun t2 =>
      cond t2
        (some 1)
        (some 0))


def T_girderref03_further (p0 : Nat) : Option Nat :=
  (T_math_Float64bits p0).bind fun t1 =>
  (T_math_Float64frombits (IntKind.u64.wrap (t1 + 1))).bind fun t2 =>
  some t2


def T_girderref03_nearer (p0 : Nat) : Option Nat :=
  (T_math_Float64bits p0).bind fun t1 =>
  (T_math_Float64frombits (IntKind.u64.wrap (t1 - 1))).bind fun t2 =>
  some t2


def T_girderref03_up (p0 : Nat) : Option Nat :=
  (some (feq p0 (nf 0))).bind fun t1 =>
  cond t1
    ((T_math_Float64frombits 1).bind fun t2 =>
      some t2)
    ((some (fgt p0 (nf 0))).bind fun t3 =>
      cond t3
        ((T_girderref03_further p0).bind fun t4 =>
          some t4)
        ((T_girderref03_nearer p0).bind fun t5 =>
          some t5))


def T_girderref03_down (p0 : Nat) : Option Nat :=
  (some (nf (fneg p0))).bind fun t1 =>
  (T_girderref03_up t1).bind fun t2 =>
  (some (nf (fneg t2))).bind fun t3 =>
  some t3


def T_girderref03_side (p0 : Nat) (q1 : Int) (q2 : Int) : Option Nat :=
  (T_math_Signbit p0).bind fun t1 =>
  (cond (decide (q1 < 0))
      (cond (!(q2 == 1))
          (cond (q2 == 3)
              (cond (!t1)
                  ((some (!feq p0 (nf 0))).bind fun t3 =>
                    some t3)
                  (some false))
              (some false))
          (some true))
      (some false)).bind fun t2 =>
  cond t2
    ((T_girderref03_down p0).bind fun t4 =>
      some t4)
    (cond (decide (q1 > 0))
        (cond (!(q2 == 2))
            (cond (q2 == 3)
                (cond t1
                    ((some (!feq p0 (nf 0))).bind fun t5 =>
                      cond t5
                        ((T_girderref03_up p0).bind fun t6 =>
                          some t6)
                        (some p0))
                    (some p0))
                (some p0))
            ((T_girderref03_up p0).bind fun t7 =>
              some t7))
        (some p0))


def T_girderref03_Add (p0 : Nat) (p1 : Nat) (q2 : Int) : Option Nat :=
  (some (fadd p0 p1)).bind fun t1 =>
  (T_girderref03_Finite p0).bind fun t2 =>
  cond (!(!t2))
    ((T_girderref03_Finite p1).bind fun t3 =>
      cond (!t3)
        (some t1)
        ((T_girderref03_Finite t1).bind fun t4 =>
          cond (!t4)
            ((T_girderref03_great t1 q2).bind fun t5 =>
              some t5)
            ((some (feq t1 (nf 0))).bind fun t6 =>
              cond t6
                ((some (feq p0 (nf 0))).bind fun t7 =>
                  (T_math_Signbit p0).bind fun t8 =>
                  (T_girderref03_nought t7 t8 p1 q2).bind fun t9 =>
                  some t9)
                ((T_math_Abs p0).bind fun t10 =>
                  (T_math_Abs p1).bind fun t11 =>
                  (some (flt t10 t11)).bind fun t12 =>
                  (cond t12
                      (some (p1, p0))
                      (some (p0, p1))).bind fun o => match o with
                  | (t13, t14) => 
                  (some (fsub t1 t13)).bind fun t15 =>
                  (some (fsub t14 t15)).bind fun t16 =>
                  (T_girderref03_sign t16).bind fun t17 =>
                  (T_girderref03_side t1 t17 q2).bind fun t18 =>
                  some t18))))
    (some t1)

def T_girderref09_Norm_b2 (l0 : List Nat) : (Nat × Int) → Option ((Nat × Int) ⊕ (Nat)) := fun st => match st with
| (t2, t3) =>
  (some ((l0.length : Nat) : Int)).bind fun t4 =>
  cond (decide (t3 < t4))
    ((atI l0 t3).bind fun t5 =>
      (T_math_Abs t5).bind fun t6 =>
      (T_girderref03_Add t2 t6 2).bind fun t7 =>
      some (.inl (t7, (IntKind.i64.wrap (t3 + 1)))))
    (some (.inr t2))

def T_girderref09_Norm (l0 : List Nat) : Option Nat :=
  (iter (T_girderref09_Norm_b2 l0) FU ((nf 0), 0)).bind fun t1 =>
  some t1


def T_girderkit_SameFloat (p0 : Nat) (p1 : Nat) : Option Bool :=
  some (p0 == p1)


def T_vector_Axpy_1 (p0 : Nat) (p1 : Nat) (p2 : Nat) : Option Nat :=
  (some (fmul p2 p0)).bind fun t1 =>
  (some (fadd t1 p1)).bind fun t2 =>
  some t2


def T_vector_fit (l0 : List Nat) (l1 : List Nat) : Option Int :=
  (some ((l0.length : Nat) : Int)).bind fun t1 =>
  (some ((l1.length : Nat) : Int)).bind fun t2 =>
  cond (t1 != t2)
    (some 4)
    ((some ((l0.length : Nat) : Int)).bind fun t3 =>
      cond (decide (t3 > 4096))
        (some 3)
        (some 0))

def T_vector_each_b2 (t4 : Int) (l0 : List Nat) (l1 : List Nat) (f2 : Nat → Nat → Option Nat) : (Int × List Nat) → Option ((Int × List Nat) ⊕ (List Nat)) := fun st => match st with
| (t6, t7) =>
  cond (decide (t6 < t4))
    ((atI l0 t6).bind fun t8 =>
      (atI l1 t6).bind fun t9 =>
      (f2 t8 t9).bind fun t10 =>
      (atI t7 t6).bind fun t11 =>
      (some (t7.set (t6).toNat t10)).bind fun t12 =>
      some (.inl ((IntKind.i64.wrap (t6 + 1)), t12)))
    (some (.inr t7))

def T_vector_each (l0 : List Nat) (l1 : List Nat) (f2 : Nat → Nat → Option Nat) : Option (List Nat × Int) :=
  (T_vector_fit l0 l1).bind fun t1 =>
  cond (t1 != 0)
    (some ((List.map nf []), t1))
    ((some ((l0.length : Nat) : Int)).bind fun t2 =>
      (mkL (nf 0) t2 t2).bind fun t3 =>
      (some ((l0.length : Nat) : Int)).bind fun t4 =>
      (iter (T_vector_each_b2 t4 l0 l1 f2) FU (0, t3)).bind fun t5 =>
      some (t5, 0))


def T_vector_Axpy (p0 : Nat) (l1 : List Nat) (l2 : List Nat) : Option (List Nat × Int) :=
  (T_vector_each l1 l2 (fun v0 v1 => T_vector_Axpy_1 v0 v1 p0)).bind fun o => match o with
  | (t1, t2) =>
  some (t1, t2)

def T_vector_Dot_b2 (t2 : Int) (l0 : List Nat) (l1 : List Nat) : (Nat × Int) → Option ((Nat × Int) ⊕ (Nat)) := fun st => match st with
| (t4, t5) =>
  cond (decide (t5 < t2))
    ((atI l0 t5).bind fun t6 =>
      (atI l1 t5).bind fun t7 =>
      (some (fmul t6 t7)).bind fun t8 =>
      (some (fadd t4 t8)).bind fun t9 =>
      some (.inl (t9, (IntKind.i64.wrap (t5 + 1)))))
    (some (.inr t4))

def T_vector_Dot (l0 : List Nat) (l1 : List Nat) : Option (Nat × Int) :=
  (T_vector_fit l0 l1).bind fun t1 =>
  cond (t1 != 0)
    (some ((nf 0), t1))
    ((some ((l0.length : Nat) : Int)).bind fun t2 =>
      (iter (T_vector_Dot_b2 t2 l0 l1) FU ((nf 0), 0)).bind fun t3 =>
      some (t3, 0))

def T_girderkit_SameReals_b2 (l0 : List Nat) (l1 : List Nat) : Int → Option (Int ⊕ (Unit ⊕ Bool)) := fun st => match st with
| t3 =>
  (some ((l0.length : Nat) : Int)).bind fun t4 =>
  cond (decide (t3 < t4))
    ((atI l0 t3).bind fun t5 =>
      (atI l1 t3).bind fun t6 =>
      (T_girderkit_SameFloat t5 t6).bind fun t7 =>
      cond (!t7)
        (some (.inr (.inr false)))
        (some (.inl (IntKind.i64.wrap (t3 + 1)))))
    (some (.inr (.inl ())))

def T_girderkit_SameReals (l0 : List Nat) (l1 : List Nat) : Option Bool :=
  (some ((l0.length : Nat) : Int)).bind fun t1 =>
  (some ((l1.length : Nat) : Int)).bind fun t2 =>
  cond (t1 != t2)
    (some false)
    (((iter (T_girderkit_SameReals_b2 l0 l1) FU 0 : Option (Unit ⊕ Bool))).bind fun o => match o with
      | .inl () => some true
      | .inr v => some v)


def T_girderlaw09_awake  : Option Bool :=
  (some [(nf 4607182418800017408), (nf 4611686018427387904)]).bind fun t1 =>
  (some [(nf 4613937818241073152), (nf 4616189618054758400)]).bind fun t2 =>
  (T_vector_Axpy (nf 4611686018427387904) t1 t2).bind fun o => match o with
  | (t3, t4) =>
  (T_vector_Dot t1 t2).bind fun o => match o with
  | (t5, t6) =>
  (some [(nf 4613937818241073152), (nf 13839561654909534208), (nf 4616189618054758400)]).bind fun t7 =>
  (T_vector_Most t7).bind fun o => match o with
  | (t8, t9) =>
  cond (t4 == 0)
    (cond (t6 == 0)
        ((some [(nf 4617315517961601024), (nf 4620693217682128896)]).bind fun t10 =>
          (T_girderkit_SameReals t3 t10).bind fun t11 =>
          cond t11
            ((some (feq t5 (nf 4622382067542392832))).bind fun t12 =>
              cond t12
                (cond (t8 == 1)
                    ((some (feq t9 (nf 4616189618054758400))).bind fun t13 =>
                      cond t13
                        ((some [(nf 4613937818241073152), (nf 13839561654909534208)]).bind fun t14 =>
                          (T_vector_Norm t14).bind fun t15 =>
                          (some (feq t15 (nf 4619567317775286272))).bind fun t16 =>
                          cond t16
                            ((some [(nf 0)]).bind fun t17 =>
                              (T_math_Copysign (nf 0) (nf 13830554455654793216)).bind fun t18 =>
                              (some [t18]).bind fun t19 =>
                              (T_vector_Same t17 t19).bind fun t20 =>
                              some (!t20))
                            (some false))
                        (some false))
                    (some false))
                (some false))
            (some false))
        (some false))
    (some false)


def T_girderlaw09_VectorTells (l0 : List Nat) (l1 : List Nat) : Option Bool :=
  (T_vector_Most l0).bind fun o => match o with
  | (t1, t2) =>
  (T_girderref09_Most l0).bind fun o => match o with
  | (t3, t4) =>
  (T_vector_Same l0 l1).bind fun t5 =>
  (T_girderref09_Same l0 l1).bind fun t6 =>
  cond (t5 == t6)
    ((T_vector_Same l1 l0).bind fun t7 =>
      (T_girderref09_Same l0 l1).bind fun t8 =>
      cond (t7 == t8)
        ((T_vector_Same l0 l0).bind fun t9 =>
          cond t9
            ((T_vector_Norm l0).bind fun t10 =>
              (T_girderref09_Norm l0).bind fun t11 =>
              (T_girderkit_SameFloat t10 t11).bind fun t12 =>
              cond t12
                (cond (t1 == t3)
                    ((T_girderkit_SameFloat t2 t4).bind fun t13 =>
                      cond t13
                        ((T_girderlaw09_awake ).bind fun t14 =>
                          some t14)
                        (some false))
                    (some false))
                (some false))
            (some false))
        (some false))
    (some false)


def T_vector_Add_1 (p0 : Nat) (p1 : Nat) : Option Nat :=
  (some (fadd p0 p1)).bind fun t1 =>
  some t1


def T_vector_Add (l0 : List Nat) (l1 : List Nat) : Option (List Nat × Int) :=
  (T_vector_each l0 l1 (fun v0 v1 => T_vector_Add_1 v0 v1)).bind fun o => match o with
  | (t1, t2) =>
  some (t1, t2)


def T_girderref09_Fit (l0 : List Nat) (l1 : List Nat) : Option Int :=
  (some ((l0.length : Nat) : Int)).bind fun t1 =>
  (some ((l1.length : Nat) : Int)).bind fun t2 =>
  cond (t1 != t2)
    (some 4)
    ((some ((l0.length : Nat) : Int)).bind fun t3 =>
      cond (decide (t3 > 4096))
        (some 3)
        (some 0))

def T_girderref09_Axpy_b2 (l1 : List Nat) (p0 : Nat) (l2 : List Nat) : (Int × List Nat) → Option ((Int × List Nat) ⊕ (List Nat)) := fun st => match st with
| (t3, t4) =>
  (some ((l1.length : Nat) : Int)).bind fun t5 =>
  cond (decide (t3 < t5))
    ((atI l1 t3).bind fun t6 =>
      (some (fmul p0 t6)).bind fun t7 =>
      (atI l2 t3).bind fun t8 =>
      (some (fadd t7 t8)).bind fun t9 =>
      (some [t9]).bind fun t10 =>
      (appL t4 t10).bind fun t11 =>
      some (.inl ((IntKind.i64.wrap (t3 + 1)), t11)))
    (some (.inr t4))

def T_girderref09_Axpy (p0 : Nat) (l1 : List Nat) (l2 : List Nat) : Option (List Nat × Int) :=
  (T_girderref09_Fit l1 l2).bind fun t1 =>
  cond (t1 != 0)
    (some ((List.map nf []), t1))
    ((iter (T_girderref09_Axpy_b2 l1 p0 l2) FU (0, (List.map nf []))).bind fun t2 =>
      some (t2, 0))


def T_girderref09_Add (l0 : List Nat) (l1 : List Nat) : Option (List Nat × Int) :=
  (T_girderref09_Axpy (nf 4607182418800017408) l0 l1).bind fun o => match o with
  | (t1, t2) =>
  some (t1, t2)


def T_vector_Sub_1 (p0 : Nat) (p1 : Nat) : Option Nat :=
  (some (fsub p0 p1)).bind fun t1 =>
  some t1


def T_vector_Sub (l0 : List Nat) (l1 : List Nat) : Option (List Nat × Int) :=
  (T_vector_each l0 l1 (fun v0 v1 => T_vector_Sub_1 v0 v1)).bind fun o => match o with
  | (t1, t2) =>
  some (t1, t2)

def T_girderref09_Sub_b2 (l0 : List Nat) (l1 : List Nat) : (Int × List Nat) → Option ((Int × List Nat) ⊕ (List Nat)) := fun st => match st with
| (t3, t4) =>
  (some ((l0.length : Nat) : Int)).bind fun t5 =>
  cond (decide (t3 < t5))
    ((atI l0 t3).bind fun t6 =>
      (atI l1 t3).bind fun t7 =>
      (some (fsub t6 t7)).bind fun t8 =>
      (some [t8]).bind fun t9 =>
      (appL t4 t9).bind fun t10 =>
      some (.inl ((IntKind.i64.wrap (t3 + 1)), t10)))
    (some (.inr t4))

def T_girderref09_Sub (l0 : List Nat) (l1 : List Nat) : Option (List Nat × Int) :=
  (T_girderref09_Fit l0 l1).bind fun t1 =>
  cond (t1 != 0)
    (some ((List.map nf []), t1))
    ((iter (T_girderref09_Sub_b2 l0 l1) FU (0, (List.map nf []))).bind fun t2 =>
      some (t2, 0))

def T_girderref09_Dot_b2 (l0 : List Nat) (l1 : List Nat) : (Nat × Int) → Option ((Nat × Int) ⊕ (Nat)) := fun st => match st with
| (t3, t4) =>
  (some ((l0.length : Nat) : Int)).bind fun t5 =>
  cond (decide (t4 < t5))
    ((atI l0 t4).bind fun t6 =>
      (atI l1 t4).bind fun t7 =>
      (some (fmul t6 t7)).bind fun t8 =>
      (some (fadd t3 t8)).bind fun t9 =>
      some (.inl (t9, (IntKind.i64.wrap (t4 + 1)))))
    (some (.inr t3))

def T_girderref09_Dot (l0 : List Nat) (l1 : List Nat) : Option (Nat × Int) :=
  (T_girderref09_Fit l0 l1).bind fun t1 =>
  cond (t1 != 0)
    (some ((nf 0), t1))
    ((iter (T_girderref09_Dot_b2 l0 l1) FU ((nf 0), 0)).bind fun t2 =>
      some (t2, 0))

def T_vector_Scale_b2 (t3 : Int) (l1 : List Nat) (p0 : Nat) : (Int × List Nat) → Option ((Int × List Nat) ⊕ (List Nat)) := fun st => match st with
| (t5, t6) =>
  cond (decide (t5 < t3))
    ((atI l1 t5).bind fun t7 =>
      (some (fmul p0 t7)).bind fun t8 =>
      (some [t8]).bind fun t9 =>
      (appL t6 t9).bind fun t10 =>
      some (.inl ((IntKind.i64.wrap (t5 + 1)), t10)))
    (some (.inr t6))

def T_vector_Scale (p0 : Nat) (l1 : List Nat) : Option (List Nat) :=
  (some ((l1.length : Nat) : Int)).bind fun t1 =>
  (mkL (nf 0) 0 t1).bind fun t2 =>
  (some ((l1.length : Nat) : Int)).bind fun t3 =>
  (iter (T_vector_Scale_b2 t3 l1 p0) FU (0, t2)).bind fun t4 =>
  some t4

def T_girderref09_Scale_b2 (l1 : List Nat) (p0 : Nat) : (Int × List Nat) → Option ((Int × List Nat) ⊕ (List Nat)) := fun st => match st with
| (t2, t3) =>
  (some ((l1.length : Nat) : Int)).bind fun t4 =>
  cond (decide (t2 < t4))
    ((atI l1 t2).bind fun t5 =>
      (some (fmul p0 t5)).bind fun t6 =>
      (some [t6]).bind fun t7 =>
      (appL t3 t7).bind fun t8 =>
      some (.inl ((IntKind.i64.wrap (t2 + 1)), t8)))
    (some (.inr t3))

def T_girderref09_Scale (p0 : Nat) (l1 : List Nat) : Option (List Nat) :=
  (iter (T_girderref09_Scale_b2 l1 p0) FU (0, (List.map nf []))).bind fun t1 =>
  some t1

def T_girderlaw09_VectorSums_b2 (p0 : Nat) : (Int × List Nat × List Nat) → Option ((Int × List Nat × List Nat) ⊕ (Unit ⊕ Bool)) := fun st => match st with
| (t1, t2, t3) =>
  cond (decide (t1 < 2))
    ((T_vector_Add t2 t3).bind fun o => match o with
      | (t4, t5) =>
      (T_girderref09_Add t2 t3).bind fun o => match o with
      | (t6, t7) =>
      (T_vector_Sub t2 t3).bind fun o => match o with
      | (t8, t9) =>
      (T_girderref09_Sub t2 t3).bind fun o => match o with
      | (t10, t11) =>
      ((T_girderkit_SameReals t4 t6).bind fun t13 =>
        cond (!(!t13))
          (cond (!(t5 != t7))
              ((T_girderkit_SameReals t8 t10).bind fun t14 =>
                cond (!(!t14))
                  (some (t9 != t11))
                  (some true))
              (some true))
          (some true)).bind fun t12 =>
      cond t12
        (some (.inr (.inr false)))
        ((T_vector_Axpy p0 t2 t3).bind fun o => match o with
          | (t15, t16) =>
          (T_girderref09_Axpy p0 t2 t3).bind fun o => match o with
          | (t17, t18) =>
          (T_vector_Dot t2 t3).bind fun o => match o with
          | (t19, t20) =>
          (T_girderref09_Dot t2 t3).bind fun o => match o with
          | (t21, t22) =>
          ((T_girderkit_SameReals t15 t17).bind fun t24 =>
            cond (!(!t24))
              (cond (!(t16 != t18))
                  ((T_girderkit_SameFloat t19 t21).bind fun t25 =>
                    cond (!(!t25))
                      (cond (!(t20 != t22))
                          ((T_vector_Scale p0 t2).bind fun t26 =>
                            (T_girderref09_Scale p0 t2).bind fun t27 =>
                            (T_girderkit_SameReals t26 t27).bind fun t28 =>
                            some (!t28))
                          (some true))
                      (some true))
                  (some true))
              (some true)).bind fun t23 =>
          cond t23
            (some (.inr (.inr false)))
            ((some ((t2.length : Nat) : Int)).bind fun t29 =>
              (some ((t3.length : Nat) : Int)).bind fun t30 =>
              (subL t2 0 (if t30 < t29 then t30 else t29)).bind fun t31 =>
              (subL t3 0 (if t30 < t29 then t30 else t29)).bind fun t32 =>
              some (.inl ((IntKind.i64.wrap (t1 + 1)), t31, t32)))))
    (some (.inr (.inl ())))

def T_girderlaw09_VectorSums (p0 : Nat) (l1 : List Nat) (l2 : List Nat) : Option Bool :=
  ((iter (T_girderlaw09_VectorSums_b2 p0) FU (0, l1, l2) : Option (Unit ⊕ Bool))).bind fun o => match o with
  | .inl () => 
    ((T_girderlaw09_awake ).bind fun t33 =>
      some t33)
  | .inr v => some v


def T_girderkit_Pick (q0 : Int) (q1 : Int) : Option Int :=
  cond (decide (q1 < 1))
    (some 0)
    ((nz q1).bind fun t2 =>
      (cond (decide ((q0.tmod q1) < 0))
          (some (IntKind.i64.wrap ((q0.tmod q1) + q1)))
          (some (q0.tmod q1))).bind fun t1 =>
      some t1)


def T_math_Inf (q0 : Int) : Option Nat :=
  (cond (decide (q0 ≥ 0))
      (some 9218868437227405312)
      (some 18442240474082181120)).bind fun t1 =>
  (T_math_Float64frombits t1).bind fun t2 =>
  some t2


def T_math_NaN  : Option Nat :=
  (T_math_Float64frombits 9221120237041090561).bind fun t1 =>
  some t1


def T_girderkit_Edge (q0 : Int) : Option Nat :=
  (T_girderkit_Pick q0 64).bind fun t1 =>
  ((cond ((IntKind.i64.wrap (t1.tdiv 2)) == 0)
        (some (nf 0))
        ((cond ((IntKind.i64.wrap (t1.tdiv 2)) == 1)
              ((T_math_Float64frombits 1).bind fun t5 =>
                some t5)
              ((cond ((IntKind.i64.wrap (t1.tdiv 2)) == 2)
                    ((T_math_Float64frombits 2).bind fun t7 =>
                      some t7)
                    ((cond ((IntKind.i64.wrap (t1.tdiv 2)) == 3)
                          ((T_math_Float64frombits 4503599627370495).bind fun t9 =>
                            some t9)
                          ((cond ((IntKind.i64.wrap (t1.tdiv 2)) == 4)
                                ((T_math_Float64frombits 4503599627370496).bind fun t11 =>
                                  some t11)
                                ((cond ((IntKind.i64.wrap (t1.tdiv 2)) == 5)
                                      ((T_math_Float64frombits 4503599627370497).bind fun t13 =>
                                      some t13)
                                      ((cond ((IntKind.i64.wrap (t1.tdiv 2)) == 6)
                                        (some (nf 9218868437227405311))
                                        ((cond ((IntKind.i64.wrap (t1.tdiv 2)) == 7)
                                          ((T_math_Float64frombits 9218868437227405310).bind fun t16 =>
                                          some t16)
                                          ((cond ((IntKind.i64.wrap (t1.tdiv 2)) == 8)
                                            ((T_math_Inf 1).bind fun t18 =>
                                            some t18)
                                            ((cond ((IntKind.i64.wrap (t1.tdiv 2)) == 9)
                                              ((T_math_NaN ).bind fun t20 =>
                                              some t20)
                                              ((cond ((IntKind.i64.wrap (t1.tdiv 2)) == 10)
                                                (some (nf 4607182418800017408))
                                                ((cond ((IntKind.i64.wrap (t1.tdiv 2)) == 11)
                                                  ((T_math_Float64frombits 4607182418800017407).bind fun t23 =>
                                                  some t23)
                                                  ((cond ((IntKind.i64.wrap (t1.tdiv 2)) == 12)
                                                    ((T_math_Float64frombits 4607182418800017409).bind fun t25 =>
                                                    some t25)
                                                    ((cond ((IntKind.i64.wrap (t1.tdiv 2)) == 13)
                                                      (some (nf 4845873199050653696))
                                                      ((cond ((IntKind.i64.wrap (t1.tdiv 2)) == 14)
                                                        (some (nf 4845873199050653695))
                                                        ((cond ((IntKind.i64.wrap (t1.tdiv 2)) == 15)
                                                          (some (nf 4368491638549381120))
                                                          ((cond ((IntKind.i64.wrap (t1.tdiv 2)) == 16)
                                                            (some (nf 4591870180066957722))
                                                            ((cond ((IntKind.i64.wrap (t1.tdiv 2)) == 17)
                                                              (some (nf 4613937818241073152))
                                                              ((cond ((IntKind.i64.wrap (t1.tdiv 2)) == 18)
                                                                ((T_math_Float64frombits 2188749418902061057).bind fun t32 =>
                                                                some t32)
                                                                ((cond ((IntKind.i64.wrap (t1.tdiv 2)) == 19)
                                                                  ((T_math_Float64frombits 6908521828386340865).bind fun t34 =>
                                                                  some t34)
                                                                  ((T_math_Float64frombits ((IntKind.u64.wrap ((IntKind.u64.wrap q0) * 11400714819323198485)).fdiv (2 ^ (min (1 : Int).toNat IntKind.u64.bits)))).bind fun t35 =>
                                                                  some t35)).bind fun t33 =>
                                                                some t33)).bind fun t31 =>
                                                              some t31)).bind fun t30 =>
                                                            some t30)).bind fun t29 =>
                                                          some t29)).bind fun t28 =>
                                                        some t28)).bind fun t27 =>
                                                      some t27)).bind fun t26 =>
                                                    some t26)).bind fun t24 =>
                                                  some t24)).bind fun t22 =>
                                                some t22)).bind fun t21 =>
                                              some t21)).bind fun t19 =>
                                            some t19)).bind fun t17 =>
                                          some t17)).bind fun t15 =>
                                        some t15)).bind fun t14 =>
                                      some t14)).bind fun t12 =>
                                  some t12)).bind fun t10 =>
                            some t10)).bind fun t8 =>
                      some t8)).bind fun t6 =>
                some t6)).bind fun t4 =>
          some t4)).bind fun t3 =>
    some t3).bind fun t2 =>
  cond ((t1.tmod 2) == 1)
    ((some (nf (fneg t2))).bind fun t36 =>
      some t36)
    (some t2)

def T_girderlaw09_VectorLimits_b2  : Int → Option (Int ⊕ (Unit ⊕ Bool)) := fun st => match st with
| t22 =>
  cond (decide (t22 < 40))
    ((T_girderkit_Edge t22).bind fun t23 =>
      (T_girderkit_Edge (IntKind.i64.wrap (t22 + 7))).bind fun t24 =>
      (T_girderkit_Edge (IntKind.i64.wrap (3 * t22))).bind fun t25 =>
      (some [t23, t24, t25]).bind fun t26 =>
      (T_girderkit_Edge (IntKind.i64.wrap (5 * t22))).bind fun t27 =>
      (T_girderkit_Edge (IntKind.i64.wrap (t22 + 1))).bind fun t28 =>
      (T_girderkit_Edge t22).bind fun t29 =>
      (some [t27, t28, t29]).bind fun t30 =>
      (T_girderkit_Edge (IntKind.i64.wrap (11 * t22))).bind fun t31 =>
      (T_girderlaw09_VectorSums t31 t26 t30).bind fun t32 =>
      cond (!(!t32))
        ((T_girderlaw09_VectorTells t26 t30).bind fun t33 =>
          cond (!(!t33))
            ((T_girderlaw09_VectorTells t26 t26).bind fun t34 =>
              cond (!t34)
                (some (.inr (.inr false)))
                (some (.inl (IntKind.i64.wrap (t22 + 1)))))
            (some (.inr (.inr false))))
        (some (.inr (.inr false))))
    (some (.inr (.inl ())))

def T_girderlaw09_VectorLimits  : Option Bool :=
  ((mkL (nf 0) 4097 4097).bind fun t3 =>
    (mkL (nf 0) 4096 4096).bind fun t4 =>
    some (t4, t3)).bind fun o => match o with
  | (t1, t2) => 
  (T_vector_Add t2 t2).bind fun o => match o with
  | (t5, t6) =>
  (T_vector_Sub t2 t2).bind fun o => match o with
  | (t7, t8) =>
  (T_vector_Axpy (nf 4607182418800017408) t2 t2).bind fun o => match o with
  | (t9, t10) =>
  (T_vector_Dot t2 t2).bind fun o => match o with
  | (t11, t12) =>
  (T_vector_Add t2 t1).bind fun o => match o with
  | (t13, t14) =>
  (T_vector_Axpy (nf 4607182418800017408) t1 t1).bind fun o => match o with
  | (t15, t16) =>
  (T_vector_Dot t1 t1).bind fun o => match o with
  | (t17, t18) =>
  (cond (!(t6 != 3))
      (cond (!(t8 != 3))
          (cond (!(t10 != 3))
              (cond (!(t12 != 3))
                  (cond (!(t14 != 4))
                      (cond (!(t16 != 0))
                          (cond (!(t18 != 0))
                              ((some ((t15.length : Nat) : Int)).bind fun t20 =>
                                cond (!(t20 != 4096))
                                  ((some (!feq t17 (nf 0))).bind fun t21 =>
                                    some t21)
                                  (some true))
                              (some true))
                          (some true))
                      (some true))
                  (some true))
              (some true))
          (some true))
      (some true)).bind fun t19 =>
  cond t19
    (some false)
    (((iter (T_girderlaw09_VectorLimits_b2) FU 0 : Option (Unit ⊕ Bool))).bind fun o => match o with
      | .inl () => 
        ((T_math_NaN ).bind fun t35 =>
          (T_math_Float64frombits 18444492273895866369).bind fun t36 =>
          (some [t35, t36]).bind fun t37 =>
          (subL t37 0 1).bind fun t38 =>
          (some ((t37.length : Nat) : Int)).bind fun t40 =>
          (subL t37 1 t40).bind fun t39 =>
          (T_vector_Same t38 t39).bind fun t41 =>
          cond (!(!t41))
            ((subL t37 0 1).bind fun t42 =>
              (some [(nf 0)]).bind fun t43 =>
              (T_vector_Same t42 t43).bind fun t44 =>
              cond (!t44)
                ((some ((t37.length : Nat) : Int)).bind fun t46 =>
                  (subL t37 1 t46).bind fun t45 =>
                  (some [(nf 0)]).bind fun t47 =>
                  (T_vector_Same t47 t45).bind fun t48 =>
                  cond t48
                    (some false)
                    ((T_vector_Scale (nf 4611686018427387904) t2).bind fun t49 =>
                      (some ((t49.length : Nat) : Int)).bind fun t50 =>
                      cond (t50 == 4097)
                        ((T_girderlaw09_awake ).bind fun t51 =>
                          some t51)
                        (some false)))
                (some false))
            (some false))
      | .inr v => some v)


def T_math_normalize (p0 : Nat) : Option (Nat × Int) :=
  (T_math_Abs p0).bind fun t1 =>
  (some (flt t1 (nf 4503599627370496))).bind fun t2 =>
  cond t2
    ((some (fmul p0 (nf 4841369599423283200))).bind fun t3 =>
      some (t3, (-52)))
    (some (p0, 0))


def T_math_ldexp (p0 : Nat) (q1 : Int) : Option Nat :=
  (some (feq p0 (nf 0))).bind fun t1 =>
  cond t1
    (some p0)
    (((T_math_IsInf p0 0).bind fun t3 =>
        cond (!t3)
          ((T_math_IsNaN p0).bind fun t4 =>
            some t4)
          (some true)).bind fun t2 =>
      cond t2
        (some p0)
        ((T_math_normalize p0).bind fun o => match o with
          | (t5, t6) =>
          (T_math_Float64bits t5).bind fun t7 =>
          cond (decide ((IntKind.i64.wrap ((IntKind.i64.wrap (q1 + t6)) + (IntKind.i64.wrap ((IntKind.i64.wrap (BitVec.ofInt IntKind.i64.bits (IntKind.i64.wrap (t7.fdiv (2 ^ (min (52 : Int).toNat IntKind.u64.bits)))) &&& BitVec.ofInt IntKind.i64.bits 2047).toNat) - 1023)))) < (-1075)))
            ((T_math_Copysign (nf 0) t5).bind fun t8 =>
              some t8)
            (cond (decide ((IntKind.i64.wrap ((IntKind.i64.wrap (q1 + t6)) + (IntKind.i64.wrap ((IntKind.i64.wrap (BitVec.ofInt IntKind.i64.bits (IntKind.i64.wrap (t7.fdiv (2 ^ (min (52 : Int).toNat IntKind.u64.bits)))) &&& BitVec.ofInt IntKind.i64.bits 2047).toNat) - 1023)))) > 1023))
                ((some (flt t5 (nf 0))).bind fun t9 =>
                  cond t9
                    ((T_math_Inf (-1)).bind fun t10 =>
                      some t10)
                    ((T_math_Inf 1).bind fun t11 =>
                      some t11))
                ((cond (decide ((IntKind.i64.wrap ((IntKind.i64.wrap (q1 + t6)) + (IntKind.i64.wrap ((IntKind.i64.wrap (BitVec.ofInt IntKind.i64.bits (IntKind.i64.wrap (t7.fdiv (2 ^ (min (52 : Int).toNat IntKind.u64.bits)))) &&& BitVec.ofInt IntKind.i64.bits 2047).toNat) - 1023)))) < (-1022)))
                      (some ((IntKind.i64.wrap ((IntKind.i64.wrap ((IntKind.i64.wrap (q1 + t6)) + (IntKind.i64.wrap ((IntKind.i64.wrap (BitVec.ofInt IntKind.i64.bits (IntKind.i64.wrap (t7.fdiv (2 ^ (min (52 : Int).toNat IntKind.u64.bits)))) &&& BitVec.ofInt IntKind.i64.bits 2047).toNat) - 1023)))) + 53)), (nf 4368491638549381120)))
                      (some ((IntKind.i64.wrap ((IntKind.i64.wrap (q1 + t6)) + (IntKind.i64.wrap ((IntKind.i64.wrap (BitVec.ofInt IntKind.i64.bits (IntKind.i64.wrap (t7.fdiv (2 ^ (min (52 : Int).toNat IntKind.u64.bits)))) &&& BitVec.ofInt IntKind.i64.bits 2047).toNat) - 1023)))), (nf 4607182418800017408)))).bind fun o => match o with
                  | (t12, t13) => 
                  (T_math_Float64frombits (IntKind.u64.wrap (BitVec.ofInt IntKind.u64.bits (IntKind.u64.wrap (BitVec.ofInt IntKind.u64.bits t7 &&& ~~~BitVec.ofInt IntKind.u64.bits 9218868437227405312).toNat) ||| BitVec.ofInt IntKind.u64.bits (IntKind.u64.wrap ((IntKind.u64.wrap (IntKind.i64.wrap (t12 + 1023))) * 2 ^ (min (52 : Int).toNat IntKind.u64.bits)))).toNat)).bind fun t14 =>
                  (some (fmul t13 t14)).bind fun t15 =>
                  some t15))))


def T_math_Ldexp (p0 : Nat) (q1 : Int) : Option Nat :=
  (T_math_ldexp p0 q1).bind fun t1 =>
  some t1


def T_girderkit_Like (p0 : Nat) (p1 : Nat) : Option Bool :=
  (some (feq p0 p1)).bind fun t1 =>
  cond (!t1)
    ((some (!feq p0 p0)).bind fun t2 =>
      cond t2
        ((some (!feq p1 p1)).bind fun t3 =>
          some t3)
        (some false))
    (some true)

def T_girderlaw09_VectorEven_b2 (t3 : Int) (t2 : Int) (t4 : List Nat) (t5 : List Nat) : Int → Option (Int ⊕ (Unit ⊕ Bool)) := fun st => match st with
| t22 =>
  cond (decide (t22 < (if 300 < (if t3 < t2 then t3 else t2) then 300 else (if t3 < t2 then t3 else t2))))
    ((atI t4 t22).bind fun t23 =>
      (atI t5 t22).bind fun t24 =>
      (T_math_Abs t23).bind fun t25 =>
      (T_math_Abs t24).bind fun t26 =>
      (some (!feq t25 (nf 0))).bind fun t27 =>
      cond t27
        ((some (fgt t25 (nf 3706462493325918208) || feq t25 (nf 3706462493325918208))).bind fun t28 =>
          cond t28
            ((some (flt t25 (nf 5507902344274116608) || feq t25 (nf 5507902344274116608))).bind fun t29 =>
              cond (!(!t29))
                ((some (!feq t26 (nf 0))).bind fun t30 =>
                  cond t30
                    ((some (fgt t26 (nf 3706462493325918208) || feq t26 (nf 3706462493325918208))).bind fun t31 =>
                      cond t31
                        ((some (flt t26 (nf 5507902344274116608) || feq t26 (nf 5507902344274116608))).bind fun t32 =>
                          cond (!t32)
                            (some (.inr (.inr true)))
                            (some (.inl (IntKind.i64.wrap (t22 + 1)))))
                        (some (.inr (.inr true))))
                    (some (.inl (IntKind.i64.wrap (t22 + 1)))))
                (some (.inr (.inr true))))
            (some (.inr (.inr true))))
        ((some (!feq t26 (nf 0))).bind fun t33 =>
          cond t33
            ((some (fgt t26 (nf 3706462493325918208) || feq t26 (nf 3706462493325918208))).bind fun t34 =>
              cond t34
                ((some (flt t26 (nf 5507902344274116608) || feq t26 (nf 5507902344274116608))).bind fun t35 =>
                  cond (!t35)
                    (some (.inr (.inr true)))
                    (some (.inl (IntKind.i64.wrap (t22 + 1)))))
                (some (.inr (.inr true))))
            (some (.inl (IntKind.i64.wrap (t22 + 1))))))
    (some (.inr (.inl ())))

def T_girderlaw09_VectorEven (l0 : List Nat) (l1 : List Nat) (q2 : Int) : Option Bool :=
  (T_girderlaw09_awake ).bind fun t1 =>
  cond (!t1)
    (some false)
    ((some ((l0.length : Nat) : Int)).bind fun t2 =>
      (some ((l1.length : Nat) : Int)).bind fun t3 =>
      (subL l0 0 (if 300 < (if t3 < t2 then t3 else t2) then 300 else (if t3 < t2 then t3 else t2))).bind fun t4 =>
      (subL l1 0 (if 300 < (if t3 < t2 then t3 else t2) then 300 else (if t3 < t2 then t3 else t2))).bind fun t5 =>
      (T_vector_Dot t4 t5).bind fun o => match o with
      | (t6, t7) =>
      (T_vector_Dot t5 t4).bind fun o => match o with
      | (t8, t9) =>
      (T_vector_Axpy (nf 4607182418800017408) t4 t5).bind fun o => match o with
      | (t10, t11) =>
      (T_vector_Add t4 t5).bind fun o => match o with
      | (t12, t13) =>
      (T_vector_Axpy (nf 13830554455654793216) t4 t5).bind fun o => match o with
      | (t14, t15) =>
      (T_vector_Sub t5 t4).bind fun o => match o with
      | (t16, t17) =>
      (cond (!(t7 != 0))
          (cond (!(t9 != 0))
              (cond (!(t11 != 0))
                  (cond (!(t13 != 0))
                      (cond (!(t15 != 0))
                          (cond (!(t17 != 0))
                              ((T_girderkit_SameFloat t6 t8).bind fun t19 =>
                                cond (!(!t19))
                                  ((T_vector_Same t10 t12).bind fun t20 =>
                                    cond (!(!t20))
                                      ((T_vector_Same t14 t16).bind fun t21 =>
                                        some (!t21))
                                      (some true))
                                  (some true))
                              (some true))
                          (some true))
                      (some true))
                  (some true))
              (some true))
          (some true)).bind fun t18 =>
      cond t18
        (some false)
        (((iter (T_girderlaw09_VectorEven_b2 t3 t2 t4 t5) FU 0 : Option (Unit ⊕ Bool))).bind fun o => match o with
          | .inl () => 
            ((T_girderkit_Pick q2 41).bind fun t36 =>
              (T_math_Ldexp (nf 4607182418800017408) (IntKind.i64.wrap (t36 - 20))).bind fun t37 =>
              (T_vector_Scale t37 t4).bind fun t38 =>
              (T_vector_Dot t38 t5).bind fun o => match o with
              | (t39, t40) =>
              (T_vector_Scale (nf 13830554455654793216) t4).bind fun t41 =>
              (T_vector_Dot t41 t5).bind fun o => match o with
              | (t42, t43) =>
              (T_vector_Scale (nf 13830554455654793216) t4).bind fun t44 =>
              (T_vector_Add t4 t44).bind fun o => match o with
              | (t45, t46) =>
              cond (t40 == 0)
                (cond (t43 == 0)
                    (cond (t46 == 0)
                        ((some (fmul t37 t6)).bind fun t47 =>
                          (T_girderkit_SameFloat t39 t47).bind fun t48 =>
                          cond t48
                            ((some (nf (fneg t6))).bind fun t49 =>
                              (T_girderkit_Like t42 t49).bind fun t50 =>
                              cond t50
                                ((T_vector_Norm t45).bind fun t51 =>
                                  (some (feq t51 (nf 0))).bind fun t52 =>
                                  cond t52
                                    ((T_vector_Scale t37 t4).bind fun t53 =>
                                      (T_vector_Norm t53).bind fun t54 =>
                                      (T_vector_Norm t4).bind fun t55 =>
                                      (some (fmul t37 t55)).bind fun t56 =>
                                      (T_girderkit_SameFloat t54 t56).bind fun t57 =>
                                      some t57)
                                    (some false))
                                (some false))
                            (some false))
                        (some false))
                    (some false))
                (some false))
          | .inr v => some v))

end Go.Eng
