/-
  Functions of plain Lean beside functions of the program, printed by a program of the session. No condition.
-/
import Derived.Test.YtmecjaojkegamaaGreatDoorTpA
import Derived.Test.YtmecjaojkegamaaGreatDoorBgo
set_option linter.unusedSimpArgs false
set_option linter.unnecessarySimpa false
set_option linter.unusedSectionVars false
set_option linter.unusedVariables false
set_option maxRecDepth 100000
namespace Go.Eng
open Go


def T_math_Float64bits (p0 : Nat) : Option Int :=
  cond (isNaN p0) none (some (p0 : Int))


def T_math_Float64frombits (q0 : Int) : Option Nat :=
  some (nf q0.toNat)


def T_math_Abs (p0 : Nat) : Option Nat :=
  some (nf (magF p0))


def T_math_IsInf (p0 : Nat) (q1 : Int) : Option Bool :=
  (cond (q1 == 0)
      ((T_math_Abs p0).bind fun t2 =>
        some t2)
      ((cond (decide (q1 < 0))
            ((some (nf (fneg p0))).bind fun t4 =>
              some t4)
            (some p0)).bind fun t3 =>
        some t3)).bind fun t1 =>
  (some (fgt t1 (nf 9218868437227405311))).bind fun t5 =>
  some t5


def T_bits_Kind (p0 : Nat) : Option Int :=
  (T_math_Abs p0).bind fun t1 =>
  (some (!feq p0 p0)).bind fun t2 =>
  cond t2
    (some 4)
    ((T_math_IsInf p0 0).bind fun t3 =>
      cond t3
        (some 3)
        ((some (fgt t1 (nf 4503599627370496) || feq t1 (nf 4503599627370496))).bind fun t4 =>
          cond t4
            (some 2)
            ((some (fgt t1 (nf 0))).bind fun t5 =>
              cond t5
                (some 1)
                (some 0))))


def T_math_Signbit (p0 : Nat) : Option Bool :=
  cond (isNaN p0) none (some (negF p0))


def T_math_IsNaN (p0 : Nat) : Option Bool :=
  (some (!feq p0 p0)).bind fun t1 =>
  some t1


def T_math_normalize (p0 : Nat) : Option (Nat × Int) :=
  (T_math_Abs p0).bind fun t1 =>
  (some (flt t1 (nf 4503599627370496))).bind fun t2 =>
  cond t2
    ((some (fmul p0 (nf 4841369599423283200))).bind fun t3 =>
      some (t3, (-52)))
    (some (p0, 0))


def T_math_frexp (p0 : Nat) : Option (Nat × Int) :=
  (some (feq p0 (nf 0))).bind fun t1 =>
  cond t1
    (some (p0, 0))
    ((T_math_IsInf p0 0).bind fun t2 =>
      cond (!t2)
        ((T_math_IsNaN p0).bind fun t3 =>
          cond t3
            (some (p0, 0))
            ((T_math_normalize p0).bind fun o => match o with
              | (t4, t5) =>
              (T_math_Float64bits t4).bind fun t6 =>
              (T_math_Float64frombits (IntKind.u64.wrap (BitVec.ofInt IntKind.u64.bits (IntKind.u64.wrap (BitVec.ofInt IntKind.u64.bits t6 &&& ~~~BitVec.ofInt IntKind.u64.bits 9218868437227405312).toNat) ||| BitVec.ofInt IntKind.u64.bits 4602678819172646912).toNat)).bind fun t7 =>
              some (t7, (IntKind.i64.wrap (t5 + (IntKind.i64.wrap ((IntKind.i64.wrap ((IntKind.i64.wrap (IntKind.u64.wrap (BitVec.ofInt IntKind.u64.bits (t6.fdiv (2 ^ (min (52 : Int).toNat IntKind.u64.bits))) &&& BitVec.ofInt IntKind.u64.bits 2047).toNat)) - 1023)) + 1)))))))
        (some (p0, 0)))


def T_math_Frexp (p0 : Nat) : Option (Nat × Int) :=
  (T_math_frexp p0).bind fun o => match o with
  | (t1, t2) =>
  some (t1, t2)


def T_math_Copysign (p0 : Nat) (p1 : Nat) : Option Nat :=
  cond (isNaN p1) none (some (nf ((if negF p1 then 9223372036854775808 else 0) + magF p0)))


def T_math_Inf (q0 : Int) : Option Nat :=
  (cond (decide (q0 ≥ 0))
      (some 9218868437227405312)
      (some 18442240474082181120)).bind fun t1 =>
  (T_math_Float64frombits t1).bind fun t2 =>
  some t2


def T_math_ldexp (p0 : Nat) (q1 : Int) : Option Nat :=
  (some (feq p0 (nf 0))).bind fun t1 =>
  cond t1
    (some p0)
    (((T_math_IsInf p0 0).bind fun t3 =>
        cond (!t3)
          ((T_math_IsNaN p0).bind fun t4 =>
            some t4)
          (some true)).bind fun t2 =>
      cond t2
        (some p0)
        ((T_math_normalize p0).bind fun o => match o with
          | (t5, t6) =>
          (T_math_Float64bits t5).bind fun t7 =>
          cond (decide ((IntKind.i64.wrap ((IntKind.i64.wrap (q1 + t6)) + (IntKind.i64.wrap ((IntKind.i64.wrap (BitVec.ofInt IntKind.i64.bits (IntKind.i64.wrap (t7.fdiv (2 ^ (min (52 : Int).toNat IntKind.u64.bits)))) &&& BitVec.ofInt IntKind.i64.bits 2047).toNat) - 1023)))) < (-1075)))
            ((T_math_Copysign (nf 0) t5).bind fun t8 =>
              some t8)
            (cond (decide ((IntKind.i64.wrap ((IntKind.i64.wrap (q1 + t6)) + (IntKind.i64.wrap ((IntKind.i64.wrap (BitVec.ofInt IntKind.i64.bits (IntKind.i64.wrap (t7.fdiv (2 ^ (min (52 : Int).toNat IntKind.u64.bits)))) &&& BitVec.ofInt IntKind.i64.bits 2047).toNat) - 1023)))) > 1023))
                ((some (flt t5 (nf 0))).bind fun t9 =>
                  cond t9
                    ((T_math_Inf (-1)).bind fun t10 =>
                      some t10)
                    ((T_math_Inf 1).bind fun t11 =>
                      some t11))
                ((cond (decide ((IntKind.i64.wrap ((IntKind.i64.wrap (q1 + t6)) + (IntKind.i64.wrap ((IntKind.i64.wrap (BitVec.ofInt IntKind.i64.bits (IntKind.i64.wrap (t7.fdiv (2 ^ (min (52 : Int).toNat IntKind.u64.bits)))) &&& BitVec.ofInt IntKind.i64.bits 2047).toNat) - 1023)))) < (-1022)))
                      (some ((IntKind.i64.wrap ((IntKind.i64.wrap ((IntKind.i64.wrap (q1 + t6)) + (IntKind.i64.wrap ((IntKind.i64.wrap (BitVec.ofInt IntKind.i64.bits (IntKind.i64.wrap (t7.fdiv (2 ^ (min (52 : Int).toNat IntKind.u64.bits)))) &&& BitVec.ofInt IntKind.i64.bits 2047).toNat) - 1023)))) + 53)), (nf 4368491638549381120)))
                      (some ((IntKind.i64.wrap ((IntKind.i64.wrap (q1 + t6)) + (IntKind.i64.wrap ((IntKind.i64.wrap (BitVec.ofInt IntKind.i64.bits (IntKind.i64.wrap (t7.fdiv (2 ^ (min (52 : Int).toNat IntKind.u64.bits)))) &&& BitVec.ofInt IntKind.i64.bits 2047).toNat) - 1023)))), (nf 4607182418800017408)))).bind fun o => match o with
                  | (t12, t13) => 
                  (T_math_Float64frombits (IntKind.u64.wrap (BitVec.ofInt IntKind.u64.bits (IntKind.u64.wrap (BitVec.ofInt IntKind.u64.bits t7 &&& ~~~BitVec.ofInt IntKind.u64.bits 9218868437227405312).toNat) ||| BitVec.ofInt IntKind.u64.bits (IntKind.u64.wrap ((IntKind.u64.wrap (IntKind.i64.wrap (t12 + 1023))) * 2 ^ (min (52 : Int).toNat IntKind.u64.bits)))).toNat)).bind fun t14 =>
                  (some (fmul t13 t14)).bind fun t15 =>
                  some t15))))


def T_math_Ldexp (p0 : Nat) (q1 : Int) : Option Nat :=
  (T_math_ldexp p0 q1).bind fun t1 =>
  some t1


def T_math_bits_TrailingZeros64 (q0 : Int) : Option Int :=
  some (tz64 q0)


def T_bits_Split (p0 : Nat) : Option (Bool × Int × Int × Bool) :=
  (T_bits_Kind p0).bind fun t1 =>
  cond (decide (t1 > 2))
    (some (false, 0, 0, false))
    ((T_math_Signbit p0).bind fun t2 =>
      (some (feq p0 (nf 0))).bind fun t3 =>
      cond t3
        (some (t2, 0, 0, true))
        ((T_math_Abs p0).bind fun t4 =>
          (T_math_Frexp t4).bind fun o => match o with
          | (t5, t6) =>
          (T_math_Ldexp t5 53).bind fun t7 =>
          (f2i t7 .u64).bind fun t8 =>
          (T_math_bits_TrailingZeros64 t8).bind fun t9 =>
          (nn t9).bind fun t10 =>
          some (t2, (t8.fdiv (2 ^ (min t9.toNat IntKind.u64.bits))), (IntKind.i64.wrap ((IntKind.i64.wrap (t6 - 53)) + t9)), true)))


def T_dyad_Of (p0 : Nat) : Option (Bool × List Int × Int × Int) :=
  (T_bits_Split p0).bind fun o => match o with
  | (t1, t2, t3, t4) =>
  cond (!t4)
    (some (false, ([] : List Int), 0, 5))
    (cond (t2 == 0)
        (some (false, ([] : List Int), 0, 0))
        ((some [t2]).bind fun t5 =>
          some (t1, t5, t3, 0)))


def T_bignum_NewInt (q0 : Int) : Option Int :=
  (bigSetInt64 q0).bind fun t1 =>
  some t1

def T_dyad_limbs_b2 (t2 : Int) : (Int × Int × List Int) → Option ((Int × Int × List Int) ⊕ (List Int)) := fun st => match st with
| (t4, t5, t6) =>
  (bigSign t5).bind fun t7 =>
  cond (decide (t7 > 0))
    ((bigAnd t5 t2).bind fun t8 =>
      (bigUint64 t8).bind fun t9 =>
      (some [t9]).bind fun t10 =>
      (appL t6 t10).bind fun t11 =>
      (bigRsh t5 64).bind fun t12 =>
      some (.inl (t8, t12, t11)))
    (some (.inr t6))

def T_dyad_limbs (y0 : Int) : Option (List Int) :=
  (bigAbs y0).bind fun t1 =>
  (bigSetUint64 18446744073709551615).bind fun t2 =>
  (iter (T_dyad_limbs_b2 t2) FU (0, t1, ([] : List Int))).bind fun t3 =>
  some t3


def T_dyad_made (y0 : Int) (q1 : Int) : Option (Bool × List Int × Int × Int) :=
  (bigSign y0).bind fun t1 =>
  cond (t1 == 0)
    (some (false, ([] : List Int), 0, 0))
    ((bigTrailingZeroBits y0).bind fun t2 =>
      cond (decide (q1 > 65536))
        (some (false, ([] : List Int), 0, 3))
        (cond (decide (q1 < (IntKind.i64.wrap ((-65536) - (IntKind.i64.wrap t2)))))
            (some (false, ([] : List Int), 0, 3))
            (cond (decide ((IntKind.i64.wrap (q1 + (IntKind.i64.wrap t2))) > 65536))
                (some (false, ([] : List Int), 0, 3))
                ((bigBitLen y0).bind fun t3 =>
                  cond (decide ((IntKind.i64.wrap (t3 - (IntKind.i64.wrap t2))) > 16384))
                    (some (false, ([] : List Int), 0, 3))
                    ((bigSign y0).bind fun t4 =>
                      (bigAbs y0).bind fun t5 =>
                      (bigRsh t5 (IntKind.u64.wrap (IntKind.i64.wrap t2))).bind fun t6 =>
                      (T_dyad_limbs t6).bind fun t7 =>
                      some ((decide (t4 < 0)), t7, (IntKind.i64.wrap (q1 + (IntKind.i64.wrap t2))), 0))))))


def T_dyad_Int (q0 : Int) : Option (Bool × List Int × Int) :=
  (T_bignum_NewInt q0).bind fun t1 =>
  (T_dyad_made t1 0).bind fun o => match o with
  | (t2, t3, t4, t5) =>
  some (t2, t3, t4)


def T_dyad_Right (q0_0 : Bool) (l0_1 : List Int) (q0_2 : Int) : Option Bool :=
  (some ((l0_1.length : Nat) : Int)).bind fun t1 =>
  cond (t1 == 0)
    (cond (!q0_0)
        (some (q0_2 == 0))
        (some false))
    (cond (decide (t1 ≤ 256))
        ((atI l0_1 (IntKind.i64.wrap (t1 - 1))).bind fun t2 =>
          cond (t2 != 0)
            ((atI l0_1 0).bind fun t3 =>
              cond ((IntKind.u64.wrap (BitVec.ofInt IntKind.u64.bits t3 &&& BitVec.ofInt IntKind.u64.bits 1).toNat) == 1)
                (cond (decide (((-65536) : Int) ≤ q0_2))
                    (some (decide (q0_2 ≤ 65536)))
                    (some false))
                (some false))
            (some false))
        (some false))


def T_dyad_both (q0_0 : Bool) (l0_1 : List Int) (q0_2 : Int) (q1_0 : Bool) (l1_1 : List Int) (q1_2 : Int) : Option Bool :=
  (T_dyad_Right q0_0 l0_1 q0_2).bind fun t1 =>
  cond t1
    ((T_dyad_Right q1_0 l1_1 q1_2).bind fun t2 =>
      some t2)
    (some false)

def T_dyad_whole_b2 (t1 : Int) (l0_1 : List Int) : (Int × Int) → Option ((Int × Int) ⊕ (Int)) := fun st => match st with
| (t3, t4) =>
  cond (decide (t3 < t1))
    ((bigLsh t4 64).bind fun t5 =>
      (some ((l0_1.length : Nat) : Int)).bind fun t6 =>
      (atI l0_1 (IntKind.i64.wrap ((IntKind.i64.wrap (t6 - 1)) - t3))).bind fun t7 =>
      (bigSetUint64 t7).bind fun t8 =>
      (bigOr t5 t8).bind fun t9 =>
      some (.inl ((IntKind.i64.wrap (t3 + 1)), t9)))
    (some (.inr t4))

def T_dyad_whole (q0_0 : Bool) (l0_1 : List Int) (q0_2 : Int) : Option Int :=
  (some ((l0_1.length : Nat) : Int)).bind fun t1 =>
  (iter (T_dyad_whole_b2 t1 l0_1) FU (0, 0)).bind fun t2 =>
  (cond q0_0
      ((bigNeg t2).bind fun t11 =>
        some t11)
      (some t2)).bind fun t10 =>
  some t10


def T_dyad_Add (q0_0 : Bool) (l0_1 : List Int) (q0_2 : Int) (q1_0 : Bool) (l1_1 : List Int) (q1_2 : Int) : Option (Bool × List Int × Int × Int) :=
  (T_dyad_both q0_0 l0_1 q0_2 q1_0 l1_1 q1_2).bind fun t1 =>
  cond (!t1)
    (some (false, ([] : List Int), 0, 2))
    ((T_dyad_whole q0_0 l0_1 q0_2).bind fun t2 =>
      (T_dyad_whole q1_0 l1_1 q1_2).bind fun t3 =>
      ((bigSign t2).bind fun t5 =>
        cond (!(t5 == 0))
          ((bigSign t3).bind fun t6 =>
            some (t6 == 0))
          (some true)).bind fun t4 =>
      cond t4
        ((bigAdd t2 t3).bind fun t7 =>
          (T_dyad_made t7 (IntKind.i64.wrap (q0_2 + q1_2))).bind fun o => match o with
          | (t8, t9, t10, t11) =>
          some (t8, t9, t10, t11))
        ((cond (decide (q0_2 < q1_2))
              (some (q0_0, q0_2, q1_0, q1_2, t3, t2, l0_1, l1_1))
              (some (q1_0, q1_2, q0_0, q0_2, t2, t3, l1_1, l0_1))).bind fun o => match o with
          | (t12, t13, t14, t15, t16, t17, t18, t19) => 
          cond (decide ((IntKind.i64.wrap (t15 - t13)) > 16385))
            (some (false, ([] : List Int), 0, 3))
            ((bigLsh t16 (IntKind.u64.wrap (IntKind.i64.wrap (t15 - t13)))).bind fun t20 =>
              (bigAdd t20 t17).bind fun t21 =>
              (T_dyad_made t21 t13).bind fun o => match o with
              | (t22, t23, t24, t25) =>
              some (t22, t23, t24, t25))))


def T_dyad_Mul (q0_0 : Bool) (l0_1 : List Int) (q0_2 : Int) (q1_0 : Bool) (l1_1 : List Int) (q1_2 : Int) : Option (Bool × List Int × Int × Int) :=
  (T_dyad_both q0_0 l0_1 q0_2 q1_0 l1_1 q1_2).bind fun t1 =>
  cond (!t1)
    (some (false, ([] : List Int), 0, 2))
    ((T_dyad_whole q0_0 l0_1 q0_2).bind fun t2 =>
      (T_dyad_whole q1_0 l1_1 q1_2).bind fun t3 =>
      (bigMul t2 t3).bind fun t4 =>
      (T_dyad_made t4 (IntKind.i64.wrap (q0_2 + q1_2))).bind fun o => match o with
      | (t5, t6, t7, t8) =>
      some (t5, t6, t7, t8))


def T_math_bits_Len64 (q0 : Int) : Option Int :=
  cond (decide (0 ≤ q0 ∧ q0 ≤ 18446744073709551615)) (some ((blN q0.toNat : Nat) : Int)) none


def T_dyad_top (q0_0 : Bool) (l0_1 : List Int) (q0_2 : Int) : Option Int :=
  (some ((l0_1.length : Nat) : Int)).bind fun t1 =>
  (atI l0_1 (IntKind.i64.wrap (t1 - 1))).bind fun t2 =>
  (T_math_bits_Len64 t2).bind fun t3 =>
  some (IntKind.i64.wrap ((IntKind.i64.wrap (q0_2 + (IntKind.i64.wrap (64 * (IntKind.i64.wrap (t1 - 1)))))) + t3))


def T_dyad_away (q0 : Int) (q1 : Bool) (q2 : Int) (q3 : Bool) : Option Bool :=
  cond (q0 == 1)
    (some q1)
    (cond (q0 == 2)
        (some (!q1))
        (cond (q0 == 3)
            (some false)
            (cond (!(decide (q2 > 0)))
                (cond (q2 == 0)
                    (some q3)
                    (some false))
                (some true))))


def T_bits_Join (q0_0 : Bool) (q0_1 : Int) (q0_2 : Int) : Option (Nat × Bool) :=
  (T_math_bits_Len64 q0_1).bind fun t1 =>
  (cond (q0_1 == 0)
      (cond (!(q0_2 != 0))
          (cond (q0_1 != 0)
              (some ((q0_1.tmod 2) == 0))
              (some false))
          (some true))
      (cond (q0_1 != 0)
          (some ((q0_1.tmod 2) == 0))
          (some false))).bind fun t2 =>
  cond t2
    (some ((nf 0), false))
    ((cond (!(decide (t1 > 53)))
          (cond (!(decide (q0_2 > 1024)))
              (cond (!(decide (q0_2 < (-1074))))
                  (cond (q0_1 != 0)
                      (some (decide ((IntKind.i64.wrap (q0_2 + t1)) > 1024)))
                      (some false))
                  (some true))
              (some true))
          (some true)).bind fun t3 =>
      cond t3
        (some ((nf 0), false))
        ((T_math_Ldexp (nf (FloatKind.f64.nearest q0_1)) q0_2).bind fun t4 =>
          (cond q0_0
              ((T_math_Copysign t4 (nf 13830554455654793216)).bind fun t6 =>
                some t6)
              (some t4)).bind fun t5 =>
          some (t5, true)))


def T_bits_Place (p0 : Nat) : Option (Int × Bool) :=
  (some (!feq p0 p0)).bind fun t1 =>
  cond t1
    (some (0, false))
    ((T_math_Abs p0).bind fun t2 =>
      (T_math_Float64bits t2).bind fun t3 =>
      (some (flt p0 (nf 0))).bind fun t4 =>
      (cond t4
          (some (IntKind.i64.wrap (0 - (IntKind.i64.wrap t3))))
          (some (IntKind.i64.wrap t3))).bind fun t5 =>
      some (t5, true))


def T_bits_At (q0 : Int) : Option (Nat × Bool) :=
  cond (!(decide (q0 > 9218868437227405312)))
    (cond (decide (q0 < (-9218868437227405312)))
        (some ((nf 0), false))
        (cond (decide (q0 < 0))
            ((T_math_Float64frombits (IntKind.u64.wrap (IntKind.i64.wrap (0 - q0)))).bind fun t1 =>
              (some (nf (fneg t1))).bind fun t2 =>
              some (t2, true))
            ((T_math_Float64frombits (IntKind.u64.wrap q0)).bind fun t3 =>
              some (t3, true))))
    (some ((nf 0), false))


def T_bits_Next (p0 : Nat) (q1 : Bool) : Option Nat :=
  (T_bits_Place p0).bind fun o => match o with
  | (t1, t2) =>
  cond (!t2)
    (some p0)
    ((cond q1
          (some (if 9218868437227405312 < (IntKind.i64.wrap (t1 + 1)) then 9218868437227405312 else (IntKind.i64.wrap (t1 + 1))))
          (some (if (-9218868437227405312) > (IntKind.i64.wrap (t1 - 1)) then (-9218868437227405312) else (IntKind.i64.wrap (t1 - 1))))).bind fun t3 =>
      (T_bits_At t3).bind fun o => match o with
      | (t4, t5) =>
      some t4)


def T_dyad_float (q0 : Bool) (q1 : Int) (q2 : Int) (q3 : Int) : Option Nat :=
  (cond (decide (q1 > 0))
      ((T_math_bits_TrailingZeros64 q1).bind fun t3 =>
        (nn t3).bind fun t4 =>
        some ((q1.fdiv (2 ^ (min t3.toNat IntKind.u64.bits))), (IntKind.i64.wrap (q2 + t3))))
      (some (0, 0))).bind fun o => match o with
  | (t1, t2) => 
  (T_math_bits_Len64 t1).bind fun t5 =>
  cond (decide ((IntKind.i64.wrap (t5 + t2)) > 1024))
    ((T_bits_Join q0 9007199254740991 971).bind fun o => match o with
      | (t6, t7) =>
      cond (!(q3 == 3))
        (cond (q3 == 1)
            (cond (!(!q0))
                (cond (q3 == 2)
                    (cond q0
                        (some t6)
                        ((T_bits_Next t6 (!q0)).bind fun t8 =>
                          some t8))
                    ((T_bits_Next t6 (!q0)).bind fun t9 =>
                      some t9))
                (some t6))
            (cond (q3 == 2)
                (cond q0
                    (some t6)
                    ((T_bits_Next t6 (!q0)).bind fun t10 =>
                      some t10))
                ((T_bits_Next t6 (!q0)).bind fun t11 =>
                  some t11)))
        (some t6))
    ((T_bits_Join q0 t1 t2).bind fun o => match o with
      | (t12, t13) =>
      some t12)


def T_dyad_Round (q0_0 : Bool) (l0_1 : List Int) (q0_2 : Int) (q1 : Int) : Option (Nat × Int) :=
  (T_dyad_Right q0_0 l0_1 q0_2).bind fun t1 =>
  cond (!t1)
    (some ((nf 0), 2))
    ((some ((l0_1.length : Nat) : Int)).bind fun t2 =>
      cond (t2 == 0)
        (some ((nf 0), 0))
        ((T_dyad_whole q0_0 l0_1 q0_2).bind fun t3 =>
          (bigAbs t3).bind fun t4 =>
          (T_dyad_top q0_0 l0_1 q0_2).bind fun t5 =>
          (cond (decide ((IntKind.i64.wrap ((if (-1074) > (IntKind.i64.wrap (t5 - 53)) then (-1074) else (IntKind.i64.wrap (t5 - 53))) - q0_2)) ≤ 0))
              ((bigLsh t4 (IntKind.u64.wrap (IntKind.i64.wrap (0 - (IntKind.i64.wrap ((if (-1074) > (IntKind.i64.wrap (t5 - 53)) then (-1074) else (IntKind.i64.wrap (t5 - 53))) - q0_2)))))).bind fun t7 =>
                (bigUint64 t7).bind fun t8 =>
                some t8)
              ((bigRsh t4 (IntKind.u64.wrap (IntKind.i64.wrap ((if (-1074) > (IntKind.i64.wrap (t5 - 53)) then (-1074) else (IntKind.i64.wrap (t5 - 53))) - q0_2)))).bind fun t9 =>
                (bigUint64 t9).bind fun t10 =>
                (bigLsh t9 (IntKind.u64.wrap (IntKind.i64.wrap ((if (-1074) > (IntKind.i64.wrap (t5 - 53)) then (-1074) else (IntKind.i64.wrap (t5 - 53))) - q0_2)))).bind fun t11 =>
                (bigSub t4 t11).bind fun t12 =>
                (T_bignum_NewInt 1).bind fun t13 =>
                (bigLsh t13 (IntKind.u64.wrap (IntKind.i64.wrap ((IntKind.i64.wrap ((if (-1074) > (IntKind.i64.wrap (t5 - 53)) then (-1074) else (IntKind.i64.wrap (t5 - 53))) - q0_2)) - 1)))).bind fun t14 =>
                (bigCmp t12 t14).bind fun t15 =>
                (bigSign t12).bind fun t16 =>
                cond (decide (t16 > 0))
                  ((T_dyad_away q1 q0_0 t15 ((IntKind.u64.wrap (BitVec.ofInt IntKind.u64.bits t10 &&& BitVec.ofInt IntKind.u64.bits 1).toNat) == 1)).bind fun t17 =>
                    (cond t17
                        (some (IntKind.u64.wrap (t10 + 1)))
                        (some t10)).bind fun t18 =>
                    some t18)
                  ((some t10).bind fun t19 =>
                    some t19))).bind fun t6 =>
          (T_dyad_float q0_0 t6 (if (-1074) > (IntKind.i64.wrap (t5 - 53)) then (-1074) else (IntKind.i64.wrap (t5 - 53))) q1).bind fun t20 =>
          some (t20, 0)))


def T_girderlaw02_awake  : Option Bool :=
  (T_dyad_Of (nf 4604930618986332160)).bind fun o => match o with
  | (t1, t2, t3, t4) =>
  ((T_dyad_Int 1).bind fun o => match o with
    | (t9, t10, t11) =>
    (T_dyad_Add t1 t2 t3 t9 t10 t11).bind fun o => match o with
    | (t12, t13, t14, t15) =>
    some (t15, t12, t14, t13)).bind fun o => match o with
  | (t5, t6, t7, t8) => 
  ((T_dyad_Int (-2)).bind fun o => match o with
    | (t20, t21, t22) =>
    (T_dyad_Mul t6 t8 t7 t20 t21 t22).bind fun o => match o with
    | (t23, t24, t25, t26) =>
    some (t26, t23, t25, t24)).bind fun o => match o with
  | (t16, t17, t18, t19) => 
  (T_dyad_Round t17 t19 t18 0).bind fun o => match o with
  | (t27, t28) =>
  (some [1]).bind fun t29 =>
  (T_dyad_Round false t29 (-1075) 2).bind fun o => match o with
  | (t30, t31) =>
  cond (t4 == 0)
    (cond (t5 == 0)
        (cond (t16 == 0)
            (cond (t28 == 0)
                (cond (t31 == 0)
                    ((some (feq t27 (nf 13838435755002691584))).bind fun t32 =>
                      cond t32
                        ((some (fgt t30 (nf 0))).bind fun t33 =>
                          cond t33
                            ((some (flt t30 (nf 118622047889322841))).bind fun t34 =>
                              some t34)
                            (some false))
                        (some false))
                    (some false))
                (some false))
            (some false))
        (some false))
    (some false)


def T_girderkit_mark (q0 : Int) (q1 : Int) : Option Int :=
  some (IntKind.i64.wrap ((IntKind.i64.wrap (1000003 * (IntKind.i64.wrap (q0 + 7)))) + q1))


def T_girderkit_LentLimbs (l0 : List Int) : Option (List Int) :=
  cond (decide (l0.length ≤ 4294967000)) (some l0) none


def T_girderkit_LentDyad (q0_0 : Bool) (l0_1 : List Int) (q0_2 : Int) : Option (Bool × List Int × Int) :=
  (T_girderkit_LentLimbs l0_1).bind fun t1 =>
  some (q0_0, t1, q0_2)


def T_dyad_Fits (q0_0 : Bool) (l0_1 : List Int) (q0_2 : Int) : Option Bool :=
  (T_dyad_Right q0_0 l0_1 q0_2).bind fun t1 =>
  cond (!t1)
    (some false)
    ((some ((l0_1.length : Nat) : Int)).bind fun t2 =>
      cond (t2 == 0)
        (some true)
        (cond (decide (q0_2 ≥ (-1074)))
            ((T_dyad_top q0_0 l0_1 q0_2).bind fun t3 =>
              cond (decide (t3 ≤ 1024))
                ((some ((l0_1.length : Nat) : Int)).bind fun t4 =>
                  cond (t4 == 1)
                    ((atI l0_1 0).bind fun t5 =>
                      (T_math_bits_Len64 t5).bind fun t6 =>
                      some (decide (t6 ≤ 53)))
                    (some false))
                (some false))
            (some false)))


def T_dyad_Norm (q0_0 : Bool) (l0_1 : List Int) (q0_2 : Int) : Option (Bool × List Int × Int × Int) :=
  (T_dyad_whole q0_0 l0_1 q0_2).bind fun t1 =>
  (T_dyad_made t1 q0_2).bind fun o => match o with
  | (t2, t3, t4, t5) =>
  some (t2, t3, t4, t5)

def T_girderkit_SameLimbs_b2 (l0 : List Int) (l1 : List Int) : Int → Option (Int ⊕ (Unit ⊕ Bool)) := fun st => match st with
| t3 =>
  (some ((l0.length : Nat) : Int)).bind fun t4 =>
  cond (decide (t3 < t4))
    ((atI l0 t3).bind fun t5 =>
      (atI l1 t3).bind fun t6 =>
      cond (t5 != t6)
        (some (.inr (.inr false)))
        (some (.inl (IntKind.i64.wrap (t3 + 1)))))
    (some (.inr (.inl ())))

def T_girderkit_SameLimbs (l0 : List Int) (l1 : List Int) : Option Bool :=
  (some ((l0.length : Nat) : Int)).bind fun t1 =>
  (some ((l1.length : Nat) : Int)).bind fun t2 =>
  cond (t1 != t2)
    (some false)
    (((iter (T_girderkit_SameLimbs_b2 l0 l1) FU 0 : Option (Unit ⊕ Bool))).bind fun o => match o with
      | .inl () => some true
      | .inr v => some v)


def T_girderkit_SameDyad (q0_0 : Bool) (l0_1 : List Int) (q0_2 : Int) (q1_0 : Bool) (l1_1 : List Int) (q1_2 : Int) : Option Bool :=
  cond (q0_0 == q1_0)
    ((T_girderkit_SameLimbs l0_1 l1_1).bind fun t1 =>
      cond t1
        (some (q0_2 == q1_2))
        (some false))
    (some false)


def T_girderkit_KeptLimbs (l0 : List Int) (l1 : List Int) : Option Bool :=
  cond (decide (l1.length ≤ 4294967000)) (some true) none


def T_girderkit_KeptDyad (q0_0 : Bool) (l0_1 : List Int) (q0_2 : Int) (q1_0 : Bool) (l1_1 : List Int) (q1_2 : Int) : Option Bool :=
  (T_girderkit_SameDyad q0_0 l0_1 q0_2 q1_0 l1_1 q1_2).bind fun t1 =>
  cond t1
    ((T_girderkit_KeptLimbs l0_1 l1_1).bind fun t2 =>
      some t2)
    (some false)

def T_girderref02_NatTrim_b2 (l0 : List Int) : Int → Option (Int ⊕ (Int)) := fun st => match st with
| t3 =>
  cond (decide (t3 > 0))
    ((atI l0 (IntKind.i64.wrap (t3 - 1))).bind fun t4 =>
      cond (t4 == 0)
        (some (.inl (IntKind.i64.wrap (t3 - 1))))
        (some (.inr t3)))
    (some (.inr t3))

def T_girderref02_NatTrim (l0 : List Int) : Option (List Int) :=
  (some ((l0.length : Nat) : Int)).bind fun t1 =>
  (iter (T_girderref02_NatTrim_b2 l0) FU t1).bind fun t2 =>
  (subL l0 0 t2).bind fun t5 =>
  (appL ([] : List Int) t5).bind fun t6 =>
  some t6

def T_girderref02_low_b2 (l0 : List Int) : Int → Option (Int ⊕ (Int)) := fun st => match st with
| t3 =>
  cond (decide (t3 > 0))
    ((atI l0 (IntKind.i64.wrap (t3 - 1))).bind fun t4 =>
      cond (t4 == 0)
        (some (.inl (IntKind.i64.wrap (t3 - 1))))
        (some (.inr t3)))
    (some (.inr t3))

def T_girderref02_low (l0 : List Int) : Option Int :=
  (some ((l0.length : Nat) : Int)).bind fun t1 =>
  (iter (T_girderref02_low_b2 l0) FU t1).bind fun t2 =>
  (subL l0 0 t2).bind fun t5 =>
  some t2

def T_girderref02_halves_b2 (l0 : List Int) : (Int × List Int) → Option ((Int × List Int) ⊕ (List Int)) := fun st => match st with
| (t2, t3) =>
  (some ((l0.length : Nat) : Int)).bind fun t4 =>
  cond (decide (t2 < t4))
    ((atI l0 t2).bind fun t5 =>
      (atI l0 t2).bind fun t6 =>
      (some [(t5.tmod 4294967296), (IntKind.u64.wrap (t6.tdiv 4294967296))]).bind fun t7 =>
      (appL t3 t7).bind fun t8 =>
      some (.inl ((IntKind.i64.wrap (t2 + 1)), t8)))
    (some (.inr t3))

def T_girderref02_halves (l0 : List Int) : Option (List Int) :=
  (iter (T_girderref02_halves_b2 l0) FU (0, ([] : List Int))).bind fun t1 =>
  (T_girderref02_low t1).bind fun t9 =>
  (subL t1 0 t9).bind fun t10 =>
  some t10

def T_girderref02_short_b2 (l0 : List Int) (q1 : Int) : (Int × Int × List Int) → Option ((Int × Int × List Int) ⊕ ((Int × List Int))) := fun st => match st with
| (t6, t7, t8) =>
  cond (decide (t7 ≥ 0))
    ((atI l0 t7).bind fun t9 =>
      (nz q1).bind fun t13 =>
      (atI t8 t7).bind fun t10 =>
      (some (t8.set (t7).toNat (IntKind.u64.wrap ((IntKind.u64.wrap ((IntKind.u64.wrap (t6 * 4294967296)) + t9)).tdiv q1)))).bind fun t11 =>
      (nz q1).bind fun t12 =>
      some (.inl (((IntKind.u64.wrap ((IntKind.u64.wrap (t6 * 4294967296)) + t9)).tmod q1), (IntKind.i64.wrap (t7 - 1)), t11)))
    (some (.inr (t6, t8)))

def T_girderref02_short (l0 : List Int) (q1 : Int) : Option (List Int × Int) :=
  (some ((l0.length : Nat) : Int)).bind fun t1 =>
  (mkL 0 t1 t1).bind fun t2 =>
  (some ((l0.length : Nat) : Int)).bind fun t3 =>
  (iter (T_girderref02_short_b2 l0 q1) FU (0, (IntKind.i64.wrap (t3 - 1)), t2)).bind fun o => match o with
  | (t4, t5) => 
  (T_girderref02_low t5).bind fun t14 =>
  (subL t5 0 t14).bind fun t15 =>
  some (t15, t4)

def T_girderref02_limbs_b2 (l0 : List Int) : (Int × List Int) → Option ((Int × List Int) ⊕ (List Int)) := fun st => match st with
| (t2, t3) =>
  (some ((l0.length : Nat) : Int)).bind fun t4 =>
  cond (decide (t2 < t4))
    ((atI l0 t2).bind fun t5 =>
      (some ((l0.length : Nat) : Int)).bind fun t6 =>
      (cond (decide ((IntKind.i64.wrap (t2 + 1)) < t6))
          ((atI l0 (IntKind.i64.wrap (t2 + 1))).bind fun t8 =>
            some (IntKind.u64.wrap (t5 + (IntKind.u64.wrap (4294967296 * t8)))))
          (some t5)).bind fun t7 =>
      (some [t7]).bind fun t9 =>
      (appL t3 t9).bind fun t10 =>
      some (.inl ((IntKind.i64.wrap (t2 + 2)), t10)))
    (some (.inr t3))

def T_girderref02_limbs (l0 : List Int) : Option (List Int) :=
  (iter (T_girderref02_limbs_b2 l0) FU (0, ([] : List Int))).bind fun t1 =>
  (T_girderref02_NatTrim t1).bind fun t11 =>
  some t11

def T_girderref02_NatDown_b2 (q1 : Int) (t1 : List Int) : (Bool × Int) → Option ((Bool × Int) ⊕ (Bool)) := fun st => match st with
| (t3, t4) =>
  cond (decide (t4 < (IntKind.i64.wrap (q1.tdiv 32))))
    ((some ((t1.length : Nat) : Int)).bind fun t5 =>
      cond (decide (t4 < t5))
        (cond (!t3)
            ((atI t1 t4).bind fun t6 =>
              some (.inl ((t6 != 0), (IntKind.i64.wrap (t4 + 1)))))
            (some (.inl (true, (IntKind.i64.wrap (t4 + 1))))))
        (some (.inr t3)))
    (some (.inr t3))

def T_girderref02_NatDown_b4 (q1 : Int) : (Int × Int) → Option ((Int × Int) ⊕ (Int)) := fun st => match st with
| (t9, t10) =>
  cond (decide (t10 < (q1.tmod 32)))
    (some (.inl ((IntKind.u64.wrap (2 * t9)), (IntKind.i64.wrap (t10 + 1)))))
    (some (.inr t9))

def T_girderref02_NatDown (l0 : List Int) (q1 : Int) : Option (List Int × Bool) :=
  (T_girderref02_halves l0).bind fun t1 =>
  (iter (T_girderref02_NatDown_b2 q1 t1) FU (false, 0)).bind fun t2 =>
  (some ((t1.length : Nat) : Int)).bind fun t7 =>
  cond (decide ((IntKind.i64.wrap (q1.tdiv 32)) ≥ t7))
    (some (([] : List Int), t2))
    ((iter (T_girderref02_NatDown_b4 q1) FU (1, 0)).bind fun t8 =>
      (some ((t1.length : Nat) : Int)).bind fun t12 =>
      (subL t1 (IntKind.i64.wrap (q1.tdiv 32)) t12).bind fun t11 =>
      (T_girderref02_short t11 t8).bind fun o => match o with
      | (t13, t14) =>
      (T_girderref02_limbs t13).bind fun t15 =>
      cond (!t2)
        (some (t15, (t14 != 0)))
        (some (t15, true)))

def T_girderref02_Norm_b2 (t1 : List Int) : Int → Option (Int ⊕ (Int)) := fun st => match st with
| t4 =>
  (atI t1 (IntKind.i64.wrap (t4.tdiv 64))).bind fun t5 =>
  (nn (IntKind.u64.wrap (t4.tmod 64))).bind fun t6 =>
  cond (((t5.fdiv (2 ^ (min (IntKind.u64.wrap (t4.tmod 64)).toNat IntKind.u64.bits))).tmod 2) == 0)
    (some (.inl (IntKind.i64.wrap (t4 + 1))))
    (some (.inr t4))

def T_girderref02_Norm (q0_0 : Bool) (l0_1 : List Int) (q0_2 : Int) : Option (Bool × List Int × Int × Int) :=
  (T_girderref02_NatTrim l0_1).bind fun t1 =>
  (some ((t1.length : Nat) : Int)).bind fun t2 =>
  cond (t2 == 0)
    (some (false, ([] : List Int), 0, 0))
    ((iter (T_girderref02_Norm_b2 t1) FU 0).bind fun t3 =>
      (T_girderref02_NatDown t1 t3).bind fun o => match o with
      | (t7, t8) =>
      ((some ((t7.length : Nat) : Int)).bind fun t10 =>
        cond (!(decide (t10 > 256)))
          (cond (!(decide (q0_2 > 65536)))
              (cond (!(decide (q0_2 < (IntKind.i64.wrap ((-65536) - t3)))))
                  (some (decide ((IntKind.i64.wrap (q0_2 + t3)) > 65536)))
                  (some true))
              (some true))
          (some true)).bind fun t9 =>
      cond t9
        (some (false, ([] : List Int), 0, 3))
        (some (q0_0, t7, (IntKind.i64.wrap (q0_2 + t3)), 0)))


def T_girderref02_Right (q0_0 : Bool) (l0_1 : List Int) (q0_2 : Int) : Option Bool :=
  (some ((l0_1.length : Nat) : Int)).bind fun t1 =>
  cond (t1 == 0)
    (cond (!q0_0)
        (some (q0_2 == 0))
        (some false))
    ((some ((l0_1.length : Nat) : Int)).bind fun t2 =>
      cond (decide (t2 ≤ 256))
        ((some ((l0_1.length : Nat) : Int)).bind fun t3 =>
          (atI l0_1 (IntKind.i64.wrap (t3 - 1))).bind fun t4 =>
          cond (t4 != 0)
            ((atI l0_1 0).bind fun t5 =>
              cond ((t5.tmod 2) == 1)
                (cond (decide (q0_2 ≥ (-65536)))
                    (some (decide (q0_2 ≤ 65536)))
                    (some false))
                (some false))
            (some false))
        (some false))


def T_girderref02_Dyad (q0_0 : Bool) (l0_1 : List Int) (q0_2 : Int) : Option (Bool × List Int × Int) :=
  (T_girderref02_NatTrim l0_1).bind fun t1 =>
  some (q0_0, t1, q0_2)

def T_girderref02_NatBits_b2  : (Int × Int) → Option ((Int × Int) ⊕ (Int)) := fun st => match st with
| (t7, t8) =>
  cond (decide (t8 > 0))
    (some (.inl ((IntKind.i64.wrap (t7 + 1)), (IntKind.u64.wrap (t8.tdiv 2)))))
    (some (.inr t7))

def T_girderref02_NatBits (l0 : List Int) : Option Int :=
  (T_girderref02_NatTrim l0).bind fun t1 =>
  (some ((t1.length : Nat) : Int)).bind fun t2 =>
  cond (t2 == 0)
    (some 0)
    ((some ((t1.length : Nat) : Int)).bind fun t3 =>
      (some ((t1.length : Nat) : Int)).bind fun t4 =>
      (atI t1 (IntKind.i64.wrap (t4 - 1))).bind fun t5 =>
      (iter (T_girderref02_NatBits_b2) FU ((IntKind.i64.wrap (64 * (IntKind.i64.wrap (t3 - 1)))), t5)).bind fun t6 =>
      some t6)


def T_girderref02_Num_Zero (q0_0 : Bool) (l0_1 : List Int) (q0_2 : Int) : Option Bool :=
  (T_girderref02_NatBits l0_1).bind fun t1 =>
  some (t1 == 0)


def T_girderref02_Num_top (q0_0 : Bool) (l0_1 : List Int) (q0_2 : Int) : Option Int :=
  (T_girderref02_NatBits l0_1).bind fun t1 =>
  some (IntKind.i64.wrap (q0_2 + t1))

def T_girderref02_NatUp_b2 (q1 : Int) : (Int × Int) → Option ((Int × Int) ⊕ (Int)) := fun st => match st with
| (t5, t6) =>
  cond (decide (t6 < (q1.tmod 32)))
    (some (.inl ((IntKind.u64.wrap (2 * t5)), (IntKind.i64.wrap (t6 + 1)))))
    (some (.inr t5))

def T_girderref02_NatUp_b4 (t1 : List Int) (t4 : Int) : (Int × Int × List Int) → Option ((Int × Int × List Int) ⊕ ((Int × List Int))) := fun st => match st with
| (t9, t10, t11) =>
  (some ((t1.length : Nat) : Int)).bind fun t12 =>
  cond (decide (t10 < t12))
    ((atI t1 t10).bind fun t13 =>
      (some [((IntKind.u64.wrap ((IntKind.u64.wrap (t13 * t4)) + t9)).tmod 4294967296)]).bind fun t14 =>
      (appL t11 t14).bind fun t15 =>
      some (.inl ((IntKind.u64.wrap ((IntKind.u64.wrap ((IntKind.u64.wrap (t13 * t4)) + t9)).tdiv 4294967296)), (IntKind.i64.wrap (t10 + 1)), t15)))
    (some (.inr (t9, t11)))

def T_girderref02_NatUp (l0 : List Int) (q1 : Int) : Option (List Int) :=
  (T_girderref02_halves l0).bind fun t1 =>
  (some ((t1.length : Nat) : Int)).bind fun t2 =>
  cond (t2 == 0)
    (some ([] : List Int))
    ((mkL 0 (IntKind.i64.wrap (q1.tdiv 32)) (IntKind.i64.wrap (q1.tdiv 32))).bind fun t3 =>
      (iter (T_girderref02_NatUp_b2 q1) FU (1, 0)).bind fun t4 =>
      (iter (T_girderref02_NatUp_b4 t1 t4) FU (0, 0, t3)).bind fun o => match o with
      | (t7, t8) => 
      (some [t7]).bind fun t16 =>
      (appL t8 t16).bind fun t17 =>
      (T_girderref02_limbs t17).bind fun t18 =>
      some t18)


def T_girderref02_up (q0 : Int) (q1 : Bool) (q2 : Int) (q3 : Bool) : Option Bool :=
  cond (q0 == 1)
    (some q1)
    (cond (q0 == 2)
        (some (!q1))
        (cond (q0 == 3)
            (some false)
            (cond (!(decide (q2 > 0)))
                (cond (q2 == 0)
                    (some q3)
                    (some false))
                (some true))))


def T_girderref02_NatOf (q0 : Int) : Option (List Int) :=
  (some [q0]).bind fun t1 =>
  (T_girderref02_NatTrim t1).bind fun t2 =>
  some t2


def T_girderref02_digit (l0 : List Int) (q1 : Int) : Option Int :=
  (some ((l0.length : Nat) : Int)).bind fun t1 =>
  cond (decide (q1 < t1))
    ((atI l0 q1).bind fun t2 =>
      some t2)
    (some 0)

def T_girderref02_NatAdd_b2 (t1 : List Int) (t2 : List Int) : (Int × Int × List Int) → Option ((Int × Int × List Int) ⊕ (List Int)) := fun st => match st with
| (t4, t5, t6) =>
  ((some ((t1.length : Nat) : Int)).bind fun t8 =>
    cond (!(decide (t5 < t8)))
      ((some ((t2.length : Nat) : Int)).bind fun t9 =>
        cond (!(decide (t5 < t9)))
          (some (decide (t4 > 0)))
          (some true))
      (some true)).bind fun t7 =>
  cond t7
    ((T_girderref02_digit t1 t5).bind fun t10 =>
      (T_girderref02_digit t2 t5).bind fun t11 =>
      (some [((IntKind.u64.wrap ((IntKind.u64.wrap (t10 + t11)) + t4)).tmod 4294967296)]).bind fun t12 =>
      (appL t6 t12).bind fun t13 =>
      some (.inl ((IntKind.u64.wrap ((IntKind.u64.wrap ((IntKind.u64.wrap (t10 + t11)) + t4)).tdiv 4294967296)), (IntKind.i64.wrap (t5 + 1)), t13)))
    (some (.inr t6))

def T_girderref02_NatAdd (l0 : List Int) (l1 : List Int) : Option (List Int) :=
  (T_girderref02_halves l0).bind fun t1 =>
  (T_girderref02_halves l1).bind fun t2 =>
  (iter (T_girderref02_NatAdd_b2 t1 t2) FU (0, 0, ([] : List Int))).bind fun t3 =>
  (T_girderref02_limbs t3).bind fun t14 =>
  some t14

def T_girderref01_Join_b2  : (Int × Int) → Option ((Int × Int) ⊕ ((Int × Int))) := fun st => match st with
| (t4, t5) =>
  cond (t4 != 0)
    (cond (decide (t4 < 4503599627370496))
        (cond (decide (t5 > (-1074)))
            (some (.inl ((IntKind.u64.wrap (2 * t4)), (IntKind.i64.wrap (t5 - 1)))))
            (some (.inr (t4, t5))))
        (some (.inr (t4, t5))))
    (some (.inr (t4, t5)))

def T_girderref01_Join (q0_0 : Bool) (q0_1 : Int) (q0_2 : Int) : Option (Nat × Bool) :=
  (cond (!(decide (q0_1 ≥ 9007199254740992)))
      (cond (!(decide (q0_2 < (-1074))))
          (cond (!(decide (q0_2 > 1023)))
              (cond (!(!((q0_1 == 0) == ((q0_1.tmod 2) == 0))))
                  (cond (q0_1 == 0)
                      (some (q0_2 != 0))
                      (some false))
                  (some true))
              (some true))
          (some true))
      (some true)).bind fun t1 =>
  cond t1
    (some ((nf 0), false))
    ((iter (T_girderref01_Join_b2) FU (q0_1, q0_2)).bind fun o => match o with
      | (t2, t3) => 
      cond (decide (t3 > 971))
        (some ((nf 0), false))
        ((cond (decide (t2 ≥ 4503599627370496))
              (some (IntKind.u64.wrap ((IntKind.u64.wrap (t2 - 4503599627370496)) + (IntKind.u64.wrap ((IntKind.u64.wrap (IntKind.i64.wrap (t3 + 1075))) * 2 ^ (min (52 : Int).toNat IntKind.u64.bits))))))
              (some t2)).bind fun t6 =>
          (cond q0_0
              (some (IntKind.u64.wrap (t6 + 9223372036854775808)))
              (some t6)).bind fun t7 =>
          (T_math_Float64frombits t7).bind fun t8 =>
          some (t8, true)))


def T_girderref02_huge (q0 : Int) (q1 : Bool) : Option Nat :=
  (T_girderref01_Join q1 9007199254740991 971).bind fun o => match o with
  | (t1, t2) =>
  (cond q1
      (some (nf 13830554455654793216))
      (some (nf 4607182418800017408))).bind fun t3 =>
  cond (!(q0 == 3))
    (cond (q0 == 1)
        (cond (!(!q1))
            (cond (q0 == 2)
                (cond q1
                    (some t1)
                    ((some (fdiv t3 (nf 0))).bind fun t4 =>
                      some t4))
                ((some (fdiv t3 (nf 0))).bind fun t5 =>
                  some t5))
            (some t1))
        (cond (q0 == 2)
            (cond q1
                (some t1)
                ((some (fdiv t3 (nf 0))).bind fun t6 =>
                  some t6))
            ((some (fdiv t3 (nf 0))).bind fun t7 =>
              some t7)))
    (some t1)

def T_girderref02_float_b2  : (Int × Int) → Option ((Int × Int) ⊕ ((Int × Int))) := fun st => match st with
| (t4, t5) =>
  cond (decide (t4 > 0))
    (cond ((t4.tmod 2) == 0)
        (some (.inl ((IntKind.u64.wrap (t4.tdiv 2)), (IntKind.i64.wrap (t5 + 1)))))
        (some (.inr (t4, t5))))
    (some (.inr (t4, t5)))

def T_girderref02_float (q0 : Bool) (q1 : Int) (q2 : Int) : Option Nat :=
  (cond (q1 == 0)
      (some 0)
      (some q2)).bind fun t1 =>
  (iter (T_girderref02_float_b2) FU (q1, t1)).bind fun o => match o with
  | (t2, t3) => 
  (T_girderref01_Join q0 t2 t3).bind fun o => match o with
  | (t6, t7) =>
  some t6


def T_girderref02_Rounded (q0_0 : Bool) (l0_1 : List Int) (q0_2 : Int) (q1 : Int) : Option Nat :=
  (T_girderref02_Num_Zero q0_0 l0_1 q0_2).bind fun t1 =>
  cond t1
    (some (nf 0))
    ((T_girderref02_Num_top q0_0 l0_1 q0_2).bind fun t2 =>
      (cond (decide (q0_2 ≥ (if (-1074) > (IntKind.i64.wrap (t2 - 53)) then (-1074) else (IntKind.i64.wrap (t2 - 53)))))
          ((T_girderref02_NatUp l0_1 (IntKind.i64.wrap (q0_2 - (if (-1074) > (IntKind.i64.wrap (t2 - 53)) then (-1074) else (IntKind.i64.wrap (t2 - 53)))))).bind fun t4 =>
            some t4)
          ((T_girderref02_NatDown l0_1 (IntKind.i64.wrap ((if (-1074) > (IntKind.i64.wrap (t2 - 53)) then (-1074) else (IntKind.i64.wrap (t2 - 53))) - q0_2))).bind fun o => match o with
            | (t5, t6) =>
            (cond t6
                ((T_girderref02_NatDown l0_1 (IntKind.i64.wrap ((IntKind.i64.wrap ((if (-1074) > (IntKind.i64.wrap (t2 - 53)) then (-1074) else (IntKind.i64.wrap (t2 - 53))) - q0_2)) - 1))).bind fun o => match o with
                  | (t8, t9) =>
                  ((some ((t8.length : Nat) : Int)).bind fun t11 =>
                    cond (decide (t11 > 0))
                      ((atI t8 0).bind fun t12 =>
                        some ((t12.tmod 2) == 1))
                      (some false)).bind fun t10 =>
                  (cond t10
                      ((cond t9
                            (some 1)
                            (some 0)).bind fun t14 =>
                        some t14)
                      (some (-1))).bind fun t13 =>
                  (some ((t5.length : Nat) : Int)).bind fun t15 =>
                  cond (decide (t15 > 0))
                    ((atI t5 0).bind fun t16 =>
                      (T_girderref02_up q1 q0_0 t13 ((t16.tmod 2) == 1)).bind fun t17 =>
                      (cond t17
                          ((T_girderref02_NatOf 1).bind fun t19 =>
                            (T_girderref02_NatAdd t5 t19).bind fun t20 =>
                            some t20)
                          (some t5)).bind fun t18 =>
                      some t18)
                    ((T_girderref02_up q1 q0_0 t13 false).bind fun t21 =>
                      (cond t21
                          ((T_girderref02_NatOf 1).bind fun t23 =>
                            (T_girderref02_NatAdd t5 t23).bind fun t24 =>
                            some t24)
                          (some t5)).bind fun t22 =>
                      some t22))
                (some t5)).bind fun t7 =>
            some t7)).bind fun t3 =>
      (T_girderref02_NatBits t3).bind fun t25 =>
      cond (decide ((IntKind.i64.wrap (t25 + (if (-1074) > (IntKind.i64.wrap (t2 - 53)) then (-1074) else (IntKind.i64.wrap (t2 - 53))))) > 1024))
        ((T_girderref02_huge q1 q0_0).bind fun t26 =>
          some t26)
        ((some ((t3.length : Nat) : Int)).bind fun t27 =>
          (cond (decide (t27 > 0))
              ((atI t3 0).bind fun t29 =>
                some t29)
              (some 0)).bind fun t28 =>
          (T_girderref02_float q0_0 t28 (if (-1074) > (IntKind.i64.wrap (t2 - 53)) then (-1074) else (IntKind.i64.wrap (t2 - 53)))).bind fun t30 =>
          some t30))


def T_girderref01_fields (p0 : Nat) : Option (Bool × Int × Int) :=
  (T_math_Float64bits p0).bind fun t1 =>
  some (((t1.fdiv (2 ^ (min (63 : Int).toNat IntKind.u64.bits))) == 1), (IntKind.i64.wrap ((IntKind.u64.wrap (t1.tdiv 4503599627370496)).tmod 2048)), (t1.tmod 4503599627370496))


def T_girderref01_Kind (p0 : Nat) : Option Int :=
  some (if expF p0 = 2047 then (if fracF p0 = 0 then 3 else 4) else if expF p0 = 0 then (if fracF p0 = 0 then 0 else 1) else 2)


def T_girderref01_Finite (p0 : Nat) : Option Bool :=
  (T_girderref01_Kind p0).bind fun t1 =>
  some (decide (t1 < 3))

def T_girderref01_Split_b2  : (Int × Int) → Option ((Int × Int) ⊕ ((Int × Int))) := fun st => match st with
| (t10, t11) =>
  cond (t10 != 0)
    (cond ((t10.tmod 2) == 0)
        (some (.inl ((IntKind.u64.wrap (t10.tdiv 2)), (IntKind.i64.wrap (t11 + 1)))))
        (some (.inr (t10, t11))))
    (some (.inr (t10, t11)))

def T_girderref01_Split (p0 : Nat) : Option (Bool × Int × Int × Bool) :=
  (T_girderref01_Finite p0).bind fun t1 =>
  cond (!t1)
    (some (false, 0, 0, false))
    ((T_girderref01_fields p0).bind fun o => match o with
      | (t2, t3, t4) =>
      (cond (decide (t3 > 0))
          (some ((IntKind.u64.wrap (t4 + 4503599627370496)), (IntKind.i64.wrap (t3 - 1075))))
          (some (t4, (-1074)))).bind fun o => match o with
      | (t5, t6) => 
      (cond (t5 == 0)
          (some 0)
          (some t6)).bind fun t7 =>
      (iter (T_girderref01_Split_b2) FU (t5, t7)).bind fun o => match o with
      | (t8, t9) => some (t2, t8, t9, true))


def T_girderref02_Of (p0 : Nat) : Option (Bool × List Int × Int × Int) :=
  (T_girderref01_Split p0).bind fun o => match o with
  | (t1, t2, t3, t4) =>
  cond (!t4)
    (some (false, ([] : List Int), 0, 5))
    ((some [t2]).bind fun t5 =>
      (T_girderref02_Norm t1 t5 t3).bind fun o => match o with
      | (t6, t7, t8, t9) =>
      some (t6, t7, t8, t9))


def T_girderref02_Num_Sign (q0_0 : Bool) (l0_1 : List Int) (q0_2 : Int) : Option Int :=
  (T_girderref02_Num_Zero q0_0 l0_1 q0_2).bind fun t1 =>
  cond t1
    (some 0)
    (cond q0_0
        (some (-1))
        (some 1))


def T_girderref02_Minus (q0_0 : Bool) (l0_1 : List Int) (q0_2 : Int) : Option (Bool × List Int × Int) :=
  some ((!q0_0), l0_1, q0_2)

def T_girderref02_NatCmp_b2 (t1 : List Int) (t2 : List Int) : Int → Option (Int ⊕ (Unit ⊕ Int)) := fun st => match st with
| t8 =>
  cond (decide (t8 ≥ 0))
    ((atI t1 t8).bind fun t9 =>
      (atI t2 t8).bind fun t10 =>
      cond (decide (t9 < t10))
        (some (.inr (.inr (-1))))
        ((atI t1 t8).bind fun t11 =>
          (atI t2 t8).bind fun t12 =>
          cond (decide (t11 > t12))
            (some (.inr (.inr 1)))
            (some (.inl (IntKind.i64.wrap (t8 - 1))))))
    (some (.inr (.inl ())))

def T_girderref02_NatCmp (l0 : List Int) (l1 : List Int) : Option Int :=
  (T_girderref02_NatTrim l0).bind fun t1 =>
  (T_girderref02_NatTrim l1).bind fun t2 =>
  (some ((t1.length : Nat) : Int)).bind fun t3 =>
  (some ((t2.length : Nat) : Int)).bind fun t4 =>
  cond (t3 != t4)
    ((some ((t1.length : Nat) : Int)).bind fun t5 =>
      (some ((t2.length : Nat) : Int)).bind fun t6 =>
      cond (decide (t5 < t6))
        (some (-1))
        (some 1))
    ((some ((t1.length : Nat) : Int)).bind fun t7 =>
      ((iter (T_girderref02_NatCmp_b2 t1 t2) FU (IntKind.i64.wrap (t7 - 1)) : Option (Unit ⊕ Int))).bind fun o => match o with
      | .inl () => some 0
      | .inr v => some v)

def T_girderref02_NatSub_b2 (t1 : List Int) (t2 : List Int) : (Int × Int × List Int) → Option ((Int × Int × List Int) ⊕ (List Int)) := fun st => match st with
| (t4, t5, t6) =>
  (some ((t1.length : Nat) : Int)).bind fun t7 =>
  cond (decide (t5 < t7))
    ((atI t1 t5).bind fun t8 =>
      (T_girderref02_digit t2 t5).bind fun t9 =>
      (some [((IntKind.u64.wrap ((IntKind.u64.wrap ((IntKind.u64.wrap (4294967296 + t8)) - t9)) - t4)).tmod 4294967296)]).bind fun t10 =>
      (appL t6 t10).bind fun t11 =>
      some (.inl ((IntKind.u64.wrap (1 - (IntKind.u64.wrap ((IntKind.u64.wrap ((IntKind.u64.wrap ((IntKind.u64.wrap (4294967296 + t8)) - t9)) - t4)).tdiv 4294967296)))), (IntKind.i64.wrap (t5 + 1)), t11)))
    (some (.inr t6))

def T_girderref02_NatSub (l0 : List Int) (l1 : List Int) : Option (List Int) :=
  (T_girderref02_halves l0).bind fun t1 =>
  (T_girderref02_halves l1).bind fun t2 =>
  (iter (T_girderref02_NatSub_b2 t1 t2) FU (0, 0, ([] : List Int))).bind fun t3 =>
  (T_girderref02_limbs t3).bind fun t12 =>
  some t12


def T_girderref02_Plus0 (q0_0 : Bool) (l0_1 : List Int) (q0_2 : Int) (q1_0 : Bool) (l1_1 : List Int) (q1_2 : Int) : Option (Bool × List Int × Int) :=
  none


def T_girderref02_Plus1 (q0_0 : Bool) (l0_1 : List Int) (q0_2 : Int) (q1_0 : Bool) (l1_1 : List Int) (q1_2 : Int) : Option (Bool × List Int × Int) :=
  (T_girderref02_Num_Zero q0_0 l0_1 q0_2).bind fun t1 =>
  cond t1
    (some (q1_0, l1_1, q1_2))
    ((T_girderref02_Num_Zero q1_0 l1_1 q1_2).bind fun t2 =>
      cond t2
        (some (q0_0, l0_1, q0_2))
        (cond (decide (q0_2 > q1_2))
            ((T_girderref02_Plus0 q1_0 l1_1 q1_2 q0_0 l0_1 q0_2).bind fun o => match o with
              | (t3, t4, t5) =>
              some (t3, t4, t5))
            ((T_girderref02_NatUp l1_1 (IntKind.i64.wrap (q1_2 - q0_2))).bind fun t6 =>
              cond (q0_0 == q1_0)
                ((T_girderref02_NatAdd l0_1 t6).bind fun t7 =>
                  some (q0_0, t7, q0_2))
                ((T_girderref02_NatCmp l0_1 t6).bind fun t8 =>
                  cond (decide (t8 ≥ 0))
                    ((T_girderref02_NatSub l0_1 t6).bind fun t9 =>
                      some (q0_0, t9, q0_2))
                    ((T_girderref02_NatSub t6 l0_1).bind fun t10 =>
                      some (q1_0, t10, q0_2))))))


def T_girderref02_Plus (q0_0 : Bool) (l0_1 : List Int) (q0_2 : Int) (q1_0 : Bool) (l1_1 : List Int) (q1_2 : Int) : Option (Bool × List Int × Int) :=
  (T_girderref02_Num_Zero q0_0 l0_1 q0_2).bind fun t1 =>
  cond t1
    (some (q1_0, l1_1, q1_2))
    ((T_girderref02_Num_Zero q1_0 l1_1 q1_2).bind fun t2 =>
      cond t2
        (some (q0_0, l0_1, q0_2))
        (cond (decide (q0_2 > q1_2))
            ((T_girderref02_Plus1 q1_0 l1_1 q1_2 q0_0 l0_1 q0_2).bind fun o => match o with
              | (t3, t4, t5) =>
              some (t3, t4, t5))
            ((T_girderref02_NatUp l1_1 (IntKind.i64.wrap (q1_2 - q0_2))).bind fun t6 =>
              cond (q0_0 == q1_0)
                ((T_girderref02_NatAdd l0_1 t6).bind fun t7 =>
                  some (q0_0, t7, q0_2))
                ((T_girderref02_NatCmp l0_1 t6).bind fun t8 =>
                  cond (decide (t8 ≥ 0))
                    ((T_girderref02_NatSub l0_1 t6).bind fun t9 =>
                      some (q0_0, t9, q0_2))
                    ((T_girderref02_NatSub t6 l0_1).bind fun t10 =>
                      some (q1_0, t10, q0_2))))))


def T_girderref02_Compare (q0_0 : Bool) (l0_1 : List Int) (q0_2 : Int) (q1_0 : Bool) (l1_1 : List Int) (q1_2 : Int) : Option Int :=
  (T_girderref02_Num_Sign q0_0 l0_1 q0_2).bind fun t1 =>
  (T_girderref02_Num_Sign q1_0 l1_1 q1_2).bind fun t2 =>
  (cond (!(t1 != t2))
      (some (t1 == 0))
      (some true)).bind fun t3 =>
  cond t3
    (cond (decide (t1 < t2))
        (some (-1))
        (cond (decide (t1 > t2))
            (some 1)
            (some 0)))
    ((T_girderref02_Num_top q0_0 l0_1 q0_2).bind fun t4 =>
      (T_girderref02_Num_top q1_0 l1_1 q1_2).bind fun t5 =>
      cond (t4 != t5)
        ((T_girderref02_Num_top q0_0 l0_1 q0_2).bind fun t6 =>
          (T_girderref02_Num_top q1_0 l1_1 q1_2).bind fun t7 =>
          cond (decide (t6 < t7))
            (some (IntKind.i64.wrap (0 - t1)))
            (some t1))
        ((T_girderref02_Minus q1_0 l1_1 q1_2).bind fun o => match o with
          | (t8, t9, t10) =>
          (T_girderref02_Plus q0_0 l0_1 q0_2 t8 t9 t10).bind fun o => match o with
          | (t11, t12, t13) =>
          (T_girderref02_Num_Sign t11 t12 t13).bind fun t14 =>
          some t14))


def T_girderref02_Fits (q0_0 : Bool) (l0_1 : List Int) (q0_2 : Int) : Option Bool :=
  (T_girderref02_Right q0_0 l0_1 q0_2).bind fun t1 =>
  cond (!t1)
    (some false)
    ((T_girderref02_Dyad q0_0 l0_1 q0_2).bind fun o => match o with
      | (t2, t3, t4) =>
      (T_girderref02_Rounded t2 t3 t4 0).bind fun t5 =>
      (T_girderref02_Of t5).bind fun o => match o with
      | (t6, t7, t8, t9) =>
      cond (t9 == 0)
        ((T_girderref02_Dyad q0_0 l0_1 q0_2).bind fun o => match o with
          | (t10, t11, t12) =>
          (T_girderref02_Dyad t6 t7 t8).bind fun o => match o with
          | (t13, t14, t15) =>
          (T_girderref02_Compare t10 t11 t12 t13 t14 t15).bind fun t16 =>
          some (t16 == 0))
        (some false))


def T_girderlaw02_DyadNorms (q0_0 : Bool) (l0_1 : List Int) (q0_2 : Int) : Option Bool :=
  (T_girderlaw02_awake ).bind fun t1 =>
  cond (!t1)
    (some false)
    ((T_girderkit_LentDyad q0_0 l0_1 q0_2).bind fun o => match o with
      | (t2, t3, t4) =>
      (T_dyad_Right t2 t3 t4).bind fun t5 =>
      (T_dyad_Fits t2 t3 t4).bind fun t6 =>
      (T_dyad_Norm t2 t3 t4).bind fun o => match o with
      | (t7, t8, t9, t10) =>
      (T_girderkit_KeptDyad t2 t3 t4 q0_0 l0_1 q0_2).bind fun t11 =>
      (ovr t3).bind fun t12 =>
      (T_girderref02_Norm q0_0 l0_1 q0_2).bind fun o => match o with
      | (t13, t14, t15, t16) =>
      cond t11
        ((T_girderref02_Right q0_0 l0_1 q0_2).bind fun t17 =>
          cond (t5 == t17)
            ((T_girderref02_Fits q0_0 l0_1 q0_2).bind fun t18 =>
              cond (t6 == t18)
                (cond (t10 == t16)
                    ((T_girderkit_SameDyad t7 t8 t9 t13 t14 t15).bind fun t19 =>
                      some t19)
                    (some false))
                (some false))
            (some false))
        (some false))

end Go.Eng
