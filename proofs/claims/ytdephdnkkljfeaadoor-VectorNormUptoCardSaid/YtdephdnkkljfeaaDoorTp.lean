/-
 Functions of plain Lean beside functions of the program, printed by a program of the session. No condition.
-/
import Derived.Test.YtdephdnkkljfeaaDoorTpA
import Derived.Test.YtdephdnkkljfeaaDoorBgo
set_option linter.all false
set_option maxRecDepth 100000
namespace Go.Eng
open Go
def T_vector_Axpy_1 (p0 : Nat) (p1 : Nat) (p2 : Nat) : Option Nat :=
 (some (fmul p2 p0)).bind fun t1 =>
 (some (fadd t1 p1)).bind fun t2 =>
 some t2
def T_vector_fit (l0 : List Nat) (l1 : List Nat) : Option Int :=
 (some ((l0.length : Nat) : Int)).bind fun t1 =>
 (some ((l1.length : Nat) : Int)).bind fun t2 =>
 cond (t1 != t2)
  (some 4)
  ((some ((l0.length : Nat) : Int)).bind fun t3 =>
   cond (decide (t3 > 4096))
    (some 3)
    (some 0))
def T_vector_each_b2 (t4 : Int) (l0 : List Nat) (l1 : List Nat) (f2 : Nat → Nat → Option Nat) : (Int × List Nat) → Option ((Int × List Nat) ⊕ (List Nat)) := fun st => match st with
| (t6, t7) =>
 cond (decide (t6 < t4))
  ((atI l0 t6).bind fun t8 =>
   (atI l1 t6).bind fun t9 =>
   (f2 t8 t9).bind fun t10 =>
   (atI t7 t6).bind fun t11 =>
   (some (t7.set (t6).toNat t10)).bind fun t12 =>
   some (.inl ((IntKind.i64.wrap (t6 + 1)), t12)))
  (some (.inr t7))
def T_vector_each (l0 : List Nat) (l1 : List Nat) (f2 : Nat → Nat → Option Nat) : Option (List Nat × Int) :=
 (T_vector_fit l0 l1).bind fun t1 =>
 cond (t1 != 0)
  (some ((List.map nf []), t1))
  ((some ((l0.length : Nat) : Int)).bind fun t2 =>
   (mkL (nf 0) t2 t2).bind fun t3 =>
   (some ((l0.length : Nat) : Int)).bind fun t4 =>
   (iter (T_vector_each_b2 t4 l0 l1 f2) FU (0, t3)).bind fun t5 =>
   some (t5, 0))
def T_vector_Axpy (p0 : Nat) (l1 : List Nat) (l2 : List Nat) : Option (List Nat × Int) :=
 (T_vector_each l1 l2 (fun v0 v1 => T_vector_Axpy_1 v0 v1 p0)).bind fun o => match o with
 | (t1, t2) =>
 some (t1, t2)
def T_vector_Dot_b2 (t2 : Int) (l0 : List Nat) (l1 : List Nat) : (Nat × Int) → Option ((Nat × Int) ⊕ (Nat)) := fun st => match st with
| (t4, t5) =>
 cond (decide (t5 < t2))
  ((atI l0 t5).bind fun t6 =>
   (atI l1 t5).bind fun t7 =>
   (some (fmul t6 t7)).bind fun t8 =>
   (some (fadd t4 t8)).bind fun t9 =>
   some (.inl (t9, (IntKind.i64.wrap (t5 + 1)))))
  (some (.inr t4))
def T_vector_Dot (l0 : List Nat) (l1 : List Nat) : Option (Nat × Int) :=
 (T_vector_fit l0 l1).bind fun t1 =>
 cond (t1 != 0)
  (some ((nf 0), t1))
  ((some ((l0.length : Nat) : Int)).bind fun t2 =>
   (iter (T_vector_Dot_b2 t2 l0 l1) FU ((nf 0), 0)).bind fun t3 =>
   some (t3, 0))
def T_math_Float64bits (p0 : Nat) : Option Int :=
 cond (isNaN p0) none (some (p0 : Int))
def T_math_Float64frombits (q0 : Int) : Option Nat :=
 some (nf q0.toNat)
def T_math_Abs (p0 : Nat) : Option Nat :=
 some (nf (magF p0))
def T_vector_Most_b2 (t1 : Int) (l0 : List Nat) : (Int × Nat × Int) → Option ((Int × Nat × Int) ⊕ ((Int × Nat))) := fun st => match st with
| (t4, t5, t6) =>
 cond (decide (t6 < t1))
  (((atI l0 t6).bind fun t9 =>
    (T_math_Abs t9).bind fun t10 =>
    (some (fgt t10 t5)).bind fun t11 =>
    cond (!t11)
     (cond (decide (t4 < 0))
       ((some (feq t10 (nf 0))).bind fun t12 =>
        (cond t12
          (some (t6, t10))
          (some (t4, t5))).bind fun o => match o with
        | (t13, t14) => some (t13, t14))
       ((some (t4, t5)).bind fun o => match o with
        | (t15, t16) => some (t15, t16)))
     ((some (t6, t10)).bind fun o => match o with
      | (t17, t18) => some (t17, t18))).bind fun o => match o with
   | (t7, t8) => some (.inl (t7, t8, (IntKind.i64.wrap (t6 + 1)))))
  (some (.inr (t4, t5)))
def T_vector_Most (l0 : List Nat) : Option (Int × Nat) :=
 (some ((l0.length : Nat) : Int)).bind fun t1 =>
 (iter (T_vector_Most_b2 t1 l0) FU ((-1), (nf 0), 0)).bind fun o => match o with
 | (t2, t3) => some (t2, t3)
def T_k_SameFloat (p0 : Nat) (p1 : Nat) : Option Bool :=
 some (p0 == p1)
def T_k_SameReals_b2 (l0 : List Nat) (l1 : List Nat) : Int → Option (Int ⊕ (Unit ⊕ Bool)) := fun st => match st with
| t3 =>
 (some ((l0.length : Nat) : Int)).bind fun t4 =>
 cond (decide (t3 < t4))
  ((atI l0 t3).bind fun t5 =>
   (atI l1 t3).bind fun t6 =>
   (T_k_SameFloat t5 t6).bind fun t7 =>
   cond (!t7)
    (some (.inr (.inr false)))
    (some (.inl (IntKind.i64.wrap (t3 + 1)))))
  (some (.inr (.inl ())))
def T_k_SameReals (l0 : List Nat) (l1 : List Nat) : Option Bool :=
 (some ((l0.length : Nat) : Int)).bind fun t1 =>
 (some ((l1.length : Nat) : Int)).bind fun t2 =>
 cond (t1 != t2)
  (some false)
  (((iter (T_k_SameReals_b2 l0 l1) FU 0 : Option (Unit ⊕ Bool))).bind fun o => match o with
   | .inl () => some true
   | .inr v => some v)
def T_round_way (q0 : Int) : Option Int :=
 cond (!(decide (q0 < 0)))
  (cond (decide (q0 > 3))
    (some 0)
    (some q0))
  (some 0)
def T_math_IsNaN (p0 : Nat) : Option Bool :=
 (some (!feq p0 p0)).bind fun t1 =>
 some t1
def T_math_IsInf (p0 : Nat) (q1 : Int) : Option Bool :=
 (cond (q1 == 0)
   ((T_math_Abs p0).bind fun t2 =>
    some t2)
   ((cond (decide (q1 < 0))
      ((some (nf (fneg p0))).bind fun t4 =>
       some t4)
      (some p0)).bind fun t3 =>
    some t3)).bind fun t1 =>
 (some (fgt t1 (nf 9218868437227405311))).bind fun t5 =>
 some t5
def T_round_finite_b2 (t1 : Int) (l0 : List Nat) : Int → Option (Int ⊕ (Unit ⊕ Bool)) := fun st => match st with
| t2 =>
 cond (decide (t2 < t1))
  ((atI l0 t2).bind fun t3 =>
   (T_math_IsNaN t3).bind fun t4 =>
   cond (!t4)
    ((T_math_IsInf t3 0).bind fun t5 =>
     cond t5
      (some (.inr (.inr false)))
      (some (.inl (IntKind.i64.wrap (t2 + 1)))))
    (some (.inr (.inr false))))
  (some (.inr (.inl ())))
def T_round_finite (l0 : List Nat) : Option Bool :=
 (some ((l0.length : Nat) : Int)).bind fun t1 =>
 ((iter (T_round_finite_b2 t1 l0) FU 0 : Option (Unit ⊕ Bool))).bind fun o => match o with
 | .inl () => some true
 | .inr v => some v
def T_math_Signbit (p0 : Nat) : Option Bool :=
 cond (isNaN p0) none (some (negF p0))
def T_math_Copysign (p0 : Nat) (p1 : Nat) : Option Nat :=
 cond (isNaN p1) none (some (nf ((if negF p1 then 9223372036854775808 else 0) + magF p0)))
def T_round_none (q0 : Int) : Option Nat :=
 cond (q0 == 1)
  ((T_math_Copysign (nf 0) (nf 13830554455654793216)).bind fun t1 =>
   some t1)
  (some (nf 0))
def T_round_step (p0 : Nat) (q1 : Bool) : Option Nat :=
 (T_math_Float64bits p0).bind fun t1 =>
 ((some (feq p0 (nf 0))).bind fun t3 =>
  (cond t3
    ((cond (!q1)
       (some (IntKind.u64.wrap (BitVec.ofInt IntKind.u64.bits 1 ||| BitVec.ofInt IntKind.u64.bits 9223372036854775808).toNat))
       (some 1)).bind fun t5 =>
     some t5)
    ((some (fgt p0 (nf 0))).bind fun t6 =>
     (cond (q1 == t6)
       (some (IntKind.u64.wrap (t1 + 1)))
       (some (IntKind.u64.wrap (t1 - 1)))).bind fun t7 =>
     some t7)).bind fun t4 =>
  some t4).bind fun t2 =>
 (T_math_Float64frombits t2).bind fun t8 =>
 some t8
def T_round_settle (p0 : Nat) (q1 : Int) (q2 : Int) : Option Nat :=
 (cond (q2 == 3)
   ((T_math_Signbit p0).bind fun t2 =>
    (cond t2
      (some 2)
      (some 1)).bind fun t3 =>
    some t3)
   (some q2)).bind fun t1 =>
 (T_math_IsInf p0 0).bind fun t4 =>
 cond t4
  ((some (fgt p0 (nf 0))).bind fun t5 =>
   cond t5
    (cond (!(t1 == 1))
      ((some (flt p0 (nf 0))).bind fun t6 =>
       cond t6
        (cond (t1 == 2)
          ((T_math_Copysign (nf 9218868437227405311) p0).bind fun t7 =>
           some t7)
          (some p0))
        (some p0))
      ((T_math_Copysign (nf 9218868437227405311) p0).bind fun t8 =>
       some t8))
    ((some (flt p0 (nf 0))).bind fun t9 =>
     cond t9
      (cond (t1 == 2)
        ((T_math_Copysign (nf 9218868437227405311) p0).bind fun t10 =>
         some t10)
        (some p0))
      (some p0)))
  (cond (decide (q1 < 0))
    (cond (!(t1 == 1))
      (cond (decide (q1 > 0))
        (cond (t1 == 2)
          ((T_round_step p0 (decide (q1 > 0))).bind fun t11 =>
           some t11)
          (some p0))
        (some p0))
      ((T_round_step p0 (decide (q1 > 0))).bind fun t12 =>
       some t12))
    (cond (decide (q1 > 0))
      (cond (t1 == 2)
        ((T_round_step p0 (decide (q1 > 0))).bind fun t13 =>
         some t13)
        (some p0))
      (some p0)))
def T_round_sign (p0 : Nat) : Option Int :=
 (some (fgt p0 (nf 0))).bind fun t1 =>
 cond t1
  (some 1)
  ((some (flt p0 (nf 0))).bind fun t2 =>
   cond t2
    (some (-1))
    (some 0))
def T_round_Add (p0 : Nat) (p1 : Nat) (q2 : Int) : Option Nat :=
 (T_round_way q2).bind fun t1 =>
 (some (fadd p0 p1)).bind fun t2 =>
 (some [p0, p1]).bind fun t3 =>
 (T_round_finite t3).bind fun t4 =>
 cond (!t4)
  (some t2)
  (((some (feq t2 (nf 0))).bind fun t6 =>
    cond t6
     ((some (!feq p0 (nf 0))).bind fun t7 =>
      cond (!t7)
       ((some (feq t2 (nf 0))).bind fun t8 =>
        cond t8
         ((T_math_Signbit p0).bind fun t9 =>
          (T_math_Signbit p1).bind fun t10 =>
          some (!(t9 == t10)))
         (some false))
       (some true))
     ((some (feq t2 (nf 0))).bind fun t11 =>
      cond t11
       ((T_math_Signbit p0).bind fun t12 =>
        (T_math_Signbit p1).bind fun t13 =>
        some (!(t12 == t13)))
       (some false))).bind fun t5 =>
   cond t5
    ((T_round_none t1).bind fun t14 =>
     some t14)
    ((some (feq t2 (nf 0))).bind fun t15 =>
     cond t15
      (some t2)
      ((T_math_IsInf t2 0).bind fun t16 =>
       cond t16
        ((T_round_settle t2 0 t1).bind fun t17 =>
         some t17)
        ((T_math_Abs p0).bind fun t18 =>
         (T_math_Abs p1).bind fun t19 =>
         (some (flt t18 t19)).bind fun t20 =>
         (cond t20
           (some (p1, p0))
           (some (p0, p1))).bind fun o => match o with
         | (t21, t22) =>
         (some (fsub t2 t21)).bind fun t23 =>
         (some (fsub t22 t23)).bind fun t24 =>
         (T_round_sign t24).bind fun t25 =>
         (T_round_settle t2 t25 t1).bind fun t26 =>
         some t26))))
def T_vector_Norm_b2 (t1 : Int) (l0 : List Nat) : (Nat × Int) → Option ((Nat × Int) ⊕ (Nat)) := fun st => match st with
| (t3, t4) =>
 cond (decide (t4 < t1))
  ((atI l0 t4).bind fun t5 =>
   (T_math_Abs t5).bind fun t6 =>
   (T_round_Add t3 t6 2).bind fun t7 =>
   some (.inl (t7, (IntKind.i64.wrap (t4 + 1)))))
  (some (.inr t3))
def T_vector_Norm (l0 : List Nat) : Option Nat :=
 (some ((l0.length : Nat) : Int)).bind fun t1 =>
 (iter (T_vector_Norm_b2 t1 l0) FU ((nf 0), 0)).bind fun t2 =>
 some t2
def T_vector_Same (l0 : List Nat) (l1 : List Nat) : Option Bool :=
 cond (decide (l0.length ≤ 4294967296)) (some (l0 == l1)) none
def T_w09_awake  : Option Bool :=
 (some [(nf 4607182418800017408), (nf 4611686018427387904)]).bind fun t1 =>
 (some [(nf 4613937818241073152), (nf 4616189618054758400)]).bind fun t2 =>
 (T_vector_Axpy (nf 4611686018427387904) t1 t2).bind fun o => match o with
 | (t3, t4) =>
 (T_vector_Dot t1 t2).bind fun o => match o with
 | (t5, t6) =>
 (some [(nf 4613937818241073152), (nf 13839561654909534208), (nf 4616189618054758400)]).bind fun t7 =>
 (T_vector_Most t7).bind fun o => match o with
 | (t8, t9) =>
 cond (t4 == 0)
  (cond (t6 == 0)
    ((some [(nf 4617315517961601024), (nf 4620693217682128896)]).bind fun t10 =>
     (T_k_SameReals t3 t10).bind fun t11 =>
     cond t11
      ((some (feq t5 (nf 4622382067542392832))).bind fun t12 =>
       cond t12
        (cond (t8 == 1)
          ((some (feq t9 (nf 4616189618054758400))).bind fun t13 =>
           cond t13
            ((some [(nf 4613937818241073152), (nf 13839561654909534208)]).bind fun t14 =>
             (T_vector_Norm t14).bind fun t15 =>
             (some (feq t15 (nf 4619567317775286272))).bind fun t16 =>
             cond t16
              ((some [(nf 0)]).bind fun t17 =>
               (T_math_Copysign (nf 0) (nf 13830554455654793216)).bind fun t18 =>
               (some [t18]).bind fun t19 =>
               (T_vector_Same t17 t19).bind fun t20 =>
               some (!t20))
              (some false))
            (some false))
          (some false))
        (some false))
      (some false))
    (some false))
  (some false)
def T_bn_NewInt (q0 : Int) : Option Int :=
 (bigSetInt64 q0).bind fun t1 =>
 some t1
def T_dyad_limbs_b2 (t2 : Int) : (Int × Int × List Int) → Option ((Int × Int × List Int) ⊕ (List Int)) := fun st => match st with
| (t4, t5, t6) =>
 (bigSign t5).bind fun t7 =>
 cond (decide (t7 > 0))
  ((bigAnd t5 t2).bind fun t8 =>
   (bigUint64 t8).bind fun t9 =>
   (some [t9]).bind fun t10 =>
   (appL t6 t10).bind fun t11 =>
   (bigRsh t5 64).bind fun t12 =>
   some (.inl (t8, t12, t11)))
  (some (.inr t6))
def T_dyad_limbs (y0 : Int) : Option (List Int) :=
 (bigAbs y0).bind fun t1 =>
 (bigSetUint64 18446744073709551615).bind fun t2 =>
 (iter (T_dyad_limbs_b2 t2) FU (0, t1, ([] : List Int))).bind fun t3 =>
 some t3
def T_dyad_made (y0 : Int) (q1 : Int) : Option (Bool × List Int × Int × Int) :=
 (bigSign y0).bind fun t1 =>
 cond (t1 == 0)
  (some (false, ([] : List Int), 0, 0))
  ((bigTrailingZeroBits y0).bind fun t2 =>
   cond (decide (q1 > 65536))
    (some (false, ([] : List Int), 0, 3))
    (cond (decide (q1 < (IntKind.i64.wrap ((-65536) - (IntKind.i64.wrap t2)))))
      (some (false, ([] : List Int), 0, 3))
      (cond (decide ((IntKind.i64.wrap (q1 + (IntKind.i64.wrap t2))) > 65536))
        (some (false, ([] : List Int), 0, 3))
        ((bigBitLen y0).bind fun t3 =>
         cond (decide ((IntKind.i64.wrap (t3 - (IntKind.i64.wrap t2))) > 16384))
          (some (false, ([] : List Int), 0, 3))
          ((bigSign y0).bind fun t4 =>
           (bigAbs y0).bind fun t5 =>
           (bigRsh t5 (IntKind.u64.wrap (IntKind.i64.wrap t2))).bind fun t6 =>
           (T_dyad_limbs t6).bind fun t7 =>
           some ((decide (t4 < 0)), t7, (IntKind.i64.wrap (q1 + (IntKind.i64.wrap t2))), 0))))))
def T_dyad_Int (q0 : Int) : Option (Bool × List Int × Int) :=
 (T_bn_NewInt q0).bind fun t1 =>
 (T_dyad_made t1 0).bind fun o => match o with
 | (t2, t3, t4, t5) =>
 some (t2, t3, t4)
def T_k_Finite (p0 : Nat) : Option Bool :=
 (some (fsub p0 p0)).bind fun t1 =>
 (some (feq t1 (nf 0))).bind fun t2 =>
 some t2
def T_bits_Kind (p0 : Nat) : Option Int :=
 (T_math_Abs p0).bind fun t1 =>
 (some (!feq p0 p0)).bind fun t2 =>
 cond t2
  (some 4)
  ((T_math_IsInf p0 0).bind fun t3 =>
   cond t3
    (some 3)
    ((some (fgt t1 (nf 4503599627370496) || feq t1 (nf 4503599627370496))).bind fun t4 =>
     cond t4
      (some 2)
      ((some (fgt t1 (nf 0))).bind fun t5 =>
       cond t5
        (some 1)
        (some 0))))
def T_math_normalize (p0 : Nat) : Option (Nat × Int) :=
 (T_math_Abs p0).bind fun t1 =>
 (some (flt t1 (nf 4503599627370496))).bind fun t2 =>
 cond t2
  ((some (fmul p0 (nf 4841369599423283200))).bind fun t3 =>
   some (t3, (-52)))
  (some (p0, 0))
def T_math_frexp (p0 : Nat) : Option (Nat × Int) :=
 (some (feq p0 (nf 0))).bind fun t1 =>
 cond t1
  (some (p0, 0))
  ((T_math_IsInf p0 0).bind fun t2 =>
   cond (!t2)
    ((T_math_IsNaN p0).bind fun t3 =>
     cond t3
      (some (p0, 0))
      ((T_math_normalize p0).bind fun o => match o with
       | (t4, t5) =>
       (T_math_Float64bits t4).bind fun t6 =>
       (T_math_Float64frombits (IntKind.u64.wrap (BitVec.ofInt IntKind.u64.bits (IntKind.u64.wrap (BitVec.ofInt IntKind.u64.bits t6 &&& ~~~BitVec.ofInt IntKind.u64.bits 9218868437227405312).toNat) ||| BitVec.ofInt IntKind.u64.bits 4602678819172646912).toNat)).bind fun t7 =>
       some (t7, (IntKind.i64.wrap (t5 + (IntKind.i64.wrap ((IntKind.i64.wrap ((IntKind.i64.wrap (IntKind.u64.wrap (BitVec.ofInt IntKind.u64.bits (t6.fdiv (2 ^ (min (52 : Int).toNat IntKind.u64.bits))) &&& BitVec.ofInt IntKind.u64.bits 2047).toNat)) - 1023)) + 1)))))))
    (some (p0, 0)))
def T_math_Frexp (p0 : Nat) : Option (Nat × Int) :=
 (T_math_frexp p0).bind fun o => match o with
 | (t1, t2) =>
 some (t1, t2)
def T_math_Inf (q0 : Int) : Option Nat :=
 (cond (decide (q0 ≥ 0))
   (some 9218868437227405312)
   (some 18442240474082181120)).bind fun t1 =>
 (T_math_Float64frombits t1).bind fun t2 =>
 some t2
def T_math_ldexp (p0 : Nat) (q1 : Int) : Option Nat :=
 (some (feq p0 (nf 0))).bind fun t1 =>
 cond t1
  (some p0)
  (((T_math_IsInf p0 0).bind fun t3 =>
    cond (!t3)
     ((T_math_IsNaN p0).bind fun t4 =>
      some t4)
     (some true)).bind fun t2 =>
   cond t2
    (some p0)
    ((T_math_normalize p0).bind fun o => match o with
     | (t5, t6) =>
     (T_math_Float64bits t5).bind fun t7 =>
     cond (decide ((IntKind.i64.wrap ((IntKind.i64.wrap (q1 + t6)) + (IntKind.i64.wrap ((IntKind.i64.wrap (BitVec.ofInt IntKind.i64.bits (IntKind.i64.wrap (t7.fdiv (2 ^ (min (52 : Int).toNat IntKind.u64.bits)))) &&& BitVec.ofInt IntKind.i64.bits 2047).toNat) - 1023)))) < (-1075)))
      ((T_math_Copysign (nf 0) t5).bind fun t8 =>
       some t8)
      (cond (decide ((IntKind.i64.wrap ((IntKind.i64.wrap (q1 + t6)) + (IntKind.i64.wrap ((IntKind.i64.wrap (BitVec.ofInt IntKind.i64.bits (IntKind.i64.wrap (t7.fdiv (2 ^ (min (52 : Int).toNat IntKind.u64.bits)))) &&& BitVec.ofInt IntKind.i64.bits 2047).toNat) - 1023)))) > 1023))
        ((some (flt t5 (nf 0))).bind fun t9 =>
         cond t9
          ((T_math_Inf (-1)).bind fun t10 =>
           some t10)
          ((T_math_Inf 1).bind fun t11 =>
           some t11))
        ((cond (decide ((IntKind.i64.wrap ((IntKind.i64.wrap (q1 + t6)) + (IntKind.i64.wrap ((IntKind.i64.wrap (BitVec.ofInt IntKind.i64.bits (IntKind.i64.wrap (t7.fdiv (2 ^ (min (52 : Int).toNat IntKind.u64.bits)))) &&& BitVec.ofInt IntKind.i64.bits 2047).toNat) - 1023)))) < (-1022)))
           (some ((IntKind.i64.wrap ((IntKind.i64.wrap ((IntKind.i64.wrap (q1 + t6)) + (IntKind.i64.wrap ((IntKind.i64.wrap (BitVec.ofInt IntKind.i64.bits (IntKind.i64.wrap (t7.fdiv (2 ^ (min (52 : Int).toNat IntKind.u64.bits)))) &&& BitVec.ofInt IntKind.i64.bits 2047).toNat) - 1023)))) + 53)), (nf 4368491638549381120)))
           (some ((IntKind.i64.wrap ((IntKind.i64.wrap (q1 + t6)) + (IntKind.i64.wrap ((IntKind.i64.wrap (BitVec.ofInt IntKind.i64.bits (IntKind.i64.wrap (t7.fdiv (2 ^ (min (52 : Int).toNat IntKind.u64.bits)))) &&& BitVec.ofInt IntKind.i64.bits 2047).toNat) - 1023)))), (nf 4607182418800017408)))).bind fun o => match o with
         | (t12, t13) =>
         (T_math_Float64frombits (IntKind.u64.wrap (BitVec.ofInt IntKind.u64.bits (IntKind.u64.wrap (BitVec.ofInt IntKind.u64.bits t7 &&& ~~~BitVec.ofInt IntKind.u64.bits 9218868437227405312).toNat) ||| BitVec.ofInt IntKind.u64.bits (IntKind.u64.wrap ((IntKind.u64.wrap (IntKind.i64.wrap (t12 + 1023))) * 2 ^ (min (52 : Int).toNat IntKind.u64.bits)))).toNat)).bind fun t14 =>
         (some (fmul t13 t14)).bind fun t15 =>
         some t15))))
def T_math_Ldexp (p0 : Nat) (q1 : Int) : Option Nat :=
 (T_math_ldexp p0 q1).bind fun t1 =>
 some t1
def T_math_bits_TrailingZeros64 (q0 : Int) : Option Int :=
 some (tz64 q0)
def T_bits_Split (p0 : Nat) : Option (Bool × Int × Int × Bool) :=
 (T_bits_Kind p0).bind fun t1 =>
 cond (decide (t1 > 2))
  (some (false, 0, 0, false))
  ((T_math_Signbit p0).bind fun t2 =>
   (some (feq p0 (nf 0))).bind fun t3 =>
   cond t3
    (some (t2, 0, 0, true))
    ((T_math_Abs p0).bind fun t4 =>
     (T_math_Frexp t4).bind fun o => match o with
     | (t5, t6) =>
     (T_math_Ldexp t5 53).bind fun t7 =>
     (f2i t7 .u64).bind fun t8 =>
     (T_math_bits_TrailingZeros64 t8).bind fun t9 =>
     (nn t9).bind fun t10 =>
     some (t2, (t8.fdiv (2 ^ (min t9.toNat IntKind.u64.bits))), (IntKind.i64.wrap ((IntKind.i64.wrap (t6 - 53)) + t9)), true)))
def T_dyad_Of (p0 : Nat) : Option (Bool × List Int × Int × Int) :=
 (T_bits_Split p0).bind fun o => match o with
 | (t1, t2, t3, t4) =>
 cond (!t4)
  (some (false, ([] : List Int), 0, 5))
  (cond (t2 == 0)
    (some (false, ([] : List Int), 0, 0))
    ((some [t2]).bind fun t5 =>
     some (t1, t5, t3, 0)))
def T_dyad_Right (q0_0 : Bool) (l0_1 : List Int) (q0_2 : Int) : Option Bool :=
 (some ((l0_1.length : Nat) : Int)).bind fun t1 =>
 cond (t1 == 0)
  (cond (!q0_0)
    (some (q0_2 == 0))
    (some false))
  (cond (decide (t1 ≤ 256))
    ((atI l0_1 (IntKind.i64.wrap (t1 - 1))).bind fun t2 =>
     cond (t2 != 0)
      ((atI l0_1 0).bind fun t3 =>
       cond ((IntKind.u64.wrap (BitVec.ofInt IntKind.u64.bits t3 &&& BitVec.ofInt IntKind.u64.bits 1).toNat) == 1)
        (cond (decide (((-65536) : Int) ≤ q0_2))
          (some (decide (q0_2 ≤ 65536)))
          (some false))
        (some false))
      (some false))
    (some false))
def T_dyad_both (q0_0 : Bool) (l0_1 : List Int) (q0_2 : Int) (q1_0 : Bool) (l1_1 : List Int) (q1_2 : Int) : Option Bool :=
 (T_dyad_Right q0_0 l0_1 q0_2).bind fun t1 =>
 cond t1
  ((T_dyad_Right q1_0 l1_1 q1_2).bind fun t2 =>
   some t2)
  (some false)
def T_dyad_whole_b2 (t1 : Int) (l0_1 : List Int) : (Int × Int) → Option ((Int × Int) ⊕ (Int)) := fun st => match st with
| (t3, t4) =>
 cond (decide (t3 < t1))
  ((bigLsh t4 64).bind fun t5 =>
   (some ((l0_1.length : Nat) : Int)).bind fun t6 =>
   (atI l0_1 (IntKind.i64.wrap ((IntKind.i64.wrap (t6 - 1)) - t3))).bind fun t7 =>
   (bigSetUint64 t7).bind fun t8 =>
   (bigOr t5 t8).bind fun t9 =>
   some (.inl ((IntKind.i64.wrap (t3 + 1)), t9)))
  (some (.inr t4))
def T_dyad_whole (q0_0 : Bool) (l0_1 : List Int) (q0_2 : Int) : Option Int :=
 (some ((l0_1.length : Nat) : Int)).bind fun t1 =>
 (iter (T_dyad_whole_b2 t1 l0_1) FU (0, 0)).bind fun t2 =>
 (cond q0_0
   ((bigNeg t2).bind fun t11 =>
    some t11)
   (some t2)).bind fun t10 =>
 some t10
def T_dyad_Add (q0_0 : Bool) (l0_1 : List Int) (q0_2 : Int) (q1_0 : Bool) (l1_1 : List Int) (q1_2 : Int) : Option (Bool × List Int × Int × Int) :=
 (T_dyad_both q0_0 l0_1 q0_2 q1_0 l1_1 q1_2).bind fun t1 =>
 cond (!t1)
  (some (false, ([] : List Int), 0, 2))
  ((T_dyad_whole q0_0 l0_1 q0_2).bind fun t2 =>
   (T_dyad_whole q1_0 l1_1 q1_2).bind fun t3 =>
   ((bigSign t2).bind fun t5 =>
    cond (!(t5 == 0))
     ((bigSign t3).bind fun t6 =>
      some (t6 == 0))
     (some true)).bind fun t4 =>
   cond t4
    ((bigAdd t2 t3).bind fun t7 =>
     (T_dyad_made t7 (IntKind.i64.wrap (q0_2 + q1_2))).bind fun o => match o with
     | (t8, t9, t10, t11) =>
     some (t8, t9, t10, t11))
    ((cond (decide (q0_2 < q1_2))
       (some (q0_0, q0_2, q1_0, q1_2, t3, t2, l0_1, l1_1))
       (some (q1_0, q1_2, q0_0, q0_2, t2, t3, l1_1, l0_1))).bind fun o => match o with
     | (t12, t13, t14, t15, t16, t17, t18, t19) =>
     cond (decide ((IntKind.i64.wrap (t15 - t13)) > 16385))
      (some (false, ([] : List Int), 0, 3))
      ((bigLsh t16 (IntKind.u64.wrap (IntKind.i64.wrap (t15 - t13)))).bind fun t20 =>
       (bigAdd t20 t17).bind fun t21 =>
       (T_dyad_made t21 t13).bind fun o => match o with
       | (t22, t23, t24, t25) =>
       some (t22, t23, t24, t25))))
def T_dyad_Scale (q0_0 : Bool) (l0_1 : List Int) (q0_2 : Int) (q1 : Int) : Option (Bool × List Int × Int × Int) :=
 (T_dyad_Right q0_0 l0_1 q0_2).bind fun t1 =>
 cond (!t1)
  (some (false, ([] : List Int), 0, 2))
  ((some ((l0_1.length : Nat) : Int)).bind fun t2 =>
   cond (t2 == 0)
    (some (false, ([] : List Int), 0, 0))
    ((cond (!(decide (q1 > 131072)))
       (some (decide (q1 < (-131072))))
       (some true)).bind fun t3 =>
     cond t3
      (some (false, ([] : List Int), 0, 3))
      ((T_dyad_whole q0_0 l0_1 q0_2).bind fun t4 =>
       (T_dyad_made t4 (IntKind.i64.wrap (q0_2 + q1))).bind fun o => match o with
       | (t5, t6, t7, t8) =>
       some (t5, t6, t7, t8))))
def T_dyad_Sign (q0_0 : Bool) (l0_1 : List Int) (q0_2 : Int) : Option (Int × Int) :=
 (T_dyad_Right q0_0 l0_1 q0_2).bind fun t1 =>
 cond (!t1)
  (some (0, 2))
  ((some ((l0_1.length : Nat) : Int)).bind fun t2 =>
   cond (t2 == 0)
    (some (0, 0))
    (cond q0_0
      (some ((-1), 0))
      (some (1, 0))))
def T_math_bits_Len64 (q0 : Int) : Option Int :=
 cond (decide (0 ≤ q0 ∧ q0 ≤ 18446744073709551615)) (some ((blN q0.toNat : Nat) : Int)) none
def T_dyad_top (q0_0 : Bool) (l0_1 : List Int) (q0_2 : Int) : Option Int :=
 (some ((l0_1.length : Nat) : Int)).bind fun t1 =>
 (atI l0_1 (IntKind.i64.wrap (t1 - 1))).bind fun t2 =>
 (T_math_bits_Len64 t2).bind fun t3 =>
 some (IntKind.i64.wrap ((IntKind.i64.wrap (q0_2 + (IntKind.i64.wrap (64 * (IntKind.i64.wrap (t1 - 1)))))) + t3))
def T_dyad_Cmp (q0_0 : Bool) (l0_1 : List Int) (q0_2 : Int) (q1_0 : Bool) (l1_1 : List Int) (q1_2 : Int) : Option (Int × Int) :=
 (T_dyad_Sign q0_0 l0_1 q0_2).bind fun o => match o with
 | (t1, t2) =>
 (T_dyad_Sign q1_0 l1_1 q1_2).bind fun o => match o with
 | (t3, t4) =>
 (cond (!(t2 != 0))
   (some (t4 != 0))
   (some true)).bind fun t5 =>
 cond t5
  (some (0, 2))
  (cond (t1 != t3)
    (cond (decide (t1 < t3))
      (some ((-1), 0))
      (some (1, 0)))
    (cond (t1 == 0)
      (some (0, 0))
      ((T_dyad_top q0_0 l0_1 q0_2).bind fun t6 =>
       (T_dyad_top q1_0 l1_1 q1_2).bind fun t7 =>
       cond (t6 != t7)
        ((T_dyad_top q0_0 l0_1 q0_2).bind fun t8 =>
         (T_dyad_top q1_0 l1_1 q1_2).bind fun t9 =>
         cond (decide (t8 < t9))
          (some ((IntKind.i64.wrap (0 - t1)), 0))
          (some (t1, 0)))
        ((T_dyad_whole q0_0 l0_1 q0_2).bind fun t10 =>
         (T_dyad_whole q1_0 l1_1 q1_2).bind fun t11 =>
         (cond (decide (q0_2 > q1_2))
           ((bigLsh t10 (IntKind.u64.wrap (IntKind.i64.wrap (q0_2 - q1_2)))).bind fun t14 =>
            some (t14, t11))
           ((bigLsh t11 (IntKind.u64.wrap (IntKind.i64.wrap (q1_2 - q0_2)))).bind fun t15 =>
            some (t10, t15))).bind fun o => match o with
         | (t12, t13) =>
         (bigCmp t12 t13).bind fun t16 =>
         some (t16, 0)))))
def T_w09_VectorNorm_b2 (t3 : List Nat) (t5 : Nat) (t6 : Int) (t7 : Nat) : (Bool × Int) → Option ((Bool × Int) ⊕ (Bool ⊕ Bool)) := fun st => match st with
| (t12, t13) =>
 (some ((t3.length : Nat) : Int)).bind fun t14 =>
 cond (decide (t13 < t14))
  ((atI t3 t13).bind fun t15 =>
   (atI t3 t13).bind fun t16 =>
   (some (!feq t15 t16)).bind fun t17 =>
   cond t17
    ((some (!feq t5 t5)).bind fun t18 =>
     cond t18
      (some (.inr (.inr (t6 != t13))))
      (some (.inr (.inr false))))
    ((atI t3 t13).bind fun t19 =>
     (T_math_Abs t19).bind fun t20 =>
     (some (fgt t20 t7)).bind fun t21 =>
     cond (!t21)
      (cond (!(decide (t6 < 0)))
        (cond (decide (t13 < t6))
          ((atI t3 t13).bind fun t22 =>
           (T_math_Abs t22).bind fun t23 =>
           (some (feq t23 t7)).bind fun t24 =>
           cond t24
            (some (.inr (.inr false)))
            (cond t12
              ((atI t3 t13).bind fun t25 =>
               (T_k_Finite t25).bind fun t26 =>
               some (.inl (t26, (IntKind.i64.wrap (t13 + 1)))))
              (some (.inl (false, (IntKind.i64.wrap (t13 + 1)))))))
          (cond t12
            ((atI t3 t13).bind fun t27 =>
             (T_k_Finite t27).bind fun t28 =>
             some (.inl (t28, (IntKind.i64.wrap (t13 + 1)))))
            (some (.inl (false, (IntKind.i64.wrap (t13 + 1)))))))
        (some (.inr (.inr false))))
      (some (.inr (.inr false)))))
  (some (.inr (.inl t12)))
def T_w09_VectorNorm_b4 (t3 : List Nat) : (Int × Int × Bool × Int × List Int) → Option ((Int × Int × Bool × Int × List Int) ⊕ ((Int × Bool × Int × List Int))) := fun st => match st with
| (t46, t47, t48, t49, t50) =>
 ((some ((t3.length : Nat) : Int)).bind fun t52 =>
  cond (decide (t47 < t52))
   (some (t46 == 0))
   (some false)).bind fun t51 =>
 cond t51
  (((atI t3 t47).bind fun t57 =>
    (T_math_Abs t57).bind fun t58 =>
    (T_dyad_Of t58).bind fun o => match o with
    | (t59, t60, t61, t62) =>
    (cond (t62 == 0)
      ((T_dyad_Add t48 t50 t49 t59 t60 t61).bind fun o => match o with
       | (t67, t68, t69, t70) =>
       some (t70, t67, t69, t68))
      (some (t62, t48, t49, t50))).bind fun o => match o with
    | (t63, t64, t65, t66) => some (t63, t64, t65, t66)).bind fun o => match o with
   | (t53, t54, t55, t56) => some (.inl (t53, (IntKind.i64.wrap (t47 + 1)), t54, t55, t56)))
  (some (.inr (t46, t48, t49, t50)))
def T_w09_VectorNorm (l0 : List Nat) : Option Bool :=
 (T_w09_awake ).bind fun t1 =>
 cond (!t1)
  (some false)
  ((some ((l0.length : Nat) : Int)).bind fun t2 =>
   (cond (decide (t2 > 300))
     ((subL l0 0 300).bind fun t4 =>
      some t4)
     (some l0)).bind fun t3 =>
   (T_vector_Norm t3).bind fun t5 =>
   (T_vector_Most t3).bind fun o => match o with
   | (t6, t7) =>
   (T_dyad_Int 0).bind fun o => match o with
   | (t8, t9, t10) =>
   ((iter (T_w09_VectorNorm_b2 t3 t5 t6 t7) FU (true, 0) : Option (Bool ⊕ Bool))).bind fun o => match o with
   | .inl t11 =>
    (((some ((t3.length : Nat) : Int)).bind fun t30 =>
      cond (!(decide (t6 ≥ t30)))
       ((some ((t3.length : Nat) : Int)).bind fun t31 =>
        cond (!(!((decide (t6 < 0)) == (t31 == 0))))
         (cond (decide (t6 ≥ 0))
           ((atI t3 t6).bind fun t32 =>
            (T_math_Abs t32).bind fun t33 =>
            (some (!feq t33 t7)).bind fun t34 =>
            cond (!t34)
             ((some (flt t7 t5 || feq t7 t5)).bind fun t35 =>
              cond (!(!t35))
               ((T_math_Signbit t5).bind fun t36 =>
                cond (!t36)
                 ((T_math_Signbit t7).bind fun t37 =>
                  some t37)
                 (some true))
               (some true))
             (some true))
           ((some (flt t7 t5 || feq t7 t5)).bind fun t38 =>
            cond (!(!t38))
             ((T_math_Signbit t5).bind fun t39 =>
              cond (!t39)
               ((T_math_Signbit t7).bind fun t40 =>
                some t40)
               (some true))
             (some true)))
         (some true))
       (some true)).bind fun t29 =>
     cond t29
      (some false)
      (cond (!t11)
        ((T_math_IsInf t5 1).bind fun t41 =>
         some t41)
        ((iter (T_w09_VectorNorm_b4 t3) FU (0, 0, t8, t10, t9)).bind fun o => match o with
         | (t42, t43, t44, t45) =>
         cond (t42 != 0)
          (some false)
          ((T_k_Finite t5).bind fun t71 =>
           cond (!t71)
            (some true)
            ((T_dyad_Of t5).bind fun o => match o with
             | (t72, t73, t74, t75) =>
             (T_dyad_Scale t43 t45 t44 (-39)).bind fun o => match o with
             | (t76, t77, t78, t79) =>
             (cond (!(t75 != 0))
               (some (t79 != 0))
               (some true)).bind fun t80 =>
             cond t80
              (some false)
              ((T_dyad_Add t43 t45 t44 t76 t77 t78).bind fun o => match o with
               | (t81, t82, t83, t84) =>
               (T_dyad_Cmp t43 t45 t44 t72 t73 t74).bind fun o => match o with
               | (t85, t86) =>
               (T_dyad_Cmp t72 t73 t74 t81 t82 t83).bind fun o => match o with
               | (t87, t88) =>
               cond (t84 == 0)
                (cond (t86 == 0)
                  (cond (t88 == 0)
                    (cond (decide (t85 ≤ 0))
                      (some (decide (t87 ≤ 0)))
                      (some false))
                    (some false))
                  (some false))
                (some false)))))))
   | .inr v => some v)
end Go.Eng
