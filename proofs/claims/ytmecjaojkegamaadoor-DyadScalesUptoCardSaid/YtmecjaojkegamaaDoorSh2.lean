/-
  Some of the functions as propositions in the manner of a weakest precondition, printed off the structured code by a program of the session. No condition.
-/
import Derived.Test.YtmecjaojkegamaaDoorTbl
import Derived.Test.YtmecjaojkegamaaDoorNm
set_option linter.unusedSimpArgs false
set_option linter.unnecessarySimpa false
set_option linter.unusedSectionVars false
set_option linter.unusedVariables false
set_option maxRecDepth 100000
namespace Go.Eng
open Go

/-- girder/dyad.float -/
def S_dyad_float (N : Nums) (P : Program) (q0 : Bool) (q1 : Int) (q2 : Int) (q3 : Int) (w : World) (K : Value → World → Prop) : Prop :=
  newM #[.bool false, .int .u64 0, .int .i64 0] N.t_Parts w fun p1 w2 =>
  stM p1 (.bool q0) w2 fun w3 =>
  stM (p1.add 1) (.int .u64 0) w3 fun w4 =>
  stM (p1.add 2) (.int .i64 0) w4 fun w5 =>
  cutM (σ := Unit) (fun J6 =>
    cond (decide (q1 > 0))
    (CallsX P N.f_math_bits_TrailingZeros64 #[.int .u64 q1] w5 fun v10 w9 =>
      ∃ n11 : Int, v10 = (.int .i64 n11) ∧
      (0 : Int) ≤ n11 ∧
      stM (p1.add 1) (.int .u64 (q1.fdiv (2 ^ (min n11.toNat IntKind.u64.bits)))) w9 fun w12 =>
      stM (p1.add 2) (.int .i64 (IntKind.i64.wrap (q2 + n11))) w12 fun w13 =>
      J6 (()) w13)
    (J6 (()) w5))
  (fun s7 w8 =>
    ∃ n14 : Int, w8.cell? (p1.add 1) = some (.int .u64 n14) ∧
    ∃ n15 : Int, w8.cell? (p1.add 2) = some (.int .i64 n15) ∧
    drM w8 fun w16 =>
    CallsX P N.f_math_bits_Len64 #[.int .u64 n14] w16 fun v18 w17 =>
    ∃ n19 : Int, v18 = (.int .i64 n19) ∧
    w17.cell? (p1.add 2) = some (.int .i64 n15) ∧
    drM w17 fun w20 =>
    cond (decide ((IntKind.i64.wrap (n19 + n15)) > 1024))
    (stM (p1.add 1) (.int .u64 9007199254740991) w20 fun w21 =>
      stM (p1.add 2) (.int .i64 971) w21 fun w22 =>
      ∃ b23 : Bool, w22.cell? p1 = some (.bool b23) ∧
      ∃ n24 : Int, w22.cell? (p1.add 1) = some (.int .u64 n24) ∧
      ∃ n25 : Int, w22.cell? (p1.add 2) = some (.int .i64 n25) ∧
      CallsX P N.f_bits_Join #[.agg #[.bool b23, .int .u64 n24, .int .i64 n25]] w22 fun v27 w26 =>
      ∃ x28 : Nat, ∃ b29 : Bool, v27 = (.tuple #[.float .f64 x28, .bool b29]) ∧
      cond (!(q3 == 3))
      (cond (q3 == 1)
        (cond (!(!q0))
          (cond (q3 == 2)
            (cond q0
              (K (.float .f64 x28) w26)
              (CallsX P N.f_bits_Next #[.float .f64 x28, .bool (!q0)] w26 fun v31 w30 =>
                ∃ x32 : Nat, v31 = (.float .f64 x32) ∧
                K (.float .f64 x32) w30))
            (CallsX P N.f_bits_Next #[.float .f64 x28, .bool (!q0)] w26 fun v34 w33 =>
              ∃ x35 : Nat, v34 = (.float .f64 x35) ∧
              K (.float .f64 x35) w33))
          (K (.float .f64 x28) w26))
        (cond (q3 == 2)
          (cond q0
            (K (.float .f64 x28) w26)
            (CallsX P N.f_bits_Next #[.float .f64 x28, .bool (!q0)] w26 fun v37 w36 =>
              ∃ x38 : Nat, v37 = (.float .f64 x38) ∧
              K (.float .f64 x38) w36))
          (CallsX P N.f_bits_Next #[.float .f64 x28, .bool (!q0)] w26 fun v40 w39 =>
            ∃ x41 : Nat, v40 = (.float .f64 x41) ∧
            K (.float .f64 x41) w39)))
      (K (.float .f64 x28) w26))
    (∃ b42 : Bool, w20.cell? p1 = some (.bool b42) ∧
      ∃ n43 : Int, w20.cell? (p1.add 1) = some (.int .u64 n43) ∧
      ∃ n44 : Int, w20.cell? (p1.add 2) = some (.int .i64 n44) ∧
      CallsX P N.f_bits_Join #[.agg #[.bool b42, .int .u64 n43, .int .i64 n44]] w20 fun v46 w45 =>
      ∃ x47 : Nat, ∃ b48 : Bool, v46 = (.tuple #[.float .f64 x47, .bool b48]) ∧
      K (.float .f64 x47) w45))

/-- girder/girderkit.CopyLimbs -/
def S_girderkit_CopyLimbs (N : Nums) (P : Program) (q0 : Option Addr) (q0l q0c : Nat) (w : World) (K : Value → World → Prop) : Prop :=
  appM N.t_uint64 1 8 #[.int .u64 0] none 0 0 q0 q0l w fun s1a s1l s1c w2 =>
  K (.slice s1a s1l s1c) w2

/-- girder/bits.Place -/
def S_bits_Place (N : Nums) (P : Program) (q0 : Nat) (w : World) (K : Value → World → Prop) : Prop :=
  cond (!feq q0 q0)
  (K (.tuple #[.int .i64 0, .bool false]) w)
  (CallsX P N.f_math_Abs #[.float .f64 q0] w fun v2 w1 =>
    ∃ x3 : Nat, v2 = (.float .f64 x3) ∧
    CallsX P N.f_math_Float64bits #[.float .f64 x3] w1 fun v5 w4 =>
    ∃ n6 : Int, v5 = (.int .u64 n6) ∧
    cutM (σ := Int × Unit) (fun J7 =>
      cond (flt q0 0)
      (J7 ((IntKind.i64.wrap (0 - (IntKind.i64.wrap n6))), ()) w4)
      (J7 ((IntKind.i64.wrap n6), ()) w4))
    (fun s8 w9 =>
      K (.tuple #[.int .i64 s8.1, .bool true]) w9))

/-- girder/bits.Kind -/
def S_bits_Kind (N : Nums) (P : Program) (q0 : Nat) (w : World) (K : Value → World → Prop) : Prop :=
  CallsX P N.f_math_Abs #[.float .f64 q0] w fun v2 w1 =>
  ∃ x3 : Nat, v2 = (.float .f64 x3) ∧
  cond (!feq q0 q0)
  (K (.int .i64 4) w1)
  (CallsX P N.f_math_IsInf #[.float .f64 q0, .int .i64 0] w1 fun v5 w4 =>
    ∃ b6 : Bool, v5 = (.bool b6) ∧
    cond b6
    (K (.int .i64 3) w4)
    (cond (fgt x3 4503599627370496 || feq x3 4503599627370496)
      (K (.int .i64 2) w4)
      (cond (fgt x3 0)
        (K (.int .i64 1) w4)
        (K (.int .i64 0) w4))))

/-- math.Signbit -/
def S_math_Signbit (N : Nums) (P : Program) (q0 : Nat) (w : World) (K : Value → World → Prop) : Prop :=
  CallsX P N.f_math_Float64bits #[.float .f64 q0] w fun v2 w1 =>
  ∃ n3 : Int, v2 = (.int .u64 n3) ∧
  K (.bool (decide ((IntKind.i64.wrap n3) < 0))) w1

/-- math.Frexp -/
def S_math_Frexp (N : Nums) (P : Program) (q0 : Nat) (w : World) (K : Value → World → Prop) : Prop :=
  CallsX P N.f_math_frexp #[.float .f64 q0] w fun v2 w1 =>
  ∃ x3 : Nat, ∃ n4 : Int, v2 = (.tuple #[.float .f64 x3, .int .i64 n4]) ∧
  K (.tuple #[.float .f64 x3, .int .i64 n4]) w1

/-- math.Abs -/
def S_math_Abs (N : Nums) (P : Program) (q0 : Nat) (w : World) (K : Value → World → Prop) : Prop :=
  CallsX P N.f_math_Float64bits #[.float .f64 q0] w fun v2 w1 =>
  ∃ n3 : Int, v2 = (.int .u64 n3) ∧
  CallsX P N.f_math_Float64frombits #[.int .u64 (IntKind.u64.wrap (BitVec.ofInt IntKind.u64.bits n3 &&& ~~~BitVec.ofInt IntKind.u64.bits 9223372036854775808).toNat)] w1 fun v5 w4 =>
  ∃ x6 : Nat, v5 = (.float .f64 x6) ∧
  K (.float .f64 x6) w4

/-- math.Ldexp -/
def S_math_Ldexp (N : Nums) (P : Program) (q0 : Nat) (q1 : Int) (w : World) (K : Value → World → Prop) : Prop :=
  CallsX P N.f_math_ldexp #[.float .f64 q0, .int .i64 q1] w fun v2 w1 =>
  ∃ x3 : Nat, v2 = (.float .f64 x3) ∧
  K (.float .f64 x3) w1

/-- math/bits.TrailingZeros64 -/
def S_math_bits_TrailingZeros64 (N : Nums) (P : Program) (q0 : Int) (w : World) (K : Value → World → Prop) : Prop :=
  cond (q0 == 0)
  (K (.int .i64 64) w)
  ((0 : Int) ≤ 58 ∧
    (0 : Int) ≤ ((IntKind.u64.wrap ((IntKind.u64.wrap (BitVec.ofInt IntKind.u64.bits q0 &&& BitVec.ofInt IntKind.u64.bits (IntKind.u64.wrap (0 - q0))).toNat) * 285870213051353865)).fdiv (2 ^ (min (58 : Int).toNat IntKind.u64.bits))) ∧ ((IntKind.u64.wrap ((IntKind.u64.wrap (BitVec.ofInt IntKind.u64.bits q0 &&& BitVec.ofInt IntKind.u64.bits (IntKind.u64.wrap (0 - q0))).toNat) * 285870213051353865)).fdiv (2 ^ (min (58 : Int).toNat IntKind.u64.bits))) < (64 : Nat) ∧
    ∃ n1 : Int, w.cell? ((⟨N.g_1, 0, none⟩ : Addr).add (((IntKind.u64.wrap ((IntKind.u64.wrap (BitVec.ofInt IntKind.u64.bits q0 &&& BitVec.ofInt IntKind.u64.bits (IntKind.u64.wrap (0 - q0))).toNat) * 285870213051353865)).fdiv (2 ^ (min (58 : Int).toNat IntKind.u64.bits))).toNat * 1)) = some (.int .u8 n1) ∧
    K (.int .i64 (IntKind.i64.wrap n1)) w)

/-- girder/girderref01.Finite -/
def S_girderref01_Finite (N : Nums) (P : Program) (q0 : Nat) (w : World) (K : Value → World → Prop) : Prop :=
  CallsX P N.f_girderref01_Kind #[.float .f64 q0] w fun v2 w1 =>
  ∃ n3 : Int, v2 = (.int .i64 n3) ∧
  K (.bool (decide (n3 < 3))) w1

/-- girder/girderref01.fields -/
def S_girderref01_fields (N : Nums) (P : Program) (q0 : Nat) (w : World) (K : Value → World → Prop) : Prop :=
  CallsX P N.f_math_Float64bits #[.float .f64 q0] w fun v2 w1 =>
  ∃ n3 : Int, v2 = (.int .u64 n3) ∧
  (0 : Int) ≤ 63 ∧
  (4503599627370496 : Int) ≠ 0 ∧
  (2048 : Int) ≠ 0 ∧
  (4503599627370496 : Int) ≠ 0 ∧
  K (.tuple #[.bool ((n3.fdiv (2 ^ (min (63 : Int).toNat IntKind.u64.bits))) == 1), .int .i64 (IntKind.i64.wrap ((IntKind.u64.wrap (n3.tdiv 4503599627370496)).tmod 2048)), .int .u64 (n3.tmod 4503599627370496)]) w1

/-- girder/girderref02.NatTrim -/
def S_girderref02_NatTrim (N : Nums) (P : Program) (q0 : Option Addr) (q0l q0c : Nat) (w : World) (K : Value → World → Prop) : Prop :=
  cutM (σ := Int × Unit) (fun J1 =>
    loopM (σ := Int × Unit) (fun s4 X5 w6 =>
      cond (decide (s4.1 > 0))
      ((0 : Int) ≤ (IntKind.i64.wrap (s4.1 - 1)) ∧ (IntKind.i64.wrap (s4.1 - 1)) < (q0l : Nat) ∧
        optM q0 fun a7 =>
        ∃ n8 : Int, w6.cell? (a7.add ((IntKind.i64.wrap (s4.1 - 1)).toNat * 1)) = some (.int .u64 n8) ∧
        cond (n8 == 0)
        (X5 ((IntKind.i64.wrap (s4.1 - 1)), ()) w6)
        (J1 (s4.1, ()) w6))
      (J1 (s4.1, ()) w6))
    (((q0l : Nat) : Int), ()) w)
  (fun s2 w3 =>
    (0 : Int) ≤ s2.1 ∧ s2.1 ≤ (q0c : Nat) ∧
    appM N.t_uint64 1 8 #[.int .u64 0] none 0 0 (slBase q0 0 q0c 1) s2.1.toNat w3 fun s9a s9l s9c w10 =>
    K (.slice s9a s9l s9c) w10)

/-- girder/girderref02.NatDown -/
def S_girderref02_NatDown (N : Nums) (P : Program) (q0 : Option Addr) (q0l q0c : Nat) (q1 : Int) (w : World) (K : Value → World → Prop) : Prop :=
  CallsX P N.f_girderref02_halves #[.slice q0 q0l q0c] w fun v2 w1 =>
  ∃ (s3a : Option Addr) (s3l s3c : Nat), v2 = (.slice s3a s3l s3c) ∧
  cutM (σ := Bool × Unit) (fun J4 =>
    loopM (σ := Bool × Int × Unit) (fun s7 X8 w9 =>
      (32 : Int) ≠ 0 ∧
      cond (decide (s7.2.1 < (IntKind.i64.wrap (q1.tdiv 32))))
      (cond (decide (s7.2.1 < ((s3l : Nat) : Int)))
        (cond (!s7.1)
          ((0 : Int) ≤ s7.2.1 ∧ s7.2.1 < (s3l : Nat) ∧
            optM s3a fun a10 =>
            ∃ n11 : Int, w9.cell? (a10.add (s7.2.1.toNat * 1)) = some (.int .u64 n11) ∧
            X8 ((n11 != 0), (IntKind.i64.wrap (s7.2.1 + 1)), ()) w9)
          (X8 (true, (IntKind.i64.wrap (s7.2.1 + 1)), ()) w9))
        (J4 (s7.1, ()) w9))
      (J4 (s7.1, ()) w9))
    (false, 0, ()) w1)
  (fun s5 w6 =>
    (32 : Int) ≠ 0 ∧
    cond (decide ((IntKind.i64.wrap (q1.tdiv 32)) ≥ ((s3l : Nat) : Int)))
    (K (.tuple #[.slice none 0 0, .bool s5.1]) w6)
    (cutM (σ := Int × Unit) (fun J12 =>
        loopM (σ := Int × Int × Unit) (fun s15 X16 w17 =>
          (32 : Int) ≠ 0 ∧
          cond (decide (s15.2.1 < (q1.tmod 32)))
          (X16 ((IntKind.u64.wrap (2 * s15.1)), (IntKind.i64.wrap (s15.2.1 + 1)), ()) w17)
          (J12 (s15.1, ()) w17))
        (1, 0, ()) w6)
      (fun s13 w14 =>
        (32 : Int) ≠ 0 ∧
        (0 : Int) ≤ (IntKind.i64.wrap (q1.tdiv 32)) ∧ (IntKind.i64.wrap (q1.tdiv 32)) ≤ (s3l : Nat) ∧
        CallsX P N.f_girderref02_short #[.slice (slBase s3a ((IntKind.i64.wrap (q1.tdiv 32)).toNat) s3c 1) (s3l - (IntKind.i64.wrap (q1.tdiv 32)).toNat) (s3c - (IntKind.i64.wrap (q1.tdiv 32)).toNat), .int .u64 s13.1] w14 fun v19 w18 =>
        ∃ (s20a : Option Addr) (s20l s20c : Nat), ∃ n21 : Int, v19 = (.tuple #[.slice s20a s20l s20c, .int .u64 n21]) ∧
        CallsX P N.f_girderref02_limbs #[.slice s20a s20l s20c] w18 fun v23 w22 =>
        ∃ (s24a : Option Addr) (s24l s24c : Nat), v23 = (.slice s24a s24l s24c) ∧
        cond (!s5.1)
        (K (.tuple #[.slice s24a s24l s24c, .bool (n21 != 0)]) w22)
        (K (.tuple #[.slice s24a s24l s24c, .bool true]) w22))))

/-- (*girder/bignum.Int).TrailingZeroBits -/
def S_p_bignum_Int_TrailingZeroBits (N : Nums) (P : Program) (q0 : Option Addr) (w : World) (K : Value → World → Prop) : Prop :=
  optM q0 fun a1 =>
  ∃ (s2a : Option Addr) (s2l s2c : Nat), w.cell? (a1.add 1) = some (.slice s2a s2l s2c) ∧
  cond (((s2l : Nat) : Int) == 0)
  (K (.int .u64 0) w)
  (cutM (σ := Int × Unit) (fun J3 =>
      loopM (σ := Int × Unit) (fun s6 X7 w8 =>
        optM q0 fun a9 =>
        ∃ (s10a : Option Addr) (s10l s10c : Nat), w8.cell? (a9.add 1) = some (.slice s10a s10l s10c) ∧
        CallsX P N.f_bignum_bit #[.slice s10a s10l s10c, .int .i64 (IntKind.i64.wrap s6.1)] w8 fun v12 w11 =>
        ∃ n13 : Int, v12 = (.int .u64 n13) ∧
        cond (n13 == 0)
        (X7 ((IntKind.u64.wrap (s6.1 + 1)), ()) w11)
        (J3 (s6.1, ()) w11))
      (0, ()) w)
    (fun s4 w5 =>
      K (.int .u64 s4.1) w5))

/-- (*girder/bignum.Int).BitLen -/
def S_p_bignum_Int_BitLen (N : Nums) (P : Program) (q0 : Option Addr) (w : World) (K : Value → World → Prop) : Prop :=
  optM q0 fun a1 =>
  ∃ (s2a : Option Addr) (s2l s2c : Nat), w.cell? (a1.add 1) = some (.slice s2a s2l s2c) ∧
  CallsX P N.f_bignum_length #[.slice s2a s2l s2c] w fun v4 w3 =>
  ∃ n5 : Int, v4 = (.int .i64 n5) ∧
  K (.int .i64 n5) w3

/-- girder/dyad.limbs -/
def S_dyad_limbs (N : Nums) (P : Program) (q0 : Option Addr) (w : World) (K : Value → World → Prop) : Prop :=
  newM #[.bool false, .slice none 0 0] N.t_bignum_Int w fun p1 w2 =>
  CallsX P N.f_p_bignum_Int_Abs #[.pointer (some p1), .pointer q0] w2 fun v4 w3 =>
  ∃ p5 : (Option Addr), v4 = (.pointer p5) ∧
  newM #[.bool false, .slice none 0 0] N.t_bignum_Int w3 fun p6 w7 =>
  newM #[.bool false, .slice none 0 0] N.t_bignum_Int w7 fun p8 w9 =>
  CallsX P N.f_p_bignum_Int_SetUint64 #[.pointer (some p8), .int .u64 18446744073709551615] w9 fun v11 w10 =>
  ∃ p12 : (Option Addr), v11 = (.pointer p12) ∧
  cutM (σ := (Option Addr × Nat × Nat) × Unit) (fun J13 =>
    loopM (σ := (Option Addr × Nat × Nat) × Unit) (fun s16 X17 w18 =>
      CallsX P N.f_p_bignum_Int_Sign #[.pointer p5] w18 fun v20 w19 =>
      ∃ n21 : Int, v20 = (.int .i64 n21) ∧
      cond (decide (n21 > 0))
      (CallsX P N.f_p_bignum_Int_And #[.pointer (some p6), .pointer p5, .pointer p12] w19 fun v23 w22 =>
        ∃ p24 : (Option Addr), v23 = (.pointer p24) ∧
        CallsX P N.f_p_bignum_Int_Uint64 #[.pointer p24] w22 fun v26 w25 =>
        ∃ n27 : Int, v26 = (.int .u64 n27) ∧
        newM #[.int .u64 n27] N.t_uint64 w25 fun p28 w29 =>
        appM N.t_uint64 1 8 #[.int .u64 0] s16.1.1 s16.1.2.1 s16.1.2.2 (some p28) 1 w29 fun s30a s30l s30c w31 =>
        CallsX P N.f_p_bignum_Int_Rsh #[.pointer p5, .pointer p5, .int .u64 64] w31 fun v33 w32 =>
        ∃ p34 : (Option Addr), v33 = (.pointer p34) ∧
        X17 ((s30a, s30l, s30c), ()) w32)
      (J13 ((s16.1.1, s16.1.2.1, s16.1.2.2), ()) w19))
    ((none, 0, 0), ()) w10)
  (fun s14 w15 =>
    K (.slice s14.1.1 s14.1.2.1 s14.1.2.2) w15)

/-- (*girder/bignum.Int).SetInt64 -/
def S_p_bignum_Int_SetInt64 (N : Nums) (P : Program) (q0 : Option Addr) (q1 : Int) (w : World) (K : Value → World → Prop) : Prop :=
  cutM (σ := Int × Unit) (fun J1 =>
    cond (decide (q1 < 0))
    (J1 ((IntKind.u64.wrap (0 - (IntKind.u64.wrap q1))), ()) w)
    (J1 ((IntKind.u64.wrap q1), ()) w))
  (fun s2 w3 =>
    CallsX P N.f_bignum_words #[.int .u64 s2.1] w3 fun v5 w4 =>
    ∃ (s6a : Option Addr) (s6l s6c : Nat), v5 = (.slice s6a s6l s6c) ∧
    CallsX P N.f_p_bignum_Int_give #[.pointer q0, .bool (decide (q1 < 0)), .slice s6a s6l s6c] w4 fun v8 w7 =>
    ∃ p9 : (Option Addr), v8 = (.pointer p9) ∧
    K (.pointer p9) w7)

/-- girder/girderref02.NatOf -/
def S_girderref02_NatOf (N : Nums) (P : Program) (q0 : Int) (w : World) (K : Value → World → Prop) : Prop :=
  newM #[.int .u64 q0] N.t_uint64 w fun p1 w2 =>
  CallsX P N.f_girderref02_NatTrim #[.slice (some p1) 1 1] w2 fun v4 w3 =>
  ∃ (s5a : Option Addr) (s5l s5c : Nat), v4 = (.slice s5a s5l s5c) ∧
  K (.slice s5a s5l s5c) w3

/-- girder/girderkit.mark -/
def S_girderkit_mark (N : Nums) (P : Program) (q0 : Int) (q1 : Int) (w : World) (K : Value → World → Prop) : Prop :=
  K (.int .i64 (IntKind.i64.wrap ((IntKind.i64.wrap (1000003 * (IntKind.i64.wrap (q0 + 7)))) + q1))) w

/-- (*girder/bignum.Int).Or -/
def S_p_bignum_Int_Or (N : Nums) (P : Program) (q0 : Option Addr) (q1 : Option Addr) (q2 : Option Addr) (w : World) (K : Value → World → Prop) : Prop :=
  optM q1 fun a1 =>
  ∃ (s2a : Option Addr) (s2l s2c : Nat), w.cell? (a1.add 1) = some (.slice s2a s2l s2c) ∧
  optM q2 fun a3 =>
  ∃ (s4a : Option Addr) (s4l s4c : Nat), w.cell? (a3.add 1) = some (.slice s4a s4l s4c) ∧
  drM w fun w5 =>
  CallsX P N.f_p_bignum_Int_low #[.pointer q1, .int .i64 (IntKind.i64.wrap ((if ((s4l : Nat) : Int) > ((s2l : Nat) : Int) then ((s4l : Nat) : Int) else ((s2l : Nat) : Int)) + 1))] w5 fun v7 w6 =>
  ∃ (s8a : Option Addr) (s8l s8c : Nat), v7 = (.slice s8a s8l s8c) ∧
  CallsX P N.f_p_bignum_Int_low #[.pointer q2, .int .i64 (IntKind.i64.wrap ((if ((s4l : Nat) : Int) > ((s2l : Nat) : Int) then ((s4l : Nat) : Int) else ((s2l : Nat) : Int)) + 1))] w6 fun v10 w9 =>
  ∃ (s11a : Option Addr) (s11l s11c : Nat), v10 = (.slice s11a s11l s11c) ∧
  cutM (σ := Unit) (fun J12 =>
    loopM (σ := Int × Unit) (fun s15 X16 w17 =>
      cond (decide (s15.1 < (IntKind.i64.wrap ((if ((s4l : Nat) : Int) > ((s2l : Nat) : Int) then ((s4l : Nat) : Int) else ((s2l : Nat) : Int)) + 1))))
      ((0 : Int) ≤ s15.1 ∧ s15.1 < (s8l : Nat) ∧
        optM s8a fun a18 =>
        ∃ n19 : Int, w17.cell? (a18.add (s15.1.toNat * 1)) = some (.int .u32 n19) ∧
        (0 : Int) ≤ s15.1 ∧ s15.1 < (s11l : Nat) ∧
        optM s11a fun a20 =>
        ∃ n21 : Int, w17.cell? (a20.add (s15.1.toNat * 1)) = some (.int .u32 n21) ∧
        (0 : Int) ≤ s15.1 ∧ s15.1 < (s8l : Nat) ∧
        optM s8a fun a22 =>
        drM w17 fun w23 =>
        stM (a22.add (s15.1.toNat * 1)) (.int .u32 (IntKind.u32.wrap (BitVec.ofInt IntKind.u32.bits n19 ||| BitVec.ofInt IntKind.u32.bits n21).toNat)) w23 fun w24 =>
        drM w24 fun w25 =>
        X16 ((IntKind.i64.wrap (s15.1 + 1)), ()) w25)
      (J12 (()) w17))
    (0, ()) w9)
  (fun s13 w14 =>
    CallsX P N.f_p_bignum_Int_of #[.pointer q0, .slice s8a s8l s8c] w14 fun v27 w26 =>
    ∃ p28 : (Option Addr), v27 = (.pointer p28) ∧
    K (.pointer p28) w26)

/-- (*girder/bignum.Int).SetUint64 -/
def S_p_bignum_Int_SetUint64 (N : Nums) (P : Program) (q0 : Option Addr) (q1 : Int) (w : World) (K : Value → World → Prop) : Prop :=
  CallsX P N.f_bignum_words #[.int .u64 q1] w fun v2 w1 =>
  ∃ (s3a : Option Addr) (s3l s3c : Nat), v2 = (.slice s3a s3l s3c) ∧
  CallsX P N.f_p_bignum_Int_give #[.pointer q0, .bool false, .slice s3a s3l s3c] w1 fun v5 w4 =>
  ∃ p6 : (Option Addr), v5 = (.pointer p6) ∧
  K (.pointer p6) w4

/-- (*girder/bignum.Int).Neg -/
def S_p_bignum_Int_Neg (N : Nums) (P : Program) (q0 : Option Addr) (q1 : Option Addr) (w : World) (K : Value → World → Prop) : Prop :=
  optM q1 fun a1 =>
  ∃ b2 : Bool, w.cell? a1 = some (.bool b2) ∧
  optM q1 fun a3 =>
  ∃ (s4a : Option Addr) (s4l s4c : Nat), w.cell? (a3.add 1) = some (.slice s4a s4l s4c) ∧
  drM w fun w5 =>
  CallsX P N.f_bignum_twin #[.slice s4a s4l s4c] w5 fun v7 w6 =>
  ∃ (s8a : Option Addr) (s8l s8c : Nat), v7 = (.slice s8a s8l s8c) ∧
  w6.cell? a1 = some (.bool b2) ∧
  drM w6 fun w9 =>
  CallsX P N.f_p_bignum_Int_give #[.pointer q0, .bool (!b2), .slice s8a s8l s8c] w9 fun v11 w10 =>
  ∃ p12 : (Option Addr), v11 = (.pointer p12) ∧
  drM w10 fun w13 =>
  K (.pointer p12) w13

/-- (*girder/bignum.Int).give -/
def S_p_bignum_Int_give (N : Nums) (P : Program) (q0 : Option Addr) (q1 : Bool) (q2 : Option Addr) (q2l q2c : Nat) (w : World) (K : Value → World → Prop) : Prop :=
  optM q0 fun a1 =>
  stM (a1.add 1) (.slice q2 q2l q2c) w fun w2 =>
  cond q1
  (optM q0 fun a3 =>
    stM a3 (.bool (decide (((q2l : Nat) : Int) > 0))) w2 fun w4 =>
    K (.pointer q0) w4)
  (optM q0 fun a5 =>
    stM a5 (.bool false) w2 fun w6 =>
    K (.pointer q0) w6)

/-- girder/bignum.sum -/
def S_bignum_sum (N : Nums) (P : Program) (q0 : Bool) (q1 : Option Addr) (q1l q1c : Nat) (q2 : Bool) (q3 : Option Addr) (q3l q3c : Nat) (w : World) (K : Value → World → Prop) : Prop :=
  cond (q0 == q2)
  (CallsX P N.f_bignum_add #[.slice q1 q1l q1c, .slice q3 q3l q3c] w fun v2 w1 =>
    ∃ (s3a : Option Addr) (s3l s3c : Nat), v2 = (.slice s3a s3l s3c) ∧
    K (.tuple #[.bool q0, .slice s3a s3l s3c]) w1)
  (CallsX P N.f_bignum_cmp #[.slice q1 q1l q1c, .slice q3 q3l q3c] w fun v5 w4 =>
    ∃ n6 : Int, v5 = (.int .i64 n6) ∧
    cond (decide (n6 ≥ 0))
    (CallsX P N.f_bignum_sub #[.slice q1 q1l q1c, .slice q3 q3l q3c] w4 fun v8 w7 =>
      ∃ (s9a : Option Addr) (s9l s9c : Nat), v8 = (.slice s9a s9l s9c) ∧
      K (.tuple #[.bool q0, .slice s9a s9l s9c]) w7)
    (CallsX P N.f_bignum_sub #[.slice q3 q3l q3c, .slice q1 q1l q1c] w4 fun v11 w10 =>
      ∃ (s12a : Option Addr) (s12l s12c : Nat), v11 = (.slice s12a s12l s12c) ∧
      K (.tuple #[.bool q2, .slice s12a s12l s12c]) w10))

/-- girder/bignum.left -/
def S_bignum_left (N : Nums) (P : Program) (q0 : Option Addr) (q0l q0c : Nat) (q1 : Int) (w : World) (K : Value → World → Prop) : Prop :=
  cond (((q0l : Nat) : Int) == 0)
  (K (.slice none 0 0) w)
  ((32 : Int) ≠ 0 ∧
    (32 : Int) ≠ 0 ∧
    mkM N.t_uint32 1 4 #[.int .u32 0] (IntKind.i64.wrap ((IntKind.i64.wrap (((q0l : Nat) : Int) + (IntKind.i64.wrap (IntKind.u64.wrap (q1.tdiv 32))))) + 1)) (IntKind.i64.wrap ((IntKind.i64.wrap (((q0l : Nat) : Int) + (IntKind.i64.wrap (IntKind.u64.wrap (q1.tdiv 32))))) + 1)) w fun p1 w2 =>
    cutM (σ := Unit) (fun J3 =>
      loopM (σ := Int × Unit) (fun s6 X7 w8 =>
        cond (decide (s6.1 < ((q0l : Nat) : Int)))
        ((0 : Int) ≤ s6.1 ∧ s6.1 < (q0l : Nat) ∧
          optM q0 fun a9 =>
          ∃ n10 : Int, w8.cell? (a9.add (s6.1.toNat * 1)) = some (.int .u32 n10) ∧
          (0 : Int) ≤ (q1.tmod 32) ∧
          (0 : Int) ≤ (IntKind.i64.wrap (s6.1 + (IntKind.i64.wrap (IntKind.u64.wrap (q1.tdiv 32))))) ∧ (IntKind.i64.wrap (s6.1 + (IntKind.i64.wrap (IntKind.u64.wrap (q1.tdiv 32))))) < ((IntKind.i64.wrap ((IntKind.i64.wrap (((q0l : Nat) : Int) + (IntKind.i64.wrap (IntKind.u64.wrap (q1.tdiv 32))))) + 1)).toNat : Nat) ∧
          ∃ n11 : Int, w8.cell? (p1.add ((IntKind.i64.wrap (s6.1 + (IntKind.i64.wrap (IntKind.u64.wrap (q1.tdiv 32))))).toNat * 1)) = some (.int .u32 n11) ∧
          (0 : Int) ≤ (IntKind.i64.wrap (s6.1 + (IntKind.i64.wrap (IntKind.u64.wrap (q1.tdiv 32))))) ∧ (IntKind.i64.wrap (s6.1 + (IntKind.i64.wrap (IntKind.u64.wrap (q1.tdiv 32))))) < ((IntKind.i64.wrap ((IntKind.i64.wrap (((q0l : Nat) : Int) + (IntKind.i64.wrap (IntKind.u64.wrap (q1.tdiv 32))))) + 1)).toNat : Nat) ∧
          stM (p1.add ((IntKind.i64.wrap (s6.1 + (IntKind.i64.wrap (IntKind.u64.wrap (q1.tdiv 32))))).toNat * 1)) (.int .u32 (IntKind.u32.wrap (BitVec.ofInt IntKind.u32.bits n11 ||| BitVec.ofInt IntKind.u32.bits (IntKind.u32.wrap (IntKind.u64.wrap ((IntKind.u64.wrap n10) * 2 ^ (min (q1.tmod 32).toNat IntKind.u64.bits))))).toNat)) w8 fun w12 =>
          (0 : Int) ≤ (IntKind.i64.wrap ((IntKind.i64.wrap (s6.1 + (IntKind.i64.wrap (IntKind.u64.wrap (q1.tdiv 32))))) + 1)) ∧ (IntKind.i64.wrap ((IntKind.i64.wrap (s6.1 + (IntKind.i64.wrap (IntKind.u64.wrap (q1.tdiv 32))))) + 1)) < ((IntKind.i64.wrap ((IntKind.i64.wrap (((q0l : Nat) : Int) + (IntKind.i64.wrap (IntKind.u64.wrap (q1.tdiv 32))))) + 1)).toNat : Nat) ∧
          ∃ n13 : Int, w12.cell? (p1.add ((IntKind.i64.wrap ((IntKind.i64.wrap (s6.1 + (IntKind.i64.wrap (IntKind.u64.wrap (q1.tdiv 32))))) + 1)).toNat * 1)) = some (.int .u32 n13) ∧
          (0 : Int) ≤ 32 ∧
          (0 : Int) ≤ (IntKind.i64.wrap ((IntKind.i64.wrap (s6.1 + (IntKind.i64.wrap (IntKind.u64.wrap (q1.tdiv 32))))) + 1)) ∧ (IntKind.i64.wrap ((IntKind.i64.wrap (s6.1 + (IntKind.i64.wrap (IntKind.u64.wrap (q1.tdiv 32))))) + 1)) < ((IntKind.i64.wrap ((IntKind.i64.wrap (((q0l : Nat) : Int) + (IntKind.i64.wrap (IntKind.u64.wrap (q1.tdiv 32))))) + 1)).toNat : Nat) ∧
          stM (p1.add ((IntKind.i64.wrap ((IntKind.i64.wrap (s6.1 + (IntKind.i64.wrap (IntKind.u64.wrap (q1.tdiv 32))))) + 1)).toNat * 1)) (.int .u32 (IntKind.u32.wrap (BitVec.ofInt IntKind.u32.bits n13 ||| BitVec.ofInt IntKind.u32.bits (IntKind.u32.wrap ((IntKind.u64.wrap ((IntKind.u64.wrap n10) * 2 ^ (min (q1.tmod 32).toNat IntKind.u64.bits))).fdiv (2 ^ (min (32 : Int).toNat IntKind.u64.bits))))).toNat)) w12 fun w14 =>
          X7 ((IntKind.i64.wrap (s6.1 + 1)), ()) w14)
        (J3 (()) w8))
      (0, ()) w2)
    (fun s4 w5 =>
      CallsX P N.f_bignum_trim #[.slice (some p1) ((IntKind.i64.wrap ((IntKind.i64.wrap (((q0l : Nat) : Int) + (IntKind.i64.wrap (IntKind.u64.wrap (q1.tdiv 32))))) + 1)).toNat) ((IntKind.i64.wrap ((IntKind.i64.wrap (((q0l : Nat) : Int) + (IntKind.i64.wrap (IntKind.u64.wrap (q1.tdiv 32))))) + 1)).toNat)] w5 fun v16 w15 =>
      ∃ (s17a : Option Addr) (s17l s17c : Nat), v16 = (.slice s17a s17l s17c) ∧
      K (.slice s17a s17l s17c) w15))

/-- girder/bignum.mul -/
def S_bignum_mul (N : Nums) (P : Program) (q0 : Option Addr) (q0l q0c : Nat) (q1 : Option Addr) (q1l q1c : Nat) (w : World) (K : Value → World → Prop) : Prop :=
  cutM (σ := Bool × Unit) (fun J1 =>
    cond (!(((q0l : Nat) : Int) == 0))
    (J1 ((((q1l : Nat) : Int) == 0), ()) w)
    (J1 (true, ()) w))
  (fun s2 w3 =>
    cond s2.1
    (K (.slice none 0 0) w3)
    (mkM N.t_uint32 1 4 #[.int .u32 0] (IntKind.i64.wrap (((q0l : Nat) : Int) + ((q1l : Nat) : Int))) (IntKind.i64.wrap (((q0l : Nat) : Int) + ((q1l : Nat) : Int))) w3 fun p4 w5 =>
      cutM (σ := Unit) (fun J6 =>
        loopM (σ := Int × Unit) (fun s9 X10 w11 =>
          cond (decide (s9.1 < ((q0l : Nat) : Int)))
          (cutM (σ := Int × Unit) (fun J12 =>
              loopM (σ := Int × Int × Unit) (fun s15 X16 w17 =>
                cond (decide (s15.2.1 < ((q1l : Nat) : Int)))
                ((0 : Int) ≤ s9.1 ∧ s9.1 < (q0l : Nat) ∧
                  optM q0 fun a18 =>
                  ∃ n19 : Int, w17.cell? (a18.add (s9.1.toNat * 1)) = some (.int .u32 n19) ∧
                  (0 : Int) ≤ s15.2.1 ∧ s15.2.1 < (q1l : Nat) ∧
                  optM q1 fun a20 =>
                  ∃ n21 : Int, w17.cell? (a20.add (s15.2.1.toNat * 1)) = some (.int .u32 n21) ∧
                  (0 : Int) ≤ (IntKind.i64.wrap (s9.1 + s15.2.1)) ∧ (IntKind.i64.wrap (s9.1 + s15.2.1)) < ((IntKind.i64.wrap (((q0l : Nat) : Int) + ((q1l : Nat) : Int))).toNat : Nat) ∧
                  ∃ n22 : Int, w17.cell? (p4.add ((IntKind.i64.wrap (s9.1 + s15.2.1)).toNat * 1)) = some (.int .u32 n22) ∧
                  drM w17 fun w23 =>
                  (0 : Int) ≤ (IntKind.i64.wrap (s9.1 + s15.2.1)) ∧ (IntKind.i64.wrap (s9.1 + s15.2.1)) < ((IntKind.i64.wrap (((q0l : Nat) : Int) + ((q1l : Nat) : Int))).toNat : Nat) ∧
                  stM (p4.add ((IntKind.i64.wrap (s9.1 + s15.2.1)).toNat * 1)) (.int .u32 (IntKind.u32.wrap (IntKind.u64.wrap (s15.1 + (IntKind.u64.wrap ((IntKind.u64.wrap ((IntKind.u64.wrap n19) * (IntKind.u64.wrap n21))) + (IntKind.u64.wrap n22))))))) w23 fun w24 =>
                  (0 : Int) ≤ 32 ∧
                  X16 (((IntKind.u64.wrap (s15.1 + (IntKind.u64.wrap ((IntKind.u64.wrap ((IntKind.u64.wrap n19) * (IntKind.u64.wrap n21))) + (IntKind.u64.wrap n22))))).fdiv (2 ^ (min (32 : Int).toNat IntKind.u64.bits))), (IntKind.i64.wrap (s15.2.1 + 1)), ()) w24)
                (J12 (s15.1, ()) w17))
              (0, 0, ()) w11)
            (fun s13 w14 =>
              (0 : Int) ≤ (IntKind.i64.wrap (s9.1 + ((q1l : Nat) : Int))) ∧ (IntKind.i64.wrap (s9.1 + ((q1l : Nat) : Int))) < ((IntKind.i64.wrap (((q0l : Nat) : Int) + ((q1l : Nat) : Int))).toNat : Nat) ∧
              stM (p4.add ((IntKind.i64.wrap (s9.1 + ((q1l : Nat) : Int))).toNat * 1)) (.int .u32 (IntKind.u32.wrap s13.1)) w14 fun w25 =>
              X10 ((IntKind.i64.wrap (s9.1 + 1)), ()) w25))
          (J6 (()) w11))
        (0, ()) w5)
      (fun s7 w8 =>
        CallsX P N.f_bignum_trim #[.slice (some p4) ((IntKind.i64.wrap (((q0l : Nat) : Int) + ((q1l : Nat) : Int))).toNat) ((IntKind.i64.wrap (((q0l : Nat) : Int) + ((q1l : Nat) : Int))).toNat)] w8 fun v27 w26 =>
        ∃ (s28a : Option Addr) (s28l s28c : Nat), v27 = (.slice s28a s28l s28c) ∧
        K (.slice s28a s28l s28c) w26)))

/-- girder/bignum.twin -/
def S_bignum_twin (N : Nums) (P : Program) (q0 : Option Addr) (q0l q0c : Nat) (w : World) (K : Value → World → Prop) : Prop :=
  appM N.t_uint32 1 4 #[.int .u32 0] none 0 0 q0 q0l w fun s1a s1l s1c w2 =>
  K (.slice s1a s1l s1c) w2

/-- girder/bignum.add -/
def S_bignum_add (N : Nums) (P : Program) (q0 : Option Addr) (q0l q0c : Nat) (q1 : Option Addr) (q1l q1c : Nat) (w : World) (K : Value → World → Prop) : Prop :=
  cutM (σ := (Option Addr × Nat × Nat) × (Option Addr × Nat × Nat) × Unit) (fun J1 =>
    cond (decide (((q0l : Nat) : Int) < ((q1l : Nat) : Int)))
    (J1 ((q1, q1l, q1c), (q0, q0l, q0c), ()) w)
    (J1 ((q0, q0l, q0c), (q1, q1l, q1c), ()) w))
  (fun s2 w3 =>
    mkM N.t_uint32 1 4 #[.int .u32 0] (IntKind.i64.wrap (((s2.1.2.1 : Nat) : Int) + 1)) (IntKind.i64.wrap (((s2.1.2.1 : Nat) : Int) + 1)) w3 fun p4 w5 =>
    cutM (σ := Int × Unit) (fun J6 =>
      loopM (σ := Int × Int × Unit) (fun s9 X10 w11 =>
        cond (decide (s9.2.1 < ((s2.1.2.1 : Nat) : Int)))
        ((0 : Int) ≤ s9.2.1 ∧ s9.2.1 < (s2.1.2.1 : Nat) ∧
          optM s2.1.1 fun a12 =>
          ∃ n13 : Int, w11.cell? (a12.add (s9.2.1.toNat * 1)) = some (.int .u32 n13) ∧
          cutM (σ := Int × Unit) (fun J14 =>
            cond (decide (s9.2.1 < ((s2.2.1.2.1 : Nat) : Int)))
            ((0 : Int) ≤ s9.2.1 ∧ s9.2.1 < (s2.2.1.2.1 : Nat) ∧
              optM s2.2.1.1 fun a17 =>
              ∃ n18 : Int, w11.cell? (a17.add (s9.2.1.toNat * 1)) = some (.int .u32 n18) ∧
              J14 ((IntKind.u64.wrap ((IntKind.u64.wrap (s9.1 + (IntKind.u64.wrap n13))) + (IntKind.u64.wrap n18))), ()) w11)
            (J14 ((IntKind.u64.wrap (s9.1 + (IntKind.u64.wrap n13))), ()) w11))
          (fun s15 w16 =>
            (0 : Int) ≤ s9.2.1 ∧ s9.2.1 < ((IntKind.i64.wrap (((s2.1.2.1 : Nat) : Int) + 1)).toNat : Nat) ∧
            stM (p4.add (s9.2.1.toNat * 1)) (.int .u32 (IntKind.u32.wrap s15.1)) w16 fun w19 =>
            (0 : Int) ≤ 32 ∧
            X10 ((s15.1.fdiv (2 ^ (min (32 : Int).toNat IntKind.u64.bits))), (IntKind.i64.wrap (s9.2.1 + 1)), ()) w19))
        (J6 (s9.1, ()) w11))
      (0, 0, ()) w5)
    (fun s7 w8 =>
      (0 : Int) ≤ ((s2.1.2.1 : Nat) : Int) ∧ ((s2.1.2.1 : Nat) : Int) < ((IntKind.i64.wrap (((s2.1.2.1 : Nat) : Int) + 1)).toNat : Nat) ∧
      stM (p4.add (((s2.1.2.1 : Nat) : Int).toNat * 1)) (.int .u32 (IntKind.u32.wrap s7.1)) w8 fun w20 =>
      CallsX P N.f_bignum_trim #[.slice (some p4) ((IntKind.i64.wrap (((s2.1.2.1 : Nat) : Int) + 1)).toNat) ((IntKind.i64.wrap (((s2.1.2.1 : Nat) : Int) + 1)).toNat)] w20 fun v22 w21 =>
      ∃ (s23a : Option Addr) (s23l s23c : Nat), v22 = (.slice s23a s23l s23c) ∧
      K (.slice s23a s23l s23c) w21))

/-- girder/bignum.right -/
def S_bignum_right (N : Nums) (P : Program) (q0 : Option Addr) (q0l q0c : Nat) (q1 : Int) (w : World) (K : Value → World → Prop) : Prop :=
  (32 : Int) ≠ 0 ∧
  (32 : Int) ≠ 0 ∧
  cond (decide ((IntKind.i64.wrap (IntKind.u64.wrap (q1.tdiv 32))) ≥ ((q0l : Nat) : Int)))
  (K (.slice none 0 0) w)
  (mkM N.t_uint32 1 4 #[.int .u32 0] (IntKind.i64.wrap (((q0l : Nat) : Int) - (IntKind.i64.wrap (IntKind.u64.wrap (q1.tdiv 32))))) (IntKind.i64.wrap (((q0l : Nat) : Int) - (IntKind.i64.wrap (IntKind.u64.wrap (q1.tdiv 32))))) w fun p1 w2 =>
    cutM (σ := Unit) (fun J3 =>
      loopM (σ := Int × Unit) (fun s6 X7 w8 =>
        cond (decide (s6.1 < (((IntKind.i64.wrap (((q0l : Nat) : Int) - (IntKind.i64.wrap (IntKind.u64.wrap (q1.tdiv 32))))).toNat : Nat) : Int)))
        ((0 : Int) ≤ (IntKind.i64.wrap (s6.1 + (IntKind.i64.wrap (IntKind.u64.wrap (q1.tdiv 32))))) ∧ (IntKind.i64.wrap (s6.1 + (IntKind.i64.wrap (IntKind.u64.wrap (q1.tdiv 32))))) < (q0l : Nat) ∧
          optM q0 fun a9 =>
          ∃ n10 : Int, w8.cell? (a9.add ((IntKind.i64.wrap (s6.1 + (IntKind.i64.wrap (IntKind.u64.wrap (q1.tdiv 32))))).toNat * 1)) = some (.int .u32 n10) ∧
          cutM (σ := Int × Unit) (fun J11 =>
            cond (decide ((IntKind.i64.wrap ((IntKind.i64.wrap (s6.1 + (IntKind.i64.wrap (IntKind.u64.wrap (q1.tdiv 32))))) + 1)) < ((q0l : Nat) : Int)))
            ((0 : Int) ≤ (IntKind.i64.wrap ((IntKind.i64.wrap (s6.1 + (IntKind.i64.wrap (IntKind.u64.wrap (q1.tdiv 32))))) + 1)) ∧ (IntKind.i64.wrap ((IntKind.i64.wrap (s6.1 + (IntKind.i64.wrap (IntKind.u64.wrap (q1.tdiv 32))))) + 1)) < (q0l : Nat) ∧
              optM q0 fun a14 =>
              ∃ n15 : Int, w8.cell? (a14.add ((IntKind.i64.wrap ((IntKind.i64.wrap (s6.1 + (IntKind.i64.wrap (IntKind.u64.wrap (q1.tdiv 32))))) + 1)).toNat * 1)) = some (.int .u32 n15) ∧
              (0 : Int) ≤ 32 ∧
              J11 ((IntKind.u64.wrap (BitVec.ofInt IntKind.u64.bits (IntKind.u64.wrap n10) ||| BitVec.ofInt IntKind.u64.bits (IntKind.u64.wrap ((IntKind.u64.wrap n15) * 2 ^ (min (32 : Int).toNat IntKind.u64.bits)))).toNat), ()) w8)
            (J11 ((IntKind.u64.wrap n10), ()) w8))
          (fun s12 w13 =>
            (0 : Int) ≤ (q1.tmod 32) ∧
            (0 : Int) ≤ s6.1 ∧ s6.1 < ((IntKind.i64.wrap (((q0l : Nat) : Int) - (IntKind.i64.wrap (IntKind.u64.wrap (q1.tdiv 32))))).toNat : Nat) ∧
            stM (p1.add (s6.1.toNat * 1)) (.int .u32 (IntKind.u32.wrap (s12.1.fdiv (2 ^ (min (q1.tmod 32).toNat IntKind.u64.bits))))) w13 fun w16 =>
            X7 ((IntKind.i64.wrap (s6.1 + 1)), ()) w16))
        (J3 (()) w8))
      (0, ()) w2)
    (fun s4 w5 =>
      CallsX P N.f_bignum_trim #[.slice (some p1) ((IntKind.i64.wrap (((q0l : Nat) : Int) - (IntKind.i64.wrap (IntKind.u64.wrap (q1.tdiv 32))))).toNat) ((IntKind.i64.wrap (((q0l : Nat) : Int) - (IntKind.i64.wrap (IntKind.u64.wrap (q1.tdiv 32))))).toNat)] w5 fun v18 w17 =>
      ∃ (s19a : Option Addr) (s19l s19c : Nat), v18 = (.slice s19a s19l s19c) ∧
      K (.slice s19a s19l s19c) w17))

/-- girder/bignum.sub -/
def S_bignum_sub (N : Nums) (P : Program) (q0 : Option Addr) (q0l q0c : Nat) (q1 : Option Addr) (q1l q1c : Nat) (w : World) (K : Value → World → Prop) : Prop :=
  mkM N.t_uint32 1 4 #[.int .u32 0] ((q0l : Nat) : Int) ((q0l : Nat) : Int) w fun p1 w2 =>
  cutM (σ := Unit) (fun J3 =>
    loopM (σ := Int × Int × Unit) (fun s6 X7 w8 =>
      cond (decide (s6.2.1 < ((q0l : Nat) : Int)))
      ((0 : Int) ≤ s6.2.1 ∧ s6.2.1 < (q0l : Nat) ∧
        optM q0 fun a9 =>
        ∃ n10 : Int, w8.cell? (a9.add (s6.2.1.toNat * 1)) = some (.int .u32 n10) ∧
        cutM (σ := Int × Unit) (fun J11 =>
          cond (decide (s6.2.1 < ((q1l : Nat) : Int)))
          ((0 : Int) ≤ s6.2.1 ∧ s6.2.1 < (q1l : Nat) ∧
            optM q1 fun a14 =>
            ∃ n15 : Int, w8.cell? (a14.add (s6.2.1.toNat * 1)) = some (.int .u32 n15) ∧
            J11 ((IntKind.u64.wrap ((IntKind.u64.wrap ((IntKind.u64.wrap n10) - s6.1)) - (IntKind.u64.wrap n15))), ()) w8)
          (J11 ((IntKind.u64.wrap ((IntKind.u64.wrap n10) - s6.1)), ()) w8))
        (fun s12 w13 =>
          (0 : Int) ≤ s6.2.1 ∧ s6.2.1 < (((q0l : Nat) : Int).toNat : Nat) ∧
          stM (p1.add (s6.2.1.toNat * 1)) (.int .u32 (IntKind.u32.wrap s12.1)) w13 fun w16 =>
          (0 : Int) ≤ 63 ∧
          X7 ((s12.1.fdiv (2 ^ (min (63 : Int).toNat IntKind.u64.bits))), (IntKind.i64.wrap (s6.2.1 + 1)), ()) w16))
      (J3 (()) w8))
    (0, 0, ()) w2)
  (fun s4 w5 =>
    CallsX P N.f_bignum_trim #[.slice (some p1) (((q0l : Nat) : Int).toNat) (((q0l : Nat) : Int).toNat)] w5 fun v18 w17 =>
    ∃ (s19a : Option Addr) (s19l s19c : Nat), v18 = (.slice s19a s19l s19c) ∧
    K (.slice s19a s19l s19c) w17)

/-- girder/bignum.cmp -/
def S_bignum_cmp (N : Nums) (P : Program) (q0 : Option Addr) (q0l q0c : Nat) (q1 : Option Addr) (q1l q1c : Nat) (w : World) (K : Value → World → Prop) : Prop :=
  cond (((q0l : Nat) : Int) != ((q1l : Nat) : Int))
  (cond (decide (((q0l : Nat) : Int) < ((q1l : Nat) : Int)))
    (K (.int .i64 (-1)) w)
    (K (.int .i64 1) w))
  (cutM (σ := Unit) (fun J1 =>
      loopM (σ := Int × Unit) (fun s4 X5 w6 =>
        cond (decide (s4.1 ≥ 0))
        ((0 : Int) ≤ s4.1 ∧ s4.1 < (q0l : Nat) ∧
          optM q0 fun a7 =>
          ∃ n8 : Int, w6.cell? (a7.add (s4.1.toNat * 1)) = some (.int .u32 n8) ∧
          (0 : Int) ≤ s4.1 ∧ s4.1 < (q1l : Nat) ∧
          optM q1 fun a9 =>
          ∃ n10 : Int, w6.cell? (a9.add (s4.1.toNat * 1)) = some (.int .u32 n10) ∧
          drM w6 fun w11 =>
          cond (n8 != n10)
          ((0 : Int) ≤ s4.1 ∧ s4.1 < (q0l : Nat) ∧
            optM q0 fun a12 =>
            ∃ n13 : Int, w11.cell? (a12.add (s4.1.toNat * 1)) = some (.int .u32 n13) ∧
            (0 : Int) ≤ s4.1 ∧ s4.1 < (q1l : Nat) ∧
            optM q1 fun a14 =>
            ∃ n15 : Int, w11.cell? (a14.add (s4.1.toNat * 1)) = some (.int .u32 n15) ∧
            drM w11 fun w16 =>
            cond (decide (n13 < n15))
            (K (.int .i64 (-1)) w16)
            (K (.int .i64 1) w16))
          (X5 ((IntKind.i64.wrap (s4.1 - 1)), ()) w11))
        (J1 (()) w6))
      ((IntKind.i64.wrap (((q0l : Nat) : Int) - 1)), ()) w)
    (fun s2 w3 =>
      K (.int .i64 0) w3))

/-- girder/bits.Join -/
def S_bits_Join (N : Nums) (P : Program) (q0_0 : Bool) (q0_1 : Int) (q0_2 : Int) (w : World) (K : Value → World → Prop) : Prop :=
  newM #[.bool q0_0, .int .u64 q0_1, .int .i64 q0_2] N.t_Parts w fun p1 w2 =>
  ∃ n3 : Int, w2.cell? (p1.add 1) = some (.int .u64 n3) ∧
  CallsX P N.f_math_bits_Len64 #[.int .u64 n3] w2 fun v5 w4 =>
  ∃ n6 : Int, v5 = (.int .i64 n6) ∧
  cutM (σ := Bool × Unit) (fun J7 =>
    ∃ n10 : Int, w4.cell? (p1.add 1) = some (.int .u64 n10) ∧
    cond (n10 == 0)
    (∃ n11 : Int, w4.cell? (p1.add 2) = some (.int .i64 n11) ∧
      cond (!(n11 != 0))
      (∃ n12 : Int, w4.cell? (p1.add 1) = some (.int .u64 n12) ∧
        cond (n12 != 0)
        (∃ n13 : Int, w4.cell? (p1.add 1) = some (.int .u64 n13) ∧
          (2 : Int) ≠ 0 ∧
          J7 (((n13.tmod 2) == 0), ()) w4)
        (J7 (false, ()) w4))
      (J7 (true, ()) w4))
    (∃ n14 : Int, w4.cell? (p1.add 1) = some (.int .u64 n14) ∧
      cond (n14 != 0)
      (∃ n15 : Int, w4.cell? (p1.add 1) = some (.int .u64 n15) ∧
        (2 : Int) ≠ 0 ∧
        J7 (((n15.tmod 2) == 0), ()) w4)
      (J7 (false, ()) w4)))
  (fun s8 w9 =>
    cond s8.1
    (K (.tuple #[.float .f64 0, .bool false]) w9)
    (cutM (σ := Bool × Unit) (fun J16 =>
        cond (!(decide (n6 > 53)))
        (∃ n19 : Int, w9.cell? (p1.add 2) = some (.int .i64 n19) ∧
          cond (!(decide (n19 > 1024)))
          (∃ n20 : Int, w9.cell? (p1.add 2) = some (.int .i64 n20) ∧
            cond (!(decide (n20 < (-1074))))
            (∃ n21 : Int, w9.cell? (p1.add 1) = some (.int .u64 n21) ∧
              cond (n21 != 0)
              (∃ n22 : Int, w9.cell? (p1.add 2) = some (.int .i64 n22) ∧
                J16 ((decide ((IntKind.i64.wrap (n22 + n6)) > 1024)), ()) w9)
              (J16 (false, ()) w9))
            (J16 (true, ()) w9))
          (J16 (true, ()) w9))
        (J16 (true, ()) w9))
      (fun s17 w18 =>
        cond s17.1
        (K (.tuple #[.float .f64 0, .bool false]) w18)
        (∃ n23 : Int, w18.cell? (p1.add 1) = some (.int .u64 n23) ∧
          ∃ n24 : Int, w18.cell? (p1.add 2) = some (.int .i64 n24) ∧
          CallsX P N.f_math_Ldexp #[.float .f64 (FloatKind.f64.nearest n23), .int .i64 n24] w18 fun v26 w25 =>
          ∃ x27 : Nat, v26 = (.float .f64 x27) ∧
          ∃ b28 : Bool, w25.cell? p1 = some (.bool b28) ∧
          cutM (σ := Nat × Unit) (fun J29 =>
            cond b28
            (CallsX P N.f_math_Copysign #[.float .f64 x27, .float .f64 13830554455654793216] w25 fun v33 w32 =>
              ∃ x34 : Nat, v33 = (.float .f64 x34) ∧
              J29 (x34, ()) w32)
            (J29 (x27, ()) w25))
          (fun s30 w31 =>
            K (.tuple #[.float .f64 s30.1, .bool true]) w31)))))

/-- girder/bits.Next -/
def S_bits_Next (N : Nums) (P : Program) (q0 : Nat) (q1 : Bool) (w : World) (K : Value → World → Prop) : Prop :=
  CallsX P N.f_bits_Place #[.float .f64 q0] w fun v2 w1 =>
  ∃ n3 : Int, ∃ b4 : Bool, v2 = (.tuple #[.int .i64 n3, .bool b4]) ∧
  cond (!b4)
  (K (.float .f64 q0) w1)
  (cutM (σ := Int × Unit) (fun J5 =>
      cond q1
      (J5 ((if 9218868437227405312 < (IntKind.i64.wrap (n3 + 1)) then 9218868437227405312 else (IntKind.i64.wrap (n3 + 1))), ()) w1)
      (J5 ((if (-9218868437227405312) > (IntKind.i64.wrap (n3 - 1)) then (-9218868437227405312) else (IntKind.i64.wrap (n3 - 1))), ()) w1))
    (fun s6 w7 =>
      CallsX P N.f_bits_At #[.int .i64 s6.1] w7 fun v9 w8 =>
      ∃ x10 : Nat, ∃ b11 : Bool, v9 = (.tuple #[.float .f64 x10, .bool b11]) ∧
      K (.float .f64 x10) w8))

/-- math.IsInf -/
def S_math_IsInf (N : Nums) (P : Program) (q0 : Nat) (q1 : Int) (w : World) (K : Value → World → Prop) : Prop :=
  cutM (σ := Nat × Unit) (fun J1 =>
    cond (q1 == 0)
    (CallsX P N.f_math_Abs #[.float .f64 q0] w fun v5 w4 =>
      ∃ x6 : Nat, v5 = (.float .f64 x6) ∧
      J1 (x6, ()) w4)
    (cutM (σ := Nat × Unit) (fun J7 =>
        cond (decide (q1 < 0))
        (J7 ((fneg q0), ()) w)
        (J7 (q0, ()) w))
      (fun s8 w9 =>
        J1 (s8.1, ()) w9)))
  (fun s2 w3 =>
    K (.bool (fgt s2.1 9218868437227405311)) w3)

/-- math.frexp -/
def S_math_frexp (N : Nums) (P : Program) (q0 : Nat) (w : World) (K : Value → World → Prop) : Prop :=
  cond (feq q0 0)
  (K (.tuple #[.float .f64 q0, .int .i64 0]) w)
  (CallsX P N.f_math_IsInf #[.float .f64 q0, .int .i64 0] w fun v2 w1 =>
    ∃ b3 : Bool, v2 = (.bool b3) ∧
    cond (!b3)
    (CallsX P N.f_math_IsNaN #[.float .f64 q0] w1 fun v5 w4 =>
      ∃ b6 : Bool, v5 = (.bool b6) ∧
      cond b6
      (K (.tuple #[.float .f64 q0, .int .i64 0]) w4)
      (CallsX P N.f_math_normalize #[.float .f64 q0] w4 fun v8 w7 =>
        ∃ x9 : Nat, ∃ n10 : Int, v8 = (.tuple #[.float .f64 x9, .int .i64 n10]) ∧
        CallsX P N.f_math_Float64bits #[.float .f64 x9] w7 fun v12 w11 =>
        ∃ n13 : Int, v12 = (.int .u64 n13) ∧
        (0 : Int) ≤ 52 ∧
        CallsX P N.f_math_Float64frombits #[.int .u64 (IntKind.u64.wrap (BitVec.ofInt IntKind.u64.bits (IntKind.u64.wrap (BitVec.ofInt IntKind.u64.bits n13 &&& ~~~BitVec.ofInt IntKind.u64.bits 9218868437227405312).toNat) ||| BitVec.ofInt IntKind.u64.bits 4602678819172646912).toNat)] w11 fun v15 w14 =>
        ∃ x16 : Nat, v15 = (.float .f64 x16) ∧
        K (.tuple #[.float .f64 x16, .int .i64 (IntKind.i64.wrap (n10 + (IntKind.i64.wrap ((IntKind.i64.wrap ((IntKind.i64.wrap (IntKind.u64.wrap (BitVec.ofInt IntKind.u64.bits (n13.fdiv (2 ^ (min (52 : Int).toNat IntKind.u64.bits))) &&& BitVec.ofInt IntKind.u64.bits 2047).toNat)) - 1023)) + 1))))]) w14))
    (K (.tuple #[.float .f64 q0, .int .i64 0]) w1))

/-- math.ldexp -/
def S_math_ldexp (N : Nums) (P : Program) (q0 : Nat) (q1 : Int) (w : World) (K : Value → World → Prop) : Prop :=
  cond (feq q0 0)
  (K (.float .f64 q0) w)
  (cutM (σ := Bool × Unit) (fun J1 =>
      CallsX P N.f_math_IsInf #[.float .f64 q0, .int .i64 0] w fun v5 w4 =>
      ∃ b6 : Bool, v5 = (.bool b6) ∧
      cond (!b6)
      (CallsX P N.f_math_IsNaN #[.float .f64 q0] w4 fun v8 w7 =>
        ∃ b9 : Bool, v8 = (.bool b9) ∧
        J1 (b9, ()) w7)
      (J1 (true, ()) w4))
    (fun s2 w3 =>
      cond s2.1
      (K (.float .f64 q0) w3)
      (CallsX P N.f_math_normalize #[.float .f64 q0] w3 fun v11 w10 =>
        ∃ x12 : Nat, ∃ n13 : Int, v11 = (.tuple #[.float .f64 x12, .int .i64 n13]) ∧
        CallsX P N.f_math_Float64bits #[.float .f64 x12] w10 fun v15 w14 =>
        ∃ n16 : Int, v15 = (.int .u64 n16) ∧
        (0 : Int) ≤ 52 ∧
        cond (decide ((IntKind.i64.wrap ((IntKind.i64.wrap (q1 + n13)) + (IntKind.i64.wrap ((IntKind.i64.wrap (BitVec.ofInt IntKind.i64.bits (IntKind.i64.wrap (n16.fdiv (2 ^ (min (52 : Int).toNat IntKind.u64.bits)))) &&& BitVec.ofInt IntKind.i64.bits 2047).toNat) - 1023)))) < (-1075)))
        (CallsX P N.f_math_Copysign #[.float .f64 0, .float .f64 x12] w14 fun v18 w17 =>
          ∃ x19 : Nat, v18 = (.float .f64 x19) ∧
          K (.float .f64 x19) w17)
        (cond (decide ((IntKind.i64.wrap ((IntKind.i64.wrap (q1 + n13)) + (IntKind.i64.wrap ((IntKind.i64.wrap (BitVec.ofInt IntKind.i64.bits (IntKind.i64.wrap (n16.fdiv (2 ^ (min (52 : Int).toNat IntKind.u64.bits)))) &&& BitVec.ofInt IntKind.i64.bits 2047).toNat) - 1023)))) > 1023))
          (cond (flt x12 0)
            (CallsX P N.f_math_Inf #[.int .i64 (-1)] w14 fun v21 w20 =>
              ∃ x22 : Nat, v21 = (.float .f64 x22) ∧
              K (.float .f64 x22) w20)
            (CallsX P N.f_math_Inf #[.int .i64 1] w14 fun v24 w23 =>
              ∃ x25 : Nat, v24 = (.float .f64 x25) ∧
              K (.float .f64 x25) w23))
          (cutM (σ := Int × Nat × Unit) (fun J26 =>
              cond (decide ((IntKind.i64.wrap ((IntKind.i64.wrap (q1 + n13)) + (IntKind.i64.wrap ((IntKind.i64.wrap (BitVec.ofInt IntKind.i64.bits (IntKind.i64.wrap (n16.fdiv (2 ^ (min (52 : Int).toNat IntKind.u64.bits)))) &&& BitVec.ofInt IntKind.i64.bits 2047).toNat) - 1023)))) < (-1022)))
              (J26 ((IntKind.i64.wrap ((IntKind.i64.wrap ((IntKind.i64.wrap (q1 + n13)) + (IntKind.i64.wrap ((IntKind.i64.wrap (BitVec.ofInt IntKind.i64.bits (IntKind.i64.wrap (n16.fdiv (2 ^ (min (52 : Int).toNat IntKind.u64.bits)))) &&& BitVec.ofInt IntKind.i64.bits 2047).toNat) - 1023)))) + 53)), 4368491638549381120, ()) w14)
              (J26 ((IntKind.i64.wrap ((IntKind.i64.wrap (q1 + n13)) + (IntKind.i64.wrap ((IntKind.i64.wrap (BitVec.ofInt IntKind.i64.bits (IntKind.i64.wrap (n16.fdiv (2 ^ (min (52 : Int).toNat IntKind.u64.bits)))) &&& BitVec.ofInt IntKind.i64.bits 2047).toNat) - 1023)))), 4607182418800017408, ()) w14))
            (fun s27 w28 =>
              (0 : Int) ≤ 52 ∧
              CallsX P N.f_math_Float64frombits #[.int .u64 (IntKind.u64.wrap (BitVec.ofInt IntKind.u64.bits (IntKind.u64.wrap (BitVec.ofInt IntKind.u64.bits n16 &&& ~~~BitVec.ofInt IntKind.u64.bits 9218868437227405312).toNat) ||| BitVec.ofInt IntKind.u64.bits (IntKind.u64.wrap ((IntKind.u64.wrap (IntKind.i64.wrap (s27.1 + 1023))) * 2 ^ (min (52 : Int).toNat IntKind.u64.bits)))).toNat)] w28 fun v30 w29 =>
              ∃ x31 : Nat, v30 = (.float .f64 x31) ∧
              fresM (fmul s27.2.1 x31) w29 fun x32 w33 =>
              K (.float .f64 x32) w33))))))

/-- girder/girderref01.Kind -/
def S_girderref01_Kind (N : Nums) (P : Program) (q0 : Nat) (w : World) (K : Value → World → Prop) : Prop :=
  CallsX P N.f_girderref01_fields #[.float .f64 q0] w fun v2 w1 =>
  ∃ b3 : Bool, ∃ n4 : Int, ∃ n5 : Int, v2 = (.tuple #[.bool b3, .int .i64 n4, .int .u64 n5]) ∧
  cond (n4 == 2047)
  (cond (n5 != 0)
    (K (.int .i64 4) w1)
    (cond (n4 == 2047)
      (K (.int .i64 3) w1)
      (cond (decide (n4 > 0))
        (K (.int .i64 2) w1)
        (cond (n5 != 0)
          (K (.int .i64 1) w1)
          (K (.int .i64 0) w1)))))
  (cond (n4 == 2047)
    (K (.int .i64 3) w1)
    (cond (decide (n4 > 0))
      (K (.int .i64 2) w1)
      (cond (n5 != 0)
        (K (.int .i64 1) w1)
        (K (.int .i64 0) w1))))

/-- girder/girderref02.halves -/
def S_girderref02_halves (N : Nums) (P : Program) (q0 : Option Addr) (q0l q0c : Nat) (w : World) (K : Value → World → Prop) : Prop :=
  cutM (σ := (Option Addr × Nat × Nat) × Unit) (fun J1 =>
    loopM (σ := (Option Addr × Nat × Nat) × Int × Unit) (fun s4 X5 w6 =>
      cond (decide (s4.2.1 < ((q0l : Nat) : Int)))
      ((0 : Int) ≤ s4.2.1 ∧ s4.2.1 < (q0l : Nat) ∧
        optM q0 fun a7 =>
        ∃ n8 : Int, w6.cell? (a7.add (s4.2.1.toNat * 1)) = some (.int .u64 n8) ∧
        (4294967296 : Int) ≠ 0 ∧
        (0 : Int) ≤ s4.2.1 ∧ s4.2.1 < (q0l : Nat) ∧
        optM q0 fun a9 =>
        ∃ n10 : Int, w6.cell? (a9.add (s4.2.1.toNat * 1)) = some (.int .u64 n10) ∧
        (4294967296 : Int) ≠ 0 ∧
        drM w6 fun w11 =>
        newM #[.int .u64 (n8.tmod 4294967296), .int .u64 (IntKind.u64.wrap (n10.tdiv 4294967296))] N.t_uint64 w11 fun p12 w13 =>
        drM w13 fun w14 =>
        appM N.t_uint64 1 8 #[.int .u64 0] s4.1.1 s4.1.2.1 s4.1.2.2 (some p12) 2 w14 fun s15a s15l s15c w16 =>
        drM w16 fun w17 =>
        X5 ((s15a, s15l, s15c), (IntKind.i64.wrap (s4.2.1 + 1)), ()) w17)
      (J1 ((s4.1.1, s4.1.2.1, s4.1.2.2), ()) w6))
    ((none, 0, 0), 0, ()) w)
  (fun s2 w3 =>
    CallsX P N.f_girderref02_low #[.slice s2.1.1 s2.1.2.1 s2.1.2.2] w3 fun v19 w18 =>
    ∃ (s20a : Option Addr) (s20l s20c : Nat), v19 = (.slice s20a s20l s20c) ∧
    K (.slice s20a s20l s20c) w18)

/-- girder/girderref02.short -/
def S_girderref02_short (N : Nums) (P : Program) (q0 : Option Addr) (q0l q0c : Nat) (q1 : Int) (w : World) (K : Value → World → Prop) : Prop :=
  mkM N.t_uint64 1 8 #[.int .u64 0] ((q0l : Nat) : Int) ((q0l : Nat) : Int) w fun p1 w2 =>
  cutM (σ := Int × Unit) (fun J3 =>
    loopM (σ := Int × Int × Unit) (fun s6 X7 w8 =>
      cond (decide (s6.2.1 ≥ 0))
      ((0 : Int) ≤ s6.2.1 ∧ s6.2.1 < (q0l : Nat) ∧
        optM q0 fun a9 =>
        ∃ n10 : Int, w8.cell? (a9.add (s6.2.1.toNat * 1)) = some (.int .u64 n10) ∧
        (q1 : Int) ≠ 0 ∧
        (0 : Int) ≤ s6.2.1 ∧ s6.2.1 < (((q0l : Nat) : Int).toNat : Nat) ∧
        stM (p1.add (s6.2.1.toNat * 1)) (.int .u64 (IntKind.u64.wrap ((IntKind.u64.wrap ((IntKind.u64.wrap (s6.1 * 4294967296)) + n10)).tdiv q1))) w8 fun w11 =>
        (q1 : Int) ≠ 0 ∧
        X7 (((IntKind.u64.wrap ((IntKind.u64.wrap (s6.1 * 4294967296)) + n10)).tmod q1), (IntKind.i64.wrap (s6.2.1 - 1)), ()) w11)
      (J3 (s6.1, ()) w8))
    (0, (IntKind.i64.wrap (((q0l : Nat) : Int) - 1)), ()) w2)
  (fun s4 w5 =>
    CallsX P N.f_girderref02_low #[.slice (some p1) (((q0l : Nat) : Int).toNat) (((q0l : Nat) : Int).toNat)] w5 fun v13 w12 =>
    ∃ (s14a : Option Addr) (s14l s14c : Nat), v13 = (.slice s14a s14l s14c) ∧
    K (.tuple #[.slice s14a s14l s14c, .int .u64 s4.1]) w12)

/-- girder/girderref02.limbs -/
def S_girderref02_limbs (N : Nums) (P : Program) (q0 : Option Addr) (q0l q0c : Nat) (w : World) (K : Value → World → Prop) : Prop :=
  cutM (σ := (Option Addr × Nat × Nat) × Unit) (fun J1 =>
    loopM (σ := (Option Addr × Nat × Nat) × Int × Unit) (fun s4 X5 w6 =>
      cond (decide (s4.2.1 < ((q0l : Nat) : Int)))
      ((0 : Int) ≤ s4.2.1 ∧ s4.2.1 < (q0l : Nat) ∧
        optM q0 fun a7 =>
        ∃ n8 : Int, w6.cell? (a7.add (s4.2.1.toNat * 1)) = some (.int .u64 n8) ∧
        cutM (σ := Int × Unit) (fun J9 =>
          cond (decide ((IntKind.i64.wrap (s4.2.1 + 1)) < ((q0l : Nat) : Int)))
          ((0 : Int) ≤ (IntKind.i64.wrap (s4.2.1 + 1)) ∧ (IntKind.i64.wrap (s4.2.1 + 1)) < (q0l : Nat) ∧
            optM q0 fun a12 =>
            ∃ n13 : Int, w6.cell? (a12.add ((IntKind.i64.wrap (s4.2.1 + 1)).toNat * 1)) = some (.int .u64 n13) ∧
            J9 ((IntKind.u64.wrap (n8 + (IntKind.u64.wrap (4294967296 * n13)))), ()) w6)
          (J9 (n8, ()) w6))
        (fun s10 w11 =>
          newM #[.int .u64 s10.1] N.t_uint64 w11 fun p14 w15 =>
          appM N.t_uint64 1 8 #[.int .u64 0] s4.1.1 s4.1.2.1 s4.1.2.2 (some p14) 1 w15 fun s16a s16l s16c w17 =>
          X5 ((s16a, s16l, s16c), (IntKind.i64.wrap (s4.2.1 + 2)), ()) w17))
      (J1 ((s4.1.1, s4.1.2.1, s4.1.2.2), ()) w6))
    ((none, 0, 0), 0, ()) w)
  (fun s2 w3 =>
    CallsX P N.f_girderref02_NatTrim #[.slice s2.1.1 s2.1.2.1 s2.1.2.2] w3 fun v19 w18 =>
    ∃ (s20a : Option Addr) (s20l s20c : Nat), v19 = (.slice s20a s20l s20c) ∧
    K (.slice s20a s20l s20c) w18)

/-- girder/bignum.bit -/
def S_bignum_bit (N : Nums) (P : Program) (q0 : Option Addr) (q0l q0c : Nat) (q1 : Int) (w : World) (K : Value → World → Prop) : Prop :=
  cond (!(decide (q1 < 0)))
  ((32 : Int) ≠ 0 ∧
    cond (decide ((IntKind.i64.wrap (q1.tdiv 32)) ≥ ((q0l : Nat) : Int)))
    (K (.int .u64 0) w)
    ((32 : Int) ≠ 0 ∧
      (0 : Int) ≤ (IntKind.i64.wrap (q1.tdiv 32)) ∧ (IntKind.i64.wrap (q1.tdiv 32)) < (q0l : Nat) ∧
      optM q0 fun a1 =>
      ∃ n2 : Int, w.cell? (a1.add ((IntKind.i64.wrap (q1.tdiv 32)).toNat * 1)) = some (.int .u32 n2) ∧
      (32 : Int) ≠ 0 ∧
      (0 : Int) ≤ ((IntKind.u64.wrap q1).tmod 32) ∧
      K (.int .u64 (IntKind.u64.wrap (BitVec.ofInt IntKind.u64.bits (IntKind.u64.wrap (n2.fdiv (2 ^ (min ((IntKind.u64.wrap q1).tmod 32).toNat IntKind.u32.bits)))) &&& BitVec.ofInt IntKind.u64.bits 1).toNat)) w))
  (K (.int .u64 0) w)

/-- girder/bignum.length -/
def S_bignum_length (N : Nums) (P : Program) (q0 : Option Addr) (q0l q0c : Nat) (w : World) (K : Value → World → Prop) : Prop :=
  cond (((q0l : Nat) : Int) == 0)
  (K (.int .i64 0) w)
  ((0 : Int) ≤ (IntKind.i64.wrap (((q0l : Nat) : Int) - 1)) ∧ (IntKind.i64.wrap (((q0l : Nat) : Int) - 1)) < (q0l : Nat) ∧
    optM q0 fun a1 =>
    ∃ n2 : Int, w.cell? (a1.add ((IntKind.i64.wrap (((q0l : Nat) : Int) - 1)).toNat * 1)) = some (.int .u32 n2) ∧
    cutM (σ := Int × Unit) (fun J3 =>
      loopM (σ := Int × Int × Unit) (fun s6 X7 w8 =>
        cond (s6.2.1 != 0)
        ((0 : Int) ≤ 1 ∧
          X7 ((IntKind.i64.wrap (s6.1 + 1)), (s6.2.1.fdiv (2 ^ (min (1 : Int).toNat IntKind.u32.bits))), ()) w8)
        (J3 (s6.1, ()) w8))
      (0, n2, ()) w)
    (fun s4 w5 =>
      K (.int .i64 (IntKind.i64.wrap ((IntKind.i64.wrap ((IntKind.i64.wrap (((q0l : Nat) : Int) - 1)) * 32)) + s4.1))) w5))

/-- (*girder/bignum.Int).And -/
def S_p_bignum_Int_And (N : Nums) (P : Program) (q0 : Option Addr) (q1 : Option Addr) (q2 : Option Addr) (w : World) (K : Value → World → Prop) : Prop :=
  optM q1 fun a1 =>
  ∃ (s2a : Option Addr) (s2l s2c : Nat), w.cell? (a1.add 1) = some (.slice s2a s2l s2c) ∧
  optM q2 fun a3 =>
  ∃ (s4a : Option Addr) (s4l s4c : Nat), w.cell? (a3.add 1) = some (.slice s4a s4l s4c) ∧
  drM w fun w5 =>
  CallsX P N.f_p_bignum_Int_low #[.pointer q1, .int .i64 (IntKind.i64.wrap ((if ((s4l : Nat) : Int) > ((s2l : Nat) : Int) then ((s4l : Nat) : Int) else ((s2l : Nat) : Int)) + 1))] w5 fun v7 w6 =>
  ∃ (s8a : Option Addr) (s8l s8c : Nat), v7 = (.slice s8a s8l s8c) ∧
  CallsX P N.f_p_bignum_Int_low #[.pointer q2, .int .i64 (IntKind.i64.wrap ((if ((s4l : Nat) : Int) > ((s2l : Nat) : Int) then ((s4l : Nat) : Int) else ((s2l : Nat) : Int)) + 1))] w6 fun v10 w9 =>
  ∃ (s11a : Option Addr) (s11l s11c : Nat), v10 = (.slice s11a s11l s11c) ∧
  cutM (σ := Unit) (fun J12 =>
    loopM (σ := Int × Unit) (fun s15 X16 w17 =>
      cond (decide (s15.1 < (IntKind.i64.wrap ((if ((s4l : Nat) : Int) > ((s2l : Nat) : Int) then ((s4l : Nat) : Int) else ((s2l : Nat) : Int)) + 1))))
      ((0 : Int) ≤ s15.1 ∧ s15.1 < (s8l : Nat) ∧
        optM s8a fun a18 =>
        ∃ n19 : Int, w17.cell? (a18.add (s15.1.toNat * 1)) = some (.int .u32 n19) ∧
        (0 : Int) ≤ s15.1 ∧ s15.1 < (s11l : Nat) ∧
        optM s11a fun a20 =>
        ∃ n21 : Int, w17.cell? (a20.add (s15.1.toNat * 1)) = some (.int .u32 n21) ∧
        (0 : Int) ≤ s15.1 ∧ s15.1 < (s8l : Nat) ∧
        optM s8a fun a22 =>
        drM w17 fun w23 =>
        stM (a22.add (s15.1.toNat * 1)) (.int .u32 (IntKind.u32.wrap (BitVec.ofInt IntKind.u32.bits n19 &&& BitVec.ofInt IntKind.u32.bits n21).toNat)) w23 fun w24 =>
        drM w24 fun w25 =>
        X16 ((IntKind.i64.wrap (s15.1 + 1)), ()) w25)
      (J12 (()) w17))
    (0, ()) w9)
  (fun s13 w14 =>
    CallsX P N.f_p_bignum_Int_of #[.pointer q0, .slice s8a s8l s8c] w14 fun v27 w26 =>
    ∃ p28 : (Option Addr), v27 = (.pointer p28) ∧
    K (.pointer p28) w26)

/-- girder/bignum.words -/
def S_bignum_words (N : Nums) (P : Program) (q0 : Int) (w : World) (K : Value → World → Prop) : Prop :=
  (0 : Int) ≤ 32 ∧
  newM #[.int .u32 (IntKind.u32.wrap q0), .int .u32 (IntKind.u32.wrap (q0.fdiv (2 ^ (min (32 : Int).toNat IntKind.u64.bits))))] N.t_uint32 w fun p1 w2 =>
  CallsX P N.f_bignum_trim #[.slice (some p1) 2 2] w2 fun v4 w3 =>
  ∃ (s5a : Option Addr) (s5l s5c : Nat), v4 = (.slice s5a s5l s5c) ∧
  K (.slice s5a s5l s5c) w3

/-- (*girder/bignum.Int).low -/
def S_p_bignum_Int_low (N : Nums) (P : Program) (q0 : Option Addr) (q1 : Int) (w : World) (K : Value → World → Prop) : Prop :=
  mkM N.t_uint32 1 4 #[.int .u32 0] q1 q1 w fun p1 w2 =>
  optM q0 fun a3 =>
  ∃ (s4a : Option Addr) (s4l s4c : Nat), w2.cell? (a3.add 1) = some (.slice s4a s4l s4c) ∧
  copM 1 (some p1) q1.toNat s4a s4l w2 fun w5 =>
  optM q0 fun a6 =>
  ∃ b7 : Bool, w5.cell? a6 = some (.bool b7) ∧
  cutM (σ := Unit) (fun J8 =>
    cond b7
    (cutM (σ := Unit) (fun J11 =>
        loopM (σ := Int × Int × Unit) (fun s14 X15 w16 =>
          cond (decide (s14.2.1 < q1))
          ((0 : Int) ≤ s14.2.1 ∧ s14.2.1 < (q1.toNat : Nat) ∧
            ∃ n17 : Int, w16.cell? (p1.add (s14.2.1.toNat * 1)) = some (.int .u32 n17) ∧
            (0 : Int) ≤ s14.2.1 ∧ s14.2.1 < (q1.toNat : Nat) ∧
            stM (p1.add (s14.2.1.toNat * 1)) (.int .u32 (IntKind.u32.wrap (IntKind.u64.wrap (s14.1 + (IntKind.u64.wrap (IntKind.u32.wrap (BitVec.ofInt IntKind.u32.bits (IntKind.u32.max) ^^^ BitVec.ofInt IntKind.u32.bits n17).toNat)))))) w16 fun w18 =>
            (0 : Int) ≤ 32 ∧
            X15 (((IntKind.u64.wrap (s14.1 + (IntKind.u64.wrap (IntKind.u32.wrap (BitVec.ofInt IntKind.u32.bits (IntKind.u32.max) ^^^ BitVec.ofInt IntKind.u32.bits n17).toNat)))).fdiv (2 ^ (min (32 : Int).toNat IntKind.u64.bits))), (IntKind.i64.wrap (s14.2.1 + 1)), ()) w18)
          (J11 (()) w16))
        (1, 0, ()) w5)
      (fun s12 w13 =>
        J8 (()) w13))
    (J8 (()) w5))
  (fun s9 w10 =>
    K (.slice (some p1) q1.toNat q1.toNat) w10)

/-- (*girder/bignum.Int).of -/
def S_p_bignum_Int_of (N : Nums) (P : Program) (q0 : Option Addr) (q1 : Option Addr) (q1l q1c : Nat) (w : World) (K : Value → World → Prop) : Prop :=
  cutM (σ := Bool × Unit) (fun J1 =>
    cond (decide (((q1l : Nat) : Int) > 0))
    ((0 : Int) ≤ (IntKind.i64.wrap (((q1l : Nat) : Int) - 1)) ∧ (IntKind.i64.wrap (((q1l : Nat) : Int) - 1)) < (q1l : Nat) ∧
      optM q1 fun a4 =>
      ∃ n5 : Int, w.cell? (a4.add ((IntKind.i64.wrap (((q1l : Nat) : Int) - 1)).toNat * 1)) = some (.int .u32 n5) ∧
      (0 : Int) ≤ 31 ∧
      J1 (((n5.fdiv (2 ^ (min (31 : Int).toNat IntKind.u32.bits))) == 1), ()) w)
    (J1 (false, ()) w))
  (fun s2 w3 =>
    cond s2.1
    (cutM (σ := Unit) (fun J6 =>
        loopM (σ := Int × Int × Unit) (fun s9 X10 w11 =>
          cond (decide (s9.2.1 < ((q1l : Nat) : Int)))
          ((0 : Int) ≤ s9.2.1 ∧ s9.2.1 < (q1l : Nat) ∧
            optM q1 fun a12 =>
            ∃ n13 : Int, w11.cell? (a12.add (s9.2.1.toNat * 1)) = some (.int .u32 n13) ∧
            (0 : Int) ≤ s9.2.1 ∧ s9.2.1 < (q1l : Nat) ∧
            optM q1 fun a14 =>
            stM (a14.add (s9.2.1.toNat * 1)) (.int .u32 (IntKind.u32.wrap (IntKind.u64.wrap (s9.1 + (IntKind.u64.wrap (IntKind.u32.wrap (BitVec.ofInt IntKind.u32.bits (IntKind.u32.max) ^^^ BitVec.ofInt IntKind.u32.bits n13).toNat)))))) w11 fun w15 =>
            (0 : Int) ≤ 32 ∧
            X10 (((IntKind.u64.wrap (s9.1 + (IntKind.u64.wrap (IntKind.u32.wrap (BitVec.ofInt IntKind.u32.bits (IntKind.u32.max) ^^^ BitVec.ofInt IntKind.u32.bits n13).toNat)))).fdiv (2 ^ (min (32 : Int).toNat IntKind.u64.bits))), (IntKind.i64.wrap (s9.2.1 + 1)), ()) w15)
          (J6 (()) w11))
        (1, 0, ()) w3)
      (fun s7 w8 =>
        CallsX P N.f_bignum_trim #[.slice q1 q1l q1c] w8 fun v17 w16 =>
        ∃ (s18a : Option Addr) (s18l s18c : Nat), v17 = (.slice s18a s18l s18c) ∧
        CallsX P N.f_p_bignum_Int_give #[.pointer q0, .bool true, .slice s18a s18l s18c] w16 fun v20 w19 =>
        ∃ p21 : (Option Addr), v20 = (.pointer p21) ∧
        K (.pointer p21) w19))
    (CallsX P N.f_bignum_trim #[.slice q1 q1l q1c] w3 fun v23 w22 =>
      ∃ (s24a : Option Addr) (s24l s24c : Nat), v23 = (.slice s24a s24l s24c) ∧
      CallsX P N.f_p_bignum_Int_give #[.pointer q0, .bool false, .slice s24a s24l s24c] w22 fun v26 w25 =>
      ∃ p27 : (Option Addr), v26 = (.pointer p27) ∧
      K (.pointer p27) w25))

/-- girder/bignum.trim -/
def S_bignum_trim (N : Nums) (P : Program) (q0 : Option Addr) (q0l q0c : Nat) (w : World) (K : Value → World → Prop) : Prop :=
  cutM (σ := Int × Unit) (fun J1 =>
    loopM (σ := Int × Unit) (fun s4 X5 w6 =>
      cond (decide (s4.1 > 0))
      ((0 : Int) ≤ (IntKind.i64.wrap (s4.1 - 1)) ∧ (IntKind.i64.wrap (s4.1 - 1)) < (q0l : Nat) ∧
        optM q0 fun a7 =>
        ∃ n8 : Int, w6.cell? (a7.add ((IntKind.i64.wrap (s4.1 - 1)).toNat * 1)) = some (.int .u32 n8) ∧
        cond (n8 == 0)
        (X5 ((IntKind.i64.wrap (s4.1 - 1)), ()) w6)
        (J1 (s4.1, ()) w6))
      (J1 (s4.1, ()) w6))
    (((q0l : Nat) : Int), ()) w)
  (fun s2 w3 =>
    (0 : Int) ≤ s2.1 ∧ s2.1 ≤ (q0c : Nat) ∧
    K (.slice (slBase q0 0 q0c 1) s2.1.toNat q0c) w3)

/-- math.Copysign -/
def S_math_Copysign (N : Nums) (P : Program) (q0 : Nat) (q1 : Nat) (w : World) (K : Value → World → Prop) : Prop :=
  CallsX P N.f_math_Float64bits #[.float .f64 q0] w fun v2 w1 =>
  ∃ n3 : Int, v2 = (.int .u64 n3) ∧
  CallsX P N.f_math_Float64bits #[.float .f64 q1] w1 fun v5 w4 =>
  ∃ n6 : Int, v5 = (.int .u64 n6) ∧
  CallsX P N.f_math_Float64frombits #[.int .u64 (IntKind.u64.wrap (BitVec.ofInt IntKind.u64.bits (IntKind.u64.wrap (BitVec.ofInt IntKind.u64.bits n3 &&& ~~~BitVec.ofInt IntKind.u64.bits 9223372036854775808).toNat) ||| BitVec.ofInt IntKind.u64.bits (IntKind.u64.wrap (BitVec.ofInt IntKind.u64.bits n6 &&& BitVec.ofInt IntKind.u64.bits 9223372036854775808).toNat)).toNat)] w4 fun v8 w7 =>
  ∃ x9 : Nat, v8 = (.float .f64 x9) ∧
  K (.float .f64 x9) w7

/-- girder/bits.At -/
def S_bits_At (N : Nums) (P : Program) (q0 : Int) (w : World) (K : Value → World → Prop) : Prop :=
  cond (!(decide (q0 > 9218868437227405312)))
  (cond (decide (q0 < (-9218868437227405312)))
    (K (.tuple #[.float .f64 0, .bool false]) w)
    (cond (decide (q0 < 0))
      (CallsX P N.f_math_Float64frombits #[.int .u64 (IntKind.u64.wrap (IntKind.i64.wrap (0 - q0)))] w fun v2 w1 =>
        ∃ x3 : Nat, v2 = (.float .f64 x3) ∧
        K (.tuple #[.float .f64 (fneg x3), .bool true]) w1)
      (CallsX P N.f_math_Float64frombits #[.int .u64 (IntKind.u64.wrap q0)] w fun v5 w4 =>
        ∃ x6 : Nat, v5 = (.float .f64 x6) ∧
        K (.tuple #[.float .f64 x6, .bool true]) w4)))
  (K (.tuple #[.float .f64 0, .bool false]) w)

/-- math.IsNaN -/
def S_math_IsNaN (N : Nums) (P : Program) (q0 : Nat) (w : World) (K : Value → World → Prop) : Prop :=
  K (.bool (!feq q0 q0)) w

/-- math.normalize -/
def S_math_normalize (N : Nums) (P : Program) (q0 : Nat) (w : World) (K : Value → World → Prop) : Prop :=
  CallsX P N.f_math_Abs #[.float .f64 q0] w fun v2 w1 =>
  ∃ x3 : Nat, v2 = (.float .f64 x3) ∧
  cond (flt x3 4503599627370496)
  (fresM (fmul q0 4841369599423283200) w1 fun x4 w5 =>
    K (.tuple #[.float .f64 x4, .int .i64 (-52)]) w5)
  (K (.tuple #[.float .f64 q0, .int .i64 0]) w1)

/-- math.Inf -/
def S_math_Inf (N : Nums) (P : Program) (q0 : Int) (w : World) (K : Value → World → Prop) : Prop :=
  cutM (σ := Int × Unit) (fun J1 =>
    cond (decide (q0 ≥ 0))
    (J1 (9218868437227405312, ()) w)
    (J1 (18442240474082181120, ()) w))
  (fun s2 w3 =>
    CallsX P N.f_math_Float64frombits #[.int .u64 s2.1] w3 fun v5 w4 =>
    ∃ x6 : Nat, v5 = (.float .f64 x6) ∧
    K (.float .f64 x6) w4)

/-- girder/girderref02.low -/
def S_girderref02_low (N : Nums) (P : Program) (q0 : Option Addr) (q0l q0c : Nat) (w : World) (K : Value → World → Prop) : Prop :=
  cutM (σ := Int × Unit) (fun J1 =>
    loopM (σ := Int × Unit) (fun s4 X5 w6 =>
      cond (decide (s4.1 > 0))
      ((0 : Int) ≤ (IntKind.i64.wrap (s4.1 - 1)) ∧ (IntKind.i64.wrap (s4.1 - 1)) < (q0l : Nat) ∧
        optM q0 fun a7 =>
        ∃ n8 : Int, w6.cell? (a7.add ((IntKind.i64.wrap (s4.1 - 1)).toNat * 1)) = some (.int .u64 n8) ∧
        cond (n8 == 0)
        (X5 ((IntKind.i64.wrap (s4.1 - 1)), ()) w6)
        (J1 (s4.1, ()) w6))
      (J1 (s4.1, ()) w6))
    (((q0l : Nat) : Int), ()) w)
  (fun s2 w3 =>
    (0 : Int) ≤ s2.1 ∧ s2.1 ≤ (q0c : Nat) ∧
    K (.slice (slBase q0 0 q0c 1) s2.1.toNat q0c) w3)

end Go.Eng
