/-
 Some of the functions as propositions in the manner of a weakest precondition, printed off the structured code by a program of the session. No condition.
-/
import Derived.Test.YtmecjaojkegamaaGreatDoorTbl
import Derived.Test.YtmecjaojkegamaaGreatDoorNm
set_option linter.unusedSimpArgs false
set_option linter.unnecessarySimpa false
set_option linter.unusedSectionVars false
set_option linter.unusedVariables false
set_option maxRecDepth 100000
namespace Go.Eng
open Go

/-- (*girder/bignum.Int).TrailingZeroBits -/
def S_p_bignum_Int_TrailingZeroBits (N : Nums) (P : Program) (q0 : Option Addr) (w : World) (K : Value → World → Prop) : Prop :=
 optM q0 fun a1 =>
 ∃ s2a s2l s2c, w.cell? (a1.add 1) = some (.slice s2a s2l s2c) ∧
 cond (((s2l : Nat) : Int) == 0)
 (K (.int .u64 0) w)
 (cutM (σ := Int × Unit) (fun J3 =>
   loopM (σ := Int × Unit) (fun s6 X7 w8 =>
    optM q0 fun a9 =>
    ∃ s10a s10l s10c, w8.cell? (a9.add 1) = some (.slice s10a s10l s10c) ∧
    CallsX P N.f_bignum_bit #[.slice s10a s10l s10c, .int .i64 (IntKind.i64.wrap s6.1)] w8 fun v12 w11 =>
    ∃ n13, v12 = (.int .u64 n13) ∧
    cond (n13 == 0)
    (X7 ((IntKind.u64.wrap (s6.1 + 1)), ()) w11)
    (J3 (s6.1, ()) w11))
   (0, ()) w)
  (fun s4 w5 =>
   K (.int .u64 s4.1) w5))

/-- (*girder/bignum.Int).BitLen -/
def S_p_bignum_Int_BitLen (N : Nums) (P : Program) (q0 : Option Addr) (w : World) (K : Value → World → Prop) : Prop :=
 optM q0 fun a1 =>
 ∃ s2a s2l s2c, w.cell? (a1.add 1) = some (.slice s2a s2l s2c) ∧
 CallsX P N.f_bignum_length #[.slice s2a s2l s2c] w fun v4 w3 =>
 ∃ n5, v4 = (.int .i64 n5) ∧
 K (.int .i64 n5) w3

/-- girder/dyad.limbs -/
def S_dyad_limbs (N : Nums) (P : Program) (q0 : Option Addr) (w : World) (K : Value → World → Prop) : Prop :=
 newM #[.bool false, .slice none 0 0] N.t_bignum_Int w fun p1 w2 =>
 CallsX P N.f_p_bignum_Int_Abs #[.pointer (some p1), .pointer q0] w2 fun v4 w3 =>
 ∃ p5 : (Option Addr), v4 = (.pointer p5) ∧
 newM #[.bool false, .slice none 0 0] N.t_bignum_Int w3 fun p6 w7 =>
 newM #[.bool false, .slice none 0 0] N.t_bignum_Int w7 fun p8 w9 =>
 CallsX P N.f_p_bignum_Int_SetUint64 #[.pointer (some p8), .int .u64 18446744073709551615] w9 fun v11 w10 =>
 ∃ p12 : (Option Addr), v11 = (.pointer p12) ∧
 cutM (σ := (Option Addr × Nat × Nat) × Unit) (fun J13 =>
  loopM (σ := (Option Addr × Nat × Nat) × Unit) (fun s16 X17 w18 =>
   CallsX P N.f_p_bignum_Int_Sign #[.pointer p5] w18 fun v20 w19 =>
   ∃ n21, v20 = (.int .i64 n21) ∧
   cond (decide (n21 > 0))
   (CallsX P N.f_p_bignum_Int_And #[.pointer (some p6), .pointer p5, .pointer p12] w19 fun v23 w22 =>
    ∃ p24 : (Option Addr), v23 = (.pointer p24) ∧
    CallsX P N.f_p_bignum_Int_Uint64 #[.pointer p24] w22 fun v26 w25 =>
    ∃ n27, v26 = (.int .u64 n27) ∧
    newM #[.int .u64 n27] N.t_uint64 w25 fun p28 w29 =>
    appM N.t_uint64 1 8 #[.int .u64 0] s16.1.1 s16.1.2.1 s16.1.2.2 (some p28) 1 w29 fun s30a s30l s30c w31 =>
    CallsX P N.f_p_bignum_Int_Rsh #[.pointer p5, .pointer p5, .int .u64 64] w31 fun v33 w32 =>
    ∃ p34 : (Option Addr), v33 = (.pointer p34) ∧
    X17 ((s30a, s30l, s30c), ()) w32)
   (J13 ((s16.1.1, s16.1.2.1, s16.1.2.2), ()) w19))
  ((none, 0, 0), ()) w10)
 (fun s14 w15 =>
  K (.slice s14.1.1 s14.1.2.1 s14.1.2.2) w15)

/-- girder/girderref02.halves -/
def S_girderref02_halves (N : Nums) (P : Program) (q0 : Option Addr) (q0l q0c : Nat) (w : World) (K : Value → World → Prop) : Prop :=
 cutM (σ := (Option Addr × Nat × Nat) × Unit) (fun J1 =>
  loopM (σ := (Option Addr × Nat × Nat) × Int × Unit) (fun s4 X5 w6 =>
   cond (decide (s4.2.1 < ((q0l : Nat) : Int)))
   ((0 : Int) ≤ s4.2.1 ∧ s4.2.1 < (q0l : Nat) ∧
    optM q0 fun a7 =>
    ∃ n8, w6.cell? (a7.add (s4.2.1.toNat * 1)) = some (.int .u64 n8) ∧
    (4294967296 : Int) ≠ 0 ∧
    (0 : Int) ≤ s4.2.1 ∧ s4.2.1 < (q0l : Nat) ∧
    optM q0 fun a9 =>
    ∃ n10, w6.cell? (a9.add (s4.2.1.toNat * 1)) = some (.int .u64 n10) ∧
    (4294967296 : Int) ≠ 0 ∧
    drM w6 fun w11 =>
    newM #[.int .u64 (n8.tmod 4294967296), .int .u64 (IntKind.u64.wrap (n10.tdiv 4294967296))] N.t_uint64 w11 fun p12 w13 =>
    drM w13 fun w14 =>
    appM N.t_uint64 1 8 #[.int .u64 0] s4.1.1 s4.1.2.1 s4.1.2.2 (some p12) 2 w14 fun s15a s15l s15c w16 =>
    drM w16 fun w17 =>
    X5 ((s15a, s15l, s15c), (IntKind.i64.wrap (s4.2.1 + 1)), ()) w17)
   (J1 ((s4.1.1, s4.1.2.1, s4.1.2.2), ()) w6))
  ((none, 0, 0), 0, ()) w)
 (fun s2 w3 =>
  CallsX P N.f_girderref02_low #[.slice s2.1.1 s2.1.2.1 s2.1.2.2] w3 fun v19 w18 =>
  ∃ s20a s20l s20c, v19 = (.slice s20a s20l s20c) ∧
  K (.slice s20a s20l s20c) w18)

/-- girder/girderref02.short -/
def S_girderref02_short (N : Nums) (P : Program) (q0 : Option Addr) (q0l q0c : Nat) (q1 : Int) (w : World) (K : Value → World → Prop) : Prop :=
 mkM N.t_uint64 1 8 #[.int .u64 0] ((q0l : Nat) : Int) ((q0l : Nat) : Int) w fun p1 w2 =>
 cutM (σ := Int × Unit) (fun J3 =>
  loopM (σ := Int × Int × Unit) (fun s6 X7 w8 =>
   cond (decide (s6.2.1 ≥ 0))
   ((0 : Int) ≤ s6.2.1 ∧ s6.2.1 < (q0l : Nat) ∧
    optM q0 fun a9 =>
    ∃ n10, w8.cell? (a9.add (s6.2.1.toNat * 1)) = some (.int .u64 n10) ∧
    (q1 : Int) ≠ 0 ∧
    (0 : Int) ≤ s6.2.1 ∧ s6.2.1 < (((q0l : Nat) : Int).toNat : Nat) ∧
    stM (p1.add (s6.2.1.toNat * 1)) (.int .u64 (IntKind.u64.wrap ((IntKind.u64.wrap ((IntKind.u64.wrap (s6.1 * 4294967296)) + n10)).tdiv q1))) w8 fun w11 =>
    (q1 : Int) ≠ 0 ∧
    X7 (((IntKind.u64.wrap ((IntKind.u64.wrap (s6.1 * 4294967296)) + n10)).tmod q1), (IntKind.i64.wrap (s6.2.1 - 1)), ()) w11)
   (J3 (s6.1, ()) w8))
  (0, (IntKind.i64.wrap (((q0l : Nat) : Int) - 1)), ()) w2)
 (fun s4 w5 =>
  CallsX P N.f_girderref02_low #[.slice (some p1) (((q0l : Nat) : Int).toNat) (((q0l : Nat) : Int).toNat)] w5 fun v13 w12 =>
  ∃ s14a s14l s14c, v13 = (.slice s14a s14l s14c) ∧
  K (.tuple #[.slice s14a s14l s14c, .int .u64 s4.1]) w12)

/-- girder/girderref02.limbs -/
def S_girderref02_limbs (N : Nums) (P : Program) (q0 : Option Addr) (q0l q0c : Nat) (w : World) (K : Value → World → Prop) : Prop :=
 cutM (σ := (Option Addr × Nat × Nat) × Unit) (fun J1 =>
  loopM (σ := (Option Addr × Nat × Nat) × Int × Unit) (fun s4 X5 w6 =>
   cond (decide (s4.2.1 < ((q0l : Nat) : Int)))
   ((0 : Int) ≤ s4.2.1 ∧ s4.2.1 < (q0l : Nat) ∧
    optM q0 fun a7 =>
    ∃ n8, w6.cell? (a7.add (s4.2.1.toNat * 1)) = some (.int .u64 n8) ∧
    cutM (σ := Int × Unit) (fun J9 =>
     cond (decide ((IntKind.i64.wrap (s4.2.1 + 1)) < ((q0l : Nat) : Int)))
     ((0 : Int) ≤ (IntKind.i64.wrap (s4.2.1 + 1)) ∧ (IntKind.i64.wrap (s4.2.1 + 1)) < (q0l : Nat) ∧
      optM q0 fun a12 =>
      ∃ n13, w6.cell? (a12.add ((IntKind.i64.wrap (s4.2.1 + 1)).toNat * 1)) = some (.int .u64 n13) ∧
      J9 ((IntKind.u64.wrap (n8 + (IntKind.u64.wrap (4294967296 * n13)))), ()) w6)
     (J9 (n8, ()) w6))
    (fun s10 w11 =>
     newM #[.int .u64 s10.1] N.t_uint64 w11 fun p14 w15 =>
     appM N.t_uint64 1 8 #[.int .u64 0] s4.1.1 s4.1.2.1 s4.1.2.2 (some p14) 1 w15 fun s16a s16l s16c w17 =>
     X5 ((s16a, s16l, s16c), (IntKind.i64.wrap (s4.2.1 + 2)), ()) w17))
   (J1 ((s4.1.1, s4.1.2.1, s4.1.2.2), ()) w6))
  ((none, 0, 0), 0, ()) w)
 (fun s2 w3 =>
  CallsX P N.f_girderref02_NatTrim #[.slice s2.1.1 s2.1.2.1 s2.1.2.2] w3 fun v19 w18 =>
  ∃ s20a s20l s20c, v19 = (.slice s20a s20l s20c) ∧
  K (.slice s20a s20l s20c) w18)

/-- girder/bignum.mul -/
def S_bignum_mul (N : Nums) (P : Program) (q0 : Option Addr) (q0l q0c : Nat) (q1 : Option Addr) (q1l q1c : Nat) (w : World) (K : Value → World → Prop) : Prop :=
 cutM (σ := Bool × Unit) (fun J1 =>
  cond (!(((q0l : Nat) : Int) == 0))
  (J1 ((((q1l : Nat) : Int) == 0), ()) w)
  (J1 (true, ()) w))
 (fun s2 w3 =>
  cond s2.1
  (K (.slice none 0 0) w3)
  (mkM N.t_uint32 1 4 #[.int .u32 0] (IntKind.i64.wrap (((q0l : Nat) : Int) + ((q1l : Nat) : Int))) (IntKind.i64.wrap (((q0l : Nat) : Int) + ((q1l : Nat) : Int))) w3 fun p4 w5 =>
   cutM (σ := Unit) (fun J6 =>
    loopM (σ := Int × Unit) (fun s9 X10 w11 =>
     cond (decide (s9.1 < ((q0l : Nat) : Int)))
     (cutM (σ := Int × Unit) (fun J12 =>
       loopM (σ := Int × Int × Unit) (fun s15 X16 w17 =>
        cond (decide (s15.2.1 < ((q1l : Nat) : Int)))
        ((0 : Int) ≤ s9.1 ∧ s9.1 < (q0l : Nat) ∧
         optM q0 fun a18 =>
         ∃ n19, w17.cell? (a18.add (s9.1.toNat * 1)) = some (.int .u32 n19) ∧
         (0 : Int) ≤ s15.2.1 ∧ s15.2.1 < (q1l : Nat) ∧
         optM q1 fun a20 =>
         ∃ n21, w17.cell? (a20.add (s15.2.1.toNat * 1)) = some (.int .u32 n21) ∧
         (0 : Int) ≤ (IntKind.i64.wrap (s9.1 + s15.2.1)) ∧ (IntKind.i64.wrap (s9.1 + s15.2.1)) < ((IntKind.i64.wrap (((q0l : Nat) : Int) + ((q1l : Nat) : Int))).toNat : Nat) ∧
         ∃ n22, w17.cell? (p4.add ((IntKind.i64.wrap (s9.1 + s15.2.1)).toNat * 1)) = some (.int .u32 n22) ∧
         drM w17 fun w23 =>
         (0 : Int) ≤ (IntKind.i64.wrap (s9.1 + s15.2.1)) ∧ (IntKind.i64.wrap (s9.1 + s15.2.1)) < ((IntKind.i64.wrap (((q0l : Nat) : Int) + ((q1l : Nat) : Int))).toNat : Nat) ∧
         stM (p4.add ((IntKind.i64.wrap (s9.1 + s15.2.1)).toNat * 1)) (.int .u32 (IntKind.u32.wrap (IntKind.u64.wrap (s15.1 + (IntKind.u64.wrap ((IntKind.u64.wrap ((IntKind.u64.wrap n19) * (IntKind.u64.wrap n21))) + (IntKind.u64.wrap n22))))))) w23 fun w24 =>
         (0 : Int) ≤ 32 ∧
         X16 (((IntKind.u64.wrap (s15.1 + (IntKind.u64.wrap ((IntKind.u64.wrap ((IntKind.u64.wrap n19) * (IntKind.u64.wrap n21))) + (IntKind.u64.wrap n22))))).fdiv (2 ^ (min (32 : Int).toNat IntKind.u64.bits))), (IntKind.i64.wrap (s15.2.1 + 1)), ()) w24)
        (J12 (s15.1, ()) w17))
       (0, 0, ()) w11)
      (fun s13 w14 =>
       (0 : Int) ≤ (IntKind.i64.wrap (s9.1 + ((q1l : Nat) : Int))) ∧ (IntKind.i64.wrap (s9.1 + ((q1l : Nat) : Int))) < ((IntKind.i64.wrap (((q0l : Nat) : Int) + ((q1l : Nat) : Int))).toNat : Nat) ∧
       stM (p4.add ((IntKind.i64.wrap (s9.1 + ((q1l : Nat) : Int))).toNat * 1)) (.int .u32 (IntKind.u32.wrap s13.1)) w14 fun w25 =>
       X10 ((IntKind.i64.wrap (s9.1 + 1)), ()) w25))
     (J6 (()) w11))
    (0, ()) w5)
   (fun s7 w8 =>
    CallsX P N.f_bignum_trim #[.slice (some p4) ((IntKind.i64.wrap (((q0l : Nat) : Int) + ((q1l : Nat) : Int))).toNat) ((IntKind.i64.wrap (((q0l : Nat) : Int) + ((q1l : Nat) : Int))).toNat)] w8 fun v27 w26 =>
    ∃ s28a s28l s28c, v27 = (.slice s28a s28l s28c) ∧
    K (.slice s28a s28l s28c) w26)))

/-- girder/girderref02.NatCmp -/
def S_girderref02_NatCmp (N : Nums) (P : Program) (q0 : Option Addr) (q0l q0c : Nat) (q1 : Option Addr) (q1l q1c : Nat) (w : World) (K : Value → World → Prop) : Prop :=
 CallsX P N.f_girderref02_NatTrim #[.slice q0 q0l q0c] w fun v2 w1 =>
 ∃ s3a s3l s3c, v2 = (.slice s3a s3l s3c) ∧
 CallsX P N.f_girderref02_NatTrim #[.slice q1 q1l q1c] w1 fun v5 w4 =>
 ∃ s6a s6l s6c, v5 = (.slice s6a s6l s6c) ∧
 cond (((s3l : Nat) : Int) != ((s6l : Nat) : Int))
 (cond (decide (((s3l : Nat) : Int) < ((s6l : Nat) : Int)))
  (K (.int .i64 (-1)) w4)
  (K (.int .i64 1) w4))
 (cutM (σ := Unit) (fun J7 =>
   loopM (σ := Int × Unit) (fun s10 X11 w12 =>
    cond (decide (s10.1 ≥ 0))
    ((0 : Int) ≤ s10.1 ∧ s10.1 < (s3l : Nat) ∧
     optM s3a fun a13 =>
     ∃ n14, w12.cell? (a13.add (s10.1.toNat * 1)) = some (.int .u64 n14) ∧
     (0 : Int) ≤ s10.1 ∧ s10.1 < (s6l : Nat) ∧
     optM s6a fun a15 =>
     ∃ n16, w12.cell? (a15.add (s10.1.toNat * 1)) = some (.int .u64 n16) ∧
     drM w12 fun w17 =>
     cond (decide (n14 < n16))
     (K (.int .i64 (-1)) w17)
     ((0 : Int) ≤ s10.1 ∧ s10.1 < (s3l : Nat) ∧
      optM s3a fun a18 =>
      ∃ n19, w17.cell? (a18.add (s10.1.toNat * 1)) = some (.int .u64 n19) ∧
      (0 : Int) ≤ s10.1 ∧ s10.1 < (s6l : Nat) ∧
      optM s6a fun a20 =>
      ∃ n21, w17.cell? (a20.add (s10.1.toNat * 1)) = some (.int .u64 n21) ∧
      drM w17 fun w22 =>
      cond (decide (n19 > n21))
      (K (.int .i64 1) w22)
      (X11 ((IntKind.i64.wrap (s10.1 - 1)), ()) w22)))
    (J7 (()) w12))
   ((IntKind.i64.wrap (((s3l : Nat) : Int) - 1)), ()) w4)
  (fun s8 w9 =>
   K (.int .i64 0) w9))

/-- girder/girderref02.NatSub -/
def S_girderref02_NatSub (N : Nums) (P : Program) (q0 : Option Addr) (q0l q0c : Nat) (q1 : Option Addr) (q1l q1c : Nat) (w : World) (K : Value → World → Prop) : Prop :=
 CallsX P N.f_girderref02_halves #[.slice q0 q0l q0c] w fun v2 w1 =>
 ∃ s3a s3l s3c, v2 = (.slice s3a s3l s3c) ∧
 CallsX P N.f_girderref02_halves #[.slice q1 q1l q1c] w1 fun v5 w4 =>
 ∃ s6a s6l s6c, v5 = (.slice s6a s6l s6c) ∧
 cutM (σ := (Option Addr × Nat × Nat) × Unit) (fun J7 =>
  loopM (σ := (Option Addr × Nat × Nat) × Int × Int × Unit) (fun s10 X11 w12 =>
   cond (decide (s10.2.2.1 < ((s3l : Nat) : Int)))
   ((0 : Int) ≤ s10.2.2.1 ∧ s10.2.2.1 < (s3l : Nat) ∧
    optM s3a fun a13 =>
    ∃ n14, w12.cell? (a13.add (s10.2.2.1.toNat * 1)) = some (.int .u64 n14) ∧
    drM w12 fun w15 =>
    CallsX P N.f_girderref02_digit #[.slice s6a s6l s6c, .int .i64 s10.2.2.1] w15 fun v17 w16 =>
    ∃ n18, v17 = (.int .u64 n18) ∧
    w16.cell? (a13.add (s10.2.2.1.toNat * 1)) = some (.int .u64 n14) ∧
    drM w16 fun w19 =>
    (4294967296 : Int) ≠ 0 ∧
    newM #[.int .u64 ((IntKind.u64.wrap ((IntKind.u64.wrap ((IntKind.u64.wrap (4294967296 + n14)) - n18)) - s10.2.1)).tmod 4294967296)] N.t_uint64 w19 fun p20 w21 =>
    appM N.t_uint64 1 8 #[.int .u64 0] s10.1.1 s10.1.2.1 s10.1.2.2 (some p20) 1 w21 fun s22a s22l s22c w23 =>
    (4294967296 : Int) ≠ 0 ∧
    X11 ((s22a, s22l, s22c), (IntKind.u64.wrap (1 - (IntKind.u64.wrap ((IntKind.u64.wrap ((IntKind.u64.wrap ((IntKind.u64.wrap (4294967296 + n14)) - n18)) - s10.2.1)).tdiv 4294967296)))), (IntKind.i64.wrap (s10.2.2.1 + 1)), ()) w23)
   (J7 ((s10.1.1, s10.1.2.1, s10.1.2.2), ()) w12))
  ((none, 0, 0), 0, 0, ()) w4)
 (fun s8 w9 =>
  CallsX P N.f_girderref02_limbs #[.slice s8.1.1 s8.1.2.1 s8.1.2.2] w9 fun v25 w24 =>
  ∃ s26a s26l s26c, v25 = (.slice s26a s26l s26c) ∧
  K (.slice s26a s26l s26c) w24)

/-- girder/girderref02.NatMul -/
def S_girderref02_NatMul (N : Nums) (P : Program) (q0 : Option Addr) (q0l q0c : Nat) (q1 : Option Addr) (q1l q1c : Nat) (w : World) (K : Value → World → Prop) : Prop :=
 CallsX P N.f_girderref02_halves #[.slice q0 q0l q0c] w fun v2 w1 =>
 ∃ s3a s3l s3c, v2 = (.slice s3a s3l s3c) ∧
 CallsX P N.f_girderref02_halves #[.slice q1 q1l q1c] w1 fun v5 w4 =>
 ∃ s6a s6l s6c, v5 = (.slice s6a s6l s6c) ∧
 CallsX P N.f_girderref02_product #[.slice s3a s3l s3c, .slice s6a s6l s6c] w4 fun v8 w7 =>
 ∃ s9a s9l s9c, v8 = (.slice s9a s9l s9c) ∧
 CallsX P N.f_girderref02_limbs #[.slice s9a s9l s9c] w7 fun v11 w10 =>
 ∃ s12a s12l s12c, v11 = (.slice s12a s12l s12c) ∧
 K (.slice s12a s12l s12c) w10

/-- girder/bits.Kind -/
def S_bits_Kind (N : Nums) (P : Program) (q0 : Nat) (w : World) (K : Value → World → Prop) : Prop :=
 CallsX P N.f_math_Abs #[.float .f64 q0] w fun v2 w1 =>
 ∃ x3, v2 = (.float .f64 x3) ∧
 cond (!feq q0 q0)
 (K (.int .i64 4) w1)
 (CallsX P N.f_math_IsInf #[.float .f64 q0, .int .i64 0] w1 fun v5 w4 =>
  ∃ b6, v5 = (.bool b6) ∧
  cond b6
  (K (.int .i64 3) w4)
  (cond (fgt x3 4503599627370496 || feq x3 4503599627370496)
   (K (.int .i64 2) w4)
   (cond (fgt x3 0)
    (K (.int .i64 1) w4)
    (K (.int .i64 0) w4))))

/-- math.Signbit -/
def S_math_Signbit (N : Nums) (P : Program) (q0 : Nat) (w : World) (K : Value → World → Prop) : Prop :=
 CallsX P N.f_math_Float64bits #[.float .f64 q0] w fun v2 w1 =>
 ∃ n3, v2 = (.int .u64 n3) ∧
 K (.bool (decide ((IntKind.i64.wrap n3) < 0))) w1

/-- math.Frexp -/
def S_math_Frexp (N : Nums) (P : Program) (q0 : Nat) (w : World) (K : Value → World → Prop) : Prop :=
 CallsX P N.f_math_frexp #[.float .f64 q0] w fun v2 w1 =>
 ∃ x3, ∃ n4, v2 = (.tuple #[.float .f64 x3, .int .i64 n4]) ∧
 K (.tuple #[.float .f64 x3, .int .i64 n4]) w1

/-- math.Abs -/
def S_math_Abs (N : Nums) (P : Program) (q0 : Nat) (w : World) (K : Value → World → Prop) : Prop :=
 CallsX P N.f_math_Float64bits #[.float .f64 q0] w fun v2 w1 =>
 ∃ n3, v2 = (.int .u64 n3) ∧
 CallsX P N.f_math_Float64frombits #[.int .u64 (IntKind.u64.wrap (BitVec.ofInt IntKind.u64.bits n3 &&& ~~~BitVec.ofInt IntKind.u64.bits 9223372036854775808).toNat)] w1 fun v5 w4 =>
 ∃ x6, v5 = (.float .f64 x6) ∧
 K (.float .f64 x6) w4

/-- math.Ldexp -/
def S_math_Ldexp (N : Nums) (P : Program) (q0 : Nat) (q1 : Int) (w : World) (K : Value → World → Prop) : Prop :=
 CallsX P N.f_math_ldexp #[.float .f64 q0, .int .i64 q1] w fun v2 w1 =>
 ∃ x3, v2 = (.float .f64 x3) ∧
 K (.float .f64 x3) w1

/-- (*girder/bignum.Int).low -/
def S_p_bignum_Int_low (N : Nums) (P : Program) (q0 : Option Addr) (q1 : Int) (w : World) (K : Value → World → Prop) : Prop :=
 mkM N.t_uint32 1 4 #[.int .u32 0] q1 q1 w fun p1 w2 =>
 optM q0 fun a3 =>
 ∃ s4a s4l s4c, w2.cell? (a3.add 1) = some (.slice s4a s4l s4c) ∧
 copM 1 (some p1) q1.toNat s4a s4l w2 fun w5 =>
 optM q0 fun a6 =>
 ∃ b7, w5.cell? a6 = some (.bool b7) ∧
 cutM (σ := Unit) (fun J8 =>
  cond b7
  (cutM (σ := Unit) (fun J11 =>
    loopM (σ := Int × Int × Unit) (fun s14 X15 w16 =>
     cond (decide (s14.2.1 < q1))
     ((0 : Int) ≤ s14.2.1 ∧ s14.2.1 < (q1.toNat : Nat) ∧
      ∃ n17, w16.cell? (p1.add (s14.2.1.toNat * 1)) = some (.int .u32 n17) ∧
      (0 : Int) ≤ s14.2.1 ∧ s14.2.1 < (q1.toNat : Nat) ∧
      stM (p1.add (s14.2.1.toNat * 1)) (.int .u32 (IntKind.u32.wrap (IntKind.u64.wrap (s14.1 + (IntKind.u64.wrap (IntKind.u32.wrap (BitVec.ofInt IntKind.u32.bits (IntKind.u32.max) ^^^ BitVec.ofInt IntKind.u32.bits n17).toNat)))))) w16 fun w18 =>
      (0 : Int) ≤ 32 ∧
      X15 (((IntKind.u64.wrap (s14.1 + (IntKind.u64.wrap (IntKind.u32.wrap (BitVec.ofInt IntKind.u32.bits (IntKind.u32.max) ^^^ BitVec.ofInt IntKind.u32.bits n17).toNat)))).fdiv (2 ^ (min (32 : Int).toNat IntKind.u64.bits))), (IntKind.i64.wrap (s14.2.1 + 1)), ()) w18)
     (J11 (()) w16))
    (1, 0, ()) w5)
   (fun s12 w13 =>
    J8 (()) w13))
  (J8 (()) w5))
 (fun s9 w10 =>
  K (.slice (some p1) q1.toNat q1.toNat) w10)

/-- (*girder/bignum.Int).of -/
def S_p_bignum_Int_of (N : Nums) (P : Program) (q0 : Option Addr) (q1 : Option Addr) (q1l q1c : Nat) (w : World) (K : Value → World → Prop) : Prop :=
 cutM (σ := Bool × Unit) (fun J1 =>
  cond (decide (((q1l : Nat) : Int) > 0))
  ((0 : Int) ≤ (IntKind.i64.wrap (((q1l : Nat) : Int) - 1)) ∧ (IntKind.i64.wrap (((q1l : Nat) : Int) - 1)) < (q1l : Nat) ∧
   optM q1 fun a4 =>
   ∃ n5, w.cell? (a4.add ((IntKind.i64.wrap (((q1l : Nat) : Int) - 1)).toNat * 1)) = some (.int .u32 n5) ∧
   (0 : Int) ≤ 31 ∧
   J1 (((n5.fdiv (2 ^ (min (31 : Int).toNat IntKind.u32.bits))) == 1), ()) w)
  (J1 (false, ()) w))
 (fun s2 w3 =>
  cond s2.1
  (cutM (σ := Unit) (fun J6 =>
    loopM (σ := Int × Int × Unit) (fun s9 X10 w11 =>
     cond (decide (s9.2.1 < ((q1l : Nat) : Int)))
     ((0 : Int) ≤ s9.2.1 ∧ s9.2.1 < (q1l : Nat) ∧
      optM q1 fun a12 =>
      ∃ n13, w11.cell? (a12.add (s9.2.1.toNat * 1)) = some (.int .u32 n13) ∧
      (0 : Int) ≤ s9.2.1 ∧ s9.2.1 < (q1l : Nat) ∧
      optM q1 fun a14 =>
      stM (a14.add (s9.2.1.toNat * 1)) (.int .u32 (IntKind.u32.wrap (IntKind.u64.wrap (s9.1 + (IntKind.u64.wrap (IntKind.u32.wrap (BitVec.ofInt IntKind.u32.bits (IntKind.u32.max) ^^^ BitVec.ofInt IntKind.u32.bits n13).toNat)))))) w11 fun w15 =>
      (0 : Int) ≤ 32 ∧
      X10 (((IntKind.u64.wrap (s9.1 + (IntKind.u64.wrap (IntKind.u32.wrap (BitVec.ofInt IntKind.u32.bits (IntKind.u32.max) ^^^ BitVec.ofInt IntKind.u32.bits n13).toNat)))).fdiv (2 ^ (min (32 : Int).toNat IntKind.u64.bits))), (IntKind.i64.wrap (s9.2.1 + 1)), ()) w15)
     (J6 (()) w11))
    (1, 0, ()) w3)
   (fun s7 w8 =>
    CallsX P N.f_bignum_trim #[.slice q1 q1l q1c] w8 fun v17 w16 =>
    ∃ s18a s18l s18c, v17 = (.slice s18a s18l s18c) ∧
    CallsX P N.f_p_bignum_Int_give #[.pointer q0, .bool true, .slice s18a s18l s18c] w16 fun v20 w19 =>
    ∃ p21 : (Option Addr), v20 = (.pointer p21) ∧
    K (.pointer p21) w19))
  (CallsX P N.f_bignum_trim #[.slice q1 q1l q1c] w3 fun v23 w22 =>
   ∃ s24a s24l s24c, v23 = (.slice s24a s24l s24c) ∧
   CallsX P N.f_p_bignum_Int_give #[.pointer q0, .bool false, .slice s24a s24l s24c] w22 fun v26 w25 =>
   ∃ p27 : (Option Addr), v26 = (.pointer p27) ∧
   K (.pointer p27) w25))

/-- girder/bignum.words -/
def S_bignum_words (N : Nums) (P : Program) (q0 : Int) (w : World) (K : Value → World → Prop) : Prop :=
 (0 : Int) ≤ 32 ∧
 newM #[.int .u32 (IntKind.u32.wrap q0), .int .u32 (IntKind.u32.wrap (q0.fdiv (2 ^ (min (32 : Int).toNat IntKind.u64.bits))))] N.t_uint32 w fun p1 w2 =>
 CallsX P N.f_bignum_trim #[.slice (some p1) 2 2] w2 fun v4 w3 =>
 ∃ s5a s5l s5c, v4 = (.slice s5a s5l s5c) ∧
 K (.slice s5a s5l s5c) w3

/-- girder/bignum.trim -/
def S_bignum_trim (N : Nums) (P : Program) (q0 : Option Addr) (q0l q0c : Nat) (w : World) (K : Value → World → Prop) : Prop :=
 cutM (σ := Int × Unit) (fun J1 =>
  loopM (σ := Int × Unit) (fun s4 X5 w6 =>
   cond (decide (s4.1 > 0))
   ((0 : Int) ≤ (IntKind.i64.wrap (s4.1 - 1)) ∧ (IntKind.i64.wrap (s4.1 - 1)) < (q0l : Nat) ∧
    optM q0 fun a7 =>
    ∃ n8, w6.cell? (a7.add ((IntKind.i64.wrap (s4.1 - 1)).toNat * 1)) = some (.int .u32 n8) ∧
    cond (n8 == 0)
    (X5 ((IntKind.i64.wrap (s4.1 - 1)), ()) w6)
    (J1 (s4.1, ()) w6))
   (J1 (s4.1, ()) w6))
  (((q0l : Nat) : Int), ()) w)
 (fun s2 w3 =>
  (0 : Int) ≤ s2.1 ∧ s2.1 ≤ (q0c : Nat) ∧
  K (.slice (slBase q0 0 q0c 1) s2.1.toNat q0c) w3)

/-- math.Copysign -/
def S_math_Copysign (N : Nums) (P : Program) (q0 : Nat) (q1 : Nat) (w : World) (K : Value → World → Prop) : Prop :=
 CallsX P N.f_math_Float64bits #[.float .f64 q0] w fun v2 w1 =>
 ∃ n3, v2 = (.int .u64 n3) ∧
 CallsX P N.f_math_Float64bits #[.float .f64 q1] w1 fun v5 w4 =>
 ∃ n6, v5 = (.int .u64 n6) ∧
 CallsX P N.f_math_Float64frombits #[.int .u64 (IntKind.u64.wrap (BitVec.ofInt IntKind.u64.bits (IntKind.u64.wrap (BitVec.ofInt IntKind.u64.bits n3 &&& ~~~BitVec.ofInt IntKind.u64.bits 9223372036854775808).toNat) ||| BitVec.ofInt IntKind.u64.bits (IntKind.u64.wrap (BitVec.ofInt IntKind.u64.bits n6 &&& BitVec.ofInt IntKind.u64.bits 9223372036854775808).toNat)).toNat)] w4 fun v8 w7 =>
 ∃ x9, v8 = (.float .f64 x9) ∧
 K (.float .f64 x9) w7

/-- girder/bits.Place -/
def S_bits_Place (N : Nums) (P : Program) (q0 : Nat) (w : World) (K : Value → World → Prop) : Prop :=
 cond (!feq q0 q0)
 (K (.tuple #[.int .i64 0, .bool false]) w)
 (CallsX P N.f_math_Abs #[.float .f64 q0] w fun v2 w1 =>
  ∃ x3, v2 = (.float .f64 x3) ∧
  CallsX P N.f_math_Float64bits #[.float .f64 x3] w1 fun v5 w4 =>
  ∃ n6, v5 = (.int .u64 n6) ∧
  cutM (σ := Int × Unit) (fun J7 =>
   cond (flt q0 0)
   (J7 ((IntKind.i64.wrap (0 - (IntKind.i64.wrap n6))), ()) w4)
   (J7 ((IntKind.i64.wrap n6), ()) w4))
  (fun s8 w9 =>
   K (.tuple #[.int .i64 s8.1, .bool true]) w9))

/-- girder/bits.At -/
def S_bits_At (N : Nums) (P : Program) (q0 : Int) (w : World) (K : Value → World → Prop) : Prop :=
 cond (!(decide (q0 > 9218868437227405312)))
 (cond (decide (q0 < (-9218868437227405312)))
  (K (.tuple #[.float .f64 0, .bool false]) w)
  (cond (decide (q0 < 0))
   (CallsX P N.f_math_Float64frombits #[.int .u64 (IntKind.u64.wrap (IntKind.i64.wrap (0 - q0)))] w fun v2 w1 =>
    ∃ x3, v2 = (.float .f64 x3) ∧
    K (.tuple #[.float .f64 (fneg x3), .bool true]) w1)
   (CallsX P N.f_math_Float64frombits #[.int .u64 (IntKind.u64.wrap q0)] w fun v5 w4 =>
    ∃ x6, v5 = (.float .f64 x6) ∧
    K (.tuple #[.float .f64 x6, .bool true]) w4)))
 (K (.tuple #[.float .f64 0, .bool false]) w)

/-- girder/girderref02.digit -/
def S_girderref02_digit (N : Nums) (P : Program) (q0 : Option Addr) (q0l q0c : Nat) (q1 : Int) (w : World) (K : Value → World → Prop) : Prop :=
 cond (decide (q1 < ((q0l : Nat) : Int)))
 ((0 : Int) ≤ q1 ∧ q1 < (q0l : Nat) ∧
  optM q0 fun a1 =>
  ∃ n2, w.cell? (a1.add (q1.toNat * 1)) = some (.int .u64 n2) ∧
  K (.int .u64 n2) w)
 (K (.int .u64 0) w)

/-- girder/bignum.bit -/
def S_bignum_bit (N : Nums) (P : Program) (q0 : Option Addr) (q0l q0c : Nat) (q1 : Int) (w : World) (K : Value → World → Prop) : Prop :=
 cond (!(decide (q1 < 0)))
 ((32 : Int) ≠ 0 ∧
  cond (decide ((IntKind.i64.wrap (q1.tdiv 32)) ≥ ((q0l : Nat) : Int)))
  (K (.int .u64 0) w)
  ((32 : Int) ≠ 0 ∧
   (0 : Int) ≤ (IntKind.i64.wrap (q1.tdiv 32)) ∧ (IntKind.i64.wrap (q1.tdiv 32)) < (q0l : Nat) ∧
   optM q0 fun a1 =>
   ∃ n2, w.cell? (a1.add ((IntKind.i64.wrap (q1.tdiv 32)).toNat * 1)) = some (.int .u32 n2) ∧
   (32 : Int) ≠ 0 ∧
   (0 : Int) ≤ ((IntKind.u64.wrap q1).tmod 32) ∧
   K (.int .u64 (IntKind.u64.wrap (BitVec.ofInt IntKind.u64.bits (IntKind.u64.wrap (n2.fdiv (2 ^ (min ((IntKind.u64.wrap q1).tmod 32).toNat IntKind.u32.bits)))) &&& BitVec.ofInt IntKind.u64.bits 1).toNat)) w))
 (K (.int .u64 0) w)

/-- girder/bignum.length -/
def S_bignum_length (N : Nums) (P : Program) (q0 : Option Addr) (q0l q0c : Nat) (w : World) (K : Value → World → Prop) : Prop :=
 cond (((q0l : Nat) : Int) == 0)
 (K (.int .i64 0) w)
 ((0 : Int) ≤ (IntKind.i64.wrap (((q0l : Nat) : Int) - 1)) ∧ (IntKind.i64.wrap (((q0l : Nat) : Int) - 1)) < (q0l : Nat) ∧
  optM q0 fun a1 =>
  ∃ n2, w.cell? (a1.add ((IntKind.i64.wrap (((q0l : Nat) : Int) - 1)).toNat * 1)) = some (.int .u32 n2) ∧
  cutM (σ := Int × Unit) (fun J3 =>
   loopM (σ := Int × Int × Unit) (fun s6 X7 w8 =>
    cond (s6.2.1 != 0)
    ((0 : Int) ≤ 1 ∧
     X7 ((IntKind.i64.wrap (s6.1 + 1)), (s6.2.1.fdiv (2 ^ (min (1 : Int).toNat IntKind.u32.bits))), ()) w8)
    (J3 (s6.1, ()) w8))
   (0, n2, ()) w)
  (fun s4 w5 =>
   K (.int .i64 (IntKind.i64.wrap ((IntKind.i64.wrap ((IntKind.i64.wrap (((q0l : Nat) : Int) - 1)) * 32)) + s4.1))) w5))

/-- (*girder/bignum.Int).And -/
def S_p_bignum_Int_And (N : Nums) (P : Program) (q0 : Option Addr) (q1 : Option Addr) (q2 : Option Addr) (w : World) (K : Value → World → Prop) : Prop :=
 optM q1 fun a1 =>
 ∃ s2a s2l s2c, w.cell? (a1.add 1) = some (.slice s2a s2l s2c) ∧
 optM q2 fun a3 =>
 ∃ s4a s4l s4c, w.cell? (a3.add 1) = some (.slice s4a s4l s4c) ∧
 drM w fun w5 =>
 CallsX P N.f_p_bignum_Int_low #[.pointer q1, .int .i64 (IntKind.i64.wrap ((if ((s4l : Nat) : Int) > ((s2l : Nat) : Int) then ((s4l : Nat) : Int) else ((s2l : Nat) : Int)) + 1))] w5 fun v7 w6 =>
 ∃ s8a s8l s8c, v7 = (.slice s8a s8l s8c) ∧
 CallsX P N.f_p_bignum_Int_low #[.pointer q2, .int .i64 (IntKind.i64.wrap ((if ((s4l : Nat) : Int) > ((s2l : Nat) : Int) then ((s4l : Nat) : Int) else ((s2l : Nat) : Int)) + 1))] w6 fun v10 w9 =>
 ∃ s11a s11l s11c, v10 = (.slice s11a s11l s11c) ∧
 cutM (σ := Unit) (fun J12 =>
  loopM (σ := Int × Unit) (fun s15 X16 w17 =>
   cond (decide (s15.1 < (IntKind.i64.wrap ((if ((s4l : Nat) : Int) > ((s2l : Nat) : Int) then ((s4l : Nat) : Int) else ((s2l : Nat) : Int)) + 1))))
   ((0 : Int) ≤ s15.1 ∧ s15.1 < (s8l : Nat) ∧
    optM s8a fun a18 =>
    ∃ n19, w17.cell? (a18.add (s15.1.toNat * 1)) = some (.int .u32 n19) ∧
    (0 : Int) ≤ s15.1 ∧ s15.1 < (s11l : Nat) ∧
    optM s11a fun a20 =>
    ∃ n21, w17.cell? (a20.add (s15.1.toNat * 1)) = some (.int .u32 n21) ∧
    (0 : Int) ≤ s15.1 ∧ s15.1 < (s8l : Nat) ∧
    optM s8a fun a22 =>
    drM w17 fun w23 =>
    stM (a22.add (s15.1.toNat * 1)) (.int .u32 (IntKind.u32.wrap (BitVec.ofInt IntKind.u32.bits n19 &&& BitVec.ofInt IntKind.u32.bits n21).toNat)) w23 fun w24 =>
    drM w24 fun w25 =>
    X16 ((IntKind.i64.wrap (s15.1 + 1)), ()) w25)
   (J12 (()) w17))
  (0, ()) w9)
 (fun s13 w14 =>
  CallsX P N.f_p_bignum_Int_of #[.pointer q0, .slice s8a s8l s8c] w14 fun v27 w26 =>
  ∃ p28 : (Option Addr), v27 = (.pointer p28) ∧
  K (.pointer p28) w26)

/-- girder/girderref02.low -/
def S_girderref02_low (N : Nums) (P : Program) (q0 : Option Addr) (q0l q0c : Nat) (w : World) (K : Value → World → Prop) : Prop :=
 cutM (σ := Int × Unit) (fun J1 =>
  loopM (σ := Int × Unit) (fun s4 X5 w6 =>
   cond (decide (s4.1 > 0))
   ((0 : Int) ≤ (IntKind.i64.wrap (s4.1 - 1)) ∧ (IntKind.i64.wrap (s4.1 - 1)) < (q0l : Nat) ∧
    optM q0 fun a7 =>
    ∃ n8, w6.cell? (a7.add ((IntKind.i64.wrap (s4.1 - 1)).toNat * 1)) = some (.int .u64 n8) ∧
    cond (n8 == 0)
    (X5 ((IntKind.i64.wrap (s4.1 - 1)), ()) w6)
    (J1 (s4.1, ()) w6))
   (J1 (s4.1, ()) w6))
  (((q0l : Nat) : Int), ()) w)
 (fun s2 w3 =>
  (0 : Int) ≤ s2.1 ∧ s2.1 ≤ (q0c : Nat) ∧
  K (.slice (slBase q0 0 q0c 1) s2.1.toNat q0c) w3)

/-- girder/girderref02.product -/
def S_girderref02_product (N : Nums) (P : Program) (q0 : Option Addr) (q0l q0c : Nat) (q1 : Option Addr) (q1l q1c : Nat) (w : World) (K : Value → World → Prop) : Prop :=
 mkM N.t_uint64 1 8 #[.int .u64 0] (IntKind.i64.wrap (((q0l : Nat) : Int) + ((q1l : Nat) : Int))) (IntKind.i64.wrap (((q0l : Nat) : Int) + ((q1l : Nat) : Int))) w fun p1 w2 =>
 cutM (σ := Unit) (fun J3 =>
  loopM (σ := Int × Unit) (fun s6 X7 w8 =>
   cond (decide (s6.1 < ((q0l : Nat) : Int)))
   (cutM (σ := Int × Unit) (fun J9 =>
     loopM (σ := Int × Int × Unit) (fun s12 X13 w14 =>
      cond (decide (s12.2.1 < ((q1l : Nat) : Int)))
      ((0 : Int) ≤ s6.1 ∧ s6.1 < (q0l : Nat) ∧
       optM q0 fun a15 =>
       ∃ n16, w14.cell? (a15.add (s6.1.toNat * 1)) = some (.int .u64 n16) ∧
       (0 : Int) ≤ s12.2.1 ∧ s12.2.1 < (q1l : Nat) ∧
       optM q1 fun a17 =>
       ∃ n18, w14.cell? (a17.add (s12.2.1.toNat * 1)) = some (.int .u64 n18) ∧
       (0 : Int) ≤ (IntKind.i64.wrap (s6.1 + s12.2.1)) ∧ (IntKind.i64.wrap (s6.1 + s12.2.1)) < ((IntKind.i64.wrap (((q0l : Nat) : Int) + ((q1l : Nat) : Int))).toNat : Nat) ∧
       ∃ n19, w14.cell? (p1.add ((IntKind.i64.wrap (s6.1 + s12.2.1)).toNat * 1)) = some (.int .u64 n19) ∧
       drM w14 fun w20 =>
       (4294967296 : Int) ≠ 0 ∧
       (0 : Int) ≤ (IntKind.i64.wrap (s6.1 + s12.2.1)) ∧ (IntKind.i64.wrap (s6.1 + s12.2.1)) < ((IntKind.i64.wrap (((q0l : Nat) : Int) + ((q1l : Nat) : Int))).toNat : Nat) ∧
       stM (p1.add ((IntKind.i64.wrap (s6.1 + s12.2.1)).toNat * 1)) (.int .u64 ((IntKind.u64.wrap ((IntKind.u64.wrap ((IntKind.u64.wrap (n16 * n18)) + n19)) + s12.1)).tmod 4294967296)) w20 fun w21 =>
       (4294967296 : Int) ≠ 0 ∧
       X13 ((IntKind.u64.wrap ((IntKind.u64.wrap ((IntKind.u64.wrap ((IntKind.u64.wrap (n16 * n18)) + n19)) + s12.1)).tdiv 4294967296)), (IntKind.i64.wrap (s12.2.1 + 1)), ()) w21)
      (J9 (s12.1, ()) w14))
     (0, 0, ()) w8)
    (fun s10 w11 =>
     (0 : Int) ≤ (IntKind.i64.wrap (s6.1 + ((q1l : Nat) : Int))) ∧ (IntKind.i64.wrap (s6.1 + ((q1l : Nat) : Int))) < ((IntKind.i64.wrap (((q0l : Nat) : Int) + ((q1l : Nat) : Int))).toNat : Nat) ∧
     stM (p1.add ((IntKind.i64.wrap (s6.1 + ((q1l : Nat) : Int))).toNat * 1)) (.int .u64 s10.1) w11 fun w22 =>
     X7 ((IntKind.i64.wrap (s6.1 + 1)), ()) w22))
   (J3 (()) w8))
  (0, ()) w2)
 (fun s4 w5 =>
  CallsX P N.f_girderref02_low #[.slice (some p1) ((IntKind.i64.wrap (((q0l : Nat) : Int) + ((q1l : Nat) : Int))).toNat) ((IntKind.i64.wrap (((q0l : Nat) : Int) + ((q1l : Nat) : Int))).toNat)] w5 fun v24 w23 =>
  ∃ s25a s25l s25c, v24 = (.slice s25a s25l s25c) ∧
  K (.slice s25a s25l s25c) w23)

/-- math.IsInf -/
def S_math_IsInf (N : Nums) (P : Program) (q0 : Nat) (q1 : Int) (w : World) (K : Value → World → Prop) : Prop :=
 cutM (σ := Nat × Unit) (fun J1 =>
  cond (q1 == 0)
  (CallsX P N.f_math_Abs #[.float .f64 q0] w fun v5 w4 =>
   ∃ x6, v5 = (.float .f64 x6) ∧
   J1 (x6, ()) w4)
  (cutM (σ := Nat × Unit) (fun J7 =>
    cond (decide (q1 < 0))
    (J7 ((fneg q0), ()) w)
    (J7 (q0, ()) w))
   (fun s8 w9 =>
    J1 (s8.1, ()) w9)))
 (fun s2 w3 =>
  K (.bool (fgt s2.1 9218868437227405311)) w3)

/-- math.frexp -/
def S_math_frexp (N : Nums) (P : Program) (q0 : Nat) (w : World) (K : Value → World → Prop) : Prop :=
 cond (feq q0 0)
 (K (.tuple #[.float .f64 q0, .int .i64 0]) w)
 (CallsX P N.f_math_IsInf #[.float .f64 q0, .int .i64 0] w fun v2 w1 =>
  ∃ b3, v2 = (.bool b3) ∧
  cond (!b3)
  (CallsX P N.f_math_IsNaN #[.float .f64 q0] w1 fun v5 w4 =>
   ∃ b6, v5 = (.bool b6) ∧
   cond b6
   (K (.tuple #[.float .f64 q0, .int .i64 0]) w4)
   (CallsX P N.f_math_normalize #[.float .f64 q0] w4 fun v8 w7 =>
    ∃ x9, ∃ n10, v8 = (.tuple #[.float .f64 x9, .int .i64 n10]) ∧
    CallsX P N.f_math_Float64bits #[.float .f64 x9] w7 fun v12 w11 =>
    ∃ n13, v12 = (.int .u64 n13) ∧
    (0 : Int) ≤ 52 ∧
    CallsX P N.f_math_Float64frombits #[.int .u64 (IntKind.u64.wrap (BitVec.ofInt IntKind.u64.bits (IntKind.u64.wrap (BitVec.ofInt IntKind.u64.bits n13 &&& ~~~BitVec.ofInt IntKind.u64.bits 9218868437227405312).toNat) ||| BitVec.ofInt IntKind.u64.bits 4602678819172646912).toNat)] w11 fun v15 w14 =>
    ∃ x16, v15 = (.float .f64 x16) ∧
    K (.tuple #[.float .f64 x16, .int .i64 (IntKind.i64.wrap (n10 + (IntKind.i64.wrap ((IntKind.i64.wrap ((IntKind.i64.wrap (IntKind.u64.wrap (BitVec.ofInt IntKind.u64.bits (n13.fdiv (2 ^ (min (52 : Int).toNat IntKind.u64.bits))) &&& BitVec.ofInt IntKind.u64.bits 2047).toNat)) - 1023)) + 1))))]) w14))
  (K (.tuple #[.float .f64 q0, .int .i64 0]) w1))

/-- math.ldexp -/
def S_math_ldexp (N : Nums) (P : Program) (q0 : Nat) (q1 : Int) (w : World) (K : Value → World → Prop) : Prop :=
 cond (feq q0 0)
 (K (.float .f64 q0) w)
 (cutM (σ := Bool × Unit) (fun J1 =>
   CallsX P N.f_math_IsInf #[.float .f64 q0, .int .i64 0] w fun v5 w4 =>
   ∃ b6, v5 = (.bool b6) ∧
   cond (!b6)
   (CallsX P N.f_math_IsNaN #[.float .f64 q0] w4 fun v8 w7 =>
    ∃ b9, v8 = (.bool b9) ∧
    J1 (b9, ()) w7)
   (J1 (true, ()) w4))
  (fun s2 w3 =>
   cond s2.1
   (K (.float .f64 q0) w3)
   (CallsX P N.f_math_normalize #[.float .f64 q0] w3 fun v11 w10 =>
    ∃ x12, ∃ n13, v11 = (.tuple #[.float .f64 x12, .int .i64 n13]) ∧
    CallsX P N.f_math_Float64bits #[.float .f64 x12] w10 fun v15 w14 =>
    ∃ n16, v15 = (.int .u64 n16) ∧
    (0 : Int) ≤ 52 ∧
    cond (decide ((IntKind.i64.wrap ((IntKind.i64.wrap (q1 + n13)) + (IntKind.i64.wrap ((IntKind.i64.wrap (BitVec.ofInt IntKind.i64.bits (IntKind.i64.wrap (n16.fdiv (2 ^ (min (52 : Int).toNat IntKind.u64.bits)))) &&& BitVec.ofInt IntKind.i64.bits 2047).toNat) - 1023)))) < (-1075)))
    (CallsX P N.f_math_Copysign #[.float .f64 0, .float .f64 x12] w14 fun v18 w17 =>
     ∃ x19, v18 = (.float .f64 x19) ∧
     K (.float .f64 x19) w17)
    (cond (decide ((IntKind.i64.wrap ((IntKind.i64.wrap (q1 + n13)) + (IntKind.i64.wrap ((IntKind.i64.wrap (BitVec.ofInt IntKind.i64.bits (IntKind.i64.wrap (n16.fdiv (2 ^ (min (52 : Int).toNat IntKind.u64.bits)))) &&& BitVec.ofInt IntKind.i64.bits 2047).toNat) - 1023)))) > 1023))
     (cond (flt x12 0)
      (CallsX P N.f_math_Inf #[.int .i64 (-1)] w14 fun v21 w20 =>
       ∃ x22, v21 = (.float .f64 x22) ∧
       K (.float .f64 x22) w20)
      (CallsX P N.f_math_Inf #[.int .i64 1] w14 fun v24 w23 =>
       ∃ x25, v24 = (.float .f64 x25) ∧
       K (.float .f64 x25) w23))
     (cutM (σ := Int × Nat × Unit) (fun J26 =>
       cond (decide ((IntKind.i64.wrap ((IntKind.i64.wrap (q1 + n13)) + (IntKind.i64.wrap ((IntKind.i64.wrap (BitVec.ofInt IntKind.i64.bits (IntKind.i64.wrap (n16.fdiv (2 ^ (min (52 : Int).toNat IntKind.u64.bits)))) &&& BitVec.ofInt IntKind.i64.bits 2047).toNat) - 1023)))) < (-1022)))
       (J26 ((IntKind.i64.wrap ((IntKind.i64.wrap ((IntKind.i64.wrap (q1 + n13)) + (IntKind.i64.wrap ((IntKind.i64.wrap (BitVec.ofInt IntKind.i64.bits (IntKind.i64.wrap (n16.fdiv (2 ^ (min (52 : Int).toNat IntKind.u64.bits)))) &&& BitVec.ofInt IntKind.i64.bits 2047).toNat) - 1023)))) + 53)), 4368491638549381120, ()) w14)
       (J26 ((IntKind.i64.wrap ((IntKind.i64.wrap (q1 + n13)) + (IntKind.i64.wrap ((IntKind.i64.wrap (BitVec.ofInt IntKind.i64.bits (IntKind.i64.wrap (n16.fdiv (2 ^ (min (52 : Int).toNat IntKind.u64.bits)))) &&& BitVec.ofInt IntKind.i64.bits 2047).toNat) - 1023)))), 4607182418800017408, ()) w14))
      (fun s27 w28 =>
       (0 : Int) ≤ 52 ∧
       CallsX P N.f_math_Float64frombits #[.int .u64 (IntKind.u64.wrap (BitVec.ofInt IntKind.u64.bits (IntKind.u64.wrap (BitVec.ofInt IntKind.u64.bits n16 &&& ~~~BitVec.ofInt IntKind.u64.bits 9218868437227405312).toNat) ||| BitVec.ofInt IntKind.u64.bits (IntKind.u64.wrap ((IntKind.u64.wrap (IntKind.i64.wrap (s27.1 + 1023))) * 2 ^ (min (52 : Int).toNat IntKind.u64.bits)))).toNat)] w28 fun v30 w29 =>
       ∃ x31, v30 = (.float .f64 x31) ∧
       fresM (fmul s27.2.1 x31) w29 fun x32 w33 =>
       K (.float .f64 x32) w33))))))

/-- math.IsNaN -/
def S_math_IsNaN (N : Nums) (P : Program) (q0 : Nat) (w : World) (K : Value → World → Prop) : Prop :=
 K (.bool (!feq q0 q0)) w

/-- math.normalize -/
def S_math_normalize (N : Nums) (P : Program) (q0 : Nat) (w : World) (K : Value → World → Prop) : Prop :=
 CallsX P N.f_math_Abs #[.float .f64 q0] w fun v2 w1 =>
 ∃ x3, v2 = (.float .f64 x3) ∧
 cond (flt x3 4503599627370496)
 (fresM (fmul q0 4841369599423283200) w1 fun x4 w5 =>
  K (.tuple #[.float .f64 x4, .int .i64 (-52)]) w5)
 (K (.tuple #[.float .f64 q0, .int .i64 0]) w1)

/-- math.Inf -/
def S_math_Inf (N : Nums) (P : Program) (q0 : Int) (w : World) (K : Value → World → Prop) : Prop :=
 cutM (σ := Int × Unit) (fun J1 =>
  cond (decide (q0 ≥ 0))
  (J1 (9218868437227405312, ()) w)
  (J1 (18442240474082181120, ()) w))
 (fun s2 w3 =>
  CallsX P N.f_math_Float64frombits #[.int .u64 s2.1] w3 fun v5 w4 =>
  ∃ x6, v5 = (.float .f64 x6) ∧
  K (.float .f64 x6) w4)

end Go.Eng
