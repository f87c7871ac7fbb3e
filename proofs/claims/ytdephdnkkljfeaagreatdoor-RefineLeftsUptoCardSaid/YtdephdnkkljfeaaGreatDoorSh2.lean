/-
 Some of the functions as propositions in the manner of a weakest precondition, printed off the structured code by a program of the session. No condition.
-/
import Derived.Test.YtdephdnkkljfeaaGreatDoorTbl
import Derived.Test.YtdephdnkkljfeaaGreatDoorNm
set_option linter.all false
set_option maxRecDepth 100000
namespace Go.Eng
open Go
def S_bI_Or (N : Nums) (P : Program) (q0 : Option Addr) (q1 : Option Addr) (q2 : Option Addr) (w : World) (K : Value → World → Prop) : Prop :=
 optM q1 fun a1 =>
 cS_ w (a1.add 1) fun s2a s2l s2c =>
 optM q2 fun a3 =>
 cS_ w (a3.add 1) fun s4a s4l s4c =>
 drM w fun w5 =>
 CallsX P N.f_bI_low #[.pointer q1, .int .i64 (IntKind.i64.wrap ((if ((s4l : Nat) : Int) > ((s2l : Nat) : Int) then ((s4l : Nat) : Int) else ((s2l : Nat) : Int)) + 1))] w5 fun v7 w6 =>
 vS_ v7 fun s8a s8l s8c =>
 CallsX P N.f_bI_low #[.pointer q2, .int .i64 (IntKind.i64.wrap ((if ((s4l : Nat) : Int) > ((s2l : Nat) : Int) then ((s4l : Nat) : Int) else ((s2l : Nat) : Int)) + 1))] w6 fun v10 w9 =>
 vS_ v10 fun s11a s11l s11c =>
 cutM (σ := Unit) (fun J12 =>
  loopM (σ := Int × Unit) (fun s15 X16 w17 =>
   cond (decide (s15.1 < (IntKind.i64.wrap ((if ((s4l : Nat) : Int) > ((s2l : Nat) : Int) then ((s4l : Nat) : Int) else ((s2l : Nat) : Int)) + 1))))
   ((0 : Int) ≤ s15.1 ∧ s15.1 < (s8l : Nat) ∧
    optM s8a fun a18 =>
    cW_ w17 (a18.add (s15.1.toNat * 1)) fun n19 =>
    (0 : Int) ≤ s15.1 ∧ s15.1 < (s11l : Nat) ∧
    optM s11a fun a20 =>
    cW_ w17 (a20.add (s15.1.toNat * 1)) fun n21 =>
    (0 : Int) ≤ s15.1 ∧ s15.1 < (s8l : Nat) ∧
    optM s8a fun a22 =>
    drM w17 fun w23 =>
    stM (a22.add (s15.1.toNat * 1)) (.int .u32 (IntKind.u32.wrap (BitVec.ofInt IntKind.u32.bits n19 ||| BitVec.ofInt IntKind.u32.bits n21).toNat)) w23 fun w24 =>
    drM w24 fun w25 =>
    X16 ((IntKind.i64.wrap (s15.1 + 1)), ()) w25)
   (J12 (()) w17))
  (0, ()) w9)
 (fun s13 w14 =>
  CallsX P N.f_bI_of #[.pointer q0, .slice s8a s8l s8c] w14 fun v27 w26 =>
  ∃ p28 : (Option Addr), v27 = (.pointer p28) ∧
  K (.pointer p28) w26)
def S_bI_SetUint64 (N : Nums) (P : Program) (q0 : Option Addr) (q1 : Int) (w : World) (K : Value → World → Prop) : Prop :=
 CallsX P N.f_bn_words #[.int .u64 q1] w fun v2 w1 =>
 vS_ v2 fun s3a s3l s3c =>
 CallsX P N.f_bI_give #[.pointer q0, .bool false, .slice s3a s3l s3c] w1 fun v5 w4 =>
 ∃ p6 : (Option Addr), v5 = (.pointer p6) ∧
 K (.pointer p6) w4
def S_bI_Neg (N : Nums) (P : Program) (q0 : Option Addr) (q1 : Option Addr) (w : World) (K : Value → World → Prop) : Prop :=
 optM q1 fun a1 =>
 cB_ w a1 fun b2 =>
 optM q1 fun a3 =>
 cS_ w (a3.add 1) fun s4a s4l s4c =>
 drM w fun w5 =>
 CallsX P N.f_bn_twin #[.slice s4a s4l s4c] w5 fun v7 w6 =>
 vS_ v7 fun s8a s8l s8c =>
 w6.cell? a1 = some (.bool b2) ∧
 drM w6 fun w9 =>
 CallsX P N.f_bI_give #[.pointer q0, .bool (!b2), .slice s8a s8l s8c] w9 fun v11 w10 =>
 ∃ p12 : (Option Addr), v11 = (.pointer p12) ∧
 drM w10 fun w13 =>
 K (.pointer p12) w13
def S_bI_TrailingZeroBits (N : Nums) (P : Program) (q0 : Option Addr) (w : World) (K : Value → World → Prop) : Prop :=
 optM q0 fun a1 =>
 cS_ w (a1.add 1) fun s2a s2l s2c =>
 cond (((s2l : Nat) : Int) == 0)
 (K (.int .u64 0) w)
 (cutM (σ := Int × Unit) (fun J3 =>
   loopM (σ := Int × Unit) (fun s6 X7 w8 =>
    optM q0 fun a9 =>
    cS_ w8 (a9.add 1) fun s10a s10l s10c =>
    CallsX P N.f_bn_bit #[.slice s10a s10l s10c, .int .i64 (IntKind.i64.wrap s6.1)] w8 fun v12 w11 =>
    ∃ n13, v12 = (.int .u64 n13) ∧
    cond (n13 == 0)
    (X7 ((IntKind.u64.wrap (s6.1 + 1)), ()) w11)
    (J3 (s6.1, ()) w11))
   (0, ()) w)
  (fun s4 w5 =>
   K (.int .u64 s4.1) w5))
def S_bI_BitLen (N : Nums) (P : Program) (q0 : Option Addr) (w : World) (K : Value → World → Prop) : Prop :=
 optM q0 fun a1 =>
 cS_ w (a1.add 1) fun s2a s2l s2c =>
 CallsX P N.f_bn_length #[.slice s2a s2l s2c] w fun v4 w3 =>
 ∃ n5, v4 = (.int .i64 n5) ∧
 K (.int .i64 n5) w3
def S_dyad_limbs (N : Nums) (P : Program) (q0 : Option Addr) (w : World) (K : Value → World → Prop) : Prop :=
 newM #[.bool false, .slice none 0 0] N.t_bn_Int w fun p1 w2 =>
 CallsX P N.f_bI_Abs #[.pointer (some p1), .pointer q0] w2 fun v4 w3 =>
 ∃ p5 : (Option Addr), v4 = (.pointer p5) ∧
 newM #[.bool false, .slice none 0 0] N.t_bn_Int w3 fun p6 w7 =>
 newM #[.bool false, .slice none 0 0] N.t_bn_Int w7 fun p8 w9 =>
 CallsX P N.f_bI_SetUint64 #[.pointer (some p8), .int .u64 18446744073709551615] w9 fun v11 w10 =>
 ∃ p12 : (Option Addr), v11 = (.pointer p12) ∧
 cutM (σ := (Option Addr × Nat × Nat) × Unit) (fun J13 =>
  loopM (σ := (Option Addr × Nat × Nat) × Unit) (fun s16 X17 w18 =>
   CallsX P N.f_bI_Sign #[.pointer p5] w18 fun v20 w19 =>
   ∃ n21, v20 = (.int .i64 n21) ∧
   cond (decide (n21 > 0))
   (CallsX P N.f_bI_And #[.pointer (some p6), .pointer p5, .pointer p12] w19 fun v23 w22 =>
    ∃ p24 : (Option Addr), v23 = (.pointer p24) ∧
    CallsX P N.f_bI_Uint64 #[.pointer p24] w22 fun v26 w25 =>
    ∃ n27, v26 = (.int .u64 n27) ∧
    newM #[.int .u64 n27] N.t_uint64 w25 fun p28 w29 =>
    appM N.t_uint64 1 8 #[.int .u64 0] s16.1.1 s16.1.2.1 s16.1.2.2 (some p28) 1 w29 fun s30a s30l s30c w31 =>
    CallsX P N.f_bI_Rsh #[.pointer p5, .pointer p5, .int .u64 64] w31 fun v33 w32 =>
    ∃ p34 : (Option Addr), v33 = (.pointer p34) ∧
    X17 ((s30a, s30l, s30c), ()) w32)
   (J13 ((s16.1.1, s16.1.2.1, s16.1.2.2), ()) w19))
  ((none, 0, 0), ()) w10)
 (fun s14 w15 =>
  K (.slice s14.1.1 s14.1.2.1 s14.1.2.2) w15)
def S_bI_give (N : Nums) (P : Program) (q0 : Option Addr) (q1 : Bool) (q2 : Option Addr) (q2l q2c : Nat) (w : World) (K : Value → World → Prop) : Prop :=
 optM q0 fun a1 =>
 stM (a1.add 1) (.slice q2 q2l q2c) w fun w2 =>
 cond q1
 (optM q0 fun a3 =>
  stM a3 (.bool (decide (((q2l : Nat) : Int) > 0))) w2 fun w4 =>
  K (.pointer q0) w4)
 (optM q0 fun a5 =>
  stM a5 (.bool false) w2 fun w6 =>
  K (.pointer q0) w6)
def S_bn_mul (N : Nums) (P : Program) (q0 : Option Addr) (q0l q0c : Nat) (q1 : Option Addr) (q1l q1c : Nat) (w : World) (K : Value → World → Prop) : Prop :=
 cutM (σ := Bool × Unit) (fun J1 =>
  cond (!(((q0l : Nat) : Int) == 0))
  (J1 ((((q1l : Nat) : Int) == 0), ()) w)
  (J1 (true, ()) w))
 (fun s2 w3 =>
  cond s2.1
  (K (.slice none 0 0) w3)
  (mkM N.t_uint32 1 4 #[.int .u32 0] (IntKind.i64.wrap (((q0l : Nat) : Int) + ((q1l : Nat) : Int))) (IntKind.i64.wrap (((q0l : Nat) : Int) + ((q1l : Nat) : Int))) w3 fun p4 w5 =>
   cutM (σ := Unit) (fun J6 =>
    loopM (σ := Int × Unit) (fun s9 X10 w11 =>
     cond (decide (s9.1 < ((q0l : Nat) : Int)))
     (cutM (σ := Int × Unit) (fun J12 =>
       loopM (σ := Int × Int × Unit) (fun s15 X16 w17 =>
        cond (decide (s15.2.1 < ((q1l : Nat) : Int)))
        ((0 : Int) ≤ s9.1 ∧ s9.1 < (q0l : Nat) ∧
         optM q0 fun a18 =>
         cW_ w17 (a18.add (s9.1.toNat * 1)) fun n19 =>
         (0 : Int) ≤ s15.2.1 ∧ s15.2.1 < (q1l : Nat) ∧
         optM q1 fun a20 =>
         cW_ w17 (a20.add (s15.2.1.toNat * 1)) fun n21 =>
         (0 : Int) ≤ (IntKind.i64.wrap (s9.1 + s15.2.1)) ∧ (IntKind.i64.wrap (s9.1 + s15.2.1)) < ((IntKind.i64.wrap (((q0l : Nat) : Int) + ((q1l : Nat) : Int))).toNat : Nat) ∧
         ∃ n22, w17.cell? (p4.add ((IntKind.i64.wrap (s9.1 + s15.2.1)).toNat * 1)) = some (.int .u32 n22) ∧
         drM w17 fun w23 =>
         (0 : Int) ≤ (IntKind.i64.wrap (s9.1 + s15.2.1)) ∧ (IntKind.i64.wrap (s9.1 + s15.2.1)) < ((IntKind.i64.wrap (((q0l : Nat) : Int) + ((q1l : Nat) : Int))).toNat : Nat) ∧
         stM (p4.add ((IntKind.i64.wrap (s9.1 + s15.2.1)).toNat * 1)) (.int .u32 (IntKind.u32.wrap (IntKind.u64.wrap (s15.1 + (IntKind.u64.wrap ((IntKind.u64.wrap ((IntKind.u64.wrap n19) * (IntKind.u64.wrap n21))) + (IntKind.u64.wrap n22))))))) w23 fun w24 =>
         (0 : Int) ≤ 32 ∧
         X16 (((IntKind.u64.wrap (s15.1 + (IntKind.u64.wrap ((IntKind.u64.wrap ((IntKind.u64.wrap n19) * (IntKind.u64.wrap n21))) + (IntKind.u64.wrap n22))))).fdiv (2 ^ (min (32 : Int).toNat IntKind.u64.bits))), (IntKind.i64.wrap (s15.2.1 + 1)), ()) w24)
        (J12 (s15.1, ()) w17))
       (0, 0, ()) w11)
      (fun s13 w14 =>
       (0 : Int) ≤ (IntKind.i64.wrap (s9.1 + ((q1l : Nat) : Int))) ∧ (IntKind.i64.wrap (s9.1 + ((q1l : Nat) : Int))) < ((IntKind.i64.wrap (((q0l : Nat) : Int) + ((q1l : Nat) : Int))).toNat : Nat) ∧
       stM (p4.add ((IntKind.i64.wrap (s9.1 + ((q1l : Nat) : Int))).toNat * 1)) (.int .u32 (IntKind.u32.wrap s13.1)) w14 fun w25 =>
       X10 ((IntKind.i64.wrap (s9.1 + 1)), ()) w25))
     (J6 (()) w11))
    (0, ()) w5)
   (fun s7 w8 =>
    CallsX P N.f_bn_trim #[.slice (some p4) ((IntKind.i64.wrap (((q0l : Nat) : Int) + ((q1l : Nat) : Int))).toNat) ((IntKind.i64.wrap (((q0l : Nat) : Int) + ((q1l : Nat) : Int))).toNat)] w8 fun v27 w26 =>
    vS_ v27 fun s28a s28l s28c =>
    K (.slice s28a s28l s28c) w26)))
def S_bn_twin (N : Nums) (P : Program) (q0 : Option Addr) (q0l q0c : Nat) (w : World) (K : Value → World → Prop) : Prop :=
 appM N.t_uint32 1 4 #[.int .u32 0] none 0 0 q0 q0l w fun s1a s1l s1c w2 =>
 K (.slice s1a s1l s1c) w2
def S_bn_left (N : Nums) (P : Program) (q0 : Option Addr) (q0l q0c : Nat) (q1 : Int) (w : World) (K : Value → World → Prop) : Prop :=
 cond (((q0l : Nat) : Int) == 0)
 (K (.slice none 0 0) w)
 ((32 : Int) ≠ 0 ∧
  (32 : Int) ≠ 0 ∧
  mkM N.t_uint32 1 4 #[.int .u32 0] (IntKind.i64.wrap ((IntKind.i64.wrap (((q0l : Nat) : Int) + (IntKind.i64.wrap (IntKind.u64.wrap (q1.tdiv 32))))) + 1)) (IntKind.i64.wrap ((IntKind.i64.wrap (((q0l : Nat) : Int) + (IntKind.i64.wrap (IntKind.u64.wrap (q1.tdiv 32))))) + 1)) w fun p1 w2 =>
  cutM (σ := Unit) (fun J3 =>
   loopM (σ := Int × Unit) (fun s6 X7 w8 =>
    cond (decide (s6.1 < ((q0l : Nat) : Int)))
    ((0 : Int) ≤ s6.1 ∧ s6.1 < (q0l : Nat) ∧
     optM q0 fun a9 =>
     cW_ w8 (a9.add (s6.1.toNat * 1)) fun n10 =>
     (0 : Int) ≤ (q1.tmod 32) ∧
     (0 : Int) ≤ (IntKind.i64.wrap (s6.1 + (IntKind.i64.wrap (IntKind.u64.wrap (q1.tdiv 32))))) ∧ (IntKind.i64.wrap (s6.1 + (IntKind.i64.wrap (IntKind.u64.wrap (q1.tdiv 32))))) < ((IntKind.i64.wrap ((IntKind.i64.wrap (((q0l : Nat) : Int) + (IntKind.i64.wrap (IntKind.u64.wrap (q1.tdiv 32))))) + 1)).toNat : Nat) ∧
     ∃ n11, w8.cell? (p1.add ((IntKind.i64.wrap (s6.1 + (IntKind.i64.wrap (IntKind.u64.wrap (q1.tdiv 32))))).toNat * 1)) = some (.int .u32 n11) ∧
     (0 : Int) ≤ (IntKind.i64.wrap (s6.1 + (IntKind.i64.wrap (IntKind.u64.wrap (q1.tdiv 32))))) ∧ (IntKind.i64.wrap (s6.1 + (IntKind.i64.wrap (IntKind.u64.wrap (q1.tdiv 32))))) < ((IntKind.i64.wrap ((IntKind.i64.wrap (((q0l : Nat) : Int) + (IntKind.i64.wrap (IntKind.u64.wrap (q1.tdiv 32))))) + 1)).toNat : Nat) ∧
     stM (p1.add ((IntKind.i64.wrap (s6.1 + (IntKind.i64.wrap (IntKind.u64.wrap (q1.tdiv 32))))).toNat * 1)) (.int .u32 (IntKind.u32.wrap (BitVec.ofInt IntKind.u32.bits n11 ||| BitVec.ofInt IntKind.u32.bits (IntKind.u32.wrap (IntKind.u64.wrap ((IntKind.u64.wrap n10) * 2 ^ (min (q1.tmod 32).toNat IntKind.u64.bits))))).toNat)) w8 fun w12 =>
     (0 : Int) ≤ (IntKind.i64.wrap ((IntKind.i64.wrap (s6.1 + (IntKind.i64.wrap (IntKind.u64.wrap (q1.tdiv 32))))) + 1)) ∧ (IntKind.i64.wrap ((IntKind.i64.wrap (s6.1 + (IntKind.i64.wrap (IntKind.u64.wrap (q1.tdiv 32))))) + 1)) < ((IntKind.i64.wrap ((IntKind.i64.wrap (((q0l : Nat) : Int) + (IntKind.i64.wrap (IntKind.u64.wrap (q1.tdiv 32))))) + 1)).toNat : Nat) ∧
     ∃ n13, w12.cell? (p1.add ((IntKind.i64.wrap ((IntKind.i64.wrap (s6.1 + (IntKind.i64.wrap (IntKind.u64.wrap (q1.tdiv 32))))) + 1)).toNat * 1)) = some (.int .u32 n13) ∧
     (0 : Int) ≤ 32 ∧
     (0 : Int) ≤ (IntKind.i64.wrap ((IntKind.i64.wrap (s6.1 + (IntKind.i64.wrap (IntKind.u64.wrap (q1.tdiv 32))))) + 1)) ∧ (IntKind.i64.wrap ((IntKind.i64.wrap (s6.1 + (IntKind.i64.wrap (IntKind.u64.wrap (q1.tdiv 32))))) + 1)) < ((IntKind.i64.wrap ((IntKind.i64.wrap (((q0l : Nat) : Int) + (IntKind.i64.wrap (IntKind.u64.wrap (q1.tdiv 32))))) + 1)).toNat : Nat) ∧
     stM (p1.add ((IntKind.i64.wrap ((IntKind.i64.wrap (s6.1 + (IntKind.i64.wrap (IntKind.u64.wrap (q1.tdiv 32))))) + 1)).toNat * 1)) (.int .u32 (IntKind.u32.wrap (BitVec.ofInt IntKind.u32.bits n13 ||| BitVec.ofInt IntKind.u32.bits (IntKind.u32.wrap ((IntKind.u64.wrap ((IntKind.u64.wrap n10) * 2 ^ (min (q1.tmod 32).toNat IntKind.u64.bits))).fdiv (2 ^ (min (32 : Int).toNat IntKind.u64.bits))))).toNat)) w12 fun w14 =>
     X7 ((IntKind.i64.wrap (s6.1 + 1)), ()) w14)
    (J3 (()) w8))
   (0, ()) w2)
  (fun s4 w5 =>
   CallsX P N.f_bn_trim #[.slice (some p1) ((IntKind.i64.wrap ((IntKind.i64.wrap (((q0l : Nat) : Int) + (IntKind.i64.wrap (IntKind.u64.wrap (q1.tdiv 32))))) + 1)).toNat) ((IntKind.i64.wrap ((IntKind.i64.wrap (((q0l : Nat) : Int) + (IntKind.i64.wrap (IntKind.u64.wrap (q1.tdiv 32))))) + 1)).toNat)] w5 fun v16 w15 =>
   vS_ v16 fun s17a s17l s17c =>
   K (.slice s17a s17l s17c) w15))
def S_bn_add (N : Nums) (P : Program) (q0 : Option Addr) (q0l q0c : Nat) (q1 : Option Addr) (q1l q1c : Nat) (w : World) (K : Value → World → Prop) : Prop :=
 cutM (σ := (Option Addr × Nat × Nat) × (Option Addr × Nat × Nat) × Unit) (fun J1 =>
  cond (decide (((q0l : Nat) : Int) < ((q1l : Nat) : Int)))
  (J1 ((q1, q1l, q1c), (q0, q0l, q0c), ()) w)
  (J1 ((q0, q0l, q0c), (q1, q1l, q1c), ()) w))
 (fun s2 w3 =>
  mkM N.t_uint32 1 4 #[.int .u32 0] (IntKind.i64.wrap (((s2.1.2.1 : Nat) : Int) + 1)) (IntKind.i64.wrap (((s2.1.2.1 : Nat) : Int) + 1)) w3 fun p4 w5 =>
  cutM (σ := Int × Unit) (fun J6 =>
   loopM (σ := Int × Int × Unit) (fun s9 X10 w11 =>
    cond (decide (s9.2.1 < ((s2.1.2.1 : Nat) : Int)))
    ((0 : Int) ≤ s9.2.1 ∧ s9.2.1 < (s2.1.2.1 : Nat) ∧
     optM s2.1.1 fun a12 =>
     cW_ w11 (a12.add (s9.2.1.toNat * 1)) fun n13 =>
     cutM (σ := Int × Unit) (fun J14 =>
      cond (decide (s9.2.1 < ((s2.2.1.2.1 : Nat) : Int)))
      ((0 : Int) ≤ s9.2.1 ∧ s9.2.1 < (s2.2.1.2.1 : Nat) ∧
       optM s2.2.1.1 fun a17 =>
       cW_ w11 (a17.add (s9.2.1.toNat * 1)) fun n18 =>
       J14 ((IntKind.u64.wrap ((IntKind.u64.wrap (s9.1 + (IntKind.u64.wrap n13))) + (IntKind.u64.wrap n18))), ()) w11)
      (J14 ((IntKind.u64.wrap (s9.1 + (IntKind.u64.wrap n13))), ()) w11))
     (fun s15 w16 =>
      (0 : Int) ≤ s9.2.1 ∧ s9.2.1 < ((IntKind.i64.wrap (((s2.1.2.1 : Nat) : Int) + 1)).toNat : Nat) ∧
      stM (p4.add (s9.2.1.toNat * 1)) (.int .u32 (IntKind.u32.wrap s15.1)) w16 fun w19 =>
      (0 : Int) ≤ 32 ∧
      X10 ((s15.1.fdiv (2 ^ (min (32 : Int).toNat IntKind.u64.bits))), (IntKind.i64.wrap (s9.2.1 + 1)), ()) w19))
    (J6 (s9.1, ()) w11))
   (0, 0, ()) w5)
  (fun s7 w8 =>
   (0 : Int) ≤ ((s2.1.2.1 : Nat) : Int) ∧ ((s2.1.2.1 : Nat) : Int) < ((IntKind.i64.wrap (((s2.1.2.1 : Nat) : Int) + 1)).toNat : Nat) ∧
   stM (p4.add (((s2.1.2.1 : Nat) : Int).toNat * 1)) (.int .u32 (IntKind.u32.wrap s7.1)) w8 fun w20 =>
   CallsX P N.f_bn_trim #[.slice (some p4) ((IntKind.i64.wrap (((s2.1.2.1 : Nat) : Int) + 1)).toNat) ((IntKind.i64.wrap (((s2.1.2.1 : Nat) : Int) + 1)).toNat)] w20 fun v22 w21 =>
   vS_ v22 fun s23a s23l s23c =>
   K (.slice s23a s23l s23c) w21))
def S_bn_right (N : Nums) (P : Program) (q0 : Option Addr) (q0l q0c : Nat) (q1 : Int) (w : World) (K : Value → World → Prop) : Prop :=
 (32 : Int) ≠ 0 ∧
 (32 : Int) ≠ 0 ∧
 cond (decide ((IntKind.i64.wrap (IntKind.u64.wrap (q1.tdiv 32))) ≥ ((q0l : Nat) : Int)))
 (K (.slice none 0 0) w)
 (mkM N.t_uint32 1 4 #[.int .u32 0] (IntKind.i64.wrap (((q0l : Nat) : Int) - (IntKind.i64.wrap (IntKind.u64.wrap (q1.tdiv 32))))) (IntKind.i64.wrap (((q0l : Nat) : Int) - (IntKind.i64.wrap (IntKind.u64.wrap (q1.tdiv 32))))) w fun p1 w2 =>
  cutM (σ := Unit) (fun J3 =>
   loopM (σ := Int × Unit) (fun s6 X7 w8 =>
    cond (decide (s6.1 < (((IntKind.i64.wrap (((q0l : Nat) : Int) - (IntKind.i64.wrap (IntKind.u64.wrap (q1.tdiv 32))))).toNat : Nat) : Int)))
    ((0 : Int) ≤ (IntKind.i64.wrap (s6.1 + (IntKind.i64.wrap (IntKind.u64.wrap (q1.tdiv 32))))) ∧ (IntKind.i64.wrap (s6.1 + (IntKind.i64.wrap (IntKind.u64.wrap (q1.tdiv 32))))) < (q0l : Nat) ∧
     optM q0 fun a9 =>
     ∃ n10, w8.cell? (a9.add ((IntKind.i64.wrap (s6.1 + (IntKind.i64.wrap (IntKind.u64.wrap (q1.tdiv 32))))).toNat * 1)) = some (.int .u32 n10) ∧
     cutM (σ := Int × Unit) (fun J11 =>
      cond (decide ((IntKind.i64.wrap ((IntKind.i64.wrap (s6.1 + (IntKind.i64.wrap (IntKind.u64.wrap (q1.tdiv 32))))) + 1)) < ((q0l : Nat) : Int)))
      ((0 : Int) ≤ (IntKind.i64.wrap ((IntKind.i64.wrap (s6.1 + (IntKind.i64.wrap (IntKind.u64.wrap (q1.tdiv 32))))) + 1)) ∧ (IntKind.i64.wrap ((IntKind.i64.wrap (s6.1 + (IntKind.i64.wrap (IntKind.u64.wrap (q1.tdiv 32))))) + 1)) < (q0l : Nat) ∧
       optM q0 fun a14 =>
       ∃ n15, w8.cell? (a14.add ((IntKind.i64.wrap ((IntKind.i64.wrap (s6.1 + (IntKind.i64.wrap (IntKind.u64.wrap (q1.tdiv 32))))) + 1)).toNat * 1)) = some (.int .u32 n15) ∧
       (0 : Int) ≤ 32 ∧
       J11 ((IntKind.u64.wrap (BitVec.ofInt IntKind.u64.bits (IntKind.u64.wrap n10) ||| BitVec.ofInt IntKind.u64.bits (IntKind.u64.wrap ((IntKind.u64.wrap n15) * 2 ^ (min (32 : Int).toNat IntKind.u64.bits)))).toNat), ()) w8)
      (J11 ((IntKind.u64.wrap n10), ()) w8))
     (fun s12 w13 =>
      (0 : Int) ≤ (q1.tmod 32) ∧
      (0 : Int) ≤ s6.1 ∧ s6.1 < ((IntKind.i64.wrap (((q0l : Nat) : Int) - (IntKind.i64.wrap (IntKind.u64.wrap (q1.tdiv 32))))).toNat : Nat) ∧
      stM (p1.add (s6.1.toNat * 1)) (.int .u32 (IntKind.u32.wrap (s12.1.fdiv (2 ^ (min (q1.tmod 32).toNat IntKind.u64.bits))))) w13 fun w16 =>
      X7 ((IntKind.i64.wrap (s6.1 + 1)), ()) w16))
    (J3 (()) w8))
   (0, ()) w2)
  (fun s4 w5 =>
   CallsX P N.f_bn_trim #[.slice (some p1) ((IntKind.i64.wrap (((q0l : Nat) : Int) - (IntKind.i64.wrap (IntKind.u64.wrap (q1.tdiv 32))))).toNat) ((IntKind.i64.wrap (((q0l : Nat) : Int) - (IntKind.i64.wrap (IntKind.u64.wrap (q1.tdiv 32))))).toNat)] w5 fun v18 w17 =>
   vS_ v18 fun s19a s19l s19c =>
   K (.slice s19a s19l s19c) w17))
def S_bn_sub (N : Nums) (P : Program) (q0 : Option Addr) (q0l q0c : Nat) (q1 : Option Addr) (q1l q1c : Nat) (w : World) (K : Value → World → Prop) : Prop :=
 mkM N.t_uint32 1 4 #[.int .u32 0] ((q0l : Nat) : Int) ((q0l : Nat) : Int) w fun p1 w2 =>
 cutM (σ := Unit) (fun J3 =>
  loopM (σ := Int × Int × Unit) (fun s6 X7 w8 =>
   cond (decide (s6.2.1 < ((q0l : Nat) : Int)))
   ((0 : Int) ≤ s6.2.1 ∧ s6.2.1 < (q0l : Nat) ∧
    optM q0 fun a9 =>
    cW_ w8 (a9.add (s6.2.1.toNat * 1)) fun n10 =>
    cutM (σ := Int × Unit) (fun J11 =>
     cond (decide (s6.2.1 < ((q1l : Nat) : Int)))
     ((0 : Int) ≤ s6.2.1 ∧ s6.2.1 < (q1l : Nat) ∧
      optM q1 fun a14 =>
      cW_ w8 (a14.add (s6.2.1.toNat * 1)) fun n15 =>
      J11 ((IntKind.u64.wrap ((IntKind.u64.wrap ((IntKind.u64.wrap n10) - s6.1)) - (IntKind.u64.wrap n15))), ()) w8)
     (J11 ((IntKind.u64.wrap ((IntKind.u64.wrap n10) - s6.1)), ()) w8))
    (fun s12 w13 =>
     (0 : Int) ≤ s6.2.1 ∧ s6.2.1 < (((q0l : Nat) : Int).toNat : Nat) ∧
     stM (p1.add (s6.2.1.toNat * 1)) (.int .u32 (IntKind.u32.wrap s12.1)) w13 fun w16 =>
     (0 : Int) ≤ 63 ∧
     X7 ((s12.1.fdiv (2 ^ (min (63 : Int).toNat IntKind.u64.bits))), (IntKind.i64.wrap (s6.2.1 + 1)), ()) w16))
   (J3 (()) w8))
  (0, 0, ()) w2)
 (fun s4 w5 =>
  CallsX P N.f_bn_trim #[.slice (some p1) (((q0l : Nat) : Int).toNat) (((q0l : Nat) : Int).toNat)] w5 fun v18 w17 =>
  vS_ v18 fun s19a s19l s19c =>
  K (.slice s19a s19l s19c) w17)
def S_bn_sum (N : Nums) (P : Program) (q0 : Bool) (q1 : Option Addr) (q1l q1c : Nat) (q2 : Bool) (q3 : Option Addr) (q3l q3c : Nat) (w : World) (K : Value → World → Prop) : Prop :=
 cond (q0 == q2)
 (CallsX P N.f_bn_add #[.slice q1 q1l q1c, .slice q3 q3l q3c] w fun v2 w1 =>
  vS_ v2 fun s3a s3l s3c =>
  K (.tuple #[.bool q0, .slice s3a s3l s3c]) w1)
 (CallsX P N.f_bn_cmp #[.slice q1 q1l q1c, .slice q3 q3l q3c] w fun v5 w4 =>
  ∃ n6, v5 = (.int .i64 n6) ∧
  cond (decide (n6 ≥ 0))
  (CallsX P N.f_bn_sub #[.slice q1 q1l q1c, .slice q3 q3l q3c] w4 fun v8 w7 =>
   vS_ v8 fun s9a s9l s9c =>
   K (.tuple #[.bool q0, .slice s9a s9l s9c]) w7)
  (CallsX P N.f_bn_sub #[.slice q3 q3l q3c, .slice q1 q1l q1c] w4 fun v11 w10 =>
   vS_ v11 fun s12a s12l s12c =>
   K (.tuple #[.bool q2, .slice s12a s12l s12c]) w10))
def S_bn_cmp (N : Nums) (P : Program) (q0 : Option Addr) (q0l q0c : Nat) (q1 : Option Addr) (q1l q1c : Nat) (w : World) (K : Value → World → Prop) : Prop :=
 cond (((q0l : Nat) : Int) != ((q1l : Nat) : Int))
 (cond (decide (((q0l : Nat) : Int) < ((q1l : Nat) : Int)))
  (K (.int .i64 (-1)) w)
  (K (.int .i64 1) w))
 (cutM (σ := Unit) (fun J1 =>
   loopM (σ := Int × Unit) (fun s4 X5 w6 =>
    cond (decide (s4.1 ≥ 0))
    ((0 : Int) ≤ s4.1 ∧ s4.1 < (q0l : Nat) ∧
     optM q0 fun a7 =>
     cW_ w6 (a7.add (s4.1.toNat * 1)) fun n8 =>
     (0 : Int) ≤ s4.1 ∧ s4.1 < (q1l : Nat) ∧
     optM q1 fun a9 =>
     cW_ w6 (a9.add (s4.1.toNat * 1)) fun n10 =>
     drM w6 fun w11 =>
     cond (n8 != n10)
     ((0 : Int) ≤ s4.1 ∧ s4.1 < (q0l : Nat) ∧
      optM q0 fun a12 =>
      cW_ w11 (a12.add (s4.1.toNat * 1)) fun n13 =>
      (0 : Int) ≤ s4.1 ∧ s4.1 < (q1l : Nat) ∧
      optM q1 fun a14 =>
      cW_ w11 (a14.add (s4.1.toNat * 1)) fun n15 =>
      drM w11 fun w16 =>
      cond (decide (n13 < n15))
      (K (.int .i64 (-1)) w16)
      (K (.int .i64 1) w16))
     (X5 ((IntKind.i64.wrap (s4.1 - 1)), ()) w11))
    (J1 (()) w6))
   ((IntKind.i64.wrap (((q0l : Nat) : Int) - 1)), ()) w)
  (fun s2 w3 =>
   K (.int .i64 0) w3))
def S_bI_SetInt64 (N : Nums) (P : Program) (q0 : Option Addr) (q1 : Int) (w : World) (K : Value → World → Prop) : Prop :=
 cutM (σ := Int × Unit) (fun J1 =>
  cond (decide (q1 < 0))
  (J1 ((IntKind.u64.wrap (0 - (IntKind.u64.wrap q1))), ()) w)
  (J1 ((IntKind.u64.wrap q1), ()) w))
 (fun s2 w3 =>
  CallsX P N.f_bn_words #[.int .u64 s2.1] w3 fun v5 w4 =>
  vS_ v5 fun s6a s6l s6c =>
  CallsX P N.f_bI_give #[.pointer q0, .bool (decide (q1 < 0)), .slice s6a s6l s6c] w4 fun v8 w7 =>
  ∃ p9 : (Option Addr), v8 = (.pointer p9) ∧
  K (.pointer p9) w7)
def S_bits_Join (N : Nums) (P : Program) (q0_0 : Bool) (q0_1 : Int) (q0_2 : Int) (w : World) (K : Value → World → Prop) : Prop :=
 newM #[.bool q0_0, .int .u64 q0_1, .int .i64 q0_2] N.t_Parts w fun p1 w2 =>
 cU_ w2 (p1.add 1) fun n3 =>
 CallsX P N.f_math_bits_Len64 #[.int .u64 n3] w2 fun v5 w4 =>
 ∃ n6, v5 = (.int .i64 n6) ∧
 cutM (σ := Bool × Unit) (fun J7 =>
  cU_ w4 (p1.add 1) fun n10 =>
  cond (n10 == 0)
  (cI_ w4 (p1.add 2) fun n11 =>
   cond (!(n11 != 0))
   (cU_ w4 (p1.add 1) fun n12 =>
    cond (n12 != 0)
    (cU_ w4 (p1.add 1) fun n13 =>
     (2 : Int) ≠ 0 ∧
     J7 (((n13.tmod 2) == 0), ()) w4)
    (J7 (false, ()) w4))
   (J7 (true, ()) w4))
  (cU_ w4 (p1.add 1) fun n14 =>
   cond (n14 != 0)
   (cU_ w4 (p1.add 1) fun n15 =>
    (2 : Int) ≠ 0 ∧
    J7 (((n15.tmod 2) == 0), ()) w4)
   (J7 (false, ()) w4)))
 (fun s8 w9 =>
  cond s8.1
  (K (.tuple #[.float .f64 0, .bool false]) w9)
  (cutM (σ := Bool × Unit) (fun J16 =>
    cond (!(decide (n6 > 53)))
    (cI_ w9 (p1.add 2) fun n19 =>
     cond (!(decide (n19 > 1024)))
     (cI_ w9 (p1.add 2) fun n20 =>
      cond (!(decide (n20 < (-1074))))
      (cU_ w9 (p1.add 1) fun n21 =>
       cond (n21 != 0)
       (cI_ w9 (p1.add 2) fun n22 =>
        J16 ((decide ((IntKind.i64.wrap (n22 + n6)) > 1024)), ()) w9)
       (J16 (false, ()) w9))
      (J16 (true, ()) w9))
     (J16 (true, ()) w9))
    (J16 (true, ()) w9))
   (fun s17 w18 =>
    cond s17.1
    (K (.tuple #[.float .f64 0, .bool false]) w18)
    (cU_ w18 (p1.add 1) fun n23 =>
     cI_ w18 (p1.add 2) fun n24 =>
     CallsX P N.f_math_Ldexp #[.float .f64 (FloatKind.f64.nearest n23), .int .i64 n24] w18 fun v26 w25 =>
     ∃ x27, v26 = (.float .f64 x27) ∧
     cB_ w25 p1 fun b28 =>
     cutM (σ := Nat × Unit) (fun J29 =>
      cond b28
      (CallsX P N.f_math_Copysign #[.float .f64 x27, .float .f64 13830554455654793216] w25 fun v33 w32 =>
       ∃ x34, v33 = (.float .f64 x34) ∧
       J29 (x34, ()) w32)
      (J29 (x27, ()) w25))
     (fun s30 w31 =>
      K (.tuple #[.float .f64 s30.1, .bool true]) w31)))))
def S_bits_Next (N : Nums) (P : Program) (q0 : Nat) (q1 : Bool) (w : World) (K : Value → World → Prop) : Prop :=
 CallsX P N.f_bits_Place #[.float .f64 q0] w fun v2 w1 =>
 ∃ n3, ∃ b4, v2 = (.tuple #[.int .i64 n3, .bool b4]) ∧
 cond (!b4)
 (K (.float .f64 q0) w1)
 (cutM (σ := Int × Unit) (fun J5 =>
   cond q1
   (J5 ((if 9218868437227405312 < (IntKind.i64.wrap (n3 + 1)) then 9218868437227405312 else (IntKind.i64.wrap (n3 + 1))), ()) w1)
   (J5 ((if (-9218868437227405312) > (IntKind.i64.wrap (n3 - 1)) then (-9218868437227405312) else (IntKind.i64.wrap (n3 - 1))), ()) w1))
  (fun s6 w7 =>
   CallsX P N.f_bits_At #[.int .i64 s6.1] w7 fun v9 w8 =>
   ∃ x10, ∃ b11, v9 = (.tuple #[.float .f64 x10, .bool b11]) ∧
   K (.float .f64 x10) w8))
def S_r01_Kind (N : Nums) (P : Program) (q0 : Nat) (w : World) (K : Value → World → Prop) : Prop :=
 CallsX P N.f_r01_fields #[.float .f64 q0] w fun v2 w1 =>
 ∃ b3, ∃ n4, ∃ n5, v2 = (.tuple #[.bool b3, .int .i64 n4, .int .u64 n5]) ∧
 cond (n4 == 2047)
 (cond (n5 != 0)
  (K (.int .i64 4) w1)
  (cond (n4 == 2047)
   (K (.int .i64 3) w1)
   (cond (decide (n4 > 0))
    (K (.int .i64 2) w1)
    (cond (n5 != 0)
     (K (.int .i64 1) w1)
     (K (.int .i64 0) w1)))))
 (cond (n4 == 2047)
  (K (.int .i64 3) w1)
  (cond (decide (n4 > 0))
   (K (.int .i64 2) w1)
   (cond (n5 != 0)
    (K (.int .i64 1) w1)
    (K (.int .i64 0) w1))))
def S_r02_low (N : Nums) (P : Program) (q0 : Option Addr) (q0l q0c : Nat) (w : World) (K : Value → World → Prop) : Prop :=
 cutM (σ := Int × Unit) (fun J1 =>
  loopM (σ := Int × Unit) (fun s4 X5 w6 =>
   cond (decide (s4.1 > 0))
   ((0 : Int) ≤ (IntKind.i64.wrap (s4.1 - 1)) ∧ (IntKind.i64.wrap (s4.1 - 1)) < (q0l : Nat) ∧
    optM q0 fun a7 =>
    ∃ n8, w6.cell? (a7.add ((IntKind.i64.wrap (s4.1 - 1)).toNat * 1)) = some (.int .u64 n8) ∧
    cond (n8 == 0)
    (X5 ((IntKind.i64.wrap (s4.1 - 1)), ()) w6)
    (J1 (s4.1, ()) w6))
   (J1 (s4.1, ()) w6))
  (((q0l : Nat) : Int), ()) w)
 (fun s2 w3 =>
  (0 : Int) ≤ s2.1 ∧ s2.1 ≤ (q0c : Nat) ∧
  K (.slice (slBase q0 0 q0c 1) s2.1.toNat q0c) w3)
def S_math_Copysign (N : Nums) (P : Program) (q0 : Nat) (q1 : Nat) (w : World) (K : Value → World → Prop) : Prop :=
 CallsX P N.f_math_Float64bits #[.float .f64 q0] w fun v2 w1 =>
 ∃ n3, v2 = (.int .u64 n3) ∧
 CallsX P N.f_math_Float64bits #[.float .f64 q1] w1 fun v5 w4 =>
 ∃ n6, v5 = (.int .u64 n6) ∧
 CallsX P N.f_math_Float64frombits #[.int .u64 (IntKind.u64.wrap (BitVec.ofInt IntKind.u64.bits (IntKind.u64.wrap (BitVec.ofInt IntKind.u64.bits n3 &&& ~~~BitVec.ofInt IntKind.u64.bits 9223372036854775808).toNat) ||| BitVec.ofInt IntKind.u64.bits (IntKind.u64.wrap (BitVec.ofInt IntKind.u64.bits n6 &&& BitVec.ofInt IntKind.u64.bits 9223372036854775808).toNat)).toNat)] w4 fun v8 w7 =>
 ∃ x9, v8 = (.float .f64 x9) ∧
 K (.float .f64 x9) w7
def S_round_step (N : Nums) (P : Program) (q0 : Nat) (q1 : Bool) (w : World) (K : Value → World → Prop) : Prop :=
 CallsX P N.f_math_Float64bits #[.float .f64 q0] w fun v2 w1 =>
 ∃ n3, v2 = (.int .u64 n3) ∧
 cutM (σ := Int × Unit) (fun J4 =>
  cutM (σ := Int × Unit) (fun J7 =>
   cond (feq q0 0)
   (cutM (σ := Int × Unit) (fun J10 =>
     cond (!q1)
     (J10 ((IntKind.u64.wrap (BitVec.ofInt IntKind.u64.bits 1 ||| BitVec.ofInt IntKind.u64.bits 9223372036854775808).toNat), ()) w1)
     (J10 (1, ()) w1))
    (fun s11 w12 =>
     J7 (s11.1, ()) w12))
   (cutM (σ := Int × Unit) (fun J13 =>
     cond (q1 == (fgt q0 0))
     (J13 ((IntKind.u64.wrap (n3 + 1)), ()) w1)
     (J13 ((IntKind.u64.wrap (n3 - 1)), ()) w1))
    (fun s14 w15 =>
     J7 (s14.1, ()) w15)))
  (fun s8 w9 =>
   J4 (s8.1, ()) w9))
 (fun s5 w6 =>
  CallsX P N.f_math_Float64frombits #[.int .u64 s5.1] w6 fun v17 w16 =>
  ∃ x18, v17 = (.float .f64 x18) ∧
  K (.float .f64 x18) w16)
def S_math_frexp (N : Nums) (P : Program) (q0 : Nat) (w : World) (K : Value → World → Prop) : Prop :=
 cond (feq q0 0)
 (K (.tuple #[.float .f64 q0, .int .i64 0]) w)
 (CallsX P N.f_math_IsInf #[.float .f64 q0, .int .i64 0] w fun v2 w1 =>
  vB_ v2 fun b3 =>
  cond (!b3)
  (CallsX P N.f_math_IsNaN #[.float .f64 q0] w1 fun v5 w4 =>
   vB_ v5 fun b6 =>
   cond b6
   (K (.tuple #[.float .f64 q0, .int .i64 0]) w4)
   (CallsX P N.f_math_normalize #[.float .f64 q0] w4 fun v8 w7 =>
    ∃ x9, ∃ n10, v8 = (.tuple #[.float .f64 x9, .int .i64 n10]) ∧
    CallsX P N.f_math_Float64bits #[.float .f64 x9] w7 fun v12 w11 =>
    ∃ n13, v12 = (.int .u64 n13) ∧
    (0 : Int) ≤ 52 ∧
    CallsX P N.f_math_Float64frombits #[.int .u64 (IntKind.u64.wrap (BitVec.ofInt IntKind.u64.bits (IntKind.u64.wrap (BitVec.ofInt IntKind.u64.bits n13 &&& ~~~BitVec.ofInt IntKind.u64.bits 9218868437227405312).toNat) ||| BitVec.ofInt IntKind.u64.bits 4602678819172646912).toNat)] w11 fun v15 w14 =>
    ∃ x16, v15 = (.float .f64 x16) ∧
    K (.tuple #[.float .f64 x16, .int .i64 (IntKind.i64.wrap (n10 + (IntKind.i64.wrap ((IntKind.i64.wrap ((IntKind.i64.wrap (IntKind.u64.wrap (BitVec.ofInt IntKind.u64.bits (n13.fdiv (2 ^ (min (52 : Int).toNat IntKind.u64.bits))) &&& BitVec.ofInt IntKind.u64.bits 2047).toNat)) - 1023)) + 1))))]) w14))
  (K (.tuple #[.float .f64 q0, .int .i64 0]) w1))
def S_math_ldexp (N : Nums) (P : Program) (q0 : Nat) (q1 : Int) (w : World) (K : Value → World → Prop) : Prop :=
 cond (feq q0 0)
 (K (.float .f64 q0) w)
 (cutM (σ := Bool × Unit) (fun J1 =>
   CallsX P N.f_math_IsInf #[.float .f64 q0, .int .i64 0] w fun v5 w4 =>
   vB_ v5 fun b6 =>
   cond (!b6)
   (CallsX P N.f_math_IsNaN #[.float .f64 q0] w4 fun v8 w7 =>
    vB_ v8 fun b9 =>
    J1 (b9, ()) w7)
   (J1 (true, ()) w4))
  (fun s2 w3 =>
   cond s2.1
   (K (.float .f64 q0) w3)
   (CallsX P N.f_math_normalize #[.float .f64 q0] w3 fun v11 w10 =>
    ∃ x12, ∃ n13, v11 = (.tuple #[.float .f64 x12, .int .i64 n13]) ∧
    CallsX P N.f_math_Float64bits #[.float .f64 x12] w10 fun v15 w14 =>
    ∃ n16, v15 = (.int .u64 n16) ∧
    (0 : Int) ≤ 52 ∧
    cond (decide ((IntKind.i64.wrap ((IntKind.i64.wrap (q1 + n13)) + (IntKind.i64.wrap ((IntKind.i64.wrap (BitVec.ofInt IntKind.i64.bits (IntKind.i64.wrap (n16.fdiv (2 ^ (min (52 : Int).toNat IntKind.u64.bits)))) &&& BitVec.ofInt IntKind.i64.bits 2047).toNat) - 1023)))) < (-1075)))
    (CallsX P N.f_math_Copysign #[.float .f64 0, .float .f64 x12] w14 fun v18 w17 =>
     ∃ x19, v18 = (.float .f64 x19) ∧
     K (.float .f64 x19) w17)
    (cond (decide ((IntKind.i64.wrap ((IntKind.i64.wrap (q1 + n13)) + (IntKind.i64.wrap ((IntKind.i64.wrap (BitVec.ofInt IntKind.i64.bits (IntKind.i64.wrap (n16.fdiv (2 ^ (min (52 : Int).toNat IntKind.u64.bits)))) &&& BitVec.ofInt IntKind.i64.bits 2047).toNat) - 1023)))) > 1023))
     (cond (flt x12 0)
      (CallsX P N.f_math_Inf #[.int .i64 (-1)] w14 fun v21 w20 =>
       ∃ x22, v21 = (.float .f64 x22) ∧
       K (.float .f64 x22) w20)
      (CallsX P N.f_math_Inf #[.int .i64 1] w14 fun v24 w23 =>
       ∃ x25, v24 = (.float .f64 x25) ∧
       K (.float .f64 x25) w23))
     (cutM (σ := Int × Nat × Unit) (fun J26 =>
       cond (decide ((IntKind.i64.wrap ((IntKind.i64.wrap (q1 + n13)) + (IntKind.i64.wrap ((IntKind.i64.wrap (BitVec.ofInt IntKind.i64.bits (IntKind.i64.wrap (n16.fdiv (2 ^ (min (52 : Int).toNat IntKind.u64.bits)))) &&& BitVec.ofInt IntKind.i64.bits 2047).toNat) - 1023)))) < (-1022)))
       (J26 ((IntKind.i64.wrap ((IntKind.i64.wrap ((IntKind.i64.wrap (q1 + n13)) + (IntKind.i64.wrap ((IntKind.i64.wrap (BitVec.ofInt IntKind.i64.bits (IntKind.i64.wrap (n16.fdiv (2 ^ (min (52 : Int).toNat IntKind.u64.bits)))) &&& BitVec.ofInt IntKind.i64.bits 2047).toNat) - 1023)))) + 53)), 4368491638549381120, ()) w14)
       (J26 ((IntKind.i64.wrap ((IntKind.i64.wrap (q1 + n13)) + (IntKind.i64.wrap ((IntKind.i64.wrap (BitVec.ofInt IntKind.i64.bits (IntKind.i64.wrap (n16.fdiv (2 ^ (min (52 : Int).toNat IntKind.u64.bits)))) &&& BitVec.ofInt IntKind.i64.bits 2047).toNat) - 1023)))), 4607182418800017408, ()) w14))
      (fun s27 w28 =>
       (0 : Int) ≤ 52 ∧
       CallsX P N.f_math_Float64frombits #[.int .u64 (IntKind.u64.wrap (BitVec.ofInt IntKind.u64.bits (IntKind.u64.wrap (BitVec.ofInt IntKind.u64.bits n16 &&& ~~~BitVec.ofInt IntKind.u64.bits 9218868437227405312).toNat) ||| BitVec.ofInt IntKind.u64.bits (IntKind.u64.wrap ((IntKind.u64.wrap (IntKind.i64.wrap (s27.1 + 1023))) * 2 ^ (min (52 : Int).toNat IntKind.u64.bits)))).toNat)] w28 fun v30 w29 =>
       ∃ x31, v30 = (.float .f64 x31) ∧
       fresM (fmul s27.2.1 x31) w29 fun x32 w33 =>
       K (.float .f64 x32) w33))))))
def S_bI_low (N : Nums) (P : Program) (q0 : Option Addr) (q1 : Int) (w : World) (K : Value → World → Prop) : Prop :=
 mkM N.t_uint32 1 4 #[.int .u32 0] q1 q1 w fun p1 w2 =>
 optM q0 fun a3 =>
 cS_ w2 (a3.add 1) fun s4a s4l s4c =>
 copM 1 (some p1) q1.toNat s4a s4l w2 fun w5 =>
 optM q0 fun a6 =>
 cB_ w5 a6 fun b7 =>
 cutM (σ := Unit) (fun J8 =>
  cond b7
  (cutM (σ := Unit) (fun J11 =>
    loopM (σ := Int × Int × Unit) (fun s14 X15 w16 =>
     cond (decide (s14.2.1 < q1))
     ((0 : Int) ≤ s14.2.1 ∧ s14.2.1 < (q1.toNat : Nat) ∧
      cW_ w16 (p1.add (s14.2.1.toNat * 1)) fun n17 =>
      (0 : Int) ≤ s14.2.1 ∧ s14.2.1 < (q1.toNat : Nat) ∧
      stM (p1.add (s14.2.1.toNat * 1)) (.int .u32 (IntKind.u32.wrap (IntKind.u64.wrap (s14.1 + (IntKind.u64.wrap (IntKind.u32.wrap (BitVec.ofInt IntKind.u32.bits (IntKind.u32.max) ^^^ BitVec.ofInt IntKind.u32.bits n17).toNat)))))) w16 fun w18 =>
      (0 : Int) ≤ 32 ∧
      X15 (((IntKind.u64.wrap (s14.1 + (IntKind.u64.wrap (IntKind.u32.wrap (BitVec.ofInt IntKind.u32.bits (IntKind.u32.max) ^^^ BitVec.ofInt IntKind.u32.bits n17).toNat)))).fdiv (2 ^ (min (32 : Int).toNat IntKind.u64.bits))), (IntKind.i64.wrap (s14.2.1 + 1)), ()) w18)
     (J11 (()) w16))
    (1, 0, ()) w5)
   (fun s12 w13 =>
    J8 (()) w13))
  (J8 (()) w5))
 (fun s9 w10 =>
  K (.slice (some p1) q1.toNat q1.toNat) w10)
def S_bI_of (N : Nums) (P : Program) (q0 : Option Addr) (q1 : Option Addr) (q1l q1c : Nat) (w : World) (K : Value → World → Prop) : Prop :=
 cutM (σ := Bool × Unit) (fun J1 =>
  cond (decide (((q1l : Nat) : Int) > 0))
  ((0 : Int) ≤ (IntKind.i64.wrap (((q1l : Nat) : Int) - 1)) ∧ (IntKind.i64.wrap (((q1l : Nat) : Int) - 1)) < (q1l : Nat) ∧
   optM q1 fun a4 =>
   ∃ n5, w.cell? (a4.add ((IntKind.i64.wrap (((q1l : Nat) : Int) - 1)).toNat * 1)) = some (.int .u32 n5) ∧
   (0 : Int) ≤ 31 ∧
   J1 (((n5.fdiv (2 ^ (min (31 : Int).toNat IntKind.u32.bits))) == 1), ()) w)
  (J1 (false, ()) w))
 (fun s2 w3 =>
  cond s2.1
  (cutM (σ := Unit) (fun J6 =>
    loopM (σ := Int × Int × Unit) (fun s9 X10 w11 =>
     cond (decide (s9.2.1 < ((q1l : Nat) : Int)))
     ((0 : Int) ≤ s9.2.1 ∧ s9.2.1 < (q1l : Nat) ∧
      optM q1 fun a12 =>
      cW_ w11 (a12.add (s9.2.1.toNat * 1)) fun n13 =>
      (0 : Int) ≤ s9.2.1 ∧ s9.2.1 < (q1l : Nat) ∧
      optM q1 fun a14 =>
      stM (a14.add (s9.2.1.toNat * 1)) (.int .u32 (IntKind.u32.wrap (IntKind.u64.wrap (s9.1 + (IntKind.u64.wrap (IntKind.u32.wrap (BitVec.ofInt IntKind.u32.bits (IntKind.u32.max) ^^^ BitVec.ofInt IntKind.u32.bits n13).toNat)))))) w11 fun w15 =>
      (0 : Int) ≤ 32 ∧
      X10 (((IntKind.u64.wrap (s9.1 + (IntKind.u64.wrap (IntKind.u32.wrap (BitVec.ofInt IntKind.u32.bits (IntKind.u32.max) ^^^ BitVec.ofInt IntKind.u32.bits n13).toNat)))).fdiv (2 ^ (min (32 : Int).toNat IntKind.u64.bits))), (IntKind.i64.wrap (s9.2.1 + 1)), ()) w15)
     (J6 (()) w11))
    (1, 0, ()) w3)
   (fun s7 w8 =>
    CallsX P N.f_bn_trim #[.slice q1 q1l q1c] w8 fun v17 w16 =>
    vS_ v17 fun s18a s18l s18c =>
    CallsX P N.f_bI_give #[.pointer q0, .bool true, .slice s18a s18l s18c] w16 fun v20 w19 =>
    ∃ p21 : (Option Addr), v20 = (.pointer p21) ∧
    K (.pointer p21) w19))
  (CallsX P N.f_bn_trim #[.slice q1 q1l q1c] w3 fun v23 w22 =>
   vS_ v23 fun s24a s24l s24c =>
   CallsX P N.f_bI_give #[.pointer q0, .bool false, .slice s24a s24l s24c] w22 fun v26 w25 =>
   ∃ p27 : (Option Addr), v26 = (.pointer p27) ∧
   K (.pointer p27) w25))
def S_bn_words (N : Nums) (P : Program) (q0 : Int) (w : World) (K : Value → World → Prop) : Prop :=
 (0 : Int) ≤ 32 ∧
 newM #[.int .u32 (IntKind.u32.wrap q0), .int .u32 (IntKind.u32.wrap (q0.fdiv (2 ^ (min (32 : Int).toNat IntKind.u64.bits))))] N.t_uint32 w fun p1 w2 =>
 CallsX P N.f_bn_trim #[.slice (some p1) 2 2] w2 fun v4 w3 =>
 vS_ v4 fun s5a s5l s5c =>
 K (.slice s5a s5l s5c) w3
def S_bn_bit (N : Nums) (P : Program) (q0 : Option Addr) (q0l q0c : Nat) (q1 : Int) (w : World) (K : Value → World → Prop) : Prop :=
 cond (!(decide (q1 < 0)))
 ((32 : Int) ≠ 0 ∧
  cond (decide ((IntKind.i64.wrap (q1.tdiv 32)) ≥ ((q0l : Nat) : Int)))
  (K (.int .u64 0) w)
  ((32 : Int) ≠ 0 ∧
   (0 : Int) ≤ (IntKind.i64.wrap (q1.tdiv 32)) ∧ (IntKind.i64.wrap (q1.tdiv 32)) < (q0l : Nat) ∧
   optM q0 fun a1 =>
   ∃ n2, w.cell? (a1.add ((IntKind.i64.wrap (q1.tdiv 32)).toNat * 1)) = some (.int .u32 n2) ∧
   (32 : Int) ≠ 0 ∧
   (0 : Int) ≤ ((IntKind.u64.wrap q1).tmod 32) ∧
   K (.int .u64 (IntKind.u64.wrap (BitVec.ofInt IntKind.u64.bits (IntKind.u64.wrap (n2.fdiv (2 ^ (min ((IntKind.u64.wrap q1).tmod 32).toNat IntKind.u32.bits)))) &&& BitVec.ofInt IntKind.u64.bits 1).toNat)) w))
 (K (.int .u64 0) w)
def S_bn_length (N : Nums) (P : Program) (q0 : Option Addr) (q0l q0c : Nat) (w : World) (K : Value → World → Prop) : Prop :=
 cond (((q0l : Nat) : Int) == 0)
 (K (.int .i64 0) w)
 ((0 : Int) ≤ (IntKind.i64.wrap (((q0l : Nat) : Int) - 1)) ∧ (IntKind.i64.wrap (((q0l : Nat) : Int) - 1)) < (q0l : Nat) ∧
  optM q0 fun a1 =>
  ∃ n2, w.cell? (a1.add ((IntKind.i64.wrap (((q0l : Nat) : Int) - 1)).toNat * 1)) = some (.int .u32 n2) ∧
  cutM (σ := Int × Unit) (fun J3 =>
   loopM (σ := Int × Int × Unit) (fun s6 X7 w8 =>
    cond (s6.2.1 != 0)
    ((0 : Int) ≤ 1 ∧
     X7 ((IntKind.i64.wrap (s6.1 + 1)), (s6.2.1.fdiv (2 ^ (min (1 : Int).toNat IntKind.u32.bits))), ()) w8)
    (J3 (s6.1, ()) w8))
   (0, n2, ()) w)
  (fun s4 w5 =>
   K (.int .i64 (IntKind.i64.wrap ((IntKind.i64.wrap ((IntKind.i64.wrap (((q0l : Nat) : Int) - 1)) * 32)) + s4.1))) w5))
def S_bI_And (N : Nums) (P : Program) (q0 : Option Addr) (q1 : Option Addr) (q2 : Option Addr) (w : World) (K : Value → World → Prop) : Prop :=
 optM q1 fun a1 =>
 cS_ w (a1.add 1) fun s2a s2l s2c =>
 optM q2 fun a3 =>
 cS_ w (a3.add 1) fun s4a s4l s4c =>
 drM w fun w5 =>
 CallsX P N.f_bI_low #[.pointer q1, .int .i64 (IntKind.i64.wrap ((if ((s4l : Nat) : Int) > ((s2l : Nat) : Int) then ((s4l : Nat) : Int) else ((s2l : Nat) : Int)) + 1))] w5 fun v7 w6 =>
 vS_ v7 fun s8a s8l s8c =>
 CallsX P N.f_bI_low #[.pointer q2, .int .i64 (IntKind.i64.wrap ((if ((s4l : Nat) : Int) > ((s2l : Nat) : Int) then ((s4l : Nat) : Int) else ((s2l : Nat) : Int)) + 1))] w6 fun v10 w9 =>
 vS_ v10 fun s11a s11l s11c =>
 cutM (σ := Unit) (fun J12 =>
  loopM (σ := Int × Unit) (fun s15 X16 w17 =>
   cond (decide (s15.1 < (IntKind.i64.wrap ((if ((s4l : Nat) : Int) > ((s2l : Nat) : Int) then ((s4l : Nat) : Int) else ((s2l : Nat) : Int)) + 1))))
   ((0 : Int) ≤ s15.1 ∧ s15.1 < (s8l : Nat) ∧
    optM s8a fun a18 =>
    cW_ w17 (a18.add (s15.1.toNat * 1)) fun n19 =>
    (0 : Int) ≤ s15.1 ∧ s15.1 < (s11l : Nat) ∧
    optM s11a fun a20 =>
    cW_ w17 (a20.add (s15.1.toNat * 1)) fun n21 =>
    (0 : Int) ≤ s15.1 ∧ s15.1 < (s8l : Nat) ∧
    optM s8a fun a22 =>
    drM w17 fun w23 =>
    stM (a22.add (s15.1.toNat * 1)) (.int .u32 (IntKind.u32.wrap (BitVec.ofInt IntKind.u32.bits n19 &&& BitVec.ofInt IntKind.u32.bits n21).toNat)) w23 fun w24 =>
    drM w24 fun w25 =>
    X16 ((IntKind.i64.wrap (s15.1 + 1)), ()) w25)
   (J12 (()) w17))
  (0, ()) w9)
 (fun s13 w14 =>
  CallsX P N.f_bI_of #[.pointer q0, .slice s8a s8l s8c] w14 fun v27 w26 =>
  ∃ p28 : (Option Addr), v27 = (.pointer p28) ∧
  K (.pointer p28) w26)
def S_bn_trim (N : Nums) (P : Program) (q0 : Option Addr) (q0l q0c : Nat) (w : World) (K : Value → World → Prop) : Prop :=
 cutM (σ := Int × Unit) (fun J1 =>
  loopM (σ := Int × Unit) (fun s4 X5 w6 =>
   cond (decide (s4.1 > 0))
   ((0 : Int) ≤ (IntKind.i64.wrap (s4.1 - 1)) ∧ (IntKind.i64.wrap (s4.1 - 1)) < (q0l : Nat) ∧
    optM q0 fun a7 =>
    ∃ n8, w6.cell? (a7.add ((IntKind.i64.wrap (s4.1 - 1)).toNat * 1)) = some (.int .u32 n8) ∧
    cond (n8 == 0)
    (X5 ((IntKind.i64.wrap (s4.1 - 1)), ()) w6)
    (J1 (s4.1, ()) w6))
   (J1 (s4.1, ()) w6))
  (((q0l : Nat) : Int), ()) w)
 (fun s2 w3 =>
  (0 : Int) ≤ s2.1 ∧ s2.1 ≤ (q0c : Nat) ∧
  K (.slice (slBase q0 0 q0c 1) s2.1.toNat q0c) w3)
def S_bits_Place (N : Nums) (P : Program) (q0 : Nat) (w : World) (K : Value → World → Prop) : Prop :=
 cond (!feq q0 q0)
 (K (.tuple #[.int .i64 0, .bool false]) w)
 (CallsX P N.f_math_Abs #[.float .f64 q0] w fun v2 w1 =>
  ∃ x3, v2 = (.float .f64 x3) ∧
  CallsX P N.f_math_Float64bits #[.float .f64 x3] w1 fun v5 w4 =>
  ∃ n6, v5 = (.int .u64 n6) ∧
  cutM (σ := Int × Unit) (fun J7 =>
   cond (flt q0 0)
   (J7 ((IntKind.i64.wrap (0 - (IntKind.i64.wrap n6))), ()) w4)
   (J7 ((IntKind.i64.wrap n6), ()) w4))
  (fun s8 w9 =>
   K (.tuple #[.int .i64 s8.1, .bool true]) w9))
def S_bits_At (N : Nums) (P : Program) (q0 : Int) (w : World) (K : Value → World → Prop) : Prop :=
 cond (!(decide (q0 > 9218868437227405312)))
 (cond (decide (q0 < (-9218868437227405312)))
  (K (.tuple #[.float .f64 0, .bool false]) w)
  (cond (decide (q0 < 0))
   (CallsX P N.f_math_Float64frombits #[.int .u64 (IntKind.u64.wrap (IntKind.i64.wrap (0 - q0)))] w fun v2 w1 =>
    ∃ x3, v2 = (.float .f64 x3) ∧
    K (.tuple #[.float .f64 (fneg x3), .bool true]) w1)
   (CallsX P N.f_math_Float64frombits #[.int .u64 (IntKind.u64.wrap q0)] w fun v5 w4 =>
    ∃ x6, v5 = (.float .f64 x6) ∧
    K (.tuple #[.float .f64 x6, .bool true]) w4)))
 (K (.tuple #[.float .f64 0, .bool false]) w)
def S_math_normalize (N : Nums) (P : Program) (q0 : Nat) (w : World) (K : Value → World → Prop) : Prop :=
 CallsX P N.f_math_Abs #[.float .f64 q0] w fun v2 w1 =>
 ∃ x3, v2 = (.float .f64 x3) ∧
 cond (flt x3 4503599627370496)
 (fresM (fmul q0 4841369599423283200) w1 fun x4 w5 =>
  K (.tuple #[.float .f64 x4, .int .i64 (-52)]) w5)
 (K (.tuple #[.float .f64 q0, .int .i64 0]) w1)
def S_math_Inf (N : Nums) (P : Program) (q0 : Int) (w : World) (K : Value → World → Prop) : Prop :=
 cutM (σ := Int × Unit) (fun J1 =>
  cond (decide (q0 ≥ 0))
  (J1 (9218868437227405312, ()) w)
  (J1 (18442240474082181120, ()) w))
 (fun s2 w3 =>
  CallsX P N.f_math_Float64frombits #[.int .u64 s2.1] w3 fun v5 w4 =>
  ∃ x6, v5 = (.float .f64 x6) ∧
  K (.float .f64 x6) w4)
end Go.Eng
