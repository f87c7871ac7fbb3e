/-
 Some of the functions as propositions in the manner of a weakest precondition, printed off the structured code by a program of the session. No condition.
-/
import Derived.Test.YtlnelldekejadaaTbl
import Derived.Test.YtlnelldekejadaaNm
set_option linter.all false
set_option maxRecDepth 100000
namespace Go.Eng
open Go
open Go.IntKind (i64 u64 u32 u8)
def S_r02_low (N:Nums) (P:Program) (q0:OA) (qe qi:Nat) (w:World) (K:KV):Prop:=
 cutM (σ:=Int×Unit) (fun J1=>
 loopM (σ:=Int×Unit) (fun s4 X5 w6=>
 cond (decide (s4.1>0))
 ((0:Int)≤(i64.wrap (s4.1-1))∧(i64.wrap (s4.1-1))<(qe:Nat) ∧
 optM q0 fun a7=>
 ∃ n8,w6.cell? (a7.add ((i64.wrap (s4.1-1)).toNat*1))=some (.int .u64 n8) ∧
 cond (n8==0)
 (X5 ((i64.wrap (s4.1-1)),()) w6)
 (J1 (s4.1,()) w6))
 (J1 (s4.1,()) w6))
 ((qe:Int),()) w)
 (fun s2 w3=>
 (0:Int)≤s2.1∧s2.1≤(qi:Nat) ∧
 K (.slice (slBase q0 0 qi 1) s2.1.toNat qi) w3)
def S_bn_plain (N:Nums) (P:Program) (q0:OA) (qe qi:Nat) (w:World) (K:KV):Prop:=
 cutM (σ:=Int×Unit) (fun J1=>
 cond (decide ((qe:Int)>0))
 ((0:Int)≤(0:Int)∧(0:Int)<(qe:Nat) ∧
 optM q0 fun a4=>
 cW_ w (a4.add ((0:Int).toNat*1)) fun n5=>
 J1 ((u64.wrap n5),()) w)
 (J1 (0,()) w))
 (fun s2 w3=>
 cutM (σ:=Int×Unit) (fun J6=>
 cond (decide ((qe:Int)>1))
 ((0:Int)≤(1:Int)∧(1:Int)<(qe:Nat) ∧
 optM q0 fun a9=>
 cW_ w3 (a9.add ((1:Int).toNat*1)) fun n10=>
 (0:Int)≤32 ∧
 J6 ((u64.wrap (BitVec.ofInt u64.bits s2.1 ||| BitVec.ofInt u64.bits (u64.wrap ((u64.wrap n10)*2^(min (32:Int).toNat u64.bits)))).toNat),()) w3)
 (J6 (s2.1,()) w3))
 (fun s7 w8=>
 K (.int .u64 s7.1) w8))
def S_bn_small (N:Nums) (P:Program) (q0:OA) (qe qi:Nat) (q1:Int) (w:World) (K:KV):Prop:=
 mkM N.t_uint32 1 4 #[.int .u32 0] (qe:Int) (qe:Int) w fun p1 w2=>
 cutM (σ:=Int×Unit) (fun J3=>
 loopM (σ:=Int×Int×Unit) (fun s6 X7 w8=>
 cond (decide (s6.2.1≥0))
 ((0:Int)≤32 ∧
 (0:Int)≤s6.2.1∧s6.2.1<(qe:Nat) ∧
 optM q0 fun a9=>
 cW_ w8 (a9.add (s6.2.1.toNat*1)) fun n10=>
 ((u64.wrap q1):Int)≠0 ∧
 (0:Int)≤s6.2.1∧s6.2.1<((qe:Int).toNat:Nat) ∧
 stM (p1.add (s6.2.1.toNat*1)) (.int .u32 (u32.wrap (u64.wrap ((u64.wrap (BitVec.ofInt u64.bits (u64.wrap (s6.1*2^(min (32:Int).toNat u64.bits))) ||| BitVec.ofInt u64.bits (u64.wrap n10)).toNat).tdiv (u64.wrap q1))))) w8 fun w11=>
 ((u64.wrap q1):Int)≠0 ∧
 X7 (((u64.wrap (BitVec.ofInt u64.bits (u64.wrap (s6.1*2^(min (32:Int).toNat u64.bits))) ||| BitVec.ofInt u64.bits (u64.wrap n10)).toNat).tmod (u64.wrap q1)),(i64.wrap (s6.2.1-1)),()) w11)
 (J3 (s6.1,()) w8))
 (0,(i64.wrap ((qe:Int)-1)),()) w2)
 (fun s4 w5=>
 CallsX P N.f_bn_trim #[.slice (some p1) ((qe:Int).toNat) ((qe:Int).toNat)] w5 fun v13 w12=>
 vS_ v13 fun s14a s14l s14c=>
 K (.tuple #[.slice s14a s14l s14c,.int .u32 (u32.wrap s4.1)]) w12)
end Go.Eng
