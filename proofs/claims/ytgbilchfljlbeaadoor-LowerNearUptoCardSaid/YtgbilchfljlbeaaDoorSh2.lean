/-
 Some of the functions as propositions in the manner of a weakest precondition, printed off the structured code by a program of the session. No condition.
-/
import Derived.Test.YtgbilchfljlbeaaDoorTbl
import Derived.Test.YtgbilchfljlbeaaDoorNm
set_option linter.all false
set_option maxRecDepth 100000
namespace Go.Eng
open Go
open Go.IntKind (i64 u64 u32 u8)
def S_bn_mul (N:Nums) (P:Program) (q0:OA) (qm qs:Nat) (q1:OA) (qr qw:Nat) (w:World) (K:KV):Prop:=
 cutM (σ:=Bool×Unit) (fun J1=>
 cond (!((qm:Int)==0))
 (J1 (((qr:Int)==0),()) w)
 (J1 (true,()) w))
 (fun s2 w3=>
 cond s2.1
 (K (.slice none 0 0) w3)
 (mkM N.t_uint32 1 4 #[.int .u32 0] (i64.wrap ((qm:Int)+(qr:Int))) (i64.wrap ((qm:Int)+(qr:Int))) w3 fun p4 w5=>
 cutM (σ:=Unit) (fun J6=>
 loopM (σ:=Int×Unit) (fun s9 X10 w11=>
 cond (decide (s9.1<(qm:Int)))
 (cutM (σ:=Int×Unit) (fun J12=>
 loopM (σ:=Int×Int×Unit) (fun s15 X16 w17=>
 cond (decide (s15.2.1<(qr:Int)))
 ((0:Int)≤s9.1∧s9.1<(qm:Nat) ∧
 optM q0 fun a18=>
 cW_ w17 (a18.add (s9.1.toNat*1)) fun n19=>
 (0:Int)≤s15.2.1∧s15.2.1<(qr:Nat) ∧
 optM q1 fun a20=>
 cW_ w17 (a20.add (s15.2.1.toNat*1)) fun n21=>
 (0:Int)≤(i64.wrap (s9.1+s15.2.1))∧(i64.wrap (s9.1+s15.2.1))<((i64.wrap ((qm:Int)+(qr:Int))).toNat:Nat) ∧
 ∃ n22,w17.cell? (p4.add ((i64.wrap (s9.1+s15.2.1)).toNat*1))=some (.int .u32 n22) ∧
 drM w17 fun w23=>
 (0:Int)≤(i64.wrap (s9.1+s15.2.1))∧(i64.wrap (s9.1+s15.2.1))<((i64.wrap ((qm:Int)+(qr:Int))).toNat:Nat) ∧
 stM (p4.add ((i64.wrap (s9.1+s15.2.1)).toNat*1)) (.int .u32 (u32.wrap (u64.wrap (s15.1+(u64.wrap ((u64.wrap ((u64.wrap n19)*(u64.wrap n21)))+(u64.wrap n22))))))) w23 fun w24=>
 (0:Int)≤32 ∧
 X16 (((u64.wrap (s15.1+(u64.wrap ((u64.wrap ((u64.wrap n19)*(u64.wrap n21)))+(u64.wrap n22))))).fdiv (2^(min (32:Int).toNat u64.bits))),(i64.wrap (s15.2.1+1)),()) w24)
 (J12 (s15.1,()) w17))
 (0,0,()) w11)
 (fun s13 w14=>
 (0:Int)≤(i64.wrap (s9.1+(qr:Int)))∧(i64.wrap (s9.1+(qr:Int)))<((i64.wrap ((qm:Int)+(qr:Int))).toNat:Nat) ∧
 stM (p4.add ((i64.wrap (s9.1+(qr:Int))).toNat*1)) (.int .u32 (u32.wrap s13.1)) w14 fun w25=>
 X10 ((i64.wrap (s9.1+1)),()) w25))
 (J6 (()) w11))
 (0,()) w5)
 (fun s7 w8=>
 CallsX P N.f_bn_trim #[.slice (some p4) ((i64.wrap ((qm:Int)+(qr:Int))).toNat) ((i64.wrap ((qm:Int)+(qr:Int))).toNat)] w8 fun v27 w26=>
 vS_ v27 fun s28a s28l s28c=>
 K (.slice s28a s28l s28c) w26)))
def S_math_normalize (N:Nums) (P:Program) (q0:Nat) (w:World) (K:KV):Prop:=
 CallsX P N.f_math_Abs #[.float .f64 q0] w fun v2 w1=>
 ∃ x3,v2=(.float .f64 x3) ∧
 cond (flt x3 4503599627370496)
 (fresM (fmul q0 4841369599423283200) w1 fun x4 w5=>
 K (.tuple #[.float .f64 x4,.int .i64 (-52)]) w5)
 (K (.tuple #[.float .f64 q0,.int .i64 0]) w1)
def S_math_Inf (N:Nums) (P:Program) (q0:Int) (w:World) (K:KV):Prop:=
 cutM (σ:=Int×Unit) (fun J1=>
 cond (decide (q0≥0))
 (J1 (9218868437227405312,()) w)
 (J1 (18442240474082181120,()) w))
 (fun s2 w3=>
 CallsX P N.f_math_Float64frombits #[.int .u64 s2.1] w3 fun v5 w4=>
 ∃ x6,v5=(.float .f64 x6) ∧
 K (.float .f64 x6) w4)
end Go.Eng
