/-
 Some of the functions as propositions in the manner of a weakest precondition, printed off the structured code by a program of the session. No condition.
-/
import Derived.Test.YtlnelldekejadaaTbl
import Derived.Test.YtlnelldekejadaaNm
set_option linter.all false
set_option maxRecDepth 100000
namespace Go.Eng
open Go
open Go.IntKind (i64 u64 u32 u8)
def S_bn_div (N:Nums) (P:Program) (q0:OA) (qh qk:Nat) (q1:OA) (qs qx:Nat) (w:World) (K:KV):Prop:=
 cond ((qs:Int)==0)
 (K (.tuple #[.slice none 0 0,.slice none 0 0]) w)
 (CallsX P N.f_bn_cmp #[.slice q0 qh qk,.slice q1 qs qx] w fun v2 w1=>
 ∃ n3,v2=(.int .i64 n3) ∧
 cond (decide (n3<0))
 (CallsX P N.f_bn_twin #[.slice q0 qh qk] w1 fun v5 w4=>
 vS_ v5 fun s6a s6l s6c=>
 K (.tuple #[.slice none 0 0,.slice s6a s6l s6c]) w4)
 (cond (decide ((qh:Int)≤2))
 (CallsX P N.f_bn_plain #[.slice q0 qh qk] w1 fun v8 w7=>
 ∃ n9,v8=(.int .u64 n9) ∧
 CallsX P N.f_bn_plain #[.slice q1 qs qx] w7 fun v11 w10=>
 ∃ n12,v11=(.int .u64 n12) ∧
 (n12:Int)≠0 ∧
 (n12:Int)≠0 ∧
 drM w10 fun w13=>
 CallsX P N.f_bn_words #[.int .u64 (u64.wrap (n9.tdiv n12))] w13 fun v15 w14=>
 vS_ v15 fun s16a s16l s16c=>
 drM w14 fun w17=>
 CallsX P N.f_bn_words #[.int .u64 (n9.tmod n12)] w17 fun v19 w18=>
 vS_ v19 fun s20a s20l s20c=>
 drM w18 fun w21=>
 K (.tuple #[.slice s16a s16l s16c,.slice s20a s20l s20c]) w21)
 (cond ((qs:Int)==1)
 ((0:Int)≤(0:Int)∧(0:Int)<(qs:Nat) ∧
 optM q1 fun a22=>
 cW_ w1 (a22.add ((0:Int).toNat*1)) fun n23=>
 CallsX P N.f_bn_small #[.slice q0 qh qk,.int .u32 n23] w1 fun v25 w24=>
 ∃ s26a s26l s26c,∃ n27,v25=(.tuple #[.slice s26a s26l s26c,.int .u32 n27]) ∧
 newM #[.int .u32 n27] N.t_uint32 w24 fun p28 w29=>
 CallsX P N.f_bn_trim #[.slice (some p28) 1 1] w29 fun v31 w30=>
 vS_ v31 fun s32a s32l s32c=>
 K (.tuple #[.slice s26a s26l s26c,.slice s32a s32l s32c]) w30)
 (CallsX P N.f_bn_length #[.slice q1 qs qx] w1 fun v34 w33=>
 ∃ n35,v34=(.int .i64 n35) ∧
 (32:Int)≠0 ∧
 CallsX P N.f_bn_left #[.slice q1 qs qx,.int .u64 (u64.wrap (i64.wrap ((i64.wrap (32-((i64.wrap (n35-1)).tmod 32)))-1)))] w33 fun v37 w36=>
 vS_ v37 fun s38a s38l s38c=>
 mkM N.t_uint32 1 4 #[.int .u32 0] (i64.wrap ((qh:Int)+2)) (i64.wrap ((qh:Int)+2)) w36 fun p39 w40=>
 CallsX P N.f_bn_left #[.slice q0 qh qk,.int .u64 (u64.wrap (i64.wrap ((i64.wrap (32-((i64.wrap (n35-1)).tmod 32)))-1)))] w40 fun v42 w41=>
 vS_ v42 fun s43a s43l s43c=>
 copM 1 (some p39) ((i64.wrap ((qh:Int)+2)).toNat) s43a s43l w41 fun w44=>
 mkM N.t_uint32 1 4 #[.int .u32 0] (i64.wrap ((i64.wrap ((i64.wrap ((((i64.wrap ((qh:Int)+2)).toNat:Nat):Int)-(s38l:Int)))-1))+1)) (i64.wrap ((i64.wrap ((i64.wrap ((((i64.wrap ((qh:Int)+2)).toNat:Nat):Int)-(s38l:Int)))-1))+1)) w44 fun p45 w46=>
 (0:Int)≤(i64.wrap ((s38l:Int)-1))∧(i64.wrap ((s38l:Int)-1))<(s38l:Nat) ∧
 optM s38a fun a47=>
 ∃ n48,w46.cell? (a47.add ((i64.wrap ((s38l:Int)-1)).toNat*1))=some (.int .u32 n48) ∧
 (0:Int)≤(i64.wrap ((s38l:Int)-2))∧(i64.wrap ((s38l:Int)-2))<(s38l:Nat) ∧
 optM s38a fun a49=>
 ∃ n50,w46.cell? (a49.add ((i64.wrap ((s38l:Int)-2)).toNat*1))=some (.int .u32 n50) ∧
 drM w46 fun w51=>
 cutM (σ:=Unit) (fun J52=>
 loopM (σ:=Int×Unit) (fun s55 X56 w57=>
 cond (decide (s55.1≥0))
 ((0:Int)≤(i64.wrap (s55.1+(s38l:Int)))∧(i64.wrap (s55.1+(s38l:Int)))<((i64.wrap ((qh:Int)+2)).toNat:Nat) ∧
 ∃ n58,w57.cell? (p39.add ((i64.wrap (s55.1+(s38l:Int))).toNat*1))=some (.int .u32 n58) ∧
 (0:Int)≤32 ∧
 (0:Int)≤(i64.wrap ((i64.wrap (s55.1+(s38l:Int)))-1))∧(i64.wrap ((i64.wrap (s55.1+(s38l:Int)))-1))<((i64.wrap ((qh:Int)+2)).toNat:Nat) ∧
 ∃ n59,w57.cell? (p39.add ((i64.wrap ((i64.wrap (s55.1+(s38l:Int)))-1)).toNat*1))=some (.int .u32 n59) ∧
 drM w57 fun w60=>
 ((u64.wrap n48):Int)≠0 ∧
 ((u64.wrap n48):Int)≠0 ∧
 drM w60 fun w61=>
 cutM (σ:=Int×Unit) (fun J62=>
 loopM (σ:=Int×Int×Unit) (fun s65 X66 w67=>
 cond (!(decide (s65.1>4294967295)))
 ((0:Int)≤32 ∧
 (0:Int)≤(i64.wrap ((i64.wrap (s55.1+(s38l:Int)))-2))∧(i64.wrap ((i64.wrap (s55.1+(s38l:Int)))-2))<((i64.wrap ((qh:Int)+2)).toNat:Nat) ∧
 ∃ n68,w67.cell? (p39.add ((i64.wrap ((i64.wrap (s55.1+(s38l:Int)))-2)).toNat*1))=some (.int .u32 n68) ∧
 cond (decide ((u64.wrap (s65.1*(u64.wrap n50)))>(u64.wrap (BitVec.ofInt u64.bits (u64.wrap (s65.2.1*2^(min (32:Int).toNat u64.bits))) ||| BitVec.ofInt u64.bits (u64.wrap n68)).toNat)))
 (cond (decide ((u64.wrap (s65.2.1+(u64.wrap n48)))>4294967295))
 (J62 ((u64.wrap (s65.1-1)),()) w67)
 (X66 ((u64.wrap (s65.1-1)),(u64.wrap (s65.2.1+(u64.wrap n48))),()) w67))
 (J62 (s65.1,()) w67))
 (cond (decide ((u64.wrap (s65.2.1+(u64.wrap n48)))>4294967295))
 (J62 ((u64.wrap (s65.1-1)),()) w67)
 (X66 ((u64.wrap (s65.1-1)),(u64.wrap (s65.2.1+(u64.wrap n48))),()) w67)))
 ((u64.wrap ((u64.wrap (BitVec.ofInt u64.bits (u64.wrap ((u64.wrap n58)*2^(min (32:Int).toNat u64.bits))) ||| BitVec.ofInt u64.bits (u64.wrap n59)).toNat).tdiv (u64.wrap n48))),((u64.wrap (BitVec.ofInt u64.bits (u64.wrap ((u64.wrap n58)*2^(min (32:Int).toNat u64.bits))) ||| BitVec.ofInt u64.bits (u64.wrap n59)).toNat).tmod (u64.wrap n48)),()) w61)
 (fun s63 w64=>
 cutM (σ:=Int×Int×Unit) (fun J69=>
 loopM (σ:=Int×Int×Int×Unit) (fun s72 X73 w74=>
 cond (decide (s72.2.2.1<(s38l:Int)))
 ((0:Int)≤s72.2.2.1∧s72.2.2.1<(s38l:Nat) ∧
 optM s38a fun a75=>
 cW_ w74 (a75.add (s72.2.2.1.toNat*1)) fun n76=>
 (0:Int)≤(i64.wrap (s72.2.2.1+s55.1))∧(i64.wrap (s72.2.2.1+s55.1))<((i64.wrap ((qh:Int)+2)).toNat:Nat) ∧
 ∃ n77,w74.cell? (p39.add ((i64.wrap (s72.2.2.1+s55.1)).toNat*1))=some (.int .u32 n77) ∧
 (0:Int)≤(i64.wrap (s72.2.2.1+s55.1))∧(i64.wrap (s72.2.2.1+s55.1))<((i64.wrap ((qh:Int)+2)).toNat:Nat) ∧
 stM (p39.add ((i64.wrap (s72.2.2.1+s55.1)).toNat*1)) (.int .u32 (u32.wrap (u64.wrap ((u64.wrap ((u64.wrap n77)-(u64.wrap (u32.wrap (u64.wrap (s72.1+(u64.wrap (s63.1*(u64.wrap n76)))))))))-s72.2.1)))) w74 fun w78=>
 (0:Int)≤63 ∧
 (0:Int)≤32 ∧
 X73 (((u64.wrap (s72.1+(u64.wrap (s63.1*(u64.wrap n76))))).fdiv (2^(min (32:Int).toNat u64.bits))),((u64.wrap ((u64.wrap ((u64.wrap n77)-(u64.wrap (u32.wrap (u64.wrap (s72.1+(u64.wrap (s63.1*(u64.wrap n76)))))))))-s72.2.1)).fdiv (2^(min (63:Int).toNat u64.bits))),(i64.wrap (s72.2.2.1+1)),()) w78)
 (J69 (s72.1,s72.2.1,()) w74))
 (0,0,0,()) w64)
 (fun s70 w71=>
 (0:Int)≤(i64.wrap (s55.1+(s38l:Int)))∧(i64.wrap (s55.1+(s38l:Int)))<((i64.wrap ((qh:Int)+2)).toNat:Nat) ∧
 ∃ n79,w71.cell? (p39.add ((i64.wrap (s55.1+(s38l:Int))).toNat*1))=some (.int .u32 n79) ∧
 (0:Int)≤(i64.wrap (s55.1+(s38l:Int)))∧(i64.wrap (s55.1+(s38l:Int)))<((i64.wrap ((qh:Int)+2)).toNat:Nat) ∧
 stM (p39.add ((i64.wrap (s55.1+(s38l:Int))).toNat*1)) (.int .u32 (u32.wrap (u64.wrap ((u64.wrap ((u64.wrap n79)-s70.1))-s70.2.1)))) w71 fun w80=>
 (0:Int)≤63 ∧
 cutM (σ:=Int×Unit) (fun J81=>
 cond (((u64.wrap ((u64.wrap ((u64.wrap n79)-s70.1))-s70.2.1)).fdiv (2^(min (63:Int).toNat u64.bits))) != 0)
 (cutM (σ:=Int×Unit) (fun J84=>
 loopM (σ:=Int×Int×Unit) (fun s87 X88 w89=>
 cond (decide (s87.2.1<(s38l:Int)))
 ((0:Int)≤(i64.wrap (s87.2.1+s55.1))∧(i64.wrap (s87.2.1+s55.1))<((i64.wrap ((qh:Int)+2)).toNat:Nat) ∧
 ∃ n90,w89.cell? (p39.add ((i64.wrap (s87.2.1+s55.1)).toNat*1))=some (.int .u32 n90) ∧
 (0:Int)≤s87.2.1∧s87.2.1<(s38l:Nat) ∧
 optM s38a fun a91=>
 cW_ w89 (a91.add (s87.2.1.toNat*1)) fun n92=>
 drM w89 fun w93=>
 (0:Int)≤(i64.wrap (s87.2.1+s55.1))∧(i64.wrap (s87.2.1+s55.1))<((i64.wrap ((qh:Int)+2)).toNat:Nat) ∧
 stM (p39.add ((i64.wrap (s87.2.1+s55.1)).toNat*1)) (.int .u32 (u32.wrap (u64.wrap (s87.1+(u64.wrap ((u64.wrap n90)+(u64.wrap n92))))))) w93 fun w94=>
 (0:Int)≤32 ∧
 X88 (((u64.wrap (s87.1+(u64.wrap ((u64.wrap n90)+(u64.wrap n92))))).fdiv (2^(min (32:Int).toNat u64.bits))),(i64.wrap (s87.2.1+1)),()) w94)
 (J84 (s87.1,()) w89))
 (0,0,()) w80)
 (fun s85 w86=>
 (0:Int)≤(i64.wrap (s55.1+(s38l:Int)))∧(i64.wrap (s55.1+(s38l:Int)))<((i64.wrap ((qh:Int)+2)).toNat:Nat) ∧
 ∃ n95,w86.cell? (p39.add ((i64.wrap (s55.1+(s38l:Int))).toNat*1))=some (.int .u32 n95) ∧
 (0:Int)≤(i64.wrap (s55.1+(s38l:Int)))∧(i64.wrap (s55.1+(s38l:Int)))<((i64.wrap ((qh:Int)+2)).toNat:Nat) ∧
 stM (p39.add ((i64.wrap (s55.1+(s38l:Int))).toNat*1)) (.int .u32 (u32.wrap (n95+(u32.wrap s85.1)))) w86 fun w96=>
 J81 ((u64.wrap (s63.1-1)),()) w96))
 (J81 (s63.1,()) w80))
 (fun s82 w83=>
 (0:Int)≤s55.1∧s55.1<((i64.wrap ((i64.wrap ((i64.wrap ((((i64.wrap ((qh:Int)+2)).toNat:Nat):Int)-(s38l:Int)))-1))+1)).toNat:Nat) ∧
 stM (p45.add (s55.1.toNat*1)) (.int .u32 (u32.wrap s82.1)) w83 fun w97=>
 X56 ((i64.wrap (s55.1-1)),()) w97))))
 (J52 (()) w57))
 ((i64.wrap ((i64.wrap ((((i64.wrap ((qh:Int)+2)).toNat:Nat):Int)-(s38l:Int)))-1)),()) w51)
 (fun s53 w54=>
 CallsX P N.f_bn_trim #[.slice (some p45) ((i64.wrap ((i64.wrap ((i64.wrap ((((i64.wrap ((qh:Int)+2)).toNat:Nat):Int)-(s38l:Int)))-1))+1)).toNat) ((i64.wrap ((i64.wrap ((i64.wrap ((((i64.wrap ((qh:Int)+2)).toNat:Nat):Int)-(s38l:Int)))-1))+1)).toNat)] w54 fun v99 w98=>
 vS_ v99 fun s100a s100l s100c=>
 CallsX P N.f_bn_trim #[.slice (some p39) ((i64.wrap ((qh:Int)+2)).toNat) ((i64.wrap ((qh:Int)+2)).toNat)] w98 fun v102 w101=>
 vS_ v102 fun s103a s103l s103c=>
 CallsX P N.f_bn_right #[.slice s103a s103l s103c,.int .u64 (u64.wrap (i64.wrap ((i64.wrap (32-((i64.wrap (n35-1)).tmod 32)))-1)))] w101 fun v105 w104=>
 vS_ v105 fun s106a s106l s106c=>
 K (.tuple #[.slice s100a s100l s100c,.slice s106a s106l s106c]) w104)))))
def S_r02_short (N:Nums) (P:Program) (q0:OA) (qh qk:Nat) (q1:Int) (w:World) (K:KV):Prop:=
 mkM N.t_uint64 1 8 #[.int .u64 0] (qh:Int) (qh:Int) w fun p1 w2=>
 cutM (σ:=Int×Unit) (fun J3=>
 loopM (σ:=Int×Int×Unit) (fun s6 X7 w8=>
 cond (decide (s6.2.1≥0))
 ((0:Int)≤s6.2.1∧s6.2.1<(qh:Nat) ∧
 optM q0 fun a9=>
 cU_ w8 (a9.add (s6.2.1.toNat*1)) fun n10=>
 (q1:Int)≠0 ∧
 (0:Int)≤s6.2.1∧s6.2.1<((qh:Int).toNat:Nat) ∧
 stM (p1.add (s6.2.1.toNat*1)) (.int .u64 (u64.wrap ((u64.wrap ((u64.wrap (s6.1*4294967296))+n10)).tdiv q1))) w8 fun w11=>
 (q1:Int)≠0 ∧
 X7 (((u64.wrap ((u64.wrap (s6.1*4294967296))+n10)).tmod q1),(i64.wrap (s6.2.1-1)),()) w11)
 (J3 (s6.1,()) w8))
 (0,(i64.wrap ((qh:Int)-1)),()) w2)
 (fun s4 w5=>
 CallsX P N.f_r02_low #[.slice (some p1) ((qh:Int).toNat) ((qh:Int).toNat)] w5 fun v13 w12=>
 vS_ v13 fun s14a s14l s14c=>
 K (.tuple #[.slice s14a s14l s14c,.int .u64 s4.1]) w12)
def S_r02_low (N:Nums) (P:Program) (q0:OA) (qh qk:Nat) (w:World) (K:KV):Prop:=
 cutM (σ:=Int×Unit) (fun J1=>
 loopM (σ:=Int×Unit) (fun s4 X5 w6=>
 cond (decide (s4.1>0))
 ((0:Int)≤(i64.wrap (s4.1-1))∧(i64.wrap (s4.1-1))<(qh:Nat) ∧
 optM q0 fun a7=>
 ∃ n8,w6.cell? (a7.add ((i64.wrap (s4.1-1)).toNat*1))=some (.int .u64 n8) ∧
 cond (n8==0)
 (X5 ((i64.wrap (s4.1-1)),()) w6)
 (J1 (s4.1,()) w6))
 (J1 (s4.1,()) w6))
 ((qh:Int),()) w)
 (fun s2 w3=>
 (0:Int)≤s2.1∧s2.1≤(qk:Nat) ∧
 K (.slice (slBase q0 0 qk 1) s2.1.toNat qk) w3)
def S_bn_plain (N:Nums) (P:Program) (q0:OA) (qh qk:Nat) (w:World) (K:KV):Prop:=
 cutM (σ:=Int×Unit) (fun J1=>
 cond (decide ((qh:Int)>0))
 ((0:Int)≤(0:Int)∧(0:Int)<(qh:Nat) ∧
 optM q0 fun a4=>
 cW_ w (a4.add ((0:Int).toNat*1)) fun n5=>
 J1 ((u64.wrap n5),()) w)
 (J1 (0,()) w))
 (fun s2 w3=>
 cutM (σ:=Int×Unit) (fun J6=>
 cond (decide ((qh:Int)>1))
 ((0:Int)≤(1:Int)∧(1:Int)<(qh:Nat) ∧
 optM q0 fun a9=>
 cW_ w3 (a9.add ((1:Int).toNat*1)) fun n10=>
 (0:Int)≤32 ∧
 J6 ((u64.wrap (BitVec.ofInt u64.bits s2.1 ||| BitVec.ofInt u64.bits (u64.wrap ((u64.wrap n10)*2^(min (32:Int).toNat u64.bits)))).toNat),()) w3)
 (J6 (s2.1,()) w3))
 (fun s7 w8=>
 K (.int .u64 s7.1) w8))
def S_bn_small (N:Nums) (P:Program) (q0:OA) (qh qk:Nat) (q1:Int) (w:World) (K:KV):Prop:=
 mkM N.t_uint32 1 4 #[.int .u32 0] (qh:Int) (qh:Int) w fun p1 w2=>
 cutM (σ:=Int×Unit) (fun J3=>
 loopM (σ:=Int×Int×Unit) (fun s6 X7 w8=>
 cond (decide (s6.2.1≥0))
 ((0:Int)≤32 ∧
 (0:Int)≤s6.2.1∧s6.2.1<(qh:Nat) ∧
 optM q0 fun a9=>
 cW_ w8 (a9.add (s6.2.1.toNat*1)) fun n10=>
 ((u64.wrap q1):Int)≠0 ∧
 (0:Int)≤s6.2.1∧s6.2.1<((qh:Int).toNat:Nat) ∧
 stM (p1.add (s6.2.1.toNat*1)) (.int .u32 (u32.wrap (u64.wrap ((u64.wrap (BitVec.ofInt u64.bits (u64.wrap (s6.1*2^(min (32:Int).toNat u64.bits))) ||| BitVec.ofInt u64.bits (u64.wrap n10)).toNat).tdiv (u64.wrap q1))))) w8 fun w11=>
 ((u64.wrap q1):Int)≠0 ∧
 X7 (((u64.wrap (BitVec.ofInt u64.bits (u64.wrap (s6.1*2^(min (32:Int).toNat u64.bits))) ||| BitVec.ofInt u64.bits (u64.wrap n10)).toNat).tmod (u64.wrap q1)),(i64.wrap (s6.2.1-1)),()) w11)
 (J3 (s6.1,()) w8))
 (0,(i64.wrap ((qh:Int)-1)),()) w2)
 (fun s4 w5=>
 CallsX P N.f_bn_trim #[.slice (some p1) ((qh:Int).toNat) ((qh:Int).toNat)] w5 fun v13 w12=>
 vS_ v13 fun s14a s14l s14c=>
 K (.tuple #[.slice s14a s14l s14c,.int .u32 (u32.wrap s4.1)]) w12)
end Go.Eng
