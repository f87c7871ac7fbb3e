/-
 Some of the functions as propositions in the manner of a weakest precondition, printed off the structured code by a program of the session. No condition.
-/
import Derived.Test.YtlnelldekejadaaTbl
import Derived.Test.YtlnelldekejadaaNm
set_option linter.all false
set_option maxRecDepth 100000
namespace Go.Eng
open Go
open Go.IntKind (i64 u64 u32 u8)
def S_r02_halves (N:Nums) (P:Program) (q0:OA) (qg qk:Nat) (w:World) (K:KV):Prop:=
 cutM (σ:=(OA×Nat×Nat)×Unit) (fun J1=>
 loopM (σ:=(OA×Nat×Nat)×Int×Unit) (fun s4 X5 w6=>
 cond (decide (s4.2.1<(qg:Int)))
 ((0:Int)≤s4.2.1∧s4.2.1<(qg:Nat) ∧
 optM q0 fun a7=>
 cU_ w6 (a7.add (s4.2.1.toNat*1)) fun n8=>
 (4294967296:Int)≠0 ∧
 (0:Int)≤s4.2.1∧s4.2.1<(qg:Nat) ∧
 optM q0 fun a9=>
 cU_ w6 (a9.add (s4.2.1.toNat*1)) fun n10=>
 (4294967296:Int)≠0 ∧
 drM w6 fun w11=>
 newM #[.int .u64 (n8.tmod 4294967296),.int .u64 (u64.wrap (n10.tdiv 4294967296))] N.t_uint64 w11 fun p12 w13=>
 drM w13 fun w14=>
 appM N.t_uint64 1 8 #[.int .u64 0] s4.1.1 s4.1.2.1 s4.1.2.2 (some p12) 2 w14 fun s15a s15l s15c w16=>
 drM w16 fun w17=>
 X5 ((s15a,s15l,s15c),(i64.wrap (s4.2.1+1)),()) w17)
 (J1 ((s4.1.1,s4.1.2.1,s4.1.2.2),()) w6))
 ((none,0,0),0,()) w)
 (fun s2 w3=>
 CallsX P N.f_r02_low #[.slice s2.1.1 s2.1.2.1 s2.1.2.2] w3 fun v19 w18=>
 vS_ v19 fun s20a s20l s20c=>
 K (.slice s20a s20l s20c) w18)
def S_r02_limbs (N:Nums) (P:Program) (q0:OA) (qg qk:Nat) (w:World) (K:KV):Prop:=
 cutM (σ:=(OA×Nat×Nat)×Unit) (fun J1=>
 loopM (σ:=(OA×Nat×Nat)×Int×Unit) (fun s4 X5 w6=>
 cond (decide (s4.2.1<(qg:Int)))
 ((0:Int)≤s4.2.1∧s4.2.1<(qg:Nat) ∧
 optM q0 fun a7=>
 cU_ w6 (a7.add (s4.2.1.toNat*1)) fun n8=>
 cutM (σ:=Int×Unit) (fun J9=>
 cond (decide ((i64.wrap (s4.2.1+1))<(qg:Int)))
 ((0:Int)≤(i64.wrap (s4.2.1+1))∧(i64.wrap (s4.2.1+1))<(qg:Nat) ∧
 optM q0 fun a12=>
 ∃ n13,w6.cell? (a12.add ((i64.wrap (s4.2.1+1)).toNat*1))=some (.int .u64 n13) ∧
 J9 ((u64.wrap (n8+(u64.wrap (4294967296*n13)))),()) w6)
 (J9 (n8,()) w6))
 (fun s10 w11=>
 newM #[.int .u64 s10.1] N.t_uint64 w11 fun p14 w15=>
 appM N.t_uint64 1 8 #[.int .u64 0] s4.1.1 s4.1.2.1 s4.1.2.2 (some p14) 1 w15 fun s16a s16l s16c w17=>
 X5 ((s16a,s16l,s16c),(i64.wrap (s4.2.1+2)),()) w17))
 (J1 ((s4.1.1,s4.1.2.1,s4.1.2.2),()) w6))
 ((none,0,0),0,()) w)
 (fun s2 w3=>
 CallsX P N.f_r02_NatTrim #[.slice s2.1.1 s2.1.2.1 s2.1.2.2] w3 fun v19 w18=>
 vS_ v19 fun s20a s20l s20c=>
 K (.slice s20a s20l s20c) w18)
def S_r02_digit (N:Nums) (P:Program) (q0:OA) (qg qk:Nat) (q1:Int) (w:World) (K:KV):Prop:=
 cond (decide (q1<(qg:Int)))
 ((0:Int)≤q1∧q1<(qg:Nat) ∧
 optM q0 fun a1=>
 cU_ w (a1.add (q1.toNat*1)) fun n2=>
 K (.int .u64 n2) w)
 (K (.int .u64 0) w)
def S_bI_And (N:Nums) (P:Program) (q0:OA) (q1:OA) (q2:OA) (w:World) (K:KV):Prop:=
 optM q1 fun a1=>
 cS_ w (a1.add 1) fun s2a s2l s2c=>
 optM q2 fun a3=>
 cS_ w (a3.add 1) fun s4a s4l s4c=>
 drM w fun w5=>
 CallsX P N.f_bI_low #[.pointer q1,.int .i64 (i64.wrap ((if (s4l:Int)>(s2l:Int) then (s4l:Int) else (s2l:Int))+1))] w5 fun v7 w6=>
 vS_ v7 fun s8a s8l s8c=>
 CallsX P N.f_bI_low #[.pointer q2,.int .i64 (i64.wrap ((if (s4l:Int)>(s2l:Int) then (s4l:Int) else (s2l:Int))+1))] w6 fun v10 w9=>
 vS_ v10 fun s11a s11l s11c=>
 cutM (σ:=Unit) (fun J12=>
 loopM (σ:=Int×Unit) (fun s15 X16 w17=>
 cond (decide (s15.1<(i64.wrap ((if (s4l:Int)>(s2l:Int) then (s4l:Int) else (s2l:Int))+1))))
 ((0:Int)≤s15.1∧s15.1<(s8l:Nat) ∧
 optM s8a fun a18=>
 cW_ w17 (a18.add (s15.1.toNat*1)) fun n19=>
 (0:Int)≤s15.1∧s15.1<(s11l:Nat) ∧
 optM s11a fun a20=>
 cW_ w17 (a20.add (s15.1.toNat*1)) fun n21=>
 (0:Int)≤s15.1∧s15.1<(s8l:Nat) ∧
 optM s8a fun a22=>
 drM w17 fun w23=>
 stM (a22.add (s15.1.toNat*1)) (.int .u32 (u32.wrap (BitVec.ofInt u32.bits n19 &&& BitVec.ofInt u32.bits n21).toNat)) w23 fun w24=>
 drM w24 fun w25=>
 X16 ((i64.wrap (s15.1+1)),()) w25)
 (J12 (()) w17))
 (0,()) w9)
 (fun s13 w14=>
 CallsX P N.f_bI_of #[.pointer q0,.slice s8a s8l s8c] w14 fun v27 w26=>
 ∃ p28:(OA),v27=(.pointer p28) ∧
 K (.pointer p28) w26)
def S_bI_low (N:Nums) (P:Program) (q0:OA) (q1:Int) (w:World) (K:KV):Prop:=
 mkM N.t_uint32 1 4 #[.int .u32 0] q1 q1 w fun p1 w2=>
 optM q0 fun a3=>
 cS_ w2 (a3.add 1) fun s4a s4l s4c=>
 copM 1 (some p1) q1.toNat s4a s4l w2 fun w5=>
 optM q0 fun a6=>
 cB_ w5 a6 fun b7=>
 cutM (σ:=Unit) (fun J8=>
 cond b7
 (cutM (σ:=Unit) (fun J11=>
 loopM (σ:=Int×Int×Unit) (fun s14 X15 w16=>
 cond (decide (s14.2.1<q1))
 ((0:Int)≤s14.2.1∧s14.2.1<(q1.toNat:Nat) ∧
 cW_ w16 (p1.add (s14.2.1.toNat*1)) fun n17=>
 (0:Int)≤s14.2.1∧s14.2.1<(q1.toNat:Nat) ∧
 stM (p1.add (s14.2.1.toNat*1)) (.int .u32 (u32.wrap (u64.wrap (s14.1+(u64.wrap (u32.wrap (BitVec.ofInt u32.bits (u32.max) ^^^ BitVec.ofInt u32.bits n17).toNat)))))) w16 fun w18=>
 (0:Int)≤32 ∧
 X15 (((u64.wrap (s14.1+(u64.wrap (u32.wrap (BitVec.ofInt u32.bits (u32.max) ^^^ BitVec.ofInt u32.bits n17).toNat)))).fdiv (2^(min (32:Int).toNat u64.bits))),(i64.wrap (s14.2.1+1)),()) w18)
 (J11 (()) w16))
 (1,0,()) w5)
 (fun s12 w13=>
 J8 (()) w13))
 (J8 (()) w5))
 (fun s9 w10=>
 K (.slice (some p1) q1.toNat q1.toNat) w10)
def S_bI_of (N:Nums) (P:Program) (q0:OA) (q1:OA) (qq qx:Nat) (w:World) (K:KV):Prop:=
 cutM (σ:=Bool×Unit) (fun J1=>
 cond (decide ((qq:Int)>0))
 ((0:Int)≤(i64.wrap ((qq:Int)-1))∧(i64.wrap ((qq:Int)-1))<(qq:Nat) ∧
 optM q1 fun a4=>
 ∃ n5,w.cell? (a4.add ((i64.wrap ((qq:Int)-1)).toNat*1))=some (.int .u32 n5) ∧
 (0:Int)≤31 ∧
 J1 (((n5.fdiv (2^(min (31:Int).toNat u32.bits)))==1),()) w)
 (J1 (false,()) w))
 (fun s2 w3=>
 cond s2.1
 (cutM (σ:=Unit) (fun J6=>
 loopM (σ:=Int×Int×Unit) (fun s9 X10 w11=>
 cond (decide (s9.2.1<(qq:Int)))
 ((0:Int)≤s9.2.1∧s9.2.1<(qq:Nat) ∧
 optM q1 fun a12=>
 cW_ w11 (a12.add (s9.2.1.toNat*1)) fun n13=>
 (0:Int)≤s9.2.1∧s9.2.1<(qq:Nat) ∧
 optM q1 fun a14=>
 stM (a14.add (s9.2.1.toNat*1)) (.int .u32 (u32.wrap (u64.wrap (s9.1+(u64.wrap (u32.wrap (BitVec.ofInt u32.bits (u32.max) ^^^ BitVec.ofInt u32.bits n13).toNat)))))) w11 fun w15=>
 (0:Int)≤32 ∧
 X10 (((u64.wrap (s9.1+(u64.wrap (u32.wrap (BitVec.ofInt u32.bits (u32.max) ^^^ BitVec.ofInt u32.bits n13).toNat)))).fdiv (2^(min (32:Int).toNat u64.bits))),(i64.wrap (s9.2.1+1)),()) w15)
 (J6 (()) w11))
 (1,0,()) w3)
 (fun s7 w8=>
 CallsX P N.f_bn_trim #[.slice q1 qq qx] w8 fun v17 w16=>
 vS_ v17 fun s18a s18l s18c=>
 CallsX P N.f_bI_give #[.pointer q0,.bool true,.slice s18a s18l s18c] w16 fun v20 w19=>
 ∃ p21:(OA),v20=(.pointer p21) ∧
 K (.pointer p21) w19))
 (CallsX P N.f_bn_trim #[.slice q1 qq qx] w3 fun v23 w22=>
 vS_ v23 fun s24a s24l s24c=>
 CallsX P N.f_bI_give #[.pointer q0,.bool false,.slice s24a s24l s24c] w22 fun v26 w25=>
 ∃ p27:(OA),v26=(.pointer p27) ∧
 K (.pointer p27) w25))
def S_bn_words (N:Nums) (P:Program) (q0:Int) (w:World) (K:KV):Prop:=
 (0:Int)≤32 ∧
 newM #[.int .u32 (u32.wrap q0),.int .u32 (u32.wrap (q0.fdiv (2^(min (32:Int).toNat u64.bits))))] N.t_uint32 w fun p1 w2=>
 CallsX P N.f_bn_trim #[.slice (some p1) 2 2] w2 fun v4 w3=>
 vS_ v4 fun s5a s5l s5c=>
 K (.slice s5a s5l s5c) w3
def S_slices_IndexFunc___api_Dyad_api_Dyad (N:Nums) (P:Program) (q0:OA) (qg qk:Nat) (q1:Value) (w:World) (K:KV):Prop:=
 cutM (σ:=Unit) (fun J1=>
 loopM (σ:=Int×Unit) (fun s4 X5 w6=>
 cond (decide (s4.1<(qg:Int)))
 ((0:Int)≤s4.1∧s4.1<(qg:Nat) ∧
 optM q0 fun a7=>
 cB_ w6 (a7.add (s4.1.toNat*3)) fun b8=>
 cS_ w6 ((a7.add (s4.1.toNat*3)).add 1) fun s9a s9l s9c=>
 cI_ w6 ((a7.add (s4.1.toNat*3)).add 2) fun n10=>
 fnM q1 fun f13 f13p f13q=>CallsX P f13 (f13p.toList++(([.agg #[.bool b8,.slice s9a s9l s9c,.int .i64 n10]]:List Value)++f13q.toList)).toArray w6 fun v12 w11=>
 vB_ v12 fun b14=>
 cond b14
 (K (.int .i64 s4.1) w11)
 (X5 ((i64.wrap (s4.1+1)),()) w11))
 (J1 (()) w6))
 (0,()) w)
 (fun s2 w3=>
 K (.int .i64 (-1)) w3)
def S_bn_trim (N:Nums) (P:Program) (q0:OA) (qg qk:Nat) (w:World) (K:KV):Prop:=
 cutM (σ:=Int×Unit) (fun J1=>
 loopM (σ:=Int×Unit) (fun s4 X5 w6=>
 cond (decide (s4.1>0))
 ((0:Int)≤(i64.wrap (s4.1-1))∧(i64.wrap (s4.1-1))<(qg:Nat) ∧
 optM q0 fun a7=>
 ∃ n8,w6.cell? (a7.add ((i64.wrap (s4.1-1)).toNat*1))=some (.int .u32 n8) ∧
 cond (n8==0)
 (X5 ((i64.wrap (s4.1-1)),()) w6)
 (J1 (s4.1,()) w6))
 (J1 (s4.1,()) w6))
 ((qg:Int),()) w)
 (fun s2 w3=>
 (0:Int)≤s2.1∧s2.1≤(qk:Nat) ∧
 K (.slice (slBase q0 0 qk 1) s2.1.toNat qk) w3)
def S_bn_div (N:Nums) (P:Program) (q0:OA) (qg qk:Nat) (q1:OA) (qq qx:Nat) (w:World) (K:KV):Prop:=
 cond ((qq:Int)==0)
 (K (.tuple #[.slice none 0 0,.slice none 0 0]) w)
 (CallsX P N.f_bn_cmp #[.slice q0 qg qk,.slice q1 qq qx] w fun v2 w1=>
 ∃ n3,v2=(.int .i64 n3) ∧
 cond (decide (n3<0))
 (CallsX P N.f_bn_twin #[.slice q0 qg qk] w1 fun v5 w4=>
 vS_ v5 fun s6a s6l s6c=>
 K (.tuple #[.slice none 0 0,.slice s6a s6l s6c]) w4)
 (cond (decide ((qg:Int)≤2))
 (CallsX P N.f_bn_plain #[.slice q0 qg qk] w1 fun v8 w7=>
 ∃ n9,v8=(.int .u64 n9) ∧
 CallsX P N.f_bn_plain #[.slice q1 qq qx] w7 fun v11 w10=>
 ∃ n12,v11=(.int .u64 n12) ∧
 (n12:Int)≠0 ∧
 (n12:Int)≠0 ∧
 drM w10 fun w13=>
 CallsX P N.f_bn_words #[.int .u64 (u64.wrap (n9.tdiv n12))] w13 fun v15 w14=>
 vS_ v15 fun s16a s16l s16c=>
 drM w14 fun w17=>
 CallsX P N.f_bn_words #[.int .u64 (n9.tmod n12)] w17 fun v19 w18=>
 vS_ v19 fun s20a s20l s20c=>
 drM w18 fun w21=>
 K (.tuple #[.slice s16a s16l s16c,.slice s20a s20l s20c]) w21)
 (cond ((qq:Int)==1)
 ((0:Int)≤(0:Int)∧(0:Int)<(qq:Nat) ∧
 optM q1 fun a22=>
 cW_ w1 (a22.add ((0:Int).toNat*1)) fun n23=>
 CallsX P N.f_bn_small #[.slice q0 qg qk,.int .u32 n23] w1 fun v25 w24=>
 ∃ s26a s26l s26c,∃ n27,v25=(.tuple #[.slice s26a s26l s26c,.int .u32 n27]) ∧
 newM #[.int .u32 n27] N.t_uint32 w24 fun p28 w29=>
 CallsX P N.f_bn_trim #[.slice (some p28) 1 1] w29 fun v31 w30=>
 vS_ v31 fun s32a s32l s32c=>
 K (.tuple #[.slice s26a s26l s26c,.slice s32a s32l s32c]) w30)
 (CallsX P N.f_bn_length #[.slice q1 qq qx] w1 fun v34 w33=>
 ∃ n35,v34=(.int .i64 n35) ∧
 (32:Int)≠0 ∧
 CallsX P N.f_bn_left #[.slice q1 qq qx,.int .u64 (u64.wrap (i64.wrap ((i64.wrap (32-((i64.wrap (n35-1)).tmod 32)))-1)))] w33 fun v37 w36=>
 vS_ v37 fun s38a s38l s38c=>
 mkM N.t_uint32 1 4 #[.int .u32 0] (i64.wrap ((qg:Int)+2)) (i64.wrap ((qg:Int)+2)) w36 fun p39 w40=>
 CallsX P N.f_bn_left #[.slice q0 qg qk,.int .u64 (u64.wrap (i64.wrap ((i64.wrap (32-((i64.wrap (n35-1)).tmod 32)))-1)))] w40 fun v42 w41=>
 vS_ v42 fun s43a s43l s43c=>
 copM 1 (some p39) ((i64.wrap ((qg:Int)+2)).toNat) s43a s43l w41 fun w44=>
 mkM N.t_uint32 1 4 #[.int .u32 0] (i64.wrap ((i64.wrap ((i64.wrap ((((i64.wrap ((qg:Int)+2)).toNat:Nat):Int)-(s38l:Int)))-1))+1)) (i64.wrap ((i64.wrap ((i64.wrap ((((i64.wrap ((qg:Int)+2)).toNat:Nat):Int)-(s38l:Int)))-1))+1)) w44 fun p45 w46=>
 (0:Int)≤(i64.wrap ((s38l:Int)-1))∧(i64.wrap ((s38l:Int)-1))<(s38l:Nat) ∧
 optM s38a fun a47=>
 ∃ n48,w46.cell? (a47.add ((i64.wrap ((s38l:Int)-1)).toNat*1))=some (.int .u32 n48) ∧
 (0:Int)≤(i64.wrap ((s38l:Int)-2))∧(i64.wrap ((s38l:Int)-2))<(s38l:Nat) ∧
 optM s38a fun a49=>
 ∃ n50,w46.cell? (a49.add ((i64.wrap ((s38l:Int)-2)).toNat*1))=some (.int .u32 n50) ∧
 drM w46 fun w51=>
 cutM (σ:=Unit) (fun J52=>
 loopM (σ:=Int×Unit) (fun s55 X56 w57=>
 cond (decide (s55.1≥0))
 ((0:Int)≤(i64.wrap (s55.1+(s38l:Int)))∧(i64.wrap (s55.1+(s38l:Int)))<((i64.wrap ((qg:Int)+2)).toNat:Nat) ∧
 ∃ n58,w57.cell? (p39.add ((i64.wrap (s55.1+(s38l:Int))).toNat*1))=some (.int .u32 n58) ∧
 (0:Int)≤32 ∧
 (0:Int)≤(i64.wrap ((i64.wrap (s55.1+(s38l:Int)))-1))∧(i64.wrap ((i64.wrap (s55.1+(s38l:Int)))-1))<((i64.wrap ((qg:Int)+2)).toNat:Nat) ∧
 ∃ n59,w57.cell? (p39.add ((i64.wrap ((i64.wrap (s55.1+(s38l:Int)))-1)).toNat*1))=some (.int .u32 n59) ∧
 drM w57 fun w60=>
 ((u64.wrap n48):Int)≠0 ∧
 ((u64.wrap n48):Int)≠0 ∧
 drM w60 fun w61=>
 cutM (σ:=Int×Unit) (fun J62=>
 loopM (σ:=Int×Int×Unit) (fun s65 X66 w67=>
 cond (!(decide (s65.1>4294967295)))
 ((0:Int)≤32 ∧
 (0:Int)≤(i64.wrap ((i64.wrap (s55.1+(s38l:Int)))-2))∧(i64.wrap ((i64.wrap (s55.1+(s38l:Int)))-2))<((i64.wrap ((qg:Int)+2)).toNat:Nat) ∧
 ∃ n68,w67.cell? (p39.add ((i64.wrap ((i64.wrap (s55.1+(s38l:Int)))-2)).toNat*1))=some (.int .u32 n68) ∧
 cond (decide ((u64.wrap (s65.1*(u64.wrap n50)))>(u64.wrap (BitVec.ofInt u64.bits (u64.wrap (s65.2.1*2^(min (32:Int).toNat u64.bits))) ||| BitVec.ofInt u64.bits (u64.wrap n68)).toNat)))
 (cond (decide ((u64.wrap (s65.2.1+(u64.wrap n48)))>4294967295))
 (J62 ((u64.wrap (s65.1-1)),()) w67)
 (X66 ((u64.wrap (s65.1-1)),(u64.wrap (s65.2.1+(u64.wrap n48))),()) w67))
 (J62 (s65.1,()) w67))
 (cond (decide ((u64.wrap (s65.2.1+(u64.wrap n48)))>4294967295))
 (J62 ((u64.wrap (s65.1-1)),()) w67)
 (X66 ((u64.wrap (s65.1-1)),(u64.wrap (s65.2.1+(u64.wrap n48))),()) w67)))
 ((u64.wrap ((u64.wrap (BitVec.ofInt u64.bits (u64.wrap ((u64.wrap n58)*2^(min (32:Int).toNat u64.bits))) ||| BitVec.ofInt u64.bits (u64.wrap n59)).toNat).tdiv (u64.wrap n48))),((u64.wrap (BitVec.ofInt u64.bits (u64.wrap ((u64.wrap n58)*2^(min (32:Int).toNat u64.bits))) ||| BitVec.ofInt u64.bits (u64.wrap n59)).toNat).tmod (u64.wrap n48)),()) w61)
 (fun s63 w64=>
 cutM (σ:=Int×Int×Unit) (fun J69=>
 loopM (σ:=Int×Int×Int×Unit) (fun s72 X73 w74=>
 cond (decide (s72.2.2.1<(s38l:Int)))
 ((0:Int)≤s72.2.2.1∧s72.2.2.1<(s38l:Nat) ∧
 optM s38a fun a75=>
 cW_ w74 (a75.add (s72.2.2.1.toNat*1)) fun n76=>
 (0:Int)≤(i64.wrap (s72.2.2.1+s55.1))∧(i64.wrap (s72.2.2.1+s55.1))<((i64.wrap ((qg:Int)+2)).toNat:Nat) ∧
 ∃ n77,w74.cell? (p39.add ((i64.wrap (s72.2.2.1+s55.1)).toNat*1))=some (.int .u32 n77) ∧
 (0:Int)≤(i64.wrap (s72.2.2.1+s55.1))∧(i64.wrap (s72.2.2.1+s55.1))<((i64.wrap ((qg:Int)+2)).toNat:Nat) ∧
 stM (p39.add ((i64.wrap (s72.2.2.1+s55.1)).toNat*1)) (.int .u32 (u32.wrap (u64.wrap ((u64.wrap ((u64.wrap n77)-(u64.wrap (u32.wrap (u64.wrap (s72.1+(u64.wrap (s63.1*(u64.wrap n76)))))))))-s72.2.1)))) w74 fun w78=>
 (0:Int)≤63 ∧
 (0:Int)≤32 ∧
 X73 (((u64.wrap (s72.1+(u64.wrap (s63.1*(u64.wrap n76))))).fdiv (2^(min (32:Int).toNat u64.bits))),((u64.wrap ((u64.wrap ((u64.wrap n77)-(u64.wrap (u32.wrap (u64.wrap (s72.1+(u64.wrap (s63.1*(u64.wrap n76)))))))))-s72.2.1)).fdiv (2^(min (63:Int).toNat u64.bits))),(i64.wrap (s72.2.2.1+1)),()) w78)
 (J69 (s72.1,s72.2.1,()) w74))
 (0,0,0,()) w64)
 (fun s70 w71=>
 (0:Int)≤(i64.wrap (s55.1+(s38l:Int)))∧(i64.wrap (s55.1+(s38l:Int)))<((i64.wrap ((qg:Int)+2)).toNat:Nat) ∧
 ∃ n79,w71.cell? (p39.add ((i64.wrap (s55.1+(s38l:Int))).toNat*1))=some (.int .u32 n79) ∧
 (0:Int)≤(i64.wrap (s55.1+(s38l:Int)))∧(i64.wrap (s55.1+(s38l:Int)))<((i64.wrap ((qg:Int)+2)).toNat:Nat) ∧
 stM (p39.add ((i64.wrap (s55.1+(s38l:Int))).toNat*1)) (.int .u32 (u32.wrap (u64.wrap ((u64.wrap ((u64.wrap n79)-s70.1))-s70.2.1)))) w71 fun w80=>
 (0:Int)≤63 ∧
 cutM (σ:=Int×Unit) (fun J81=>
 cond (((u64.wrap ((u64.wrap ((u64.wrap n79)-s70.1))-s70.2.1)).fdiv (2^(min (63:Int).toNat u64.bits))) != 0)
 (cutM (σ:=Int×Unit) (fun J84=>
 loopM (σ:=Int×Int×Unit) (fun s87 X88 w89=>
 cond (decide (s87.2.1<(s38l:Int)))
 ((0:Int)≤(i64.wrap (s87.2.1+s55.1))∧(i64.wrap (s87.2.1+s55.1))<((i64.wrap ((qg:Int)+2)).toNat:Nat) ∧
 ∃ n90,w89.cell? (p39.add ((i64.wrap (s87.2.1+s55.1)).toNat*1))=some (.int .u32 n90) ∧
 (0:Int)≤s87.2.1∧s87.2.1<(s38l:Nat) ∧
 optM s38a fun a91=>
 cW_ w89 (a91.add (s87.2.1.toNat*1)) fun n92=>
 drM w89 fun w93=>
 (0:Int)≤(i64.wrap (s87.2.1+s55.1))∧(i64.wrap (s87.2.1+s55.1))<((i64.wrap ((qg:Int)+2)).toNat:Nat) ∧
 stM (p39.add ((i64.wrap (s87.2.1+s55.1)).toNat*1)) (.int .u32 (u32.wrap (u64.wrap (s87.1+(u64.wrap ((u64.wrap n90)+(u64.wrap n92))))))) w93 fun w94=>
 (0:Int)≤32 ∧
 X88 (((u64.wrap (s87.1+(u64.wrap ((u64.wrap n90)+(u64.wrap n92))))).fdiv (2^(min (32:Int).toNat u64.bits))),(i64.wrap (s87.2.1+1)),()) w94)
 (J84 (s87.1,()) w89))
 (0,0,()) w80)
 (fun s85 w86=>
 (0:Int)≤(i64.wrap (s55.1+(s38l:Int)))∧(i64.wrap (s55.1+(s38l:Int)))<((i64.wrap ((qg:Int)+2)).toNat:Nat) ∧
 ∃ n95,w86.cell? (p39.add ((i64.wrap (s55.1+(s38l:Int))).toNat*1))=some (.int .u32 n95) ∧
 (0:Int)≤(i64.wrap (s55.1+(s38l:Int)))∧(i64.wrap (s55.1+(s38l:Int)))<((i64.wrap ((qg:Int)+2)).toNat:Nat) ∧
 stM (p39.add ((i64.wrap (s55.1+(s38l:Int))).toNat*1)) (.int .u32 (u32.wrap (n95+(u32.wrap s85.1)))) w86 fun w96=>
 J81 ((u64.wrap (s63.1-1)),()) w96))
 (J81 (s63.1,()) w80))
 (fun s82 w83=>
 (0:Int)≤s55.1∧s55.1<((i64.wrap ((i64.wrap ((i64.wrap ((((i64.wrap ((qg:Int)+2)).toNat:Nat):Int)-(s38l:Int)))-1))+1)).toNat:Nat) ∧
 stM (p45.add (s55.1.toNat*1)) (.int .u32 (u32.wrap s82.1)) w83 fun w97=>
 X56 ((i64.wrap (s55.1-1)),()) w97))))
 (J52 (()) w57))
 ((i64.wrap ((i64.wrap ((((i64.wrap ((qg:Int)+2)).toNat:Nat):Int)-(s38l:Int)))-1)),()) w51)
 (fun s53 w54=>
 CallsX P N.f_bn_trim #[.slice (some p45) ((i64.wrap ((i64.wrap ((i64.wrap ((((i64.wrap ((qg:Int)+2)).toNat:Nat):Int)-(s38l:Int)))-1))+1)).toNat) ((i64.wrap ((i64.wrap ((i64.wrap ((((i64.wrap ((qg:Int)+2)).toNat:Nat):Int)-(s38l:Int)))-1))+1)).toNat)] w54 fun v99 w98=>
 vS_ v99 fun s100a s100l s100c=>
 CallsX P N.f_bn_trim #[.slice (some p39) ((i64.wrap ((qg:Int)+2)).toNat) ((i64.wrap ((qg:Int)+2)).toNat)] w98 fun v102 w101=>
 vS_ v102 fun s103a s103l s103c=>
 CallsX P N.f_bn_right #[.slice s103a s103l s103c,.int .u64 (u64.wrap (i64.wrap ((i64.wrap (32-((i64.wrap (n35-1)).tmod 32)))-1)))] w101 fun v105 w104=>
 vS_ v105 fun s106a s106l s106c=>
 K (.tuple #[.slice s100a s100l s100c,.slice s106a s106l s106c]) w104)))))
def S_r02_short (N:Nums) (P:Program) (q0:OA) (qg qk:Nat) (q1:Int) (w:World) (K:KV):Prop:=
 mkM N.t_uint64 1 8 #[.int .u64 0] (qg:Int) (qg:Int) w fun p1 w2=>
 cutM (σ:=Int×Unit) (fun J3=>
 loopM (σ:=Int×Int×Unit) (fun s6 X7 w8=>
 cond (decide (s6.2.1≥0))
 ((0:Int)≤s6.2.1∧s6.2.1<(qg:Nat) ∧
 optM q0 fun a9=>
 cU_ w8 (a9.add (s6.2.1.toNat*1)) fun n10=>
 (q1:Int)≠0 ∧
 (0:Int)≤s6.2.1∧s6.2.1<((qg:Int).toNat:Nat) ∧
 stM (p1.add (s6.2.1.toNat*1)) (.int .u64 (u64.wrap ((u64.wrap ((u64.wrap (s6.1*4294967296))+n10)).tdiv q1))) w8 fun w11=>
 (q1:Int)≠0 ∧
 X7 (((u64.wrap ((u64.wrap (s6.1*4294967296))+n10)).tmod q1),(i64.wrap (s6.2.1-1)),()) w11)
 (J3 (s6.1,()) w8))
 (0,(i64.wrap ((qg:Int)-1)),()) w2)
 (fun s4 w5=>
 CallsX P N.f_r02_low #[.slice (some p1) ((qg:Int).toNat) ((qg:Int).toNat)] w5 fun v13 w12=>
 vS_ v13 fun s14a s14l s14c=>
 K (.tuple #[.slice s14a s14l s14c,.int .u64 s4.1]) w12)
def S_r02_low (N:Nums) (P:Program) (q0:OA) (qg qk:Nat) (w:World) (K:KV):Prop:=
 cutM (σ:=Int×Unit) (fun J1=>
 loopM (σ:=Int×Unit) (fun s4 X5 w6=>
 cond (decide (s4.1>0))
 ((0:Int)≤(i64.wrap (s4.1-1))∧(i64.wrap (s4.1-1))<(qg:Nat) ∧
 optM q0 fun a7=>
 ∃ n8,w6.cell? (a7.add ((i64.wrap (s4.1-1)).toNat*1))=some (.int .u64 n8) ∧
 cond (n8==0)
 (X5 ((i64.wrap (s4.1-1)),()) w6)
 (J1 (s4.1,()) w6))
 (J1 (s4.1,()) w6))
 ((qg:Int),()) w)
 (fun s2 w3=>
 (0:Int)≤s2.1∧s2.1≤(qk:Nat) ∧
 K (.slice (slBase q0 0 qk 1) s2.1.toNat qk) w3)
def S_bn_plain (N:Nums) (P:Program) (q0:OA) (qg qk:Nat) (w:World) (K:KV):Prop:=
 cutM (σ:=Int×Unit) (fun J1=>
 cond (decide ((qg:Int)>0))
 ((0:Int)≤(0:Int)∧(0:Int)<(qg:Nat) ∧
 optM q0 fun a4=>
 cW_ w (a4.add ((0:Int).toNat*1)) fun n5=>
 J1 ((u64.wrap n5),()) w)
 (J1 (0,()) w))
 (fun s2 w3=>
 cutM (σ:=Int×Unit) (fun J6=>
 cond (decide ((qg:Int)>1))
 ((0:Int)≤(1:Int)∧(1:Int)<(qg:Nat) ∧
 optM q0 fun a9=>
 cW_ w3 (a9.add ((1:Int).toNat*1)) fun n10=>
 (0:Int)≤32 ∧
 J6 ((u64.wrap (BitVec.ofInt u64.bits s2.1 ||| BitVec.ofInt u64.bits (u64.wrap ((u64.wrap n10)*2^(min (32:Int).toNat u64.bits)))).toNat),()) w3)
 (J6 (s2.1,()) w3))
 (fun s7 w8=>
 K (.int .u64 s7.1) w8))
def S_bn_small (N:Nums) (P:Program) (q0:OA) (qg qk:Nat) (q1:Int) (w:World) (K:KV):Prop:=
 mkM N.t_uint32 1 4 #[.int .u32 0] (qg:Int) (qg:Int) w fun p1 w2=>
 cutM (σ:=Int×Unit) (fun J3=>
 loopM (σ:=Int×Int×Unit) (fun s6 X7 w8=>
 cond (decide (s6.2.1≥0))
 ((0:Int)≤32 ∧
 (0:Int)≤s6.2.1∧s6.2.1<(qg:Nat) ∧
 optM q0 fun a9=>
 cW_ w8 (a9.add (s6.2.1.toNat*1)) fun n10=>
 ((u64.wrap q1):Int)≠0 ∧
 (0:Int)≤s6.2.1∧s6.2.1<((qg:Int).toNat:Nat) ∧
 stM (p1.add (s6.2.1.toNat*1)) (.int .u32 (u32.wrap (u64.wrap ((u64.wrap (BitVec.ofInt u64.bits (u64.wrap (s6.1*2^(min (32:Int).toNat u64.bits))) ||| BitVec.ofInt u64.bits (u64.wrap n10)).toNat).tdiv (u64.wrap q1))))) w8 fun w11=>
 ((u64.wrap q1):Int)≠0 ∧
 X7 (((u64.wrap (BitVec.ofInt u64.bits (u64.wrap (s6.1*2^(min (32:Int).toNat u64.bits))) ||| BitVec.ofInt u64.bits (u64.wrap n10)).toNat).tmod (u64.wrap q1)),(i64.wrap (s6.2.1-1)),()) w11)
 (J3 (s6.1,()) w8))
 (0,(i64.wrap ((qg:Int)-1)),()) w2)
 (fun s4 w5=>
 CallsX P N.f_bn_trim #[.slice (some p1) ((qg:Int).toNat) ((qg:Int).toNat)] w5 fun v13 w12=>
 vS_ v13 fun s14a s14l s14c=>
 K (.tuple #[.slice s14a s14l s14c,.int .u32 (u32.wrap s4.1)]) w12)
end Go.Eng
