/-
 Some of the functions as propositions in the manner of a weakest precondition, printed off the structured code by a program of the session. No condition.
-/
import Derived.Test.YtgbilchfljlbeaaDoorTbl
import Derived.Test.YtgbilchfljlbeaaDoorNm
set_option linter.all false
set_option maxRecDepth 100000
namespace Go.Eng
open Go
open Go.IntKind (i64 u64 u32 u8)
def S_w12_LowerNear (N:Nums) (P:Program) (qa:Int) (qb:Int) (qe:OA) (qf qg:Nat) (w:World) (K:KV):Prop:=
 newM #[.int .i64 qa,.int .i64 qb,.slice qe qf qg] N.t_Matrix w fun p1 w2=>
 CallsX P N.f_w12_awake #[] w2 fun v4 w3=>
 vB_ v4 fun b5=>
 cond (!b5)
 (K (.bool false) w3)
 (cI_ w3 p1 fun n6=>
 cI_ w3 (p1.add 1) fun n7=>
 cS_ w3 (p1.add 2) fun s8a s8l s8c=>
 CallsX P N.f_w12_small #[.agg #[.int .i64 n6,.int .i64 n7,.slice s8a s8l s8c]] w3 fun v10 w9=>
 ∃ n11,∃ n12,∃ s13a s13l s13c,v10=(.agg #[.int .i64 n11,.int .i64 n12,.slice s13a s13l s13c]) ∧
 stM p1 (.int .i64 n11) w9 fun w14=>
 stM (p1.add 1) (.int .i64 n12) w14 fun w15=>
 stM (p1.add 2) (.slice s13a s13l s13c) w15 fun w16=>
 cI_ w16 p1 fun n17=>
 cI_ w16 p1 fun n18=>
 cI_ w16 (p1.add 1) fun n19=>
 cS_ w16 (p1.add 2) fun s20a s20l s20c=>
 CallsX P N.f_lower_Factor #[.agg #[.int .i64 n18,.int .i64 n19,.slice s20a s20l s20c]] w16 fun v22 w21=>
 ∃ n23,∃ s24a s24l s24c,∃ s25a s25l s25c,∃ n26,∃ n27,v22=(.tuple #[.agg #[.int .i64 n23,.slice s24a s24l s24c,.slice s25a s25l s25c],.int .i64 n26,.int .i64 n27]) ∧
 newM #[.int .i64 0,.slice none 0 0,.slice none 0 0] N.t_Factor w21 fun p28 w29=>
 stM p28 (.int .i64 n23) w29 fun w30=>
 stM (p28.add 1) (.slice s24a s24l s24c) w30 fun w31=>
 stM (p28.add 2) (.slice s25a s25l s25c) w31 fun w32=>
 cond (n26 != 0)
 (cond (!(n26==5))
 (cond (!(n26==220))
 (K (.bool (n26==6)) w32)
 (K (.bool true) w32))
 (K (.bool true) w32))
 (cutM (σ:=Bool×Unit) (fun J33=>
 cI_ w32 p28 fun n36=>
 cond (!(n36 != n17))
 (cI_ w32 p28 fun n37=>
 cS_ w32 (p28.add 1) fun s38a s38l s38c=>
 cS_ w32 (p28.add 2) fun s39a s39l s39c=>
 CallsX P N.f_lower_Right #[.agg #[.int .i64 n37,.slice s38a s38l s38c,.slice s39a s39l s39c]] w32 fun v41 w40=>
 vB_ v41 fun b42=>
 J33 ((!b42),()) w40)
 (J33 (true,()) w32))
 (fun s34 w35=>
 cond s34.1
 (K (.bool false) w35)
 (cutM (σ:=Unit) (fun J43=>
 loopM (σ:=Int×Unit) (fun s46 X47 w48=>
 cond (decide (s46.1<n17))
 (cS_ w48 (p28.add 2) fun s49a s49l s49c=>
 (0:Int)≤s46.1∧s46.1<(s49l:Nat) ∧
 optM s49a fun a50=>
 cF_ w48 (a50.add (s46.1.toNat*1)) fun x51=>
 cond (!(!(fgt x51 0)))
 (cS_ w48 (p28.add 2) fun s52a s52l s52c=>
 (0:Int)≤s46.1∧s46.1<(s52l:Nat) ∧
 optM s52a fun a53=>
 cF_ w48 (a53.add (s46.1.toNat*1)) fun x54=>
 CallsX P N.f_math_IsInf #[.float .f64 x54,.int .i64 1] w48 fun v56 w55=>
 vB_ v56 fun b57=>
 cond b57
 (K (.bool false) w55)
 (cutM (σ:=Unit) (fun J58=>
 loopM (σ:=Int×Unit) (fun s61 X62 w63=>
 cond (decide (s61.1≤s46.1))
 (cI_ w63 p28 fun n64=>
 cS_ w63 (p28.add 1) fun s65a s65l s65c=>
 cS_ w63 (p28.add 2) fun s66a s66l s66c=>
 cS_ w63 (p1.add 2) fun s67a s67l s67c=>
 (0:Int)≤(i64.wrap ((i64.wrap (s46.1*n17))+s61.1))∧(i64.wrap ((i64.wrap (s46.1*n17))+s61.1))<(s67l:Nat) ∧
 optM s67a fun a68=>
 ∃ x69,w63.cell? (a68.add ((i64.wrap ((i64.wrap (s46.1*n17))+s61.1)).toNat*1))=some (.float .f64 x69) ∧
 drM w63 fun w70=>
 CallsX P N.f_w12_near #[.agg #[.int .i64 n64,.slice s65a s65l s65c,.slice s66a s66l s66c],.int .i64 s46.1,.int .i64 s61.1,.float .f64 x69] w70 fun v72 w71=>
 vB_ v72 fun b73=>
 drM w71 fun w74=>
 cond (!b73)
 (K (.bool false) w74)
 (X62 ((i64.wrap (s61.1+1)),()) w74))
 (J58 (()) w63))
 (0,()) w55)
 (fun s59 w60=>
 X47 ((i64.wrap (s46.1+1)),()) w60)))
 (K (.bool false) w48))
 (J43 (()) w48))
 (0,()) w35)
 (fun s44 w45=>
 K (.bool true) w45)))))
def S_dyad_Int (N:Nums) (P:Program) (q0:Int) (w:World) (K:KV):Prop:=
 newM #[.bool false,.slice none 0 0,.int .i64 0] N.t_Dyad w fun p1 w2=>
 CallsX P N.f_bn_NewInt #[.int .i64 q0] w2 fun v4 w3=>
 ∃ p5:(OA),v4=(.pointer p5) ∧
 CallsX P N.f_dyad_made #[.pointer p5,.int .i64 0] w3 fun v7 w6=>
 ∃ b8,∃ s9a s9l s9c,∃ n10,∃ n11,v7=(.tuple #[.agg #[.bool b8,.slice s9a s9l s9c,.int .i64 n10],.int .i64 n11]) ∧
 newM #[.bool false,.slice none 0 0,.int .i64 0] N.t_Dyad w6 fun p12 w13=>
 stM p12 (.bool b8) w13 fun w14=>
 stM (p12.add 1) (.slice s9a s9l s9c) w14 fun w15=>
 stM (p12.add 2) (.int .i64 n10) w15 fun w16=>
 cB_ w16 p12 fun b17=>
 cS_ w16 (p12.add 1) fun s18a s18l s18c=>
 cI_ w16 (p12.add 2) fun n19=>
 stM p1 (.bool b17) w16 fun w20=>
 stM (p1.add 1) (.slice s18a s18l s18c) w20 fun w21=>
 stM (p1.add 2) (.int .i64 n19) w21 fun w22=>
 cB_ w22 p1 fun b23=>
 cS_ w22 (p1.add 1) fun s24a s24l s24c=>
 cI_ w22 (p1.add 2) fun n25=>
 K (.agg #[.bool b23,.slice s24a s24l s24c,.int .i64 n25]) w22
def S_math_Abs (N:Nums) (P:Program) (q0:Nat) (w:World) (K:KV):Prop:=
 CallsX P N.f_math_Float64bits #[.float .f64 q0] w fun v2 w1=>
 ∃ n3,v2=(.int .u64 n3) ∧
 CallsX P N.f_math_Float64frombits #[.int .u64 (u64.wrap (BitVec.ofInt u64.bits n3 &&& ~~~BitVec.ofInt u64.bits 9223372036854775808).toNat)] w1 fun v5 w4=>
 ∃ x6,v5=(.float .f64 x6) ∧
 K (.float .f64 x6) w4
def S_math_Signbit (N:Nums) (P:Program) (q0:Nat) (w:World) (K:KV):Prop:=
 CallsX P N.f_math_Float64bits #[.float .f64 q0] w fun v2 w1=>
 ∃ n3,v2=(.int .u64 n3) ∧
 K (.bool (decide ((i64.wrap n3)<0))) w1
def S_math_IsInf (N:Nums) (P:Program) (q0:Nat) (q1:Int) (w:World) (K:KV):Prop:=
 cutM (σ:=Nat×Unit) (fun J1=>
 cond (q1==0)
 (CallsX P N.f_math_Abs #[.float .f64 q0] w fun v5 w4=>
 ∃ x6,v5=(.float .f64 x6) ∧
 J1 (x6,()) w4)
 (cutM (σ:=Nat×Unit) (fun J7=>
 cond (decide (q1<0))
 (J7 ((fneg q0),()) w)
 (J7 (q0,()) w))
 (fun s8 w9=>
 J1 (s8.1,()) w9)))
 (fun s2 w3=>
 K (.bool (fgt s2.1 9218868437227405311)) w3)
def S_dyad_Of (N:Nums) (P:Program) (q0:Nat) (w:World) (K:KV):Prop:=
 newM #[.bool false,.slice none 0 0,.int .i64 0] N.t_Dyad w fun p1 w2=>
 CallsX P N.f_bits_Split #[.float .f64 q0] w2 fun v4 w3=>
 ∃ b5,∃ n6,∃ n7,∃ b8,v4=(.tuple #[.agg #[.bool b5,.int .u64 n6,.int .i64 n7],.bool b8]) ∧
 newM #[.bool false,.int .u64 0,.int .i64 0] N.t_Parts w3 fun p9 w10=>
 stM p9 (.bool b5) w10 fun w11=>
 stM (p9.add 1) (.int .u64 n6) w11 fun w12=>
 stM (p9.add 2) (.int .i64 n7) w12 fun w13=>
 cond (!b8)
 (stM p1 (.bool false) w13 fun w14=>
 stM (p1.add 1) (.slice none 0 0) w14 fun w15=>
 stM (p1.add 2) (.int .i64 0) w15 fun w16=>
 cB_ w16 p1 fun b17=>
 cS_ w16 (p1.add 1) fun s18a s18l s18c=>
 cI_ w16 (p1.add 2) fun n19=>
 K (.tuple #[.agg #[.bool b17,.slice s18a s18l s18c,.int .i64 n19],.int .i64 5]) w16)
 (cU_ w13 (p9.add 1) fun n20=>
 cond (n20==0)
 (stM p1 (.bool false) w13 fun w21=>
 stM (p1.add 1) (.slice none 0 0) w21 fun w22=>
 stM (p1.add 2) (.int .i64 0) w22 fun w23=>
 cB_ w23 p1 fun b24=>
 cS_ w23 (p1.add 1) fun s25a s25l s25c=>
 cI_ w23 (p1.add 2) fun n26=>
 K (.tuple #[.agg #[.bool b24,.slice s25a s25l s25c,.int .i64 n26],.int .i64 0]) w23)
 (cB_ w13 p9 fun b27=>
 cU_ w13 (p9.add 1) fun n28=>
 newM #[.int .u64 n28] N.t_uint64 w13 fun p29 w30=>
 cI_ w30 (p9.add 2) fun n31=>
 stM p1 (.bool b27) w30 fun w32=>
 stM (p1.add 1) (.slice (some p29) 1 1) w32 fun w33=>
 stM (p1.add 2) (.int .i64 n31) w33 fun w34=>
 cB_ w34 p1 fun b35=>
 cS_ w34 (p1.add 1) fun s36a s36l s36c=>
 cI_ w34 (p1.add 2) fun n37=>
 K (.tuple #[.agg #[.bool b35,.slice s36a s36l s36c,.int .i64 n37],.int .i64 0]) w34))
def S_dyad_Add (N:Nums) (P:Program) (qa:Bool) (qb:OA) (qc qd:Nat) (qe:Int) (qk:Bool) (ql:OA) (qi qj:Nat) (qo:Int) (w:World) (K:KV):Prop:=
 newM #[.bool qa,.slice qb qc qd,.int .i64 qe] N.t_Dyad w fun p1 w2=>
 newM #[.bool qk,.slice ql qi qj,.int .i64 qo] N.t_Dyad w2 fun p3 w4=>
 newM #[.bool false,.slice none 0 0,.int .i64 0] N.t_Dyad w4 fun p5 w6=>
 cB_ w6 p1 fun b7=>
 cS_ w6 (p1.add 1) fun s8a s8l s8c=>
 cI_ w6 (p1.add 2) fun n9=>
 cB_ w6 p3 fun b10=>
 cS_ w6 (p3.add 1) fun s11a s11l s11c=>
 cI_ w6 (p3.add 2) fun n12=>
 CallsX P N.f_dyad_both #[.agg #[.bool b7,.slice s8a s8l s8c,.int .i64 n9],.agg #[.bool b10,.slice s11a s11l s11c,.int .i64 n12]] w6 fun v14 w13=>
 vB_ v14 fun b15=>
 cond (!b15)
 (stM p5 (.bool false) w13 fun w16=>
 stM (p5.add 1) (.slice none 0 0) w16 fun w17=>
 stM (p5.add 2) (.int .i64 0) w17 fun w18=>
 cB_ w18 p5 fun b19=>
 cS_ w18 (p5.add 1) fun s20a s20l s20c=>
 cI_ w18 (p5.add 2) fun n21=>
 K (.tuple #[.agg #[.bool b19,.slice s20a s20l s20c,.int .i64 n21],.int .i64 2]) w18)
 (cB_ w13 p1 fun b22=>
 cS_ w13 (p1.add 1) fun s23a s23l s23c=>
 cI_ w13 (p1.add 2) fun n24=>
 cB_ w13 p3 fun b25=>
 cS_ w13 (p3.add 1) fun s26a s26l s26c=>
 cI_ w13 (p3.add 2) fun n27=>
 drM w13 fun w28=>
 CallsX P N.f_dyad_whole #[.agg #[.bool b22,.slice s23a s23l s23c,.int .i64 n24]] w28 fun v30 w29=>
 ∃ p31:(OA),v30=(.pointer p31) ∧
 w29.cell? p3=some (.bool b25) ∧
 w29.cell? (p3.add 1)=some (.slice s26a s26l s26c) ∧
 w29.cell? (p3.add 2)=some (.int .i64 n27) ∧
 drM w29 fun w32=>
 CallsX P N.f_dyad_whole #[.agg #[.bool b25,.slice s26a s26l s26c,.int .i64 n27]] w32 fun v34 w33=>
 ∃ p35:(OA),v34=(.pointer p35) ∧
 drM w33 fun w36=>
 cutM (σ:=Bool×Unit) (fun J37=>
 CallsX P N.f_bI_Sign #[.pointer p31] w36 fun v41 w40=>
 ∃ n42,v41=(.int .i64 n42) ∧
 cond (!(n42==0))
 (CallsX P N.f_bI_Sign #[.pointer p35] w40 fun v44 w43=>
 ∃ n45,v44=(.int .i64 n45) ∧
 J37 ((n45==0),()) w43)
 (J37 (true,()) w40))
 (fun s38 w39=>
 cond s38.1
 (cI_ w39 (p1.add 2) fun n46=>
 cI_ w39 (p3.add 2) fun n47=>
 drM w39 fun w48=>
 CallsX P N.f_bI_Add #[.pointer p31,.pointer p31,.pointer p35] w48 fun v50 w49=>
 ∃ p51:(OA),v50=(.pointer p51) ∧
 w49.cell? (p3.add 2)=some (.int .i64 n47) ∧
 w49.cell? (p1.add 2)=some (.int .i64 n46) ∧
 drM w49 fun w52=>
 CallsX P N.f_dyad_made #[.pointer p51,.int .i64 (i64.wrap (n46+n47))] w52 fun v54 w53=>
 ∃ b55,∃ s56a s56l s56c,∃ n57,∃ n58,v54=(.tuple #[.agg #[.bool b55,.slice s56a s56l s56c,.int .i64 n57],.int .i64 n58]) ∧
 drM w53 fun w59=>
 stM p5 (.bool b55) w59 fun w60=>
 stM (p5.add 1) (.slice s56a s56l s56c) w60 fun w61=>
 stM (p5.add 2) (.int .i64 n57) w61 fun w62=>
 drM w62 fun w63=>
 cB_ w63 p5 fun b64=>
 cS_ w63 (p5.add 1) fun s65a s65l s65c=>
 cI_ w63 (p5.add 2) fun n66=>
 K (.tuple #[.agg #[.bool b64,.slice s65a s65l s65c,.int .i64 n66],.int .i64 n58]) w63)
 (cI_ w39 (p1.add 2) fun n67=>
 cI_ w39 (p3.add 2) fun n68=>
 cutM (σ:=(OA)×(OA)×Unit) (fun J69=>
 cond (decide (n67<n68))
 (cB_ w39 p3 fun b72=>
 cS_ w39 (p3.add 1) fun s73a s73l s73c=>
 cI_ w39 (p3.add 2) fun n74=>
 cB_ w39 p1 fun b75=>
 cS_ w39 (p1.add 1) fun s76a s76l s76c=>
 cI_ w39 (p1.add 2) fun n77=>
 stM p1 (.bool b72) w39 fun w78=>
 stM (p1.add 1) (.slice s73a s73l s73c) w78 fun w79=>
 stM (p1.add 2) (.int .i64 n74) w79 fun w80=>
 stM p3 (.bool b75) w80 fun w81=>
 stM (p3.add 1) (.slice s76a s76l s76c) w81 fun w82=>
 stM (p3.add 2) (.int .i64 n77) w82 fun w83=>
 J69 (p35,p31,()) w83)
 (J69 (p31,p35,()) w39))
 (fun s70 w71=>
 cI_ w71 (p1.add 2) fun n84=>
 cI_ w71 (p3.add 2) fun n85=>
 cond (decide ((i64.wrap (n84-n85))>16385))
 (stM p5 (.bool false) w71 fun w86=>
 stM (p5.add 1) (.slice none 0 0) w86 fun w87=>
 stM (p5.add 2) (.int .i64 0) w87 fun w88=>
 cB_ w88 p5 fun b89=>
 cS_ w88 (p5.add 1) fun s90a s90l s90c=>
 cI_ w88 (p5.add 2) fun n91=>
 K (.tuple #[.agg #[.bool b89,.slice s90a s90l s90c,.int .i64 n91],.int .i64 3]) w88)
 (cI_ w71 (p3.add 2) fun n92=>
 drM w71 fun w93=>
 CallsX P N.f_bI_Lsh #[.pointer s70.1,.pointer s70.1,.int .u64 (u64.wrap (i64.wrap (n84-n85)))] w93 fun v95 w94=>
 ∃ p96:(OA),v95=(.pointer p96) ∧
 w94.cell? (p3.add 2)=some (.int .i64 n92) ∧
 drM w94 fun w97=>
 CallsX P N.f_bI_Add #[.pointer s70.1,.pointer p96,.pointer s70.2.1] w97 fun v99 w98=>
 ∃ p100:(OA),v99=(.pointer p100) ∧
 w98.cell? (p3.add 2)=some (.int .i64 n92) ∧
 drM w98 fun w101=>
 CallsX P N.f_dyad_made #[.pointer p100,.int .i64 n92] w101 fun v103 w102=>
 ∃ b104,∃ s105a s105l s105c,∃ n106,∃ n107,v103=(.tuple #[.agg #[.bool b104,.slice s105a s105l s105c,.int .i64 n106],.int .i64 n107]) ∧
 drM w102 fun w108=>
 stM p5 (.bool b104) w108 fun w109=>
 stM (p5.add 1) (.slice s105a s105l s105c) w109 fun w110=>
 stM (p5.add 2) (.int .i64 n106) w110 fun w111=>
 drM w111 fun w112=>
 cB_ w112 p5 fun b113=>
 cS_ w112 (p5.add 1) fun s114a s114l s114c=>
 cI_ w112 (p5.add 2) fun n115=>
 K (.tuple #[.agg #[.bool b113,.slice s114a s114l s114c,.int .i64 n115],.int .i64 n107]) w112)))))
def S_dyad_Scale (N:Nums) (P:Program) (qa:Bool) (qb:OA) (qc qd:Nat) (qe:Int) (q1:Int) (w:World) (K:KV):Prop:=
 newM #[.bool qa,.slice qb qc qd,.int .i64 qe] N.t_Dyad w fun p1 w2=>
 newM #[.bool false,.slice none 0 0,.int .i64 0] N.t_Dyad w2 fun p3 w4=>
 cB_ w4 p1 fun b5=>
 cS_ w4 (p1.add 1) fun s6a s6l s6c=>
 cI_ w4 (p1.add 2) fun n7=>
 CallsX P N.f_dyad_Right #[.agg #[.bool b5,.slice s6a s6l s6c,.int .i64 n7]] w4 fun v9 w8=>
 vB_ v9 fun b10=>
 cond (!b10)
 (stM p3 (.bool false) w8 fun w11=>
 stM (p3.add 1) (.slice none 0 0) w11 fun w12=>
 stM (p3.add 2) (.int .i64 0) w12 fun w13=>
 cB_ w13 p3 fun b14=>
 cS_ w13 (p3.add 1) fun s15a s15l s15c=>
 cI_ w13 (p3.add 2) fun n16=>
 K (.tuple #[.agg #[.bool b14,.slice s15a s15l s15c,.int .i64 n16],.int .i64 2]) w13)
 (cS_ w8 (p1.add 1) fun s17a s17l s17c=>
 cond ((s17l:Int)==0)
 (stM p3 (.bool false) w8 fun w18=>
 stM (p3.add 1) (.slice none 0 0) w18 fun w19=>
 stM (p3.add 2) (.int .i64 0) w19 fun w20=>
 cB_ w20 p3 fun b21=>
 cS_ w20 (p3.add 1) fun s22a s22l s22c=>
 cI_ w20 (p3.add 2) fun n23=>
 K (.tuple #[.agg #[.bool b21,.slice s22a s22l s22c,.int .i64 n23],.int .i64 0]) w20)
 (cutM (σ:=Bool×Unit) (fun J24=>
 cond (!(decide (q1>131072)))
 (J24 ((decide (q1<(-131072))),()) w8)
 (J24 (true,()) w8))
 (fun s25 w26=>
 cond s25.1
 (stM p3 (.bool false) w26 fun w27=>
 stM (p3.add 1) (.slice none 0 0) w27 fun w28=>
 stM (p3.add 2) (.int .i64 0) w28 fun w29=>
 cB_ w29 p3 fun b30=>
 cS_ w29 (p3.add 1) fun s31a s31l s31c=>
 cI_ w29 (p3.add 2) fun n32=>
 K (.tuple #[.agg #[.bool b30,.slice s31a s31l s31c,.int .i64 n32],.int .i64 3]) w29)
 (cB_ w26 p1 fun b33=>
 cS_ w26 (p1.add 1) fun s34a s34l s34c=>
 cI_ w26 (p1.add 2) fun n35=>
 cI_ w26 (p1.add 2) fun n36=>
 drM w26 fun w37=>
 CallsX P N.f_dyad_whole #[.agg #[.bool b33,.slice s34a s34l s34c,.int .i64 n35]] w37 fun v39 w38=>
 ∃ p40:(OA),v39=(.pointer p40) ∧
 w38.cell? (p1.add 2)=some (.int .i64 n36) ∧
 drM w38 fun w41=>
 CallsX P N.f_dyad_made #[.pointer p40,.int .i64 (i64.wrap (n36+q1))] w41 fun v43 w42=>
 ∃ b44,∃ s45a s45l s45c,∃ n46,∃ n47,v43=(.tuple #[.agg #[.bool b44,.slice s45a s45l s45c,.int .i64 n46],.int .i64 n47]) ∧
 drM w42 fun w48=>
 stM p3 (.bool b44) w48 fun w49=>
 stM (p3.add 1) (.slice s45a s45l s45c) w49 fun w50=>
 stM (p3.add 2) (.int .i64 n46) w50 fun w51=>
 drM w51 fun w52=>
 cB_ w52 p3 fun b53=>
 cS_ w52 (p3.add 1) fun s54a s54l s54c=>
 cI_ w52 (p3.add 2) fun n55=>
 K (.tuple #[.agg #[.bool b53,.slice s54a s54l s54c,.int .i64 n55],.int .i64 n47]) w52))))
def S_dyad_Cmp (N:Nums) (P:Program) (qa:Bool) (qb:OA) (qc qd:Nat) (qe:Int) (qk:Bool) (ql:OA) (qi qj:Nat) (qo:Int) (w:World) (K:KV):Prop:=
 newM #[.bool qa,.slice qb qc qd,.int .i64 qe] N.t_Dyad w fun p1 w2=>
 newM #[.bool qk,.slice ql qi qj,.int .i64 qo] N.t_Dyad w2 fun p3 w4=>
 cB_ w4 p1 fun b5=>
 cS_ w4 (p1.add 1) fun s6a s6l s6c=>
 cI_ w4 (p1.add 2) fun n7=>
 CallsX P N.f_dyad_Sign #[.agg #[.bool b5,.slice s6a s6l s6c,.int .i64 n7]] w4 fun v9 w8=>
 ∃ n10,∃ n11,v9=(.tuple #[.int .i64 n10,.int .i64 n11]) ∧
 cB_ w8 p3 fun b12=>
 cS_ w8 (p3.add 1) fun s13a s13l s13c=>
 cI_ w8 (p3.add 2) fun n14=>
 CallsX P N.f_dyad_Sign #[.agg #[.bool b12,.slice s13a s13l s13c,.int .i64 n14]] w8 fun v16 w15=>
 ∃ n17,∃ n18,v16=(.tuple #[.int .i64 n17,.int .i64 n18]) ∧
 cutM (σ:=Bool×Unit) (fun J19=>
 cond (!(n11 != 0))
 (J19 ((n18 != 0),()) w15)
 (J19 (true,()) w15))
 (fun s20 w21=>
 cond s20.1
 (K (.tuple #[.int .i64 0,.int .i64 2]) w21)
 (cond (n10 != n17)
 (cond (decide (n10<n17))
 (K (.tuple #[.int .i64 (-1),.int .i64 0]) w21)
 (K (.tuple #[.int .i64 1,.int .i64 0]) w21))
 (cond (n10==0)
 (K (.tuple #[.int .i64 0,.int .i64 0]) w21)
 (cB_ w21 p1 fun b22=>
 cS_ w21 (p1.add 1) fun s23a s23l s23c=>
 cI_ w21 (p1.add 2) fun n24=>
 cB_ w21 p3 fun b25=>
 cS_ w21 (p3.add 1) fun s26a s26l s26c=>
 cI_ w21 (p3.add 2) fun n27=>
 drM w21 fun w28=>
 CallsX P N.f_dyad_top #[.agg #[.bool b22,.slice s23a s23l s23c,.int .i64 n24]] w28 fun v30 w29=>
 ∃ n31,v30=(.int .i64 n31) ∧
 w29.cell? p3=some (.bool b25) ∧
 w29.cell? (p3.add 1)=some (.slice s26a s26l s26c) ∧
 w29.cell? (p3.add 2)=some (.int .i64 n27) ∧
 drM w29 fun w32=>
 CallsX P N.f_dyad_top #[.agg #[.bool b25,.slice s26a s26l s26c,.int .i64 n27]] w32 fun v34 w33=>
 ∃ n35,v34=(.int .i64 n35) ∧
 drM w33 fun w36=>
 cond (n31 != n35)
 (cB_ w36 p1 fun b37=>
 cS_ w36 (p1.add 1) fun s38a s38l s38c=>
 cI_ w36 (p1.add 2) fun n39=>
 cB_ w36 p3 fun b40=>
 cS_ w36 (p3.add 1) fun s41a s41l s41c=>
 cI_ w36 (p3.add 2) fun n42=>
 drM w36 fun w43=>
 CallsX P N.f_dyad_top #[.agg #[.bool b37,.slice s38a s38l s38c,.int .i64 n39]] w43 fun v45 w44=>
 ∃ n46,v45=(.int .i64 n46) ∧
 w44.cell? p3=some (.bool b40) ∧
 w44.cell? (p3.add 1)=some (.slice s41a s41l s41c) ∧
 w44.cell? (p3.add 2)=some (.int .i64 n42) ∧
 drM w44 fun w47=>
 CallsX P N.f_dyad_top #[.agg #[.bool b40,.slice s41a s41l s41c,.int .i64 n42]] w47 fun v49 w48=>
 ∃ n50,v49=(.int .i64 n50) ∧
 drM w48 fun w51=>
 cond (decide (n46<n50))
 (K (.tuple #[.int .i64 (i64.wrap (0-n10)),.int .i64 0]) w51)
 (K (.tuple #[.int .i64 n10,.int .i64 0]) w51))
 (cB_ w36 p1 fun b52=>
 cS_ w36 (p1.add 1) fun s53a s53l s53c=>
 cI_ w36 (p1.add 2) fun n54=>
 cB_ w36 p3 fun b55=>
 cS_ w36 (p3.add 1) fun s56a s56l s56c=>
 cI_ w36 (p3.add 2) fun n57=>
 drM w36 fun w58=>
 CallsX P N.f_dyad_whole #[.agg #[.bool b52,.slice s53a s53l s53c,.int .i64 n54]] w58 fun v60 w59=>
 ∃ p61:(OA),v60=(.pointer p61) ∧
 w59.cell? p3=some (.bool b55) ∧
 w59.cell? (p3.add 1)=some (.slice s56a s56l s56c) ∧
 w59.cell? (p3.add 2)=some (.int .i64 n57) ∧
 drM w59 fun w62=>
 CallsX P N.f_dyad_whole #[.agg #[.bool b55,.slice s56a s56l s56c,.int .i64 n57]] w62 fun v64 w63=>
 ∃ p65:(OA),v64=(.pointer p65) ∧
 drM w63 fun w66=>
 cI_ w66 (p1.add 2) fun n67=>
 cI_ w66 (p3.add 2) fun n68=>
 cutM (σ:=Unit) (fun J69=>
 cond (decide (n67>n68))
 (cI_ w66 (p1.add 2) fun n72=>
 cI_ w66 (p3.add 2) fun n73=>
 CallsX P N.f_bI_Lsh #[.pointer p61,.pointer p61,.int .u64 (u64.wrap (i64.wrap (n72-n73)))] w66 fun v75 w74=>
 ∃ p76:(OA),v75=(.pointer p76) ∧
 J69 (()) w74)
 (cI_ w66 (p3.add 2) fun n77=>
 cI_ w66 (p1.add 2) fun n78=>
 CallsX P N.f_bI_Lsh #[.pointer p65,.pointer p65,.int .u64 (u64.wrap (i64.wrap (n77-n78)))] w66 fun v80 w79=>
 ∃ p81:(OA),v80=(.pointer p81) ∧
 J69 (()) w79))
 (fun s70 w71=>
 CallsX P N.f_bI_Cmp #[.pointer p61,.pointer p65] w71 fun v83 w82=>
 ∃ n84,v83=(.int .i64 n84) ∧
 K (.tuple #[.int .i64 n84,.int .i64 0]) w82))))))
def S_w12_awake (N:Nums) (P:Program)  (w:World) (K:KV):Prop:=
 newM #[.float .f64 4616189618054758400,.float .f64 4611686018427387904,.float .f64 4611686018427387904,.float .f64 4617315517961601024] N.t_float64 w fun p1 w2=>
 newM #[.int .i64 0,.int .i64 0,.slice none 0 0] N.t_Matrix w2 fun p3 w4=>
 stM p3 (.int .i64 2) w4 fun w5=>
 stM (p3.add 1) (.int .i64 2) w5 fun w6=>
 stM (p3.add 2) (.slice (some p1) 4 4) w6 fun w7=>
 cI_ w7 p3 fun n8=>
 cI_ w7 (p3.add 1) fun n9=>
 cS_ w7 (p3.add 2) fun s10a s10l s10c=>
 CallsX P N.f_lower_Factor #[.agg #[.int .i64 n8,.int .i64 n9,.slice s10a s10l s10c]] w7 fun v12 w11=>
 ∃ n13,∃ s14a s14l s14c,∃ s15a s15l s15c,∃ n16,∃ n17,v12=(.tuple #[.agg #[.int .i64 n13,.slice s14a s14l s14c,.slice s15a s15l s15c],.int .i64 n16,.int .i64 n17]) ∧
 newM #[.int .i64 0,.slice none 0 0,.slice none 0 0] N.t_Factor w11 fun p18 w19=>
 stM p18 (.int .i64 n13) w19 fun w20=>
 stM (p18.add 1) (.slice s14a s14l s14c) w20 fun w21=>
 stM (p18.add 2) (.slice s15a s15l s15c) w21 fun w22=>
 cI_ w22 p18 fun n23=>
 cS_ w22 (p18.add 1) fun s24a s24l s24c=>
 cS_ w22 (p18.add 2) fun s25a s25l s25c=>
 CallsX P N.f_lower_Times #[.agg #[.int .i64 n23,.slice s24a s24l s24c,.slice s25a s25l s25c]] w22 fun v27 w26=>
 ∃ n28,∃ n29,∃ s30a s30l s30c,∃ n31,v27=(.tuple #[.agg #[.int .i64 n28,.int .i64 n29,.slice s30a s30l s30c],.int .i64 n31]) ∧
 newM #[.int .i64 0,.int .i64 0,.slice none 0 0] N.t_Matrix w26 fun p32 w33=>
 stM p32 (.int .i64 n28) w33 fun w34=>
 stM (p32.add 1) (.int .i64 n29) w34 fun w35=>
 stM (p32.add 2) (.slice s30a s30l s30c) w35 fun w36=>
 newM #[.float .f64 4616189618054758400,.float .f64 4611686018427387904,.float .f64 4611686018427387904,.float .f64 4607182418800017408] N.t_float64 w36 fun p37 w38=>
 CallsX P N.f_lower_Factor #[.agg #[.int .i64 2,.int .i64 2,.slice (some p37) 4 4]] w38 fun v40 w39=>
 ∃ n41,∃ s42a s42l s42c,∃ s43a s43l s43c,∃ n44,∃ n45,v40=(.tuple #[.agg #[.int .i64 n41,.slice s42a s42l s42c,.slice s43a s43l s43c],.int .i64 n44,.int .i64 n45]) ∧
 newM #[.int .i64 0,.slice none 0 0,.slice none 0 0] N.t_Factor w39 fun p46 w47=>
 stM p46 (.int .i64 n41) w47 fun w48=>
 stM (p46.add 1) (.slice s42a s42l s42c) w48 fun w49=>
 stM (p46.add 2) (.slice s43a s43l s43c) w49 fun w50=>
 cond (n16==0)
 (cond (n17==0)
 (cI_ w50 p18 fun n51=>
 cS_ w50 (p18.add 1) fun s52a s52l s52c=>
 cS_ w50 (p18.add 2) fun s53a s53l s53c=>
 newM #[.float .f64 4602678819172646912] N.t_float64 w50 fun p54 w55=>
 newM #[.float .f64 4616189618054758400,.float .f64 4616189618054758400] N.t_float64 w55 fun p56 w57=>
 CallsX P N.f_k_SameFactor #[.agg #[.int .i64 n51,.slice s52a s52l s52c,.slice s53a s53l s53c],.agg #[.int .i64 2,.slice (some p54) 1 1,.slice (some p56) 2 2]] w57 fun v59 w58=>
 vB_ v59 fun b60=>
 cond b60
 (cond (n31==0)
 (cI_ w58 p32 fun n61=>
 cI_ w58 (p32.add 1) fun n62=>
 cS_ w58 (p32.add 2) fun s63a s63l s63c=>
 cI_ w58 p3 fun n64=>
 cI_ w58 (p3.add 1) fun n65=>
 cS_ w58 (p3.add 2) fun s66a s66l s66c=>
 CallsX P N.f_k_SameMatrix #[.agg #[.int .i64 n61,.int .i64 n62,.slice s63a s63l s63c],.agg #[.int .i64 n64,.int .i64 n65,.slice s66a s66l s66c]] w58 fun v68 w67=>
 vB_ v68 fun b69=>
 cond b69
 (cond (n44==220)
 (K (.bool (n45==1)) w67)
 (K (.bool false) w67))
 (K (.bool false) w67))
 (K (.bool false) w58))
 (K (.bool false) w58))
 (K (.bool false) w50))
 (K (.bool false) w50)
def S_w12_small (N:Nums) (P:Program) (qa:Int) (qb:Int) (qe:OA) (qf qg:Nat) (w:World) (K:KV):Prop:=
 newM #[.int .i64 qa,.int .i64 qb,.slice qe qf qg] N.t_Matrix w fun p1 w2=>
 newM #[.int .i64 0,.int .i64 0,.slice none 0 0] N.t_Matrix w2 fun p3 w4=>
 cI_ w4 p1 fun n5=>
 cI_ w4 (p1.add 1) fun n6=>
 cS_ w4 (p1.add 2) fun s7a s7l s7c=>
 CallsX P N.f_w12_mirrored #[.agg #[.int .i64 n5,.int .i64 n6,.slice s7a s7l s7c]] w4 fun v9 w8=>
 ∃ n10,∃ n11,∃ s12a s12l s12c,v9=(.agg #[.int .i64 n10,.int .i64 n11,.slice s12a s12l s12c]) ∧
 stM p1 (.int .i64 n10) w8 fun w13=>
 stM (p1.add 1) (.int .i64 n11) w13 fun w14=>
 stM (p1.add 2) (.slice s12a s12l s12c) w14 fun w15=>
 cI_ w15 p1 fun n16=>
 mkM N.t_float64 1 8 #[.float .f64 0] (i64.wrap ((if 8<n16 then 8 else n16)*(if 8<n16 then 8 else n16))) (i64.wrap ((if 8<n16 then 8 else n16)*(if 8<n16 then 8 else n16))) w15 fun p17 w18=>
 newM #[.int .i64 0,.int .i64 0,.slice none 0 0] N.t_Matrix w18 fun p19 w20=>
 stM p19 (.int .i64 (if 8<n16 then 8 else n16)) w20 fun w21=>
 stM (p19.add 1) (.int .i64 (if 8<n16 then 8 else n16)) w21 fun w22=>
 stM (p19.add 2) (.slice (some p17) ((i64.wrap ((if 8<n16 then 8 else n16)*(if 8<n16 then 8 else n16))).toNat) ((i64.wrap ((if 8<n16 then 8 else n16)*(if 8<n16 then 8 else n16))).toNat)) w22 fun w23=>
 cutM (σ:=Unit) (fun J24=>
 loopM (σ:=Int×Unit) (fun s27 X28 w29=>
 cond (decide (s27.1<(if 8<n16 then 8 else n16)))
 (cS_ w29 (p19.add 2) fun s30a s30l s30c=>
 (0:Int)≤(i64.wrap (s27.1*(if 8<n16 then 8 else n16)))∧(i64.wrap (s27.1*(if 8<n16 then 8 else n16)))≤(s30l:Nat) ∧
 cS_ w29 (p1.add 2) fun s31a s31l s31c=>
 cI_ w29 (p1.add 1) fun n32=>
 cI_ w29 (p1.add 1) fun n33=>
 (0:Int)≤(i64.wrap ((i64.wrap (s27.1*n33))+(if 8<n16 then 8 else n16)))∧(i64.wrap ((i64.wrap (s27.1*n33))+(if 8<n16 then 8 else n16)))≤(s31c:Nat)∧(0:Int)≤(i64.wrap (s27.1*n32))∧(i64.wrap (s27.1*n32))≤(i64.wrap ((i64.wrap (s27.1*n33))+(if 8<n16 then 8 else n16))) ∧
 drM w29 fun w34=>
 copM 1 (slBase s30a ((i64.wrap (s27.1*(if 8<n16 then 8 else n16))).toNat) s30c 1) (s30l-(i64.wrap (s27.1*(if 8<n16 then 8 else n16))).toNat) (slBase s31a ((i64.wrap (s27.1*n32)).toNat) s31c 1) ((i64.wrap ((i64.wrap (s27.1*n33))+(if 8<n16 then 8 else n16))).toNat-(i64.wrap (s27.1*n32)).toNat) w34 fun w35=>
 drM w35 fun w36=>
 X28 ((i64.wrap (s27.1+1)),()) w36)
 (J24 (()) w29))
 (0,()) w23)
 (fun s25 w26=>
 cI_ w26 p19 fun n37=>
 cI_ w26 (p19.add 1) fun n38=>
 cS_ w26 (p19.add 2) fun s39a s39l s39c=>
 stM p3 (.int .i64 n37) w26 fun w40=>
 stM (p3.add 1) (.int .i64 n38) w40 fun w41=>
 stM (p3.add 2) (.slice s39a s39l s39c) w41 fun w42=>
 cI_ w42 p3 fun n43=>
 cI_ w42 (p3.add 1) fun n44=>
 cS_ w42 (p3.add 2) fun s45a s45l s45c=>
 K (.agg #[.int .i64 n43,.int .i64 n44,.slice s45a s45l s45c]) w42)
def S_lower_Factor (N:Nums) (P:Program) (qa:Int) (qb:Int) (qe:OA) (qf qg:Nat) (w:World) (K:KV):Prop:=
 newM #[.int .i64 qa,.int .i64 qb,.slice qe qf qg] N.t_Matrix w fun p1 w2=>
 newM #[.int .i64 0,.slice none 0 0,.slice none 0 0] N.t_Factor w2 fun p3 w4=>
 cI_ w4 p1 fun n5=>
 cI_ w4 (p1.add 1) fun n6=>
 cS_ w4 (p1.add 2) fun s7a s7l s7c=>
 CallsX P N.f_matrix_Symmetric #[.agg #[.int .i64 n5,.int .i64 n6,.slice s7a s7l s7c]] w4 fun v9 w8=>
 vB_ v9 fun b10=>
 cond (!b10)
 (cI_ w8 p3 fun n11=>
 cS_ w8 (p3.add 1) fun s12a s12l s12c=>
 cS_ w8 (p3.add 2) fun s13a s13l s13c=>
 stM p3 (.int .i64 n11) w8 fun w14=>
 stM (p3.add 1) (.slice s12a s12l s12c) w14 fun w15=>
 stM (p3.add 2) (.slice s13a s13l s13c) w15 fun w16=>
 cI_ w16 p3 fun n17=>
 cS_ w16 (p3.add 1) fun s18a s18l s18c=>
 cS_ w16 (p3.add 2) fun s19a s19l s19c=>
 K (.tuple #[.agg #[.int .i64 n17,.slice s18a s18l s18c,.slice s19a s19l s19c],.int .i64 4,.int .i64 0]) w16)
 (cS_ w8 (p1.add 2) fun s20a s20l s20c=>
 cutM (σ:=Int×Int×Unit) (fun J21=>
 loopM (σ:=Int×Int×Int×Unit) (fun s24 X25 w26=>
 cond (decide (s24.2.2.1<(s20l:Int)))
 ((0:Int)≤s24.2.2.1∧s24.2.2.1<(s20l:Nat) ∧
 optM s20a fun a27=>
 cF_ w26 (a27.add (s24.2.2.1.toNat*1)) fun x28=>
 CallsX P N.f_lower_finite #[.float .f64 x28] w26 fun v30 w29=>
 vB_ v30 fun b31=>
 cond (!b31)
 (cI_ w29 p3 fun n32=>
 cS_ w29 (p3.add 1) fun s33a s33l s33c=>
 cS_ w29 (p3.add 2) fun s34a s34l s34c=>
 stM p3 (.int .i64 n32) w29 fun w35=>
 stM (p3.add 1) (.slice s33a s33l s33c) w35 fun w36=>
 stM (p3.add 2) (.slice s34a s34l s34c) w36 fun w37=>
 cI_ w37 p3 fun n38=>
 cS_ w37 (p3.add 1) fun s39a s39l s39c=>
 cS_ w37 (p3.add 2) fun s40a s40l s40c=>
 K (.tuple #[.agg #[.int .i64 n38,.slice s39a s39l s39c,.slice s40a s40l s40c],.int .i64 5,.int .i64 0]) w37)
 (X25 (s24.1,s24.2.1,(i64.wrap (s24.2.2.1+1)),()) w29))
 (J21 (s24.1,s24.2.1,()) w26))
 (0,0,0,()) w8)
 (fun s22 w23=>
 cI_ w23 p1 fun n41=>
 cutM (σ:=(OA×Nat×Nat)×(OA×Nat×Nat)×Unit) (fun J42=>
 (2:Int)≠0 ∧
 (drM w23 fun w45=>
 mkM N.t_float64 1 8 #[.float .f64 0] (i64.wrap ((i64.wrap (n41*(i64.wrap (n41-1)))).tdiv 2)) (i64.wrap ((i64.wrap (n41*(i64.wrap (n41-1)))).tdiv 2)) w45 fun p46 w47=>
 drM w47 fun w48=>
 mkM N.t_float64 1 8 #[.float .f64 0] n41 n41 w48 fun p49 w50=>
 drM w50 fun w51=>
 J42 (((some p46),(i64.wrap ((i64.wrap (n41*(i64.wrap (n41-1)))).tdiv 2)).toNat,(i64.wrap ((i64.wrap (n41*(i64.wrap (n41-1)))).tdiv 2)).toNat),((some p49),n41.toNat,n41.toNat),()) w51) ∧
 (drM w23 fun w52=>
 mkM N.t_float64 1 8 #[.float .f64 0] n41 n41 w52 fun p53 w54=>
 drM w54 fun w55=>
 mkM N.t_float64 1 8 #[.float .f64 0] (i64.wrap ((i64.wrap (n41*(i64.wrap (n41-1)))).tdiv 2)) (i64.wrap ((i64.wrap (n41*(i64.wrap (n41-1)))).tdiv 2)) w55 fun p56 w57=>
 drM w57 fun w58=>
 J42 (((some p56),(i64.wrap ((i64.wrap (n41*(i64.wrap (n41-1)))).tdiv 2)).toNat,(i64.wrap ((i64.wrap (n41*(i64.wrap (n41-1)))).tdiv 2)).toNat),((some p53),n41.toNat,n41.toNat),()) w58))
 (fun s43 w44=>
 mkM N.t_float64 1 8 #[.float .f64 0] n41 n41 w44 fun p59 w60=>
 cutM (σ:=Int×Int×Unit) (fun J61=>
 loopM (σ:=Int×Int×Int×Unit) (fun s64 X65 w66=>
 cond (decide (s64.2.2.1<n41))
 (CallsX P N.f_lower_row #[.slice s43.1.1 s43.1.2.1 s43.1.2.2,.int .i64 s64.2.2.1] w66 fun v68 w67=>
 vS_ v68 fun s69a s69l s69c=>
 cS_ w67 (p1.add 2) fun s70a s70l s70c=>
 (0:Int)≤(i64.wrap ((i64.wrap (s64.2.2.1*n41))+s64.2.2.1))∧(i64.wrap ((i64.wrap (s64.2.2.1*n41))+s64.2.2.1))<(s70l:Nat) ∧
 optM s70a fun a71=>
 ∃ x72,w67.cell? (a71.add ((i64.wrap ((i64.wrap (s64.2.2.1*n41))+s64.2.2.1)).toNat*1))=some (.float .f64 x72) ∧
 cutM (σ:=Nat×Unit) (fun J73=>
 loopM (σ:=Nat×Int×Unit) (fun s76 X77 w78=>
 cond (decide (s76.2.1<(s69l:Int)))
 ((0:Int)≤s76.2.1∧s76.2.1<(s69l:Nat) ∧
 optM s69a fun a79=>
 cF_ w78 (a79.add (s76.2.1.toNat*1)) fun x80=>
 (0:Int)≤s76.2.1∧s76.2.1<(s43.2.1.2.1:Nat) ∧
 optM s43.2.1.1 fun a81=>
 cF_ w78 (a81.add (s76.2.1.toNat*1)) fun x82=>
 fresM (fmul x80 x82) w78 fun x83 w84=>
 (0:Int)≤s76.2.1∧s76.2.1<(n41.toNat:Nat) ∧
 stM (p59.add (s76.2.1.toNat*1)) (.float .f64 x83) w84 fun w85=>
 (0:Int)≤s76.2.1∧s76.2.1<(n41.toNat:Nat) ∧
 cF_ w85 (p59.add (s76.2.1.toNat*1)) fun x86=>
 fresM (fmul x86 x80) w85 fun x87 w88=>
 fresM (fsub s76.1 x87) w88 fun x89 w90=>
 X77 (x89,(i64.wrap (s76.2.1+1)),()) w90)
 (J73 (s76.1,()) w78))
 (x72,0,()) w67)
 (fun s74 w75=>
 cutM (σ:=Bool×Unit) (fun J91=>
 cond (!(!(fgt s74.1 0)))
 (CallsX P N.f_lower_finite #[.float .f64 s74.1] w75 fun v95 w94=>
 vB_ v95 fun b96=>
 J91 ((!b96),()) w94)
 (J91 (true,()) w75))
 (fun s92 w93=>
 cond s92.1
 (J61 (220,s64.2.2.1,()) w93)
 ((0:Int)≤s64.2.2.1∧s64.2.2.1<(s43.2.1.2.1:Nat) ∧
 optM s43.2.1.1 fun a97=>
 stM (a97.add (s64.2.2.1.toNat*1)) (.float .f64 s74.1) w93 fun w98=>
 cutM (σ:=Int×Int×Unit) (fun J99=>
 loopM (σ:=Int×Int×Int×Unit) (fun s102 X103 w104=>
 cond (decide (s102.2.2.1<n41))
 (CallsX P N.f_lower_row #[.slice s43.1.1 s43.1.2.1 s43.1.2.2,.int .i64 s102.2.2.1] w104 fun v106 w105=>
 vS_ v106 fun s107a s107l s107c=>
 cS_ w105 (p1.add 2) fun s108a s108l s108c=>
 (0:Int)≤(i64.wrap ((i64.wrap (s102.2.2.1*n41))+s64.2.2.1))∧(i64.wrap ((i64.wrap (s102.2.2.1*n41))+s64.2.2.1))<(s108l:Nat) ∧
 optM s108a fun a109=>
 ∃ x110,w105.cell? (a109.add ((i64.wrap ((i64.wrap (s102.2.2.1*n41))+s64.2.2.1)).toNat*1))=some (.float .f64 x110) ∧
 cutM (σ:=Nat×Unit) (fun J111=>
 loopM (σ:=Nat×Int×Unit) (fun s114 X115 w116=>
 cond (decide (s114.2.1<s64.2.2.1))
 ((0:Int)≤s114.2.1∧s114.2.1<(s107l:Nat) ∧
 optM s107a fun a117=>
 cF_ w116 (a117.add (s114.2.1.toNat*1)) fun x118=>
 (0:Int)≤s114.2.1∧s114.2.1<(n41.toNat:Nat) ∧
 cF_ w116 (p59.add (s114.2.1.toNat*1)) fun x119=>
 fresM (fmul x118 x119) w116 fun x120 w121=>
 fresM (fsub s114.1 x120) w116 fun x122 w123=>
 drM w116 fun w124=>
 X115 (x122,(i64.wrap (s114.2.1+1)),()) w124)
 (J111 (s114.1,()) w116))
 (x110,0,()) w105)
 (fun s112 w113=>
 (0:Int)≤s64.2.2.1∧s64.2.2.1<(s43.2.1.2.1:Nat) ∧
 optM s43.2.1.1 fun a125=>
 cF_ w113 (a125.add (s64.2.2.1.toNat*1)) fun x126=>
 fresM (fdiv s112.1 x126) w113 fun x127 w128=>
 (0:Int)≤s64.2.2.1∧s64.2.2.1<(s107l:Nat) ∧
 optM s107a fun a129=>
 stM (a129.add (s64.2.2.1.toNat*1)) (.float .f64 x127) w128 fun w130=>
 (0:Int)≤s64.2.2.1∧s64.2.2.1<(s107l:Nat) ∧
 optM s107a fun a131=>
 cF_ w130 (a131.add (s64.2.2.1.toNat*1)) fun x132=>
 CallsX P N.f_lower_finite #[.float .f64 x132] w130 fun v134 w133=>
 vB_ v134 fun b135=>
 cond (!b135)
 (J61 (6,s64.2.2.1,()) w133)
 (X103 (s102.1,s102.2.1,(i64.wrap (s102.2.2.1+1)),()) w133)))
 (J99 (s102.1,s102.2.1,()) w104))
 (s64.1,s64.2.1,(i64.wrap (s64.2.2.1+1)),()) w98)
 (fun s100 w101=>
 X65 (s100.1,s100.2.1,(i64.wrap (s64.2.2.1+1)),()) w101)))))
 (J61 (s64.1,s64.2.1,()) w66))
 (s22.1,s22.2.1,0,()) w60)
 (fun s62 w63=>
 cond (s62.1 != 0)
 (cI_ w63 p3 fun n136=>
 cS_ w63 (p3.add 1) fun s137a s137l s137c=>
 cS_ w63 (p3.add 2) fun s138a s138l s138c=>
 stM p3 (.int .i64 n136) w63 fun w139=>
 stM (p3.add 1) (.slice s137a s137l s137c) w139 fun w140=>
 stM (p3.add 2) (.slice s138a s138l s138c) w140 fun w141=>
 cI_ w141 p3 fun n142=>
 cS_ w141 (p3.add 1) fun s143a s143l s143c=>
 cS_ w141 (p3.add 2) fun s144a s144l s144c=>
 K (.tuple #[.agg #[.int .i64 n142,.slice s143a s143l s143c,.slice s144a s144l s144c],.int .i64 s62.1,.int .i64 s62.2.1]) w141)
 (stM p3 (.int .i64 n41) w63 fun w145=>
 stM (p3.add 1) (.slice s43.1.1 s43.1.2.1 s43.1.2.2) w145 fun w146=>
 stM (p3.add 2) (.slice s43.2.1.1 s43.2.1.2.1 s43.2.1.2.2) w146 fun w147=>
 cI_ w147 p3 fun n148=>
 cS_ w147 (p3.add 1) fun s149a s149l s149c=>
 cS_ w147 (p3.add 2) fun s150a s150l s150c=>
 K (.tuple #[.agg #[.int .i64 n148,.slice s149a s149l s149c,.slice s150a s150l s150c],.int .i64 0,.int .i64 0]) w147)))))
def S_lower_Right (N:Nums) (P:Program) (qa:Int) (qb:OA) (qc qd:Nat) (qe:OA) (qf qg:Nat) (w:World) (K:KV):Prop:=
 newM #[.int .i64 qa,.slice qb qc qd,.slice qe qf qg] N.t_Factor w fun p1 w2=>
 cI_ w2 p1 fun n3=>
 cond (decide (n3≥0))
 (cI_ w2 p1 fun n4=>
 cond (decide (n4≤48))
 (cS_ w2 (p1.add 1) fun s5a s5l s5c=>
 cI_ w2 p1 fun n6=>
 cI_ w2 p1 fun n7=>
 (2:Int)≠0 ∧
 cond ((s5l:Int)==(i64.wrap ((i64.wrap (n6*(i64.wrap (n7-1)))).tdiv 2)))
 (cS_ w2 (p1.add 2) fun s8a s8l s8c=>
 cI_ w2 p1 fun n9=>
 K (.bool ((s8l:Int)==n9)) w2)
 (K (.bool false) w2))
 (K (.bool false) w2))
 (K (.bool false) w2)
def S_w12_near (N:Nums) (P:Program) (qa:Int) (qb:OA) (qc qd:Nat) (qe:OA) (qf qg:Nat) (q1:Int) (q2:Int) (q3:Nat) (w:World) (K:KV):Prop:=
 newM #[.int .i64 qa,.slice qb qc qd,.slice qe qf qg] N.t_Factor w fun p1 w2=>
 CallsX P N.f_dyad_Int #[.int .i64 0] w2 fun v4 w3=>
 ∃ b5,∃ s6a s6l s6c,∃ n7,v4=(.agg #[.bool b5,.slice s6a s6l s6c,.int .i64 n7]) ∧
 newM #[.bool false,.slice none 0 0,.int .i64 0] N.t_Dyad w3 fun p8 w9=>
 stM p8 (.bool b5) w9 fun w10=>
 stM (p8.add 1) (.slice s6a s6l s6c) w10 fun w11=>
 stM (p8.add 2) (.int .i64 n7) w11 fun w12=>
 cutM (σ:=(OA)×(OA)×(OA)×Unit) (fun J13=>
 cB_ w12 p8 fun b16=>
 cS_ w12 (p8.add 1) fun s17a s17l s17c=>
 cI_ w12 (p8.add 2) fun n18=>
 cB_ w12 p8 fun b19=>
 cS_ w12 (p8.add 1) fun s20a s20l s20c=>
 cI_ w12 (p8.add 2) fun n21=>
 (drM w12 fun w22=>
 newM #[.bool b16,.slice s17a s17l s17c,.int .i64 n18,.bool true] N.t_w12_sums w22 fun p23 w24=>
 w24.cell? p8=some (.bool b19) ∧
 w24.cell? (p8.add 1)=some (.slice s20a s20l s20c) ∧
 w24.cell? (p8.add 2)=some (.int .i64 n21) ∧
 (drM w24 fun w25=>
 newM #[.bool b19,.slice s20a s20l s20c,.int .i64 n21,.bool true] N.t_w12_sums w25 fun p26 w27=>
 drM w27 fun w28=>
 CallsX P N.f_dyad_Int #[.int .i64 1] w28 fun v30 w29=>
 ∃ b31,∃ s32a s32l s32c,∃ n33,v30=(.agg #[.bool b31,.slice s32a s32l s32c,.int .i64 n33]) ∧
 drM w29 fun w34=>
 newM #[.bool b31,.slice s32a s32l s32c,.int .i64 n33,.bool true] N.t_w12_sums w34 fun p35 w36=>
 drM w36 fun w37=>
 J13 ((some p23),(some p26),(some p35),()) w37) ∧
 (drM w24 fun w38=>
 CallsX P N.f_dyad_Int #[.int .i64 1] w38 fun v40 w39=>
 ∃ b41,∃ s42a s42l s42c,∃ n43,v40=(.agg #[.bool b41,.slice s42a s42l s42c,.int .i64 n43]) ∧
 w39.cell? p8=some (.bool b19) ∧
 w39.cell? (p8.add 1)=some (.slice s20a s20l s20c) ∧
 w39.cell? (p8.add 2)=some (.int .i64 n21) ∧
 (drM w39 fun w44=>
 newM #[.bool b19,.slice s20a s20l s20c,.int .i64 n21,.bool true] N.t_w12_sums w44 fun p45 w46=>
 drM w46 fun w47=>
 newM #[.bool b41,.slice s42a s42l s42c,.int .i64 n43,.bool true] N.t_w12_sums w47 fun p48 w49=>
 drM w49 fun w50=>
 J13 ((some p23),(some p45),(some p48),()) w50) ∧
 (drM w39 fun w51=>
 newM #[.bool b41,.slice s42a s42l s42c,.int .i64 n43,.bool true] N.t_w12_sums w51 fun p52 w53=>
 w53.cell? p8=some (.bool b19) ∧
 w53.cell? (p8.add 1)=some (.slice s20a s20l s20c) ∧
 w53.cell? (p8.add 2)=some (.int .i64 n21) ∧
 drM w53 fun w54=>
 newM #[.bool b19,.slice s20a s20l s20c,.int .i64 n21,.bool true] N.t_w12_sums w54 fun p55 w56=>
 drM w56 fun w57=>
 J13 ((some p23),(some p55),(some p52),()) w57))) ∧
 (drM w12 fun w58=>
 newM #[.bool b19,.slice s20a s20l s20c,.int .i64 n21,.bool true] N.t_w12_sums w58 fun p59 w60=>
 w60.cell? p8=some (.bool b16) ∧
 w60.cell? (p8.add 1)=some (.slice s17a s17l s17c) ∧
 w60.cell? (p8.add 2)=some (.int .i64 n18) ∧
 (drM w60 fun w61=>
 newM #[.bool b16,.slice s17a s17l s17c,.int .i64 n18,.bool true] N.t_w12_sums w61 fun p62 w63=>
 drM w63 fun w64=>
 CallsX P N.f_dyad_Int #[.int .i64 1] w64 fun v66 w65=>
 ∃ b67,∃ s68a s68l s68c,∃ n69,v66=(.agg #[.bool b67,.slice s68a s68l s68c,.int .i64 n69]) ∧
 drM w65 fun w70=>
 newM #[.bool b67,.slice s68a s68l s68c,.int .i64 n69,.bool true] N.t_w12_sums w70 fun p71 w72=>
 drM w72 fun w73=>
 J13 ((some p62),(some p59),(some p71),()) w73) ∧
 (drM w60 fun w74=>
 CallsX P N.f_dyad_Int #[.int .i64 1] w74 fun v76 w75=>
 ∃ b77,∃ s78a s78l s78c,∃ n79,v76=(.agg #[.bool b77,.slice s78a s78l s78c,.int .i64 n79]) ∧
 w75.cell? p8=some (.bool b16) ∧
 w75.cell? (p8.add 1)=some (.slice s17a s17l s17c) ∧
 w75.cell? (p8.add 2)=some (.int .i64 n18) ∧
 (drM w75 fun w80=>
 newM #[.bool b16,.slice s17a s17l s17c,.int .i64 n18,.bool true] N.t_w12_sums w80 fun p81 w82=>
 drM w82 fun w83=>
 newM #[.bool b77,.slice s78a s78l s78c,.int .i64 n79,.bool true] N.t_w12_sums w83 fun p84 w85=>
 drM w85 fun w86=>
 J13 ((some p81),(some p59),(some p84),()) w86) ∧
 (drM w75 fun w87=>
 newM #[.bool b77,.slice s78a s78l s78c,.int .i64 n79,.bool true] N.t_w12_sums w87 fun p88 w89=>
 w89.cell? p8=some (.bool b16) ∧
 w89.cell? (p8.add 1)=some (.slice s17a s17l s17c) ∧
 w89.cell? (p8.add 2)=some (.int .i64 n18) ∧
 drM w89 fun w90=>
 newM #[.bool b16,.slice s17a s17l s17c,.int .i64 n18,.bool true] N.t_w12_sums w90 fun p91 w92=>
 drM w92 fun w93=>
 J13 ((some p91),(some p59),(some p88),()) w93))) ∧
 (drM w12 fun w94=>
 CallsX P N.f_dyad_Int #[.int .i64 1] w94 fun v96 w95=>
 ∃ b97,∃ s98a s98l s98c,∃ n99,v96=(.agg #[.bool b97,.slice s98a s98l s98c,.int .i64 n99]) ∧
 w95.cell? p8=some (.bool b19) ∧
 w95.cell? (p8.add 1)=some (.slice s20a s20l s20c) ∧
 w95.cell? (p8.add 2)=some (.int .i64 n21) ∧
 w95.cell? p8=some (.bool b16) ∧
 w95.cell? (p8.add 1)=some (.slice s17a s17l s17c) ∧
 w95.cell? (p8.add 2)=some (.int .i64 n18) ∧
 (drM w95 fun w100=>
 newM #[.bool b16,.slice s17a s17l s17c,.int .i64 n18,.bool true] N.t_w12_sums w100 fun p101 w102=>
 w102.cell? p8=some (.bool b19) ∧
 w102.cell? (p8.add 1)=some (.slice s20a s20l s20c) ∧
 w102.cell? (p8.add 2)=some (.int .i64 n21) ∧
 (drM w102 fun w103=>
 newM #[.bool b19,.slice s20a s20l s20c,.int .i64 n21,.bool true] N.t_w12_sums w103 fun p104 w105=>
 drM w105 fun w106=>
 newM #[.bool b97,.slice s98a s98l s98c,.int .i64 n99,.bool true] N.t_w12_sums w106 fun p107 w108=>
 drM w108 fun w109=>
 J13 ((some p101),(some p104),(some p107),()) w109) ∧
 (drM w102 fun w110=>
 newM #[.bool b97,.slice s98a s98l s98c,.int .i64 n99,.bool true] N.t_w12_sums w110 fun p111 w112=>
 w112.cell? p8=some (.bool b19) ∧
 w112.cell? (p8.add 1)=some (.slice s20a s20l s20c) ∧
 w112.cell? (p8.add 2)=some (.int .i64 n21) ∧
 drM w112 fun w113=>
 newM #[.bool b19,.slice s20a s20l s20c,.int .i64 n21,.bool true] N.t_w12_sums w113 fun p114 w115=>
 drM w115 fun w116=>
 J13 ((some p101),(some p114),(some p111),()) w116)) ∧
 (drM w95 fun w117=>
 newM #[.bool b19,.slice s20a s20l s20c,.int .i64 n21,.bool true] N.t_w12_sums w117 fun p118 w119=>
 w119.cell? p8=some (.bool b16) ∧
 w119.cell? (p8.add 1)=some (.slice s17a s17l s17c) ∧
 w119.cell? (p8.add 2)=some (.int .i64 n18) ∧
 (drM w119 fun w120=>
 newM #[.bool b16,.slice s17a s17l s17c,.int .i64 n18,.bool true] N.t_w12_sums w120 fun p121 w122=>
 drM w122 fun w123=>
 newM #[.bool b97,.slice s98a s98l s98c,.int .i64 n99,.bool true] N.t_w12_sums w123 fun p124 w125=>
 drM w125 fun w126=>
 J13 ((some p121),(some p118),(some p124),()) w126) ∧
 (drM w119 fun w127=>
 newM #[.bool b97,.slice s98a s98l s98c,.int .i64 n99,.bool true] N.t_w12_sums w127 fun p128 w129=>
 w129.cell? p8=some (.bool b16) ∧
 w129.cell? (p8.add 1)=some (.slice s17a s17l s17c) ∧
 w129.cell? (p8.add 2)=some (.int .i64 n18) ∧
 drM w129 fun w130=>
 newM #[.bool b16,.slice s17a s17l s17c,.int .i64 n18,.bool true] N.t_w12_sums w130 fun p131 w132=>
 drM w132 fun w133=>
 J13 ((some p131),(some p118),(some p128),()) w133)) ∧
 (drM w95 fun w134=>
 newM #[.bool b97,.slice s98a s98l s98c,.int .i64 n99,.bool true] N.t_w12_sums w134 fun p135 w136=>
 w136.cell? p8=some (.bool b19) ∧
 w136.cell? (p8.add 1)=some (.slice s20a s20l s20c) ∧
 w136.cell? (p8.add 2)=some (.int .i64 n21) ∧
 w136.cell? p8=some (.bool b16) ∧
 w136.cell? (p8.add 1)=some (.slice s17a s17l s17c) ∧
 w136.cell? (p8.add 2)=some (.int .i64 n18) ∧
 (drM w136 fun w137=>
 newM #[.bool b16,.slice s17a s17l s17c,.int .i64 n18,.bool true] N.t_w12_sums w137 fun p138 w139=>
 w139.cell? p8=some (.bool b19) ∧
 w139.cell? (p8.add 1)=some (.slice s20a s20l s20c) ∧
 w139.cell? (p8.add 2)=some (.int .i64 n21) ∧
 drM w139 fun w140=>
 newM #[.bool b19,.slice s20a s20l s20c,.int .i64 n21,.bool true] N.t_w12_sums w140 fun p141 w142=>
 drM w142 fun w143=>
 J13 ((some p138),(some p141),(some p135),()) w143) ∧
 (drM w136 fun w144=>
 newM #[.bool b19,.slice s20a s20l s20c,.int .i64 n21,.bool true] N.t_w12_sums w144 fun p145 w146=>
 w146.cell? p8=some (.bool b16) ∧
 w146.cell? (p8.add 1)=some (.slice s17a s17l s17c) ∧
 w146.cell? (p8.add 2)=some (.int .i64 n18) ∧
 drM w146 fun w147=>
 newM #[.bool b16,.slice s17a s17l s17c,.int .i64 n18,.bool true] N.t_w12_sums w147 fun p148 w149=>
 drM w149 fun w150=>
 J13 ((some p148),(some p145),(some p135),()) w150))))
 (fun s14 w15=>
 cutM (σ:=Unit) (fun J151=>
 loopM (σ:=Int×Unit) (fun s154 X155 w156=>
 cond (decide (s154.1≤q2))
 (cutM (σ:=Unit) (fun J157=>
 cutM (σ:=(OA)×Int×Unit) (fun J160=>
 cI_ w156 p1 fun n163=>
 cS_ w156 (p1.add 1) fun s164a s164l s164c=>
 cS_ w156 (p1.add 2) fun s165a s165l s165c=>
 cS_ w156 (p1.add 2) fun s166a s166l s166c=>
 (0:Int)≤s154.1∧s154.1<(s166l:Nat) ∧
 optM s166a fun a167=>
 cF_ w156 (a167.add (s154.1.toNat*1)) fun x168=>
 cI_ w156 p1 fun n169=>
 cS_ w156 (p1.add 1) fun s170a s170l s170c=>
 cS_ w156 (p1.add 2) fun s171a s171l s171c=>
 (drM w156 fun w172=>
 CallsX P N.f_w12_at #[.agg #[.int .i64 n163,.slice s164a s164l s164c,.slice s165a s165l s165c],.int .i64 q1,.int .i64 s154.1] w172 fun v174 w173=>
 ∃ x175,v174=(.float .f64 x175) ∧
 w173.cell? p1=some (.int .i64 n169) ∧
 w173.cell? (p1.add 1)=some (.slice s170a s170l s170c) ∧
 w173.cell? (p1.add 2)=some (.slice s171a s171l s171c) ∧
 w173.cell? (a167.add (s154.1.toNat*1))=some (.float .f64 x168) ∧
 w173.cell? (p1.add 2)=some (.slice s166a s166l s166c) ∧
 (drM w173 fun w176=>
 CallsX P N.f_w12_at #[.agg #[.int .i64 n169,.slice s170a s170l s170c,.slice s171a s171l s171c],.int .i64 q2,.int .i64 s154.1] w176 fun v178 w177=>
 ∃ x179,v178=(.float .f64 x179) ∧
 w177.cell? (a167.add (s154.1.toNat*1))=some (.float .f64 x168) ∧
 w177.cell? (p1.add 2)=some (.slice s166a s166l s166c) ∧
 (drM w177 fun w180=>
 CallsX P N.f_w12_product #[.float .f64 x175,.float .f64 x168,.float .f64 x179] w180 fun v182 w181=>
 ∃ b183,∃ s184a s184l s184c,∃ n185,∃ n186,v182=(.tuple #[.agg #[.bool b183,.slice s184a s184l s184c,.int .i64 n185],.int .i64 n186]) ∧
 drM w181 fun w187=>
 newM #[.bool false,.slice none 0 0,.int .i64 0] N.t_Dyad w187 fun p188 w189=>
 drM w189 fun w190=>
 stM p188 (.bool b183) w190 fun w191=>
 stM (p188.add 1) (.slice s184a s184l s184c) w191 fun w192=>
 stM (p188.add 2) (.int .i64 n185) w192 fun w193=>
 drM w193 fun w194=>
 J160 ((some p188),n186,()) w194) ∧
 (drM w177 fun w195=>
 newM #[.bool false,.slice none 0 0,.int .i64 0] N.t_Dyad w195 fun p196 w197=>
 w197.cell? (a167.add (s154.1.toNat*1))=some (.float .f64 x168) ∧
 w197.cell? (p1.add 2)=some (.slice s166a s166l s166c) ∧
 drM w197 fun w198=>
 CallsX P N.f_w12_product #[.float .f64 x175,.float .f64 x168,.float .f64 x179] w198 fun v200 w199=>
 ∃ b201,∃ s202a s202l s202c,∃ n203,∃ n204,v200=(.tuple #[.agg #[.bool b201,.slice s202a s202l s202c,.int .i64 n203],.int .i64 n204]) ∧
 drM w199 fun w205=>
 stM p196 (.bool b201) w205 fun w206=>
 stM (p196.add 1) (.slice s202a s202l s202c) w206 fun w207=>
 stM (p196.add 2) (.int .i64 n203) w207 fun w208=>
 drM w208 fun w209=>
 J160 ((some p196),n204,()) w209)) ∧
 (drM w173 fun w210=>
 newM #[.bool false,.slice none 0 0,.int .i64 0] N.t_Dyad w210 fun p211 w212=>
 w212.cell? p1=some (.int .i64 n169) ∧
 w212.cell? (p1.add 1)=some (.slice s170a s170l s170c) ∧
 w212.cell? (p1.add 2)=some (.slice s171a s171l s171c) ∧
 w212.cell? (a167.add (s154.1.toNat*1))=some (.float .f64 x168) ∧
 w212.cell? (p1.add 2)=some (.slice s166a s166l s166c) ∧
 drM w212 fun w213=>
 CallsX P N.f_w12_at #[.agg #[.int .i64 n169,.slice s170a s170l s170c,.slice s171a s171l s171c],.int .i64 q2,.int .i64 s154.1] w213 fun v215 w214=>
 ∃ x216,v215=(.float .f64 x216) ∧
 w214.cell? (a167.add (s154.1.toNat*1))=some (.float .f64 x168) ∧
 w214.cell? (p1.add 2)=some (.slice s166a s166l s166c) ∧
 drM w214 fun w217=>
 CallsX P N.f_w12_product #[.float .f64 x175,.float .f64 x168,.float .f64 x216] w217 fun v219 w218=>
 ∃ b220,∃ s221a s221l s221c,∃ n222,∃ n223,v219=(.tuple #[.agg #[.bool b220,.slice s221a s221l s221c,.int .i64 n222],.int .i64 n223]) ∧
 drM w218 fun w224=>
 stM p211 (.bool b220) w224 fun w225=>
 stM (p211.add 1) (.slice s221a s221l s221c) w225 fun w226=>
 stM (p211.add 2) (.int .i64 n222) w226 fun w227=>
 drM w227 fun w228=>
 J160 ((some p211),n223,()) w228)) ∧
 (drM w156 fun w229=>
 newM #[.bool false,.slice none 0 0,.int .i64 0] N.t_Dyad w229 fun p230 w231=>
 w231.cell? p1=some (.int .i64 n169) ∧
 w231.cell? (p1.add 1)=some (.slice s170a s170l s170c) ∧
 w231.cell? (p1.add 2)=some (.slice s171a s171l s171c) ∧
 w231.cell? (a167.add (s154.1.toNat*1))=some (.float .f64 x168) ∧
 w231.cell? (p1.add 2)=some (.slice s166a s166l s166c) ∧
 w231.cell? p1=some (.int .i64 n163) ∧
 w231.cell? (p1.add 1)=some (.slice s164a s164l s164c) ∧
 w231.cell? (p1.add 2)=some (.slice s165a s165l s165c) ∧
 drM w231 fun w232=>
 CallsX P N.f_w12_at #[.agg #[.int .i64 n163,.slice s164a s164l s164c,.slice s165a s165l s165c],.int .i64 q1,.int .i64 s154.1] w232 fun v234 w233=>
 ∃ x235,v234=(.float .f64 x235) ∧
 w233.cell? p1=some (.int .i64 n169) ∧
 w233.cell? (p1.add 1)=some (.slice s170a s170l s170c) ∧
 w233.cell? (p1.add 2)=some (.slice s171a s171l s171c) ∧
 w233.cell? (a167.add (s154.1.toNat*1))=some (.float .f64 x168) ∧
 w233.cell? (p1.add 2)=some (.slice s166a s166l s166c) ∧
 drM w233 fun w236=>
 CallsX P N.f_w12_at #[.agg #[.int .i64 n169,.slice s170a s170l s170c,.slice s171a s171l s171c],.int .i64 q2,.int .i64 s154.1] w236 fun v238 w237=>
 ∃ x239,v238=(.float .f64 x239) ∧
 w237.cell? (a167.add (s154.1.toNat*1))=some (.float .f64 x168) ∧
 w237.cell? (p1.add 2)=some (.slice s166a s166l s166c) ∧
 drM w237 fun w240=>
 CallsX P N.f_w12_product #[.float .f64 x235,.float .f64 x168,.float .f64 x239] w240 fun v242 w241=>
 ∃ b243,∃ s244a s244l s244c,∃ n245,∃ n246,v242=(.tuple #[.agg #[.bool b243,.slice s244a s244l s244c,.int .i64 n245],.int .i64 n246]) ∧
 drM w241 fun w247=>
 stM p230 (.bool b243) w247 fun w248=>
 stM (p230.add 1) (.slice s244a s244l s244c) w248 fun w249=>
 stM (p230.add 2) (.int .i64 n245) w249 fun w250=>
 drM w250 fun w251=>
 J160 ((some p230),n246,()) w251))
 (fun s161 w162=>
 optM s161.1 fun a252=>
 cB_ w162 a252 fun b253=>
 cS_ w162 (a252.add 1) fun s254a s254l s254c=>
 cI_ w162 (a252.add 2) fun n255=>
 CallsX P N.f_p_w12_sums_adds #[.pointer s14.1,.agg #[.bool b253,.slice s254a s254l s254c,.int .i64 n255],.int .i64 s161.2.1,.bool false] w162 fun v257 w256=>
 v257=(.tuple #[]) ∧
 optM s161.1 fun a258=>
 cB_ w256 a258 fun b259=>
 cS_ w256 (a258.add 1) fun s260a s260l s260c=>
 cI_ w256 (a258.add 2) fun n261=>
 CallsX P N.f_p_w12_sums_adds #[.pointer s14.2.1,.agg #[.bool b259,.slice s260a s260l s260c,.int .i64 n261],.int .i64 s161.2.1,.bool true] w256 fun v263 w262=>
 v263=(.tuple #[]) ∧
 cutM (σ:=Unit) (fun J264=>
 cond (decide (s154.1<q2))
 (cI_ w262 p1 fun n267=>
 cS_ w262 (p1.add 1) fun s268a s268l s268c=>
 cS_ w262 (p1.add 2) fun s269a s269l s269c=>
 CallsX P N.f_w12_at #[.agg #[.int .i64 n267,.slice s268a s268l s268c,.slice s269a s269l s269c],.int .i64 q1,.int .i64 s154.1] w262 fun v271 w270=>
 ∃ x272,v271=(.float .f64 x272) ∧
 CallsX P N.f_dyad_Of #[.float .f64 x272] w270 fun v274 w273=>
 ∃ b275,∃ s276a s276l s276c,∃ n277,∃ n278,v274=(.tuple #[.agg #[.bool b275,.slice s276a s276l s276c,.int .i64 n277],.int .i64 n278]) ∧
 newM #[.bool false,.slice none 0 0,.int .i64 0] N.t_Dyad w273 fun p279 w280=>
 stM p279 (.bool b275) w280 fun w281=>
 stM (p279.add 1) (.slice s276a s276l s276c) w281 fun w282=>
 stM (p279.add 2) (.int .i64 n277) w282 fun w283=>
 cB_ w283 p279 fun b284=>
 cS_ w283 (p279.add 1) fun s285a s285l s285c=>
 cI_ w283 (p279.add 2) fun n286=>
 CallsX P N.f_p_w12_sums_adds #[.pointer s14.2.2.1,.agg #[.bool b284,.slice s285a s285l s285c,.int .i64 n286],.int .i64 n278,.bool true] w283 fun v288 w287=>
 v288=(.tuple #[]) ∧
 J264 (()) w287)
 (J264 (()) w262))
 (fun s265 w266=>
 J157 (()) w266)))
 (fun s158 w159=>
 X155 ((i64.wrap (s154.1+1)),()) w159))
 (J151 (()) w156))
 (0,()) w15)
 (fun s152 w153=>
 cS_ w153 (p1.add 2) fun s289a s289l s289c=>
 (0:Int)≤q2∧q2<(s289l:Nat) ∧
 optM s289a fun a290=>
 cF_ w153 (a290.add (q2.toNat*1)) fun x291=>
 CallsX P N.f_dyad_Of #[.float .f64 x291] w153 fun v293 w292=>
 ∃ b294,∃ s295a s295l s295c,∃ n296,∃ n297,v293=(.tuple #[.agg #[.bool b294,.slice s295a s295l s295c,.int .i64 n296],.int .i64 n297]) ∧
 newM #[.bool false,.slice none 0 0,.int .i64 0] N.t_Dyad w292 fun p298 w299=>
 stM p298 (.bool b294) w299 fun w300=>
 stM (p298.add 1) (.slice s295a s295l s295c) w300 fun w301=>
 stM (p298.add 2) (.int .i64 n296) w301 fun w302=>
 cB_ w302 p298 fun b303=>
 cS_ w302 (p298.add 1) fun s304a s304l s304c=>
 cI_ w302 (p298.add 2) fun n305=>
 CallsX P N.f_p_w12_sums_adds #[.pointer s14.2.2.1,.agg #[.bool b303,.slice s304a s304l s304c,.int .i64 n305],.int .i64 n297,.bool true] w302 fun v307 w306=>
 v307=(.tuple #[]) ∧
 CallsX P N.f_dyad_Of #[.float .f64 (fneg q3)] w306 fun v309 w308=>
 ∃ b310,∃ s311a s311l s311c,∃ n312,∃ n313,v309=(.tuple #[.agg #[.bool b310,.slice s311a s311l s311c,.int .i64 n312],.int .i64 n313]) ∧
 newM #[.bool false,.slice none 0 0,.int .i64 0] N.t_Dyad w308 fun p314 w315=>
 stM p314 (.bool b310) w315 fun w316=>
 stM (p314.add 1) (.slice s311a s311l s311c) w316 fun w317=>
 stM (p314.add 2) (.int .i64 n312) w317 fun w318=>
 cB_ w318 p314 fun b319=>
 cS_ w318 (p314.add 1) fun s320a s320l s320c=>
 cI_ w318 (p314.add 2) fun n321=>
 CallsX P N.f_p_w12_sums_adds #[.pointer s14.1,.agg #[.bool b319,.slice s320a s320l s320c,.int .i64 n321],.int .i64 n313,.bool false] w318 fun v323 w322=>
 v323=(.tuple #[]) ∧
 cB_ w322 p8 fun b324=>
 cS_ w322 (p8.add 1) fun s325a s325l s325c=>
 cI_ w322 (p8.add 2) fun n326=>
 newM #[.bool b324,.slice s325a s325l s325c,.int .i64 n326,.bool true] N.t_w12_sums w322 fun p327 w328=>
 optM s14.1 fun a329=>
 cB_ w328 a329 fun b330=>
 cS_ w328 (a329.add 1) fun s331a s331l s331c=>
 cI_ w328 (a329.add 2) fun n332=>
 CallsX P N.f_p_w12_sums_adds #[.pointer (some p327),.agg #[.bool b330,.slice s331a s331l s331c,.int .i64 n332],.int .i64 0,.bool true] w328 fun v334 w333=>
 v334=(.tuple #[]) ∧
 optM s14.2.1 fun a335=>
 cB_ w333 a335 fun b336=>
 cS_ w333 (a335.add 1) fun s337a s337l s337c=>
 cI_ w333 (a335.add 2) fun n338=>
 CallsX P N.f_dyad_Scale #[.agg #[.bool b336,.slice s337a s337l s337c,.int .i64 n338],.int .i64 (-50)] w333 fun v340 w339=>
 ∃ b341,∃ s342a s342l s342c,∃ n343,∃ n344,v340=(.tuple #[.agg #[.bool b341,.slice s342a s342l s342c,.int .i64 n343],.int .i64 n344]) ∧
 newM #[.bool false,.slice none 0 0,.int .i64 0] N.t_Dyad w339 fun p345 w346=>
 stM p345 (.bool b341) w346 fun w347=>
 stM (p345.add 1) (.slice s342a s342l s342c) w347 fun w348=>
 stM (p345.add 2) (.int .i64 n343) w348 fun w349=>
 optM s14.2.2.1 fun a350=>
 cB_ w349 a350 fun b351=>
 cS_ w349 (a350.add 1) fun s352a s352l s352c=>
 cI_ w349 (a350.add 2) fun n353=>
 CallsX P N.f_dyad_Scale #[.agg #[.bool b351,.slice s352a s352l s352c,.int .i64 n353],.int .i64 (-1070)] w349 fun v355 w354=>
 ∃ b356,∃ s357a s357l s357c,∃ n358,∃ n359,v355=(.tuple #[.agg #[.bool b356,.slice s357a s357l s357c,.int .i64 n358],.int .i64 n359]) ∧
 newM #[.bool false,.slice none 0 0,.int .i64 0] N.t_Dyad w354 fun p360 w361=>
 stM p360 (.bool b356) w361 fun w362=>
 stM (p360.add 1) (.slice s357a s357l s357c) w362 fun w363=>
 stM (p360.add 2) (.int .i64 n358) w363 fun w364=>
 cutM (σ:=Bool×Unit) (fun J365=>
 cond (!(n344 != 0))
 (cond (!(n359 != 0))
 (optM s14.1 fun a368=>
 cB_ w364 (a368.add 3) fun b369=>
 cond (!(!b369))
 (optM s14.2.1 fun a370=>
 cB_ w364 (a370.add 3) fun b371=>
 cond (!(!b371))
 (optM s14.2.2.1 fun a372=>
 cB_ w364 (a372.add 3) fun b373=>
 cond (!(!b373))
 (cB_ w364 (p327.add 3) fun b374=>
 J365 ((!b374),()) w364)
 (J365 (true,()) w364))
 (J365 (true,()) w364))
 (J365 (true,()) w364))
 (J365 (true,()) w364))
 (J365 (true,()) w364))
 (fun s366 w367=>
 cond s366.1
 (K (.bool false) w367)
 (cB_ w367 p345 fun b375=>
 cS_ w367 (p345.add 1) fun s376a s376l s376c=>
 cI_ w367 (p345.add 2) fun n377=>
 cB_ w367 p360 fun b378=>
 cS_ w367 (p360.add 1) fun s379a s379l s379c=>
 cI_ w367 (p360.add 2) fun n380=>
 CallsX P N.f_dyad_Add #[.agg #[.bool b375,.slice s376a s376l s376c,.int .i64 n377],.agg #[.bool b378,.slice s379a s379l s379c,.int .i64 n380]] w367 fun v382 w381=>
 ∃ b383,∃ s384a s384l s384c,∃ n385,∃ n386,v382=(.tuple #[.agg #[.bool b383,.slice s384a s384l s384c,.int .i64 n385],.int .i64 n386]) ∧
 stM p345 (.bool b383) w381 fun w387=>
 stM (p345.add 1) (.slice s384a s384l s384c) w387 fun w388=>
 stM (p345.add 2) (.int .i64 n385) w388 fun w389=>
 cond (n386 != 0)
 (K (.bool false) w389)
 (cB_ w389 p345 fun b390=>
 cS_ w389 (p345.add 1) fun s391a s391l s391c=>
 cI_ w389 (p345.add 2) fun n392=>
 drM w389 fun w393=>
 CallsX P N.f_dyad_Int #[.int .i64 (i64.wrap (q2+2))] w393 fun v395 w394=>
 ∃ b396,∃ s397a s397l s397c,∃ n398,v395=(.agg #[.bool b396,.slice s397a s397l s397c,.int .i64 n398]) ∧
 w394.cell? p345=some (.bool b390) ∧
 w394.cell? (p345.add 1)=some (.slice s391a s391l s391c) ∧
 w394.cell? (p345.add 2)=some (.int .i64 n392) ∧
 drM w394 fun w399=>
 CallsX P N.f_dyad_Mul #[.agg #[.bool b390,.slice s391a s391l s391c,.int .i64 n392],.agg #[.bool b396,.slice s397a s397l s397c,.int .i64 n398]] w399 fun v401 w400=>
 ∃ b402,∃ s403a s403l s403c,∃ n404,∃ n405,v401=(.tuple #[.agg #[.bool b402,.slice s403a s403l s403c,.int .i64 n404],.int .i64 n405]) ∧
 drM w400 fun w406=>
 stM p345 (.bool b402) w406 fun w407=>
 stM (p345.add 1) (.slice s403a s403l s403c) w407 fun w408=>
 stM (p345.add 2) (.int .i64 n404) w408 fun w409=>
 drM w409 fun w410=>
 cB_ w410 p327 fun b411=>
 cS_ w410 (p327.add 1) fun s412a s412l s412c=>
 cI_ w410 (p327.add 2) fun n413=>
 cB_ w410 p345 fun b414=>
 cS_ w410 (p345.add 1) fun s415a s415l s415c=>
 cI_ w410 (p345.add 2) fun n416=>
 drM w410 fun w417=>
 CallsX P N.f_dyad_Cmp #[.agg #[.bool b411,.slice s412a s412l s412c,.int .i64 n413],.agg #[.bool b414,.slice s415a s415l s415c,.int .i64 n416]] w417 fun v419 w418=>
 ∃ n420,∃ n421,v419=(.tuple #[.int .i64 n420,.int .i64 n421]) ∧
 drM w418 fun w422=>
 cond (n405==0)
 (cond (n421==0)
 (K (.bool (decide (n420≤0))) w422)
 (K (.bool false) w422))
 (K (.bool false) w422))))))
def S_k_SameReals (N:Nums) (P:Program) (q0:OA) (qm qs:Nat) (q1:OA) (qr qw:Nat) (w:World) (K:KV):Prop:=
 cond ((qm:Int) != (qr:Int))
 (K (.bool false) w)
 (cutM (σ:=Unit) (fun J1=>
 loopM (σ:=Int×Unit) (fun s4 X5 w6=>
 cond (decide (s4.1<(qm:Int)))
 ((0:Int)≤s4.1∧s4.1<(qm:Nat) ∧
 optM q0 fun a7=>
 cF_ w6 (a7.add (s4.1.toNat*1)) fun x8=>
 (0:Int)≤s4.1∧s4.1<(qr:Nat) ∧
 optM q1 fun a9=>
 cF_ w6 (a9.add (s4.1.toNat*1)) fun x10=>
 drM w6 fun w11=>
 CallsX P N.f_k_SameFloat #[.float .f64 x8,.float .f64 x10] w11 fun v13 w12=>
 vB_ v13 fun b14=>
 drM w12 fun w15=>
 cond (!b14)
 (K (.bool false) w15)
 (X5 ((i64.wrap (s4.1+1)),()) w15))
 (J1 (()) w6))
 (0,()) w)
 (fun s2 w3=>
 K (.bool true) w3))
def S_vector_Same (N:Nums) (P:Program) (q0:OA) (qm qs:Nat) (q1:OA) (qr qw:Nat) (w:World) (K:KV):Prop:=
 cond ((qm:Int) != (qr:Int))
 (K (.bool false) w)
 (cutM (σ:=Unit) (fun J1=>
 loopM (σ:=Int×Unit) (fun s4 X5 w6=>
 cond (decide (s4.1<(qm:Int)))
 ((0:Int)≤s4.1∧s4.1<(qm:Nat) ∧
 optM q0 fun a7=>
 cF_ w6 (a7.add (s4.1.toNat*1)) fun x8=>
 (0:Int)≤s4.1∧s4.1<(qr:Nat) ∧
 optM q1 fun a9=>
 cF_ w6 (a9.add (s4.1.toNat*1)) fun x10=>
 drM w6 fun w11=>
 CallsX P N.f_math_Float64bits #[.float .f64 x8] w11 fun v13 w12=>
 ∃ n14,v13=(.int .u64 n14) ∧
 w12.cell? (a9.add (s4.1.toNat*1))=some (.float .f64 x10) ∧
 drM w12 fun w15=>
 CallsX P N.f_math_Float64bits #[.float .f64 x10] w15 fun v17 w16=>
 ∃ n18,v17=(.int .u64 n18) ∧
 cond (n14 != n18)
 (drM w16 fun w19=>
 CallsX P N.f_math_IsNaN #[.float .f64 x8] w19 fun v21 w20=>
 vB_ v21 fun b22=>
 cond b22
 ((0:Int)≤s4.1∧s4.1<(qr:Nat) ∧
 optM q1 fun a23=>
 cF_ w20 (a23.add (s4.1.toNat*1)) fun x24=>
 drM w20 fun w25=>
 CallsX P N.f_math_IsNaN #[.float .f64 x24] w25 fun v27 w26=>
 vB_ v27 fun b28=>
 drM w26 fun w29=>
 cond (!b28)
 (K (.bool false) w29)
 (X5 ((i64.wrap (s4.1+1)),()) w29))
 (drM w20 fun w30=>
 drM w30 fun w31=>
 K (.bool false) w31))
 (drM w16 fun w32=>
 drM w32 fun w33=>
 drM w33 fun w34=>
 X5 ((i64.wrap (s4.1+1)),()) w34))
 (J1 (()) w6))
 (0,()) w)
 (fun s2 w3=>
 K (.bool true) w3))
def S_math_Copysign (N:Nums) (P:Program) (q0:Nat) (q1:Nat) (w:World) (K:KV):Prop:=
 CallsX P N.f_math_Float64bits #[.float .f64 q0] w fun v2 w1=>
 ∃ n3,v2=(.int .u64 n3) ∧
 CallsX P N.f_math_Float64bits #[.float .f64 q1] w1 fun v5 w4=>
 ∃ n6,v5=(.int .u64 n6) ∧
 CallsX P N.f_math_Float64frombits #[.int .u64 (u64.wrap (BitVec.ofInt u64.bits (u64.wrap (BitVec.ofInt u64.bits n3 &&& ~~~BitVec.ofInt u64.bits 9223372036854775808).toNat) ||| BitVec.ofInt u64.bits (u64.wrap (BitVec.ofInt u64.bits n6 &&& BitVec.ofInt u64.bits 9223372036854775808).toNat)).toNat)] w4 fun v8 w7=>
 ∃ x9,v8=(.float .f64 x9) ∧
 K (.float .f64 x9) w7
def S_dyad_made (N:Nums) (P:Program) (q0:OA) (q1:Int) (w:World) (K:KV):Prop:=
 newM #[.bool false,.slice none 0 0,.int .i64 0] N.t_Dyad w fun p1 w2=>
 CallsX P N.f_bI_Sign #[.pointer q0] w2 fun v4 w3=>
 ∃ n5,v4=(.int .i64 n5) ∧
 cond (n5==0)
 (stM p1 (.bool false) w3 fun w6=>
 stM (p1.add 1) (.slice none 0 0) w6 fun w7=>
 stM (p1.add 2) (.int .i64 0) w7 fun w8=>
 cB_ w8 p1 fun b9=>
 cS_ w8 (p1.add 1) fun s10a s10l s10c=>
 cI_ w8 (p1.add 2) fun n11=>
 K (.tuple #[.agg #[.bool b9,.slice s10a s10l s10c,.int .i64 n11],.int .i64 0]) w8)
 (CallsX P N.f_bI_TrailingZeroBits #[.pointer q0] w3 fun v13 w12=>
 ∃ n14,v13=(.int .u64 n14) ∧
 cond (decide (q1>65536))
 (stM p1 (.bool false) w12 fun w15=>
 stM (p1.add 1) (.slice none 0 0) w15 fun w16=>
 stM (p1.add 2) (.int .i64 0) w16 fun w17=>
 cB_ w17 p1 fun b18=>
 cS_ w17 (p1.add 1) fun s19a s19l s19c=>
 cI_ w17 (p1.add 2) fun n20=>
 K (.tuple #[.agg #[.bool b18,.slice s19a s19l s19c,.int .i64 n20],.int .i64 3]) w17)
 (cond (decide (q1<(i64.wrap ((-65536)-(i64.wrap n14)))))
 (stM p1 (.bool false) w12 fun w21=>
 stM (p1.add 1) (.slice none 0 0) w21 fun w22=>
 stM (p1.add 2) (.int .i64 0) w22 fun w23=>
 cB_ w23 p1 fun b24=>
 cS_ w23 (p1.add 1) fun s25a s25l s25c=>
 cI_ w23 (p1.add 2) fun n26=>
 K (.tuple #[.agg #[.bool b24,.slice s25a s25l s25c,.int .i64 n26],.int .i64 3]) w23)
 (cond (decide ((i64.wrap (q1+(i64.wrap n14)))>65536))
 (stM p1 (.bool false) w12 fun w27=>
 stM (p1.add 1) (.slice none 0 0) w27 fun w28=>
 stM (p1.add 2) (.int .i64 0) w28 fun w29=>
 cB_ w29 p1 fun b30=>
 cS_ w29 (p1.add 1) fun s31a s31l s31c=>
 cI_ w29 (p1.add 2) fun n32=>
 K (.tuple #[.agg #[.bool b30,.slice s31a s31l s31c,.int .i64 n32],.int .i64 3]) w29)
 (CallsX P N.f_bI_BitLen #[.pointer q0] w12 fun v34 w33=>
 ∃ n35,v34=(.int .i64 n35) ∧
 cond (decide ((i64.wrap (n35-(i64.wrap n14)))>16384))
 (stM p1 (.bool false) w33 fun w36=>
 stM (p1.add 1) (.slice none 0 0) w36 fun w37=>
 stM (p1.add 2) (.int .i64 0) w37 fun w38=>
 cB_ w38 p1 fun b39=>
 cS_ w38 (p1.add 1) fun s40a s40l s40c=>
 cI_ w38 (p1.add 2) fun n41=>
 K (.tuple #[.agg #[.bool b39,.slice s40a s40l s40c,.int .i64 n41],.int .i64 3]) w38)
 (CallsX P N.f_bI_Sign #[.pointer q0] w33 fun v43 w42=>
 ∃ n44,v43=(.int .i64 n44) ∧
 newM #[.bool false,.slice none 0 0] N.t_bn_Int w42 fun p45 w46=>
 newM #[.bool false,.slice none 0 0] N.t_bn_Int w46 fun p47 w48=>
 CallsX P N.f_bI_Abs #[.pointer (some p47),.pointer q0] w48 fun v50 w49=>
 ∃ p51:(OA),v50=(.pointer p51) ∧
 CallsX P N.f_bI_Rsh #[.pointer (some p45),.pointer p51,.int .u64 (u64.wrap (i64.wrap n14))] w49 fun v53 w52=>
 ∃ p54:(OA),v53=(.pointer p54) ∧
 CallsX P N.f_dyad_limbs #[.pointer p54] w52 fun v56 w55=>
 vS_ v56 fun s57a s57l s57c=>
 stM p1 (.bool (decide (n44<0))) w55 fun w58=>
 stM (p1.add 1) (.slice s57a s57l s57c) w58 fun w59=>
 stM (p1.add 2) (.int .i64 (i64.wrap (q1+(i64.wrap n14)))) w59 fun w60=>
 cB_ w60 p1 fun b61=>
 cS_ w60 (p1.add 1) fun s62a s62l s62c=>
 cI_ w60 (p1.add 2) fun n63=>
 K (.tuple #[.agg #[.bool b61,.slice s62a s62l s62c,.int .i64 n63],.int .i64 0]) w60)))))
def S_bn_NewInt (N:Nums) (P:Program) (q0:Int) (w:World) (K:KV):Prop:=
 newM #[.bool false,.slice none 0 0] N.t_bn_Int w fun p1 w2=>
 CallsX P N.f_bI_SetInt64 #[.pointer (some p1),.int .i64 q0] w2 fun v4 w3=>
 ∃ p5:(OA),v4=(.pointer p5) ∧
 K (.pointer p5) w3
def S_bits_Split (N:Nums) (P:Program) (q0:Nat) (w:World) (K:KV):Prop:=
 newM #[.bool false,.int .u64 0,.int .i64 0] N.t_Parts w fun p1 w2=>
 CallsX P N.f_bits_Kind #[.float .f64 q0] w2 fun v4 w3=>
 ∃ n5,v4=(.int .i64 n5) ∧
 cond (decide (n5>2))
 (stM p1 (.bool false) w3 fun w6=>
 stM (p1.add 1) (.int .u64 0) w6 fun w7=>
 stM (p1.add 2) (.int .i64 0) w7 fun w8=>
 cB_ w8 p1 fun b9=>
 cU_ w8 (p1.add 1) fun n10=>
 cI_ w8 (p1.add 2) fun n11=>
 K (.tuple #[.agg #[.bool b9,.int .u64 n10,.int .i64 n11],.bool false]) w8)
 (CallsX P N.f_math_Signbit #[.float .f64 q0] w3 fun v13 w12=>
 vB_ v13 fun b14=>
 newM #[.bool false,.int .u64 0,.int .i64 0] N.t_Parts w12 fun p15 w16=>
 stM p15 (.bool b14) w16 fun w17=>
 stM (p15.add 1) (.int .u64 0) w17 fun w18=>
 stM (p15.add 2) (.int .i64 0) w18 fun w19=>
 cond (feq q0 0)
 (cB_ w19 p15 fun b20=>
 cU_ w19 (p15.add 1) fun n21=>
 cI_ w19 (p15.add 2) fun n22=>
 stM p1 (.bool b20) w19 fun w23=>
 stM (p1.add 1) (.int .u64 n21) w23 fun w24=>
 stM (p1.add 2) (.int .i64 n22) w24 fun w25=>
 cB_ w25 p1 fun b26=>
 cU_ w25 (p1.add 1) fun n27=>
 cI_ w25 (p1.add 2) fun n28=>
 K (.tuple #[.agg #[.bool b26,.int .u64 n27,.int .i64 n28],.bool true]) w25)
 (CallsX P N.f_math_Abs #[.float .f64 q0] w19 fun v30 w29=>
 ∃ x31,v30=(.float .f64 x31) ∧
 CallsX P N.f_math_Frexp #[.float .f64 x31] w29 fun v33 w32=>
 ∃ x34,∃ n35,v33=(.tuple #[.float .f64 x34,.int .i64 n35]) ∧
 CallsX P N.f_math_Ldexp #[.float .f64 x34,.int .i64 53] w32 fun v37 w36=>
 ∃ x38,v37=(.float .f64 x38) ∧
 f2iM x38 .u64 w36 fun n39 w40=>
 stM (p15.add 1) (.int .u64 n39) w40 fun w41=>
 cU_ w41 (p15.add 1) fun n42=>
 CallsX P N.f_math_bits_TrailingZeros64 #[.int .u64 n42] w41 fun v44 w43=>
 ∃ n45,v44=(.int .i64 n45) ∧
 cU_ w43 (p15.add 1) fun n46=>
 (0:Int)≤n45 ∧
 stM (p15.add 1) (.int .u64 (n46.fdiv (2^(min n45.toNat u64.bits)))) w43 fun w47=>
 stM (p15.add 2) (.int .i64 (i64.wrap ((i64.wrap (n35-53))+n45))) w47 fun w48=>
 cB_ w48 p15 fun b49=>
 cU_ w48 (p15.add 1) fun n50=>
 cI_ w48 (p15.add 2) fun n51=>
 stM p1 (.bool b49) w48 fun w52=>
 stM (p1.add 1) (.int .u64 n50) w52 fun w53=>
 stM (p1.add 2) (.int .i64 n51) w53 fun w54=>
 cB_ w54 p1 fun b55=>
 cU_ w54 (p1.add 1) fun n56=>
 cI_ w54 (p1.add 2) fun n57=>
 K (.tuple #[.agg #[.bool b55,.int .u64 n56,.int .i64 n57],.bool true]) w54))
def S_dyad_both (N:Nums) (P:Program) (qa:Bool) (qb:OA) (qc qd:Nat) (qe:Int) (qk:Bool) (ql:OA) (qi qj:Nat) (qo:Int) (w:World) (K:KV):Prop:=
 newM #[.bool qa,.slice qb qc qd,.int .i64 qe] N.t_Dyad w fun p1 w2=>
 newM #[.bool qk,.slice ql qi qj,.int .i64 qo] N.t_Dyad w2 fun p3 w4=>
 cB_ w4 p1 fun b5=>
 cS_ w4 (p1.add 1) fun s6a s6l s6c=>
 cI_ w4 (p1.add 2) fun n7=>
 CallsX P N.f_dyad_Right #[.agg #[.bool b5,.slice s6a s6l s6c,.int .i64 n7]] w4 fun v9 w8=>
 vB_ v9 fun b10=>
 cond b10
 (cB_ w8 p3 fun b11=>
 cS_ w8 (p3.add 1) fun s12a s12l s12c=>
 cI_ w8 (p3.add 2) fun n13=>
 CallsX P N.f_dyad_Right #[.agg #[.bool b11,.slice s12a s12l s12c,.int .i64 n13]] w8 fun v15 w14=>
 vB_ v15 fun b16=>
 K (.bool b16) w14)
 (K (.bool false) w8)
def S_dyad_whole (N:Nums) (P:Program) (qa:Bool) (qb:OA) (qc qd:Nat) (qe:Int) (w:World) (K:KV):Prop:=
 newM #[.bool qa,.slice qb qc qd,.int .i64 qe] N.t_Dyad w fun p1 w2=>
 newM #[.bool false,.slice none 0 0] N.t_bn_Int w2 fun p3 w4=>
 cS_ w4 (p1.add 1) fun s5a s5l s5c=>
 cutM (σ:=Unit) (fun J6=>
 loopM (σ:=Int×Unit) (fun s9 X10 w11=>
 cond (decide (s9.1<(s5l:Int)))
 (CallsX P N.f_bI_Lsh #[.pointer (some p3),.pointer (some p3),.int .u64 64] w11 fun v13 w12=>
 ∃ p14:(OA),v13=(.pointer p14) ∧
 newM #[.bool false,.slice none 0 0] N.t_bn_Int w12 fun p15 w16=>
 cS_ w16 (p1.add 1) fun s17a s17l s17c=>
 cS_ w16 (p1.add 1) fun s18a s18l s18c=>
 (0:Int)≤(i64.wrap ((i64.wrap ((s18l:Int)-1))-s9.1))∧(i64.wrap ((i64.wrap ((s18l:Int)-1))-s9.1))<(s17l:Nat) ∧
 optM s17a fun a19=>
 ∃ n20,w16.cell? (a19.add ((i64.wrap ((i64.wrap ((s18l:Int)-1))-s9.1)).toNat*1))=some (.int .u64 n20) ∧
 CallsX P N.f_bI_SetUint64 #[.pointer (some p15),.int .u64 n20] w16 fun v22 w21=>
 ∃ p23:(OA),v22=(.pointer p23) ∧
 CallsX P N.f_bI_Or #[.pointer (some p3),.pointer (some p3),.pointer p23] w21 fun v25 w24=>
 ∃ p26:(OA),v25=(.pointer p26) ∧
 X10 ((i64.wrap (s9.1+1)),()) w24)
 (J6 (()) w11))
 (0,()) w4)
 (fun s7 w8=>
 cB_ w8 p1 fun b27=>
 cutM (σ:=Unit) (fun J28=>
 cond b27
 (CallsX P N.f_bI_Neg #[.pointer (some p3),.pointer (some p3)] w8 fun v32 w31=>
 ∃ p33:(OA),v32=(.pointer p33) ∧
 J28 (()) w31)
 (J28 (()) w8))
 (fun s29 w30=>
 K (.pointer (some p3)) w30))
def S_bI_Sign (N:Nums) (P:Program) (q0:OA) (w:World) (K:KV):Prop:=
 optM q0 fun a1=>
 cS_ w (a1.add 1) fun s2a s2l s2c=>
 cond ((s2l:Int)==0)
 (K (.int .i64 0) w)
 (optM q0 fun a3=>
 cB_ w a3 fun b4=>
 cond b4
 (K (.int .i64 (-1)) w)
 (K (.int .i64 1) w))
def S_bI_Add (N:Nums) (P:Program) (q0:OA) (q1:OA) (q2:OA) (w:World) (K:KV):Prop:=
 optM q1 fun a1=>
 cB_ w a1 fun b2=>
 optM q1 fun a3=>
 cS_ w (a3.add 1) fun s4a s4l s4c=>
 optM q2 fun a5=>
 cB_ w a5 fun b6=>
 optM q2 fun a7=>
 cS_ w (a7.add 1) fun s8a s8l s8c=>
 drM w fun w9=>
 CallsX P N.f_bn_sum #[.bool b2,.slice s4a s4l s4c,.bool b6,.slice s8a s8l s8c] w9 fun v11 w10=>
 ∃ b12,∃ s13a s13l s13c,v11=(.tuple #[.bool b12,.slice s13a s13l s13c]) ∧
 drM w10 fun w14=>
 CallsX P N.f_bI_give #[.pointer q0,.bool b12,.slice s13a s13l s13c] w14 fun v16 w15=>
 ∃ p17:(OA),v16=(.pointer p17) ∧
 drM w15 fun w18=>
 K (.pointer p17) w18
def S_bI_Lsh (N:Nums) (P:Program) (q0:OA) (q1:OA) (q2:Int) (w:World) (K:KV):Prop:=
 optM q1 fun a1=>
 cB_ w a1 fun b2=>
 optM q1 fun a3=>
 cS_ w (a3.add 1) fun s4a s4l s4c=>
 drM w fun w5=>
 CallsX P N.f_bn_left #[.slice s4a s4l s4c,.int .u64 q2] w5 fun v7 w6=>
 vS_ v7 fun s8a s8l s8c=>
 w6.cell? a1=some (.bool b2) ∧
 drM w6 fun w9=>
 CallsX P N.f_bI_give #[.pointer q0,.bool b2,.slice s8a s8l s8c] w9 fun v11 w10=>
 ∃ p12:(OA),v11=(.pointer p12) ∧
 drM w10 fun w13=>
 K (.pointer p12) w13
def S_dyad_Right (N:Nums) (P:Program) (qa:Bool) (qb:OA) (qc qd:Nat) (qe:Int) (w:World) (K:KV):Prop:=
 newM #[.bool qa,.slice qb qc qd,.int .i64 qe] N.t_Dyad w fun p1 w2=>
 cS_ w2 (p1.add 1) fun s3a s3l s3c=>
 cond ((s3l:Int)==0)
 (cB_ w2 p1 fun b4=>
 cond (!b4)
 (cI_ w2 (p1.add 2) fun n5=>
 K (.bool (n5==0)) w2)
 (K (.bool false) w2))
 (cond (decide ((s3l:Int)≤256))
 (cS_ w2 (p1.add 1) fun s6a s6l s6c=>
 (0:Int)≤(i64.wrap ((s3l:Int)-1))∧(i64.wrap ((s3l:Int)-1))<(s6l:Nat) ∧
 optM s6a fun a7=>
 ∃ n8,w2.cell? (a7.add ((i64.wrap ((s3l:Int)-1)).toNat*1))=some (.int .u64 n8) ∧
 cond (n8 != 0)
 (cS_ w2 (p1.add 1) fun s9a s9l s9c=>
 (0:Int)≤(0:Int)∧(0:Int)<(s9l:Nat) ∧
 optM s9a fun a10=>
 cU_ w2 (a10.add ((0:Int).toNat*1)) fun n11=>
 cond ((u64.wrap (BitVec.ofInt u64.bits n11 &&& BitVec.ofInt u64.bits 1).toNat)==1)
 (cI_ w2 (p1.add 2) fun n12=>
 cond (decide (((-65536):Int)≤n12))
 (cI_ w2 (p1.add 2) fun n13=>
 K (.bool (decide (n13≤65536))) w2)
 (K (.bool false) w2))
 (K (.bool false) w2))
 (K (.bool false) w2))
 (K (.bool false) w2))
def S_dyad_Sign (N:Nums) (P:Program) (qa:Bool) (qb:OA) (qc qd:Nat) (qe:Int) (w:World) (K:KV):Prop:=
 newM #[.bool qa,.slice qb qc qd,.int .i64 qe] N.t_Dyad w fun p1 w2=>
 cB_ w2 p1 fun b3=>
 cS_ w2 (p1.add 1) fun s4a s4l s4c=>
 cI_ w2 (p1.add 2) fun n5=>
 CallsX P N.f_dyad_Right #[.agg #[.bool b3,.slice s4a s4l s4c,.int .i64 n5]] w2 fun v7 w6=>
 vB_ v7 fun b8=>
 cond (!b8)
 (K (.tuple #[.int .i64 0,.int .i64 2]) w6)
 (cS_ w6 (p1.add 1) fun s9a s9l s9c=>
 cond ((s9l:Int)==0)
 (K (.tuple #[.int .i64 0,.int .i64 0]) w6)
 (cB_ w6 p1 fun b10=>
 cond b10
 (K (.tuple #[.int .i64 (-1),.int .i64 0]) w6)
 (K (.tuple #[.int .i64 1,.int .i64 0]) w6)))
def S_dyad_top (N:Nums) (P:Program) (qa:Bool) (qb:OA) (qc qd:Nat) (qe:Int) (w:World) (K:KV):Prop:=
 newM #[.bool qa,.slice qb qc qd,.int .i64 qe] N.t_Dyad w fun p1 w2=>
 cS_ w2 (p1.add 1) fun s3a s3l s3c=>
 cI_ w2 (p1.add 2) fun n4=>
 cS_ w2 (p1.add 1) fun s5a s5l s5c=>
 (0:Int)≤(i64.wrap ((s3l:Int)-1))∧(i64.wrap ((s3l:Int)-1))<(s5l:Nat) ∧
 optM s5a fun a6=>
 ∃ n7,w2.cell? (a6.add ((i64.wrap ((s3l:Int)-1)).toNat*1))=some (.int .u64 n7) ∧
 drM w2 fun w8=>
 CallsX P N.f_math_bits_Len64 #[.int .u64 n7] w8 fun v10 w9=>
 ∃ n11,v10=(.int .i64 n11) ∧
 w9.cell? (p1.add 2)=some (.int .i64 n4) ∧
 drM w9 fun w12=>
 K (.int .i64 (i64.wrap ((i64.wrap (n4+(i64.wrap (64*(i64.wrap ((s3l:Int)-1))))))+n11))) w12
def S_bI_Cmp (N:Nums) (P:Program) (q0:OA) (q1:OA) (w:World) (K:KV):Prop:=
 optM q0 fun a1=>
 cB_ w a1 fun b2=>
 optM q1 fun a3=>
 cB_ w a3 fun b4=>
 drM w fun w5=>
 cond (!(b2==b4))
 (optM q0 fun a6=>
 cB_ w5 a6 fun b7=>
 cond b7
 (K (.int .i64 (-1)) w5)
 (K (.int .i64 1) w5))
 (optM q0 fun a8=>
 cS_ w5 (a8.add 1) fun s9a s9l s9c=>
 optM q1 fun a10=>
 cS_ w5 (a10.add 1) fun s11a s11l s11c=>
 drM w5 fun w12=>
 CallsX P N.f_bn_cmp #[.slice s9a s9l s9c,.slice s11a s11l s11c] w12 fun v14 w13=>
 ∃ n15,v14=(.int .i64 n15) ∧
 drM w13 fun w16=>
 optM q0 fun a17=>
 cB_ w16 a17 fun b18=>
 cond b18
 (K (.int .i64 (i64.wrap (0-n15))) w16)
 (K (.int .i64 n15) w16))
def S_lower_Times (N:Nums) (P:Program) (qa:Int) (qb:OA) (qc qd:Nat) (qe:OA) (qf qg:Nat) (w:World) (K:KV):Prop:=
 newM #[.int .i64 qa,.slice qb qc qd,.slice qe qf qg] N.t_Factor w fun p1 w2=>
 newM #[.int .i64 0,.int .i64 0,.slice none 0 0] N.t_Matrix w2 fun p3 w4=>
 cI_ w4 p1 fun n5=>
 cS_ w4 (p1.add 1) fun s6a s6l s6c=>
 cS_ w4 (p1.add 2) fun s7a s7l s7c=>
 CallsX P N.f_lower_Right #[.agg #[.int .i64 n5,.slice s6a s6l s6c,.slice s7a s7l s7c]] w4 fun v9 w8=>
 vB_ v9 fun b10=>
 cond (!b10)
 (stM p3 (.int .i64 0) w8 fun w11=>
 stM (p3.add 1) (.int .i64 0) w11 fun w12=>
 stM (p3.add 2) (.slice none 0 0) w12 fun w13=>
 cI_ w13 p3 fun n14=>
 cI_ w13 (p3.add 1) fun n15=>
 cS_ w13 (p3.add 2) fun s16a s16l s16c=>
 K (.tuple #[.agg #[.int .i64 n14,.int .i64 n15,.slice s16a s16l s16c],.int .i64 4]) w13)
 (cI_ w8 p1 fun n17=>
 CallsX P N.f_matrix_Make #[.int .i64 n17,.int .i64 n17] w8 fun v19 w18=>
 ∃ n20,∃ n21,∃ s22a s22l s22c,∃ n23,v19=(.tuple #[.agg #[.int .i64 n20,.int .i64 n21,.slice s22a s22l s22c],.int .i64 n23]) ∧
 newM #[.int .i64 0,.int .i64 0,.slice none 0 0] N.t_Matrix w18 fun p24 w25=>
 stM p24 (.int .i64 n20) w25 fun w26=>
 stM (p24.add 1) (.int .i64 n21) w26 fun w27=>
 stM (p24.add 2) (.slice s22a s22l s22c) w27 fun w28=>
 cutM (σ:=Unit) (fun J29=>
 loopM (σ:=Int×Unit) (fun s32 X33 w34=>
 cond (decide (s32.1<n17))
 (cS_ w34 (p1.add 1) fun s35a s35l s35c=>
 CallsX P N.f_lower_row #[.slice s35a s35l s35c,.int .i64 s32.1] w34 fun v37 w36=>
 vS_ v37 fun s38a s38l s38c=>
 newM #[.float .f64 4607182418800017408] N.t_float64 w36 fun p39 w40=>
 appM N.t_float64 1 8 #[.float .f64 0] s38a s38l s38c (some p39) 1 w40 fun s41a s41l s41c w42=>
 cutM (σ:=Unit) (fun J43=>
 loopM (σ:=Int×Unit) (fun s46 X47 w48=>
 cond (decide (s46.1<(i64.wrap (s32.1+1))))
 (cS_ w48 (p1.add 1) fun s49a s49l s49c=>
 CallsX P N.f_lower_row #[.slice s49a s49l s49c,.int .i64 s46.1] w48 fun v51 w50=>
 vS_ v51 fun s52a s52l s52c=>
 newM #[.float .f64 4607182418800017408] N.t_float64 w50 fun p53 w54=>
 appM N.t_float64 1 8 #[.float .f64 0] s52a s52l s52c (some p53) 1 w54 fun s55a s55l s55c w56=>
 cutM (σ:=Nat×Unit) (fun J57=>
 loopM (σ:=Nat×Int×Unit) (fun s60 X61 w62=>
 cond (decide (s60.2.1<(i64.wrap (s46.1+1))))
 ((0:Int)≤s60.2.1∧s60.2.1<(s41l:Nat) ∧
 optM s41a fun a63=>
 cF_ w62 (a63.add (s60.2.1.toNat*1)) fun x64=>
 cS_ w62 (p1.add 2) fun s65a s65l s65c=>
 (0:Int)≤s60.2.1∧s60.2.1<(s65l:Nat) ∧
 optM s65a fun a66=>
 cF_ w62 (a66.add (s60.2.1.toNat*1)) fun x67=>
 fresM (fmul x64 x67) w62 fun x68 w69=>
 drM w62 fun w70=>
 (0:Int)≤s60.2.1∧s60.2.1<(s55l:Nat) ∧
 optM s55a fun a71=>
 cF_ w70 (a71.add (s60.2.1.toNat*1)) fun x72=>
 fresM (fmul x68 x72) w70 fun x73 w74=>
 fresM (fadd s60.1 x73) w74 fun x75 w76=>
 X61 (x75,(i64.wrap (s60.2.1+1)),()) w76)
 (J57 (s60.1,()) w62))
 (0,0,()) w56)
 (fun s58 w59=>
 cS_ w59 (p24.add 2) fun s77a s77l s77c=>
 cS_ w59 (p24.add 2) fun s78a s78l s78c=>
 (0:Int)≤(i64.wrap ((i64.wrap (s32.1*n17))+s46.1))∧(i64.wrap ((i64.wrap (s32.1*n17))+s46.1))<(s77l:Nat) ∧
 optM s77a fun a79=>
 drM w59 fun w80=>
 stM (a79.add ((i64.wrap ((i64.wrap (s32.1*n17))+s46.1)).toNat*1)) (.float .f64 s58.1) w80 fun w81=>
 w81.cell? (p24.add 2)=some (.slice s78a s78l s78c) ∧
 (0:Int)≤(i64.wrap ((i64.wrap (s46.1*n17))+s32.1))∧(i64.wrap ((i64.wrap (s46.1*n17))+s32.1))<(s78l:Nat) ∧
 optM s78a fun a82=>
 drM w81 fun w83=>
 stM (a82.add ((i64.wrap ((i64.wrap (s46.1*n17))+s32.1)).toNat*1)) (.float .f64 s58.1) w83 fun w84=>
 drM w84 fun w85=>
 X47 ((i64.wrap (s46.1+1)),()) w85))
 (J43 (()) w48))
 (0,()) w42)
 (fun s44 w45=>
 X33 ((i64.wrap (s32.1+1)),()) w45))
 (J29 (()) w34))
 (0,()) w28)
 (fun s30 w31=>
 cI_ w31 p24 fun n86=>
 cI_ w31 (p24.add 1) fun n87=>
 cS_ w31 (p24.add 2) fun s88a s88l s88c=>
 stM p3 (.int .i64 n86) w31 fun w89=>
 stM (p3.add 1) (.int .i64 n87) w89 fun w90=>
 stM (p3.add 2) (.slice s88a s88l s88c) w90 fun w91=>
 cI_ w91 p3 fun n92=>
 cI_ w91 (p3.add 1) fun n93=>
 cS_ w91 (p3.add 2) fun s94a s94l s94c=>
 K (.tuple #[.agg #[.int .i64 n92,.int .i64 n93,.slice s94a s94l s94c],.int .i64 0]) w91))
def S_k_SameFactor (N:Nums) (P:Program) (qa:Int) (qb:OA) (qc qd:Nat) (qe:OA) (qf qg:Nat) (qk:Int) (ql:OA) (qi qj:Nat) (qo:OA) (qt qu:Nat) (w:World) (K:KV):Prop:=
 newM #[.int .i64 qa,.slice qb qc qd,.slice qe qf qg] N.t_Factor w fun p1 w2=>
 newM #[.int .i64 qk,.slice ql qi qj,.slice qo qt qu] N.t_Factor w2 fun p3 w4=>
 cI_ w4 p1 fun n5=>
 cI_ w4 p3 fun n6=>
 cond (n5==n6)
 (cS_ w4 (p1.add 1) fun s7a s7l s7c=>
 cS_ w4 (p3.add 1) fun s8a s8l s8c=>
 CallsX P N.f_k_SameReals #[.slice s7a s7l s7c,.slice s8a s8l s8c] w4 fun v10 w9=>
 vB_ v10 fun b11=>
 cond b11
 (cS_ w9 (p1.add 2) fun s12a s12l s12c=>
 cS_ w9 (p3.add 2) fun s13a s13l s13c=>
 CallsX P N.f_k_SameReals #[.slice s12a s12l s12c,.slice s13a s13l s13c] w9 fun v15 w14=>
 vB_ v15 fun b16=>
 K (.bool b16) w14)
 (K (.bool false) w9))
 (K (.bool false) w4)
def S_k_SameMatrix (N:Nums) (P:Program) (qa:Int) (qb:Int) (qe:OA) (qf qg:Nat) (qk:Int) (ql:Int) (qo:OA) (qt qu:Nat) (w:World) (K:KV):Prop:=
 newM #[.int .i64 qa,.int .i64 qb,.slice qe qf qg] N.t_Matrix w fun p1 w2=>
 newM #[.int .i64 qk,.int .i64 ql,.slice qo qt qu] N.t_Matrix w2 fun p3 w4=>
 cI_ w4 p1 fun n5=>
 cI_ w4 p3 fun n6=>
 cond (n5==n6)
 (cI_ w4 (p1.add 1) fun n7=>
 cI_ w4 (p3.add 1) fun n8=>
 cond (n7==n8)
 (cS_ w4 (p1.add 2) fun s9a s9l s9c=>
 cS_ w4 (p3.add 2) fun s10a s10l s10c=>
 CallsX P N.f_k_SameReals #[.slice s9a s9l s9c,.slice s10a s10l s10c] w4 fun v12 w11=>
 vB_ v12 fun b13=>
 K (.bool b13) w11)
 (K (.bool false) w4))
 (K (.bool false) w4)
def S_w12_mirrored (N:Nums) (P:Program) (qa:Int) (qb:Int) (qe:OA) (qf qg:Nat) (w:World) (K:KV):Prop:=
 newM #[.int .i64 qa,.int .i64 qb,.slice qe qf qg] N.t_Matrix w fun p1 w2=>
 newM #[.int .i64 0,.int .i64 0,.slice none 0 0] N.t_Matrix w2 fun p3 w4=>
 cutM (σ:=Int×Unit) (fun J5=>
 loopM (σ:=Int×Unit) (fun s8 X9 w10=>
 cond (decide (s8.1<48))
 (cS_ w10 (p1.add 2) fun s11a s11l s11c=>
 cond (decide ((i64.wrap ((i64.wrap (s8.1+1))*(i64.wrap (s8.1+1))))≤(s11l:Int)))
 (cI_ w10 p1 fun n12=>
 cond (decide (s8.1<n12))
 (X9 ((i64.wrap (s8.1+1)),()) w10)
 (J5 (s8.1,()) w10))
 (J5 (s8.1,()) w10))
 (J5 (s8.1,()) w10))
 (0,()) w4)
 (fun s6 w7=>
 mkM N.t_float64 1 8 #[.float .f64 0] (i64.wrap (s6.1*s6.1)) (i64.wrap (s6.1*s6.1)) w7 fun p13 w14=>
 newM #[.int .i64 0,.int .i64 0,.slice none 0 0] N.t_Matrix w14 fun p15 w16=>
 stM p15 (.int .i64 s6.1) w16 fun w17=>
 stM (p15.add 1) (.int .i64 s6.1) w17 fun w18=>
 stM (p15.add 2) (.slice (some p13) ((i64.wrap (s6.1*s6.1)).toNat) ((i64.wrap (s6.1*s6.1)).toNat)) w18 fun w19=>
 cutM (σ:=Unit) (fun J20=>
 loopM (σ:=Int×Unit) (fun s23 X24 w25=>
 cond (decide (s23.1<s6.1))
 (cutM (σ:=Unit) (fun J26=>
 loopM (σ:=Int×Unit) (fun s29 X30 w31=>
 cond (decide (s29.1≤s23.1))
 (cS_ w31 (p15.add 2) fun s32a s32l s32c=>
 cS_ w31 (p1.add 2) fun s33a s33l s33c=>
 (0:Int)≤(i64.wrap ((i64.wrap (s23.1*s6.1))+s29.1))∧(i64.wrap ((i64.wrap (s23.1*s6.1))+s29.1))<(s33l:Nat) ∧
 optM s33a fun a34=>
 ∃ x35,w31.cell? (a34.add ((i64.wrap ((i64.wrap (s23.1*s6.1))+s29.1)).toNat*1))=some (.float .f64 x35) ∧
 (0:Int)≤(i64.wrap ((i64.wrap (s23.1*s6.1))+s29.1))∧(i64.wrap ((i64.wrap (s23.1*s6.1))+s29.1))<(s32l:Nat) ∧
 optM s32a fun a36=>
 drM w31 fun w37=>
 stM (a36.add ((i64.wrap ((i64.wrap (s23.1*s6.1))+s29.1)).toNat*1)) (.float .f64 x35) w37 fun w38=>
 drM w38 fun w39=>
 cS_ w39 (p15.add 2) fun s40a s40l s40c=>
 cS_ w39 (p1.add 2) fun s41a s41l s41c=>
 (0:Int)≤(i64.wrap ((i64.wrap (s23.1*s6.1))+s29.1))∧(i64.wrap ((i64.wrap (s23.1*s6.1))+s29.1))<(s41l:Nat) ∧
 optM s41a fun a42=>
 ∃ x43,w39.cell? (a42.add ((i64.wrap ((i64.wrap (s23.1*s6.1))+s29.1)).toNat*1))=some (.float .f64 x43) ∧
 (0:Int)≤(i64.wrap ((i64.wrap (s29.1*s6.1))+s23.1))∧(i64.wrap ((i64.wrap (s29.1*s6.1))+s23.1))<(s40l:Nat) ∧
 optM s40a fun a44=>
 drM w39 fun w45=>
 stM (a44.add ((i64.wrap ((i64.wrap (s29.1*s6.1))+s23.1)).toNat*1)) (.float .f64 x43) w45 fun w46=>
 drM w46 fun w47=>
 X30 ((i64.wrap (s29.1+1)),()) w47)
 (J26 (()) w31))
 (0,()) w25)
 (fun s27 w28=>
 X24 ((i64.wrap (s23.1+1)),()) w28))
 (J20 (()) w25))
 (0,()) w19)
 (fun s21 w22=>
 cI_ w22 p15 fun n48=>
 cI_ w22 (p15.add 1) fun n49=>
 cS_ w22 (p15.add 2) fun s50a s50l s50c=>
 stM p3 (.int .i64 n48) w22 fun w51=>
 stM (p3.add 1) (.int .i64 n49) w51 fun w52=>
 stM (p3.add 2) (.slice s50a s50l s50c) w52 fun w53=>
 cI_ w53 p3 fun n54=>
 cI_ w53 (p3.add 1) fun n55=>
 cS_ w53 (p3.add 2) fun s56a s56l s56c=>
 K (.agg #[.int .i64 n54,.int .i64 n55,.slice s56a s56l s56c]) w53))
def S_matrix_Symmetric (N:Nums) (P:Program) (qa:Int) (qb:Int) (qe:OA) (qf qg:Nat) (w:World) (K:KV):Prop:=
 newM #[.int .i64 qa,.int .i64 qb,.slice qe qf qg] N.t_Matrix w fun p1 w2=>
 cI_ w2 p1 fun n3=>
 cI_ w2 (p1.add 1) fun n4=>
 cS_ w2 (p1.add 2) fun s5a s5l s5c=>
 CallsX P N.f_matrix_Transpose #[.agg #[.int .i64 n3,.int .i64 n4,.slice s5a s5l s5c]] w2 fun v7 w6=>
 ∃ n8,∃ n9,∃ s10a s10l s10c,∃ n11,v7=(.tuple #[.agg #[.int .i64 n8,.int .i64 n9,.slice s10a s10l s10c],.int .i64 n11]) ∧
 newM #[.int .i64 0,.int .i64 0,.slice none 0 0] N.t_Matrix w6 fun p12 w13=>
 stM p12 (.int .i64 n8) w13 fun w14=>
 stM (p12.add 1) (.int .i64 n9) w14 fun w15=>
 stM (p12.add 2) (.slice s10a s10l s10c) w15 fun w16=>
 cond (n11==0)
 (cI_ w16 p12 fun n17=>
 cI_ w16 (p12.add 1) fun n18=>
 cS_ w16 (p12.add 2) fun s19a s19l s19c=>
 cI_ w16 p1 fun n20=>
 cI_ w16 (p1.add 1) fun n21=>
 cS_ w16 (p1.add 2) fun s22a s22l s22c=>
 CallsX P N.f_matrix_Same #[.agg #[.int .i64 n17,.int .i64 n18,.slice s19a s19l s19c],.agg #[.int .i64 n20,.int .i64 n21,.slice s22a s22l s22c]] w16 fun v24 w23=>
 vB_ v24 fun b25=>
 K (.bool b25) w23)
 (K (.bool false) w16)
def S_lower_finite (N:Nums) (P:Program) (q0:Nat) (w:World) (K:KV):Prop:=
 CallsX P N.f_math_IsNaN #[.float .f64 q0] w fun v2 w1=>
 vB_ v2 fun b3=>
 cond (!b3)
 (CallsX P N.f_math_IsInf #[.float .f64 q0,.int .i64 0] w1 fun v5 w4=>
 vB_ v5 fun b6=>
 K (.bool (!b6)) w4)
 (K (.bool false) w1)
def S_lower_row (N:Nums) (P:Program) (q0:OA) (qm qs:Nat) (q1:Int) (w:World) (K:KV):Prop:=
 (2:Int)≠0 ∧
 (0:Int)≤(i64.wrap ((i64.wrap ((i64.wrap (q1*(i64.wrap (q1-1)))).tdiv 2))+q1))∧(i64.wrap ((i64.wrap ((i64.wrap (q1*(i64.wrap (q1-1)))).tdiv 2))+q1))≤(qs:Nat)∧(0:Int)≤(i64.wrap ((i64.wrap ((i64.wrap (q1*(i64.wrap (q1-1)))).tdiv 2))+q1))∧(i64.wrap ((i64.wrap ((i64.wrap (q1*(i64.wrap (q1-1)))).tdiv 2))+q1))≤(i64.wrap ((i64.wrap ((i64.wrap (q1*(i64.wrap (q1-1)))).tdiv 2))+q1))∧(0:Int)≤(i64.wrap ((i64.wrap (q1*(i64.wrap (q1-1)))).tdiv 2))∧(i64.wrap ((i64.wrap (q1*(i64.wrap (q1-1)))).tdiv 2))≤(i64.wrap ((i64.wrap ((i64.wrap (q1*(i64.wrap (q1-1)))).tdiv 2))+q1)) ∧
 K (.slice (slBase q0 ((i64.wrap ((i64.wrap (q1*(i64.wrap (q1-1)))).tdiv 2)).toNat) ((i64.wrap ((i64.wrap ((i64.wrap (q1*(i64.wrap (q1-1)))).tdiv 2))+q1)).toNat) 1) ((i64.wrap ((i64.wrap ((i64.wrap (q1*(i64.wrap (q1-1)))).tdiv 2))+q1)).toNat-(i64.wrap ((i64.wrap (q1*(i64.wrap (q1-1)))).tdiv 2)).toNat) ((i64.wrap ((i64.wrap ((i64.wrap (q1*(i64.wrap (q1-1)))).tdiv 2))+q1)).toNat-(i64.wrap ((i64.wrap (q1*(i64.wrap (q1-1)))).tdiv 2)).toNat)) w
def S_w12_product (N:Nums) (P:Program) (q0:Nat) (q1:Nat) (q2:Nat) (w:World) (K:KV):Prop:=
 newM #[.bool false,.slice none 0 0,.int .i64 0] N.t_Dyad w fun p1 w2=>
 CallsX P N.f_dyad_Of #[.float .f64 q0] w2 fun v4 w3=>
 ∃ b5,∃ s6a s6l s6c,∃ n7,∃ n8,v4=(.tuple #[.agg #[.bool b5,.slice s6a s6l s6c,.int .i64 n7],.int .i64 n8]) ∧
 newM #[.bool false,.slice none 0 0,.int .i64 0] N.t_Dyad w3 fun p9 w10=>
 stM p9 (.bool b5) w10 fun w11=>
 stM (p9.add 1) (.slice s6a s6l s6c) w11 fun w12=>
 stM (p9.add 2) (.int .i64 n7) w12 fun w13=>
 CallsX P N.f_dyad_Of #[.float .f64 q1] w13 fun v15 w14=>
 ∃ b16,∃ s17a s17l s17c,∃ n18,∃ n19,v15=(.tuple #[.agg #[.bool b16,.slice s17a s17l s17c,.int .i64 n18],.int .i64 n19]) ∧
 newM #[.bool false,.slice none 0 0,.int .i64 0] N.t_Dyad w14 fun p20 w21=>
 stM p20 (.bool b16) w21 fun w22=>
 stM (p20.add 1) (.slice s17a s17l s17c) w22 fun w23=>
 stM (p20.add 2) (.int .i64 n18) w23 fun w24=>
 CallsX P N.f_dyad_Of #[.float .f64 q2] w24 fun v26 w25=>
 ∃ b27,∃ s28a s28l s28c,∃ n29,∃ n30,v26=(.tuple #[.agg #[.bool b27,.slice s28a s28l s28c,.int .i64 n29],.int .i64 n30]) ∧
 newM #[.bool false,.slice none 0 0,.int .i64 0] N.t_Dyad w25 fun p31 w32=>
 stM p31 (.bool b27) w32 fun w33=>
 stM (p31.add 1) (.slice s28a s28l s28c) w33 fun w34=>
 stM (p31.add 2) (.int .i64 n29) w34 fun w35=>
 cutM (σ:=Bool×Unit) (fun J36=>
 cond (!(n8 != 0))
 (cond (!(n19 != 0))
 (J36 ((n30 != 0),()) w35)
 (J36 (true,()) w35))
 (J36 (true,()) w35))
 (fun s37 w38=>
 cond s37.1
 (cB_ w38 p9 fun b39=>
 cS_ w38 (p9.add 1) fun s40a s40l s40c=>
 cI_ w38 (p9.add 2) fun n41=>
 stM p1 (.bool b39) w38 fun w42=>
 stM (p1.add 1) (.slice s40a s40l s40c) w42 fun w43=>
 stM (p1.add 2) (.int .i64 n41) w43 fun w44=>
 cB_ w44 p1 fun b45=>
 cS_ w44 (p1.add 1) fun s46a s46l s46c=>
 cI_ w44 (p1.add 2) fun n47=>
 K (.tuple #[.agg #[.bool b45,.slice s46a s46l s46c,.int .i64 n47],.int .i64 5]) w44)
 (cB_ w38 p9 fun b48=>
 cS_ w38 (p9.add 1) fun s49a s49l s49c=>
 cI_ w38 (p9.add 2) fun n50=>
 cB_ w38 p20 fun b51=>
 cS_ w38 (p20.add 1) fun s52a s52l s52c=>
 cI_ w38 (p20.add 2) fun n53=>
 CallsX P N.f_dyad_Mul #[.agg #[.bool b48,.slice s49a s49l s49c,.int .i64 n50],.agg #[.bool b51,.slice s52a s52l s52c,.int .i64 n53]] w38 fun v55 w54=>
 ∃ b56,∃ s57a s57l s57c,∃ n58,∃ n59,v55=(.tuple #[.agg #[.bool b56,.slice s57a s57l s57c,.int .i64 n58],.int .i64 n59]) ∧
 stM p9 (.bool b56) w54 fun w60=>
 stM (p9.add 1) (.slice s57a s57l s57c) w60 fun w61=>
 stM (p9.add 2) (.int .i64 n58) w61 fun w62=>
 cond (n59 != 0)
 (cB_ w62 p9 fun b63=>
 cS_ w62 (p9.add 1) fun s64a s64l s64c=>
 cI_ w62 (p9.add 2) fun n65=>
 stM p1 (.bool b63) w62 fun w66=>
 stM (p1.add 1) (.slice s64a s64l s64c) w66 fun w67=>
 stM (p1.add 2) (.int .i64 n65) w67 fun w68=>
 cB_ w68 p1 fun b69=>
 cS_ w68 (p1.add 1) fun s70a s70l s70c=>
 cI_ w68 (p1.add 2) fun n71=>
 K (.tuple #[.agg #[.bool b69,.slice s70a s70l s70c,.int .i64 n71],.int .i64 n59]) w68)
 (cB_ w62 p9 fun b72=>
 cS_ w62 (p9.add 1) fun s73a s73l s73c=>
 cI_ w62 (p9.add 2) fun n74=>
 cB_ w62 p31 fun b75=>
 cS_ w62 (p31.add 1) fun s76a s76l s76c=>
 cI_ w62 (p31.add 2) fun n77=>
 CallsX P N.f_dyad_Mul #[.agg #[.bool b72,.slice s73a s73l s73c,.int .i64 n74],.agg #[.bool b75,.slice s76a s76l s76c,.int .i64 n77]] w62 fun v79 w78=>
 ∃ b80,∃ s81a s81l s81c,∃ n82,∃ n83,v79=(.tuple #[.agg #[.bool b80,.slice s81a s81l s81c,.int .i64 n82],.int .i64 n83]) ∧
 stM p1 (.bool b80) w78 fun w84=>
 stM (p1.add 1) (.slice s81a s81l s81c) w84 fun w85=>
 stM (p1.add 2) (.int .i64 n82) w85 fun w86=>
 cB_ w86 p1 fun b87=>
 cS_ w86 (p1.add 1) fun s88a s88l s88c=>
 cI_ w86 (p1.add 2) fun n89=>
 K (.tuple #[.agg #[.bool b87,.slice s88a s88l s88c,.int .i64 n89],.int .i64 n83]) w86)))
def S_w12_at (N:Nums) (P:Program) (qa:Int) (qb:OA) (qc qd:Nat) (qe:OA) (qf qg:Nat) (q1:Int) (q2:Int) (w:World) (K:KV):Prop:=
 newM #[.int .i64 qa,.slice qb qc qd,.slice qe qf qg] N.t_Factor w fun p1 w2=>
 cond (q1==q2)
 (K (.float .f64 4607182418800017408) w2)
 (cS_ w2 (p1.add 1) fun s3a s3l s3c=>
 (2:Int)≠0 ∧
 (0:Int)≤(i64.wrap ((i64.wrap ((i64.wrap (q1*(i64.wrap (q1-1)))).tdiv 2))+q2))∧(i64.wrap ((i64.wrap ((i64.wrap (q1*(i64.wrap (q1-1)))).tdiv 2))+q2))<(s3l:Nat) ∧
 optM s3a fun a4=>
 ∃ x5,w2.cell? (a4.add ((i64.wrap ((i64.wrap ((i64.wrap (q1*(i64.wrap (q1-1)))).tdiv 2))+q2)).toNat*1))=some (.float .f64 x5) ∧
 K (.float .f64 x5) w2)
def S_p_w12_sums_adds (N:Nums) (P:Program) (q0:OA) (qk:Bool) (ql:OA) (qi qj:Nat) (qo:Int) (q2:Int) (q3:Bool) (w:World) (K:KV):Prop:=
 newM #[.bool qk,.slice ql qi qj,.int .i64 qo] N.t_Dyad w fun p1 w2=>
 cutM (σ:=Bool×Unit) (fun J3=>
 cond (q2==0)
 (J3 (q3,()) w2)
 (J3 (false,()) w2))
 (fun s4 w5=>
 cutM (σ:=Int×Unit) (fun J6=>
 cond s4.1
 (cB_ w5 p1 fun b9=>
 cS_ w5 (p1.add 1) fun s10a s10l s10c=>
 cI_ w5 (p1.add 2) fun n11=>
 CallsX P N.f_dyad_Sign #[.agg #[.bool b9,.slice s10a s10l s10c,.int .i64 n11]] w5 fun v13 w12=>
 ∃ n14,∃ n15,v13=(.tuple #[.int .i64 n14,.int .i64 n15]) ∧
 cond (decide (n14<0))
 (cutM (σ:=Int×Unit) (fun J16=>
 cond (n15==0)
 (cB_ w12 p1 fun b19=>
 cS_ w12 (p1.add 1) fun s20a s20l s20c=>
 cI_ w12 (p1.add 2) fun n21=>
 CallsX P N.f_dyad_Neg #[.agg #[.bool b19,.slice s20a s20l s20c,.int .i64 n21]] w12 fun v23 w22=>
 ∃ b24,∃ s25a s25l s25c,∃ n26,∃ n27,v23=(.tuple #[.agg #[.bool b24,.slice s25a s25l s25c,.int .i64 n26],.int .i64 n27]) ∧
 stM p1 (.bool b24) w22 fun w28=>
 stM (p1.add 1) (.slice s25a s25l s25c) w28 fun w29=>
 stM (p1.add 2) (.int .i64 n26) w29 fun w30=>
 J16 (n27,()) w30)
 (J16 (n15,()) w12))
 (fun s17 w18=>
 J6 (s17.1,()) w18))
 (cutM (σ:=Int×Unit) (fun J31=>
 J31 (n15,()) w12)
 (fun s32 w33=>
 J6 (s32.1,()) w33)))
 (J6 (q2,()) w5))
 (fun s7 w8=>
 cutM (σ:=Int×Unit) (fun J34=>
 cond (s7.1==0)
 (optM q0 fun a37=>
 cB_ w8 a37 fun b38=>
 cS_ w8 (a37.add 1) fun s39a s39l s39c=>
 cI_ w8 (a37.add 2) fun n40=>
 cB_ w8 p1 fun b41=>
 cS_ w8 (p1.add 1) fun s42a s42l s42c=>
 cI_ w8 (p1.add 2) fun n43=>
 drM w8 fun w44=>
 CallsX P N.f_dyad_Add #[.agg #[.bool b38,.slice s39a s39l s39c,.int .i64 n40],.agg #[.bool b41,.slice s42a s42l s42c,.int .i64 n43]] w44 fun v46 w45=>
 ∃ b47,∃ s48a s48l s48c,∃ n49,∃ n50,v46=(.tuple #[.agg #[.bool b47,.slice s48a s48l s48c,.int .i64 n49],.int .i64 n50]) ∧
 drM w45 fun w51=>
 stM p1 (.bool b47) w51 fun w52=>
 stM (p1.add 1) (.slice s48a s48l s48c) w52 fun w53=>
 stM (p1.add 2) (.int .i64 n49) w53 fun w54=>
 drM w54 fun w55=>
 J34 (n50,()) w55)
 (J34 (s7.1,()) w8))
 (fun s35 w36=>
 cB_ w36 p1 fun b56=>
 cS_ w36 (p1.add 1) fun s57a s57l s57c=>
 cI_ w36 (p1.add 2) fun n58=>
 optM q0 fun a59=>
 stM a59 (.bool b56) w36 fun w60=>
 stM (a59.add 1) (.slice s57a s57l s57c) w60 fun w61=>
 stM (a59.add 2) (.int .i64 n58) w61 fun w62=>
 optM q0 fun a63=>
 cB_ w62 (a63.add 3) fun b64=>
 cond b64
 (optM q0 fun a65=>
 stM (a65.add 3) (.bool (s35.1==0)) w62 fun w66=>
 K (.tuple #[]) w66)
 (optM q0 fun a67=>
 stM (a67.add 3) (.bool false) w62 fun w68=>
 K (.tuple #[]) w68))))
def S_dyad_Mul (N:Nums) (P:Program) (qa:Bool) (qb:OA) (qc qd:Nat) (qe:Int) (qk:Bool) (ql:OA) (qi qj:Nat) (qo:Int) (w:World) (K:KV):Prop:=
 newM #[.bool qa,.slice qb qc qd,.int .i64 qe] N.t_Dyad w fun p1 w2=>
 newM #[.bool qk,.slice ql qi qj,.int .i64 qo] N.t_Dyad w2 fun p3 w4=>
 newM #[.bool false,.slice none 0 0,.int .i64 0] N.t_Dyad w4 fun p5 w6=>
 cB_ w6 p1 fun b7=>
 cS_ w6 (p1.add 1) fun s8a s8l s8c=>
 cI_ w6 (p1.add 2) fun n9=>
 cB_ w6 p3 fun b10=>
 cS_ w6 (p3.add 1) fun s11a s11l s11c=>
 cI_ w6 (p3.add 2) fun n12=>
 CallsX P N.f_dyad_both #[.agg #[.bool b7,.slice s8a s8l s8c,.int .i64 n9],.agg #[.bool b10,.slice s11a s11l s11c,.int .i64 n12]] w6 fun v14 w13=>
 vB_ v14 fun b15=>
 cond (!b15)
 (stM p5 (.bool false) w13 fun w16=>
 stM (p5.add 1) (.slice none 0 0) w16 fun w17=>
 stM (p5.add 2) (.int .i64 0) w17 fun w18=>
 cB_ w18 p5 fun b19=>
 cS_ w18 (p5.add 1) fun s20a s20l s20c=>
 cI_ w18 (p5.add 2) fun n21=>
 K (.tuple #[.agg #[.bool b19,.slice s20a s20l s20c,.int .i64 n21],.int .i64 2]) w18)
 (cB_ w13 p1 fun b22=>
 cS_ w13 (p1.add 1) fun s23a s23l s23c=>
 cI_ w13 (p1.add 2) fun n24=>
 CallsX P N.f_dyad_whole #[.agg #[.bool b22,.slice s23a s23l s23c,.int .i64 n24]] w13 fun v26 w25=>
 ∃ p27:(OA),v26=(.pointer p27) ∧
 cB_ w25 p3 fun b28=>
 cS_ w25 (p3.add 1) fun s29a s29l s29c=>
 cI_ w25 (p3.add 2) fun n30=>
 cI_ w25 (p1.add 2) fun n31=>
 cI_ w25 (p3.add 2) fun n32=>
 drM w25 fun w33=>
 CallsX P N.f_dyad_whole #[.agg #[.bool b28,.slice s29a s29l s29c,.int .i64 n30]] w33 fun v35 w34=>
 ∃ p36:(OA),v35=(.pointer p36) ∧
 w34.cell? (p3.add 2)=some (.int .i64 n32) ∧
 w34.cell? (p1.add 2)=some (.int .i64 n31) ∧
 drM w34 fun w37=>
 CallsX P N.f_bI_Mul #[.pointer p27,.pointer p27,.pointer p36] w37 fun v39 w38=>
 ∃ p40:(OA),v39=(.pointer p40) ∧
 w38.cell? (p3.add 2)=some (.int .i64 n32) ∧
 w38.cell? (p1.add 2)=some (.int .i64 n31) ∧
 drM w38 fun w41=>
 CallsX P N.f_dyad_made #[.pointer p40,.int .i64 (i64.wrap (n31+n32))] w41 fun v43 w42=>
 ∃ b44,∃ s45a s45l s45c,∃ n46,∃ n47,v43=(.tuple #[.agg #[.bool b44,.slice s45a s45l s45c,.int .i64 n46],.int .i64 n47]) ∧
 drM w42 fun w48=>
 stM p5 (.bool b44) w48 fun w49=>
 stM (p5.add 1) (.slice s45a s45l s45c) w49 fun w50=>
 stM (p5.add 2) (.int .i64 n46) w50 fun w51=>
 drM w51 fun w52=>
 cB_ w52 p5 fun b53=>
 cS_ w52 (p5.add 1) fun s54a s54l s54c=>
 cI_ w52 (p5.add 2) fun n55=>
 K (.tuple #[.agg #[.bool b53,.slice s54a s54l s54c,.int .i64 n55],.int .i64 n47]) w52)
def S_k_SameFloat (N:Nums) (P:Program) (q0:Nat) (q1:Nat) (w:World) (K:KV):Prop:=
 CallsX P N.f_math_Float64bits #[.float .f64 q0] w fun v2 w1=>
 ∃ n3,v2=(.int .u64 n3) ∧
 CallsX P N.f_math_Float64bits #[.float .f64 q1] w1 fun v5 w4=>
 ∃ n6,v5=(.int .u64 n6) ∧
 cond (!(n3==n6))
 (cond (!feq q0 q0)
 (K (.bool (!feq q1 q1)) w4)
 (K (.bool false) w4))
 (K (.bool true) w4)
def S_math_IsNaN (N:Nums) (P:Program) (q0:Nat) (w:World) (K:KV):Prop:=
 K (.bool (!feq q0 q0)) w
def S_bI_TrailingZeroBits (N:Nums) (P:Program) (q0:OA) (w:World) (K:KV):Prop:=
 optM q0 fun a1=>
 cS_ w (a1.add 1) fun s2a s2l s2c=>
 cond ((s2l:Int)==0)
 (K (.int .u64 0) w)
 (cutM (σ:=Int×Unit) (fun J3=>
 loopM (σ:=Int×Unit) (fun s6 X7 w8=>
 optM q0 fun a9=>
 cS_ w8 (a9.add 1) fun s10a s10l s10c=>
 CallsX P N.f_bn_bit #[.slice s10a s10l s10c,.int .i64 (i64.wrap s6.1)] w8 fun v12 w11=>
 ∃ n13,v12=(.int .u64 n13) ∧
 cond (n13==0)
 (X7 ((u64.wrap (s6.1+1)),()) w11)
 (J3 (s6.1,()) w11))
 (0,()) w)
 (fun s4 w5=>
 K (.int .u64 s4.1) w5))
def S_bI_BitLen (N:Nums) (P:Program) (q0:OA) (w:World) (K:KV):Prop:=
 optM q0 fun a1=>
 cS_ w (a1.add 1) fun s2a s2l s2c=>
 CallsX P N.f_bn_length #[.slice s2a s2l s2c] w fun v4 w3=>
 ∃ n5,v4=(.int .i64 n5) ∧
 K (.int .i64 n5) w3
def S_dyad_limbs (N:Nums) (P:Program) (q0:OA) (w:World) (K:KV):Prop:=
 newM #[.bool false,.slice none 0 0] N.t_bn_Int w fun p1 w2=>
 CallsX P N.f_bI_Abs #[.pointer (some p1),.pointer q0] w2 fun v4 w3=>
 ∃ p5:(OA),v4=(.pointer p5) ∧
 newM #[.bool false,.slice none 0 0] N.t_bn_Int w3 fun p6 w7=>
 newM #[.bool false,.slice none 0 0] N.t_bn_Int w7 fun p8 w9=>
 CallsX P N.f_bI_SetUint64 #[.pointer (some p8),.int .u64 18446744073709551615] w9 fun v11 w10=>
 ∃ p12:(OA),v11=(.pointer p12) ∧
 cutM (σ:=(OA×Nat×Nat)×Unit) (fun J13=>
 loopM (σ:=(OA×Nat×Nat)×Unit) (fun s16 X17 w18=>
 CallsX P N.f_bI_Sign #[.pointer p5] w18 fun v20 w19=>
 ∃ n21,v20=(.int .i64 n21) ∧
 cond (decide (n21>0))
 (CallsX P N.f_bI_And #[.pointer (some p6),.pointer p5,.pointer p12] w19 fun v23 w22=>
 ∃ p24:(OA),v23=(.pointer p24) ∧
 CallsX P N.f_bI_Uint64 #[.pointer p24] w22 fun v26 w25=>
 ∃ n27,v26=(.int .u64 n27) ∧
 newM #[.int .u64 n27] N.t_uint64 w25 fun p28 w29=>
 appM N.t_uint64 1 8 #[.int .u64 0] s16.1.1 s16.1.2.1 s16.1.2.2 (some p28) 1 w29 fun s30a s30l s30c w31=>
 CallsX P N.f_bI_Rsh #[.pointer p5,.pointer p5,.int .u64 64] w31 fun v33 w32=>
 ∃ p34:(OA),v33=(.pointer p34) ∧
 X17 ((s30a,s30l,s30c),()) w32)
 (J13 ((s16.1.1,s16.1.2.1,s16.1.2.2),()) w19))
 ((none,0,0),()) w10)
 (fun s14 w15=>
 K (.slice s14.1.1 s14.1.2.1 s14.1.2.2) w15)
def S_bI_Rsh (N:Nums) (P:Program) (q0:OA) (q1:OA) (q2:Int) (w:World) (K:KV):Prop:=
 optM q1 fun a1=>
 cB_ w a1 fun b2=>
 cond b2
 (optM q1 fun a3=>
 cS_ w (a3.add 1) fun s4a s4l s4c=>
 newM #[.int .u32 1] N.t_uint32 w fun p5 w6=>
 CallsX P N.f_bn_sub #[.slice s4a s4l s4c,.slice (some p5) 1 1] w6 fun v8 w7=>
 vS_ v8 fun s9a s9l s9c=>
 CallsX P N.f_bn_right #[.slice s9a s9l s9c,.int .u64 q2] w7 fun v11 w10=>
 vS_ v11 fun s12a s12l s12c=>
 newM #[.int .u32 1] N.t_uint32 w10 fun p13 w14=>
 CallsX P N.f_bn_add #[.slice s12a s12l s12c,.slice (some p13) 1 1] w14 fun v16 w15=>
 vS_ v16 fun s17a s17l s17c=>
 CallsX P N.f_bI_give #[.pointer q0,.bool true,.slice s17a s17l s17c] w15 fun v19 w18=>
 ∃ p20:(OA),v19=(.pointer p20) ∧
 K (.pointer p20) w18)
 (optM q1 fun a21=>
 cS_ w (a21.add 1) fun s22a s22l s22c=>
 CallsX P N.f_bn_right #[.slice s22a s22l s22c,.int .u64 q2] w fun v24 w23=>
 vS_ v24 fun s25a s25l s25c=>
 CallsX P N.f_bI_give #[.pointer q0,.bool false,.slice s25a s25l s25c] w23 fun v27 w26=>
 ∃ p28:(OA),v27=(.pointer p28) ∧
 K (.pointer p28) w26)
def S_bI_Abs (N:Nums) (P:Program) (q0:OA) (q1:OA) (w:World) (K:KV):Prop:=
 optM q1 fun a1=>
 cS_ w (a1.add 1) fun s2a s2l s2c=>
 CallsX P N.f_bn_twin #[.slice s2a s2l s2c] w fun v4 w3=>
 vS_ v4 fun s5a s5l s5c=>
 CallsX P N.f_bI_give #[.pointer q0,.bool false,.slice s5a s5l s5c] w3 fun v7 w6=>
 ∃ p8:(OA),v7=(.pointer p8) ∧
 K (.pointer p8) w6
def S_bI_SetInt64 (N:Nums) (P:Program) (q0:OA) (q1:Int) (w:World) (K:KV):Prop:=
 cutM (σ:=Int×Unit) (fun J1=>
 cond (decide (q1<0))
 (J1 ((u64.wrap (0-(u64.wrap q1))),()) w)
 (J1 ((u64.wrap q1),()) w))
 (fun s2 w3=>
 CallsX P N.f_bn_words #[.int .u64 s2.1] w3 fun v5 w4=>
 vS_ v5 fun s6a s6l s6c=>
 CallsX P N.f_bI_give #[.pointer q0,.bool (decide (q1<0)),.slice s6a s6l s6c] w4 fun v8 w7=>
 ∃ p9:(OA),v8=(.pointer p9) ∧
 K (.pointer p9) w7)
def S_bits_Kind (N:Nums) (P:Program) (q0:Nat) (w:World) (K:KV):Prop:=
 CallsX P N.f_math_Abs #[.float .f64 q0] w fun v2 w1=>
 ∃ x3,v2=(.float .f64 x3) ∧
 cond (!feq q0 q0)
 (K (.int .i64 4) w1)
 (CallsX P N.f_math_IsInf #[.float .f64 q0,.int .i64 0] w1 fun v5 w4=>
 vB_ v5 fun b6=>
 cond b6
 (K (.int .i64 3) w4)
 (cond (fgt x3 4503599627370496||feq x3 4503599627370496)
 (K (.int .i64 2) w4)
 (cond (fgt x3 0)
 (K (.int .i64 1) w4)
 (K (.int .i64 0) w4))))
def S_math_Frexp (N:Nums) (P:Program) (q0:Nat) (w:World) (K:KV):Prop:=
 CallsX P N.f_math_frexp #[.float .f64 q0] w fun v2 w1=>
 ∃ x3,∃ n4,v2=(.tuple #[.float .f64 x3,.int .i64 n4]) ∧
 K (.tuple #[.float .f64 x3,.int .i64 n4]) w1
def S_math_Ldexp (N:Nums) (P:Program) (q0:Nat) (q1:Int) (w:World) (K:KV):Prop:=
 CallsX P N.f_math_ldexp #[.float .f64 q0,.int .i64 q1] w fun v2 w1=>
 ∃ x3,v2=(.float .f64 x3) ∧
 K (.float .f64 x3) w1
def S_math_bits_TrailingZeros64 (N:Nums) (P:Program) (q0:Int) (w:World) (K:KV):Prop:=
 cond (q0==0)
 (K (.int .i64 64) w)
 ((0:Int)≤58 ∧
 (0:Int)≤((u64.wrap ((u64.wrap (BitVec.ofInt u64.bits q0 &&& BitVec.ofInt u64.bits (u64.wrap (0-q0))).toNat)*285870213051353865)).fdiv (2^(min (58:Int).toNat u64.bits)))∧((u64.wrap ((u64.wrap (BitVec.ofInt u64.bits q0 &&& BitVec.ofInt u64.bits (u64.wrap (0-q0))).toNat)*285870213051353865)).fdiv (2^(min (58:Int).toNat u64.bits)))<(64:Nat) ∧
 ∃ n1,w.cell? ((⟨N.g_1,0,none⟩:Addr).add (((u64.wrap ((u64.wrap (BitVec.ofInt u64.bits q0 &&& BitVec.ofInt u64.bits (u64.wrap (0-q0))).toNat)*285870213051353865)).fdiv (2^(min (58:Int).toNat u64.bits))).toNat*1))=some (.int .u8 n1) ∧
 K (.int .i64 (i64.wrap n1)) w)
def S_bI_Or (N:Nums) (P:Program) (q0:OA) (q1:OA) (q2:OA) (w:World) (K:KV):Prop:=
 optM q1 fun a1=>
 cS_ w (a1.add 1) fun s2a s2l s2c=>
 optM q2 fun a3=>
 cS_ w (a3.add 1) fun s4a s4l s4c=>
 drM w fun w5=>
 CallsX P N.f_bI_low #[.pointer q1,.int .i64 (i64.wrap ((if (s4l:Int)>(s2l:Int) then (s4l:Int) else (s2l:Int))+1))] w5 fun v7 w6=>
 vS_ v7 fun s8a s8l s8c=>
 CallsX P N.f_bI_low #[.pointer q2,.int .i64 (i64.wrap ((if (s4l:Int)>(s2l:Int) then (s4l:Int) else (s2l:Int))+1))] w6 fun v10 w9=>
 vS_ v10 fun s11a s11l s11c=>
 cutM (σ:=Unit) (fun J12=>
 loopM (σ:=Int×Unit) (fun s15 X16 w17=>
 cond (decide (s15.1<(i64.wrap ((if (s4l:Int)>(s2l:Int) then (s4l:Int) else (s2l:Int))+1))))
 ((0:Int)≤s15.1∧s15.1<(s8l:Nat) ∧
 optM s8a fun a18=>
 cW_ w17 (a18.add (s15.1.toNat*1)) fun n19=>
 (0:Int)≤s15.1∧s15.1<(s11l:Nat) ∧
 optM s11a fun a20=>
 cW_ w17 (a20.add (s15.1.toNat*1)) fun n21=>
 (0:Int)≤s15.1∧s15.1<(s8l:Nat) ∧
 optM s8a fun a22=>
 drM w17 fun w23=>
 stM (a22.add (s15.1.toNat*1)) (.int .u32 (u32.wrap (BitVec.ofInt u32.bits n19 ||| BitVec.ofInt u32.bits n21).toNat)) w23 fun w24=>
 drM w24 fun w25=>
 X16 ((i64.wrap (s15.1+1)),()) w25)
 (J12 (()) w17))
 (0,()) w9)
 (fun s13 w14=>
 CallsX P N.f_bI_of #[.pointer q0,.slice s8a s8l s8c] w14 fun v27 w26=>
 ∃ p28:(OA),v27=(.pointer p28) ∧
 K (.pointer p28) w26)
def S_bI_SetUint64 (N:Nums) (P:Program) (q0:OA) (q1:Int) (w:World) (K:KV):Prop:=
 CallsX P N.f_bn_words #[.int .u64 q1] w fun v2 w1=>
 vS_ v2 fun s3a s3l s3c=>
 CallsX P N.f_bI_give #[.pointer q0,.bool false,.slice s3a s3l s3c] w1 fun v5 w4=>
 ∃ p6:(OA),v5=(.pointer p6) ∧
 K (.pointer p6) w4
def S_bI_Neg (N:Nums) (P:Program) (q0:OA) (q1:OA) (w:World) (K:KV):Prop:=
 optM q1 fun a1=>
 cB_ w a1 fun b2=>
 optM q1 fun a3=>
 cS_ w (a3.add 1) fun s4a s4l s4c=>
 drM w fun w5=>
 CallsX P N.f_bn_twin #[.slice s4a s4l s4c] w5 fun v7 w6=>
 vS_ v7 fun s8a s8l s8c=>
 w6.cell? a1=some (.bool b2) ∧
 drM w6 fun w9=>
 CallsX P N.f_bI_give #[.pointer q0,.bool (!b2),.slice s8a s8l s8c] w9 fun v11 w10=>
 ∃ p12:(OA),v11=(.pointer p12) ∧
 drM w10 fun w13=>
 K (.pointer p12) w13
def S_bI_give (N:Nums) (P:Program) (q0:OA) (q1:Bool) (q2:OA) (vo gi:Nat) (w:World) (K:KV):Prop:=
 optM q0 fun a1=>
 stM (a1.add 1) (.slice q2 vo gi) w fun w2=>
 cond q1
 (optM q0 fun a3=>
 stM a3 (.bool (decide ((vo:Int)>0))) w2 fun w4=>
 K (.pointer q0) w4)
 (optM q0 fun a5=>
 stM a5 (.bool false) w2 fun w6=>
 K (.pointer q0) w6)
def S_bn_sum (N:Nums) (P:Program) (q0:Bool) (q1:OA) (qr qw:Nat) (q2:Bool) (q3:OA) (vm vx:Nat) (w:World) (K:KV):Prop:=
 cond (q0==q2)
 (CallsX P N.f_bn_add #[.slice q1 qr qw,.slice q3 vm vx] w fun v2 w1=>
 vS_ v2 fun s3a s3l s3c=>
 K (.tuple #[.bool q0,.slice s3a s3l s3c]) w1)
 (CallsX P N.f_bn_cmp #[.slice q1 qr qw,.slice q3 vm vx] w fun v5 w4=>
 ∃ n6,v5=(.int .i64 n6) ∧
 cond (decide (n6≥0))
 (CallsX P N.f_bn_sub #[.slice q1 qr qw,.slice q3 vm vx] w4 fun v8 w7=>
 vS_ v8 fun s9a s9l s9c=>
 K (.tuple #[.bool q0,.slice s9a s9l s9c]) w7)
 (CallsX P N.f_bn_sub #[.slice q3 vm vx,.slice q1 qr qw] w4 fun v11 w10=>
 vS_ v11 fun s12a s12l s12c=>
 K (.tuple #[.bool q2,.slice s12a s12l s12c]) w10))
def S_bn_left (N:Nums) (P:Program) (q0:OA) (qm qs:Nat) (q1:Int) (w:World) (K:KV):Prop:=
 cond ((qm:Int)==0)
 (K (.slice none 0 0) w)
 ((32:Int)≠0 ∧
 (32:Int)≠0 ∧
 mkM N.t_uint32 1 4 #[.int .u32 0] (i64.wrap ((i64.wrap ((qm:Int)+(i64.wrap (u64.wrap (q1.tdiv 32)))))+1)) (i64.wrap ((i64.wrap ((qm:Int)+(i64.wrap (u64.wrap (q1.tdiv 32)))))+1)) w fun p1 w2=>
 cutM (σ:=Unit) (fun J3=>
 loopM (σ:=Int×Unit) (fun s6 X7 w8=>
 cond (decide (s6.1<(qm:Int)))
 ((0:Int)≤s6.1∧s6.1<(qm:Nat) ∧
 optM q0 fun a9=>
 cW_ w8 (a9.add (s6.1.toNat*1)) fun n10=>
 (0:Int)≤(q1.tmod 32) ∧
 (0:Int)≤(i64.wrap (s6.1+(i64.wrap (u64.wrap (q1.tdiv 32)))))∧(i64.wrap (s6.1+(i64.wrap (u64.wrap (q1.tdiv 32)))))<((i64.wrap ((i64.wrap ((qm:Int)+(i64.wrap (u64.wrap (q1.tdiv 32)))))+1)).toNat:Nat) ∧
 ∃ n11,w8.cell? (p1.add ((i64.wrap (s6.1+(i64.wrap (u64.wrap (q1.tdiv 32))))).toNat*1))=some (.int .u32 n11) ∧
 (0:Int)≤(i64.wrap (s6.1+(i64.wrap (u64.wrap (q1.tdiv 32)))))∧(i64.wrap (s6.1+(i64.wrap (u64.wrap (q1.tdiv 32)))))<((i64.wrap ((i64.wrap ((qm:Int)+(i64.wrap (u64.wrap (q1.tdiv 32)))))+1)).toNat:Nat) ∧
 stM (p1.add ((i64.wrap (s6.1+(i64.wrap (u64.wrap (q1.tdiv 32))))).toNat*1)) (.int .u32 (u32.wrap (BitVec.ofInt u32.bits n11 ||| BitVec.ofInt u32.bits (u32.wrap (u64.wrap ((u64.wrap n10)*2^(min (q1.tmod 32).toNat u64.bits))))).toNat)) w8 fun w12=>
 (0:Int)≤(i64.wrap ((i64.wrap (s6.1+(i64.wrap (u64.wrap (q1.tdiv 32)))))+1))∧(i64.wrap ((i64.wrap (s6.1+(i64.wrap (u64.wrap (q1.tdiv 32)))))+1))<((i64.wrap ((i64.wrap ((qm:Int)+(i64.wrap (u64.wrap (q1.tdiv 32)))))+1)).toNat:Nat) ∧
 ∃ n13,w12.cell? (p1.add ((i64.wrap ((i64.wrap (s6.1+(i64.wrap (u64.wrap (q1.tdiv 32)))))+1)).toNat*1))=some (.int .u32 n13) ∧
 (0:Int)≤32 ∧
 (0:Int)≤(i64.wrap ((i64.wrap (s6.1+(i64.wrap (u64.wrap (q1.tdiv 32)))))+1))∧(i64.wrap ((i64.wrap (s6.1+(i64.wrap (u64.wrap (q1.tdiv 32)))))+1))<((i64.wrap ((i64.wrap ((qm:Int)+(i64.wrap (u64.wrap (q1.tdiv 32)))))+1)).toNat:Nat) ∧
 stM (p1.add ((i64.wrap ((i64.wrap (s6.1+(i64.wrap (u64.wrap (q1.tdiv 32)))))+1)).toNat*1)) (.int .u32 (u32.wrap (BitVec.ofInt u32.bits n13 ||| BitVec.ofInt u32.bits (u32.wrap ((u64.wrap ((u64.wrap n10)*2^(min (q1.tmod 32).toNat u64.bits))).fdiv (2^(min (32:Int).toNat u64.bits))))).toNat)) w12 fun w14=>
 X7 ((i64.wrap (s6.1+1)),()) w14)
 (J3 (()) w8))
 (0,()) w2)
 (fun s4 w5=>
 CallsX P N.f_bn_trim #[.slice (some p1) ((i64.wrap ((i64.wrap ((qm:Int)+(i64.wrap (u64.wrap (q1.tdiv 32)))))+1)).toNat) ((i64.wrap ((i64.wrap ((qm:Int)+(i64.wrap (u64.wrap (q1.tdiv 32)))))+1)).toNat)] w5 fun v16 w15=>
 vS_ v16 fun s17a s17l s17c=>
 K (.slice s17a s17l s17c) w15))
def S_bn_cmp (N:Nums) (P:Program) (q0:OA) (qm qs:Nat) (q1:OA) (qr qw:Nat) (w:World) (K:KV):Prop:=
 cond ((qm:Int) != (qr:Int))
 (cond (decide ((qm:Int)<(qr:Int)))
 (K (.int .i64 (-1)) w)
 (K (.int .i64 1) w))
 (cutM (σ:=Unit) (fun J1=>
 loopM (σ:=Int×Unit) (fun s4 X5 w6=>
 cond (decide (s4.1≥0))
 ((0:Int)≤s4.1∧s4.1<(qm:Nat) ∧
 optM q0 fun a7=>
 cW_ w6 (a7.add (s4.1.toNat*1)) fun n8=>
 (0:Int)≤s4.1∧s4.1<(qr:Nat) ∧
 optM q1 fun a9=>
 cW_ w6 (a9.add (s4.1.toNat*1)) fun n10=>
 drM w6 fun w11=>
 cond (n8 != n10)
 ((0:Int)≤s4.1∧s4.1<(qm:Nat) ∧
 optM q0 fun a12=>
 cW_ w11 (a12.add (s4.1.toNat*1)) fun n13=>
 (0:Int)≤s4.1∧s4.1<(qr:Nat) ∧
 optM q1 fun a14=>
 cW_ w11 (a14.add (s4.1.toNat*1)) fun n15=>
 drM w11 fun w16=>
 cond (decide (n13<n15))
 (K (.int .i64 (-1)) w16)
 (K (.int .i64 1) w16))
 (X5 ((i64.wrap (s4.1-1)),()) w11))
 (J1 (()) w6))
 ((i64.wrap ((qm:Int)-1)),()) w)
 (fun s2 w3=>
 K (.int .i64 0) w3))
def S_matrix_Make (N:Nums) (P:Program) (q0:Int) (q1:Int) (w:World) (K:KV):Prop:=
 newM #[.int .i64 0,.int .i64 0,.slice none 0 0] N.t_Matrix w fun p1 w2=>
 CallsX P N.f_matrix_fits #[.int .i64 q0] w2 fun v4 w3=>
 vB_ v4 fun b5=>
 cond (!(!b5))
 (CallsX P N.f_matrix_fits #[.int .i64 q1] w3 fun v7 w6=>
 vB_ v7 fun b8=>
 cond (!b8)
 (stM p1 (.int .i64 0) w6 fun w9=>
 stM (p1.add 1) (.int .i64 0) w9 fun w10=>
 stM (p1.add 2) (.slice none 0 0) w10 fun w11=>
 cI_ w11 p1 fun n12=>
 cI_ w11 (p1.add 1) fun n13=>
 cS_ w11 (p1.add 2) fun s14a s14l s14c=>
 K (.tuple #[.agg #[.int .i64 n12,.int .i64 n13,.slice s14a s14l s14c],.int .i64 2]) w11)
 (CallsX P N.f_matrix_laid #[.int .i64 q0,.int .i64 q1,.func (.func N.f_matrix_Make_1) #[] #[]] w6 fun v16 w15=>
 ∃ n17,∃ n18,∃ s19a s19l s19c,v16=(.agg #[.int .i64 n17,.int .i64 n18,.slice s19a s19l s19c]) ∧
 stM p1 (.int .i64 n17) w15 fun w20=>
 stM (p1.add 1) (.int .i64 n18) w20 fun w21=>
 stM (p1.add 2) (.slice s19a s19l s19c) w21 fun w22=>
 cI_ w22 p1 fun n23=>
 cI_ w22 (p1.add 1) fun n24=>
 cS_ w22 (p1.add 2) fun s25a s25l s25c=>
 K (.tuple #[.agg #[.int .i64 n23,.int .i64 n24,.slice s25a s25l s25c],.int .i64 0]) w22))
 (stM p1 (.int .i64 0) w3 fun w26=>
 stM (p1.add 1) (.int .i64 0) w26 fun w27=>
 stM (p1.add 2) (.slice none 0 0) w27 fun w28=>
 cI_ w28 p1 fun n29=>
 cI_ w28 (p1.add 1) fun n30=>
 cS_ w28 (p1.add 2) fun s31a s31l s31c=>
 K (.tuple #[.agg #[.int .i64 n29,.int .i64 n30,.slice s31a s31l s31c],.int .i64 2]) w28)
def S_matrix_Transpose (N:Nums) (P:Program) (qa:Int) (qb:Int) (qe:OA) (qf qg:Nat) (w:World) (K:KV):Prop:=
 newM #[.int .i64 qa,.int .i64 qb,.slice qe qf qg] N.t_Matrix w fun p1 w2=>
 newM #[.int .i64 0,.int .i64 0,.slice none 0 0] N.t_Matrix w2 fun p3 w4=>
 cI_ w4 p1 fun n5=>
 cI_ w4 (p1.add 1) fun n6=>
 cS_ w4 (p1.add 2) fun s7a s7l s7c=>
 CallsX P N.f_matrix_Right #[.agg #[.int .i64 n5,.int .i64 n6,.slice s7a s7l s7c]] w4 fun v9 w8=>
 vB_ v9 fun b10=>
 cond (!b10)
 (stM p3 (.int .i64 0) w8 fun w11=>
 stM (p3.add 1) (.int .i64 0) w11 fun w12=>
 stM (p3.add 2) (.slice none 0 0) w12 fun w13=>
 cI_ w13 p3 fun n14=>
 cI_ w13 (p3.add 1) fun n15=>
 cS_ w13 (p3.add 2) fun s16a s16l s16c=>
 K (.tuple #[.agg #[.int .i64 n14,.int .i64 n15,.slice s16a s16l s16c],.int .i64 4]) w13)
 (cI_ w8 (p1.add 1) fun n17=>
 cI_ w8 p1 fun n18=>
 CallsX P N.f_matrix_laid #[.int .i64 n17,.int .i64 n18,.func (.func N.f_matrix_Transpose_1) #[] #[.pointer (some p1)]] w8 fun v20 w19=>
 ∃ n21,∃ n22,∃ s23a s23l s23c,v20=(.agg #[.int .i64 n21,.int .i64 n22,.slice s23a s23l s23c]) ∧
 stM p3 (.int .i64 n21) w19 fun w24=>
 stM (p3.add 1) (.int .i64 n22) w24 fun w25=>
 stM (p3.add 2) (.slice s23a s23l s23c) w25 fun w26=>
 cI_ w26 p3 fun n27=>
 cI_ w26 (p3.add 1) fun n28=>
 cS_ w26 (p3.add 2) fun s29a s29l s29c=>
 K (.tuple #[.agg #[.int .i64 n27,.int .i64 n28,.slice s29a s29l s29c],.int .i64 0]) w26)
def S_matrix_Same (N:Nums) (P:Program) (qa:Int) (qb:Int) (qe:OA) (qf qg:Nat) (qk:Int) (ql:Int) (qo:OA) (qt qu:Nat) (w:World) (K:KV):Prop:=
 newM #[.int .i64 qa,.int .i64 qb,.slice qe qf qg] N.t_Matrix w fun p1 w2=>
 newM #[.int .i64 qk,.int .i64 ql,.slice qo qt qu] N.t_Matrix w2 fun p3 w4=>
 cI_ w4 p1 fun n5=>
 cI_ w4 p3 fun n6=>
 cond (n5==n6)
 (cI_ w4 (p1.add 1) fun n7=>
 cI_ w4 (p3.add 1) fun n8=>
 cond (n7==n8)
 (cS_ w4 (p1.add 2) fun s9a s9l s9c=>
 cS_ w4 (p3.add 2) fun s10a s10l s10c=>
 CallsX P N.f_vector_Same #[.slice s9a s9l s9c,.slice s10a s10l s10c] w4 fun v12 w11=>
 vB_ v12 fun b13=>
 K (.bool b13) w11)
 (K (.bool false) w4))
 (K (.bool false) w4)
def S_dyad_Neg (N:Nums) (P:Program) (qa:Bool) (qb:OA) (qc qd:Nat) (qe:Int) (w:World) (K:KV):Prop:=
 newM #[.bool qa,.slice qb qc qd,.int .i64 qe] N.t_Dyad w fun p1 w2=>
 newM #[.bool false,.slice none 0 0,.int .i64 0] N.t_Dyad w2 fun p3 w4=>
 cB_ w4 p1 fun b5=>
 cS_ w4 (p1.add 1) fun s6a s6l s6c=>
 cI_ w4 (p1.add 2) fun n7=>
 CallsX P N.f_dyad_Right #[.agg #[.bool b5,.slice s6a s6l s6c,.int .i64 n7]] w4 fun v9 w8=>
 vB_ v9 fun b10=>
 cond (!b10)
 (stM p3 (.bool false) w8 fun w11=>
 stM (p3.add 1) (.slice none 0 0) w11 fun w12=>
 stM (p3.add 2) (.int .i64 0) w12 fun w13=>
 cB_ w13 p3 fun b14=>
 cS_ w13 (p3.add 1) fun s15a s15l s15c=>
 cI_ w13 (p3.add 2) fun n16=>
 K (.tuple #[.agg #[.bool b14,.slice s15a s15l s15c,.int .i64 n16],.int .i64 2]) w13)
 (cB_ w8 p1 fun b17=>
 cond (!b17)
 (cS_ w8 (p1.add 1) fun s18a s18l s18c=>
 cI_ w8 (p1.add 2) fun n19=>
 newM #[.bool false,.slice none 0 0,.int .i64 0] N.t_Dyad w8 fun p20 w21=>
 stM p20 (.bool (decide ((s18l:Int)>0))) w21 fun w22=>
 stM (p20.add 1) (.slice none 0 0) w22 fun w23=>
 stM (p20.add 2) (.int .i64 n19) w23 fun w24=>
 cS_ w24 (p20.add 1) fun s25a s25l s25c=>
 cS_ w24 (p1.add 1) fun s26a s26l s26c=>
 appM N.t_uint64 1 8 #[.int .u64 0] s25a s25l s25c s26a s26l w24 fun s27a s27l s27c w28=>
 stM (p20.add 1) (.slice s27a s27l s27c) w28 fun w29=>
 cB_ w29 p20 fun b30=>
 cS_ w29 (p20.add 1) fun s31a s31l s31c=>
 cI_ w29 (p20.add 2) fun n32=>
 stM p3 (.bool b30) w29 fun w33=>
 stM (p3.add 1) (.slice s31a s31l s31c) w33 fun w34=>
 stM (p3.add 2) (.int .i64 n32) w34 fun w35=>
 cB_ w35 p3 fun b36=>
 cS_ w35 (p3.add 1) fun s37a s37l s37c=>
 cI_ w35 (p3.add 2) fun n38=>
 K (.tuple #[.agg #[.bool b36,.slice s37a s37l s37c,.int .i64 n38],.int .i64 0]) w35)
 (cI_ w8 (p1.add 2) fun n39=>
 newM #[.bool false,.slice none 0 0,.int .i64 0] N.t_Dyad w8 fun p40 w41=>
 stM p40 (.bool false) w41 fun w42=>
 stM (p40.add 1) (.slice none 0 0) w42 fun w43=>
 stM (p40.add 2) (.int .i64 n39) w43 fun w44=>
 cS_ w44 (p40.add 1) fun s45a s45l s45c=>
 cS_ w44 (p1.add 1) fun s46a s46l s46c=>
 appM N.t_uint64 1 8 #[.int .u64 0] s45a s45l s45c s46a s46l w44 fun s47a s47l s47c w48=>
 stM (p40.add 1) (.slice s47a s47l s47c) w48 fun w49=>
 cB_ w49 p40 fun b50=>
 cS_ w49 (p40.add 1) fun s51a s51l s51c=>
 cI_ w49 (p40.add 2) fun n52=>
 stM p3 (.bool b50) w49 fun w53=>
 stM (p3.add 1) (.slice s51a s51l s51c) w53 fun w54=>
 stM (p3.add 2) (.int .i64 n52) w54 fun w55=>
 cB_ w55 p3 fun b56=>
 cS_ w55 (p3.add 1) fun s57a s57l s57c=>
 cI_ w55 (p3.add 2) fun n58=>
 K (.tuple #[.agg #[.bool b56,.slice s57a s57l s57c,.int .i64 n58],.int .i64 0]) w55))
def S_bI_Mul (N:Nums) (P:Program) (q0:OA) (q1:OA) (q2:OA) (w:World) (K:KV):Prop:=
 optM q1 fun a1=>
 cB_ w a1 fun b2=>
 optM q2 fun a3=>
 cB_ w a3 fun b4=>
 optM q1 fun a5=>
 cS_ w (a5.add 1) fun s6a s6l s6c=>
 optM q2 fun a7=>
 cS_ w (a7.add 1) fun s8a s8l s8c=>
 drM w fun w9=>
 CallsX P N.f_bn_mul #[.slice s6a s6l s6c,.slice s8a s8l s8c] w9 fun v11 w10=>
 vS_ v11 fun s12a s12l s12c=>
 w10.cell? a3=some (.bool b4) ∧
 w10.cell? a1=some (.bool b2) ∧
 drM w10 fun w13=>
 CallsX P N.f_bI_give #[.pointer q0,.bool (!(b2==b4)),.slice s12a s12l s12c] w13 fun v15 w14=>
 ∃ p16:(OA),v15=(.pointer p16) ∧
 drM w14 fun w17=>
 K (.pointer p16) w17
def S_bn_bit (N:Nums) (P:Program) (q0:OA) (qm qs:Nat) (q1:Int) (w:World) (K:KV):Prop:=
 cond (!(decide (q1<0)))
 ((32:Int)≠0 ∧
 cond (decide ((i64.wrap (q1.tdiv 32))≥(qm:Int)))
 (K (.int .u64 0) w)
 ((32:Int)≠0 ∧
 (0:Int)≤(i64.wrap (q1.tdiv 32))∧(i64.wrap (q1.tdiv 32))<(qm:Nat) ∧
 optM q0 fun a1=>
 ∃ n2,w.cell? (a1.add ((i64.wrap (q1.tdiv 32)).toNat*1))=some (.int .u32 n2) ∧
 (32:Int)≠0 ∧
 (0:Int)≤((u64.wrap q1).tmod 32) ∧
 K (.int .u64 (u64.wrap (BitVec.ofInt u64.bits (u64.wrap (n2.fdiv (2^(min ((u64.wrap q1).tmod 32).toNat u32.bits)))) &&& BitVec.ofInt u64.bits 1).toNat)) w))
 (K (.int .u64 0) w)
def S_bn_length (N:Nums) (P:Program) (q0:OA) (qm qs:Nat) (w:World) (K:KV):Prop:=
 cond ((qm:Int)==0)
 (K (.int .i64 0) w)
 ((0:Int)≤(i64.wrap ((qm:Int)-1))∧(i64.wrap ((qm:Int)-1))<(qm:Nat) ∧
 optM q0 fun a1=>
 ∃ n2,w.cell? (a1.add ((i64.wrap ((qm:Int)-1)).toNat*1))=some (.int .u32 n2) ∧
 cutM (σ:=Int×Unit) (fun J3=>
 loopM (σ:=Int×Int×Unit) (fun s6 X7 w8=>
 cond (s6.2.1 != 0)
 ((0:Int)≤1 ∧
 X7 ((i64.wrap (s6.1+1)),(s6.2.1.fdiv (2^(min (1:Int).toNat u32.bits))),()) w8)
 (J3 (s6.1,()) w8))
 (0,n2,()) w)
 (fun s4 w5=>
 K (.int .i64 (i64.wrap ((i64.wrap ((i64.wrap ((qm:Int)-1))*32))+s4.1))) w5))
def S_bI_And (N:Nums) (P:Program) (q0:OA) (q1:OA) (q2:OA) (w:World) (K:KV):Prop:=
 optM q1 fun a1=>
 cS_ w (a1.add 1) fun s2a s2l s2c=>
 optM q2 fun a3=>
 cS_ w (a3.add 1) fun s4a s4l s4c=>
 drM w fun w5=>
 CallsX P N.f_bI_low #[.pointer q1,.int .i64 (i64.wrap ((if (s4l:Int)>(s2l:Int) then (s4l:Int) else (s2l:Int))+1))] w5 fun v7 w6=>
 vS_ v7 fun s8a s8l s8c=>
 CallsX P N.f_bI_low #[.pointer q2,.int .i64 (i64.wrap ((if (s4l:Int)>(s2l:Int) then (s4l:Int) else (s2l:Int))+1))] w6 fun v10 w9=>
 vS_ v10 fun s11a s11l s11c=>
 cutM (σ:=Unit) (fun J12=>
 loopM (σ:=Int×Unit) (fun s15 X16 w17=>
 cond (decide (s15.1<(i64.wrap ((if (s4l:Int)>(s2l:Int) then (s4l:Int) else (s2l:Int))+1))))
 ((0:Int)≤s15.1∧s15.1<(s8l:Nat) ∧
 optM s8a fun a18=>
 cW_ w17 (a18.add (s15.1.toNat*1)) fun n19=>
 (0:Int)≤s15.1∧s15.1<(s11l:Nat) ∧
 optM s11a fun a20=>
 cW_ w17 (a20.add (s15.1.toNat*1)) fun n21=>
 (0:Int)≤s15.1∧s15.1<(s8l:Nat) ∧
 optM s8a fun a22=>
 drM w17 fun w23=>
 stM (a22.add (s15.1.toNat*1)) (.int .u32 (u32.wrap (BitVec.ofInt u32.bits n19 &&& BitVec.ofInt u32.bits n21).toNat)) w23 fun w24=>
 drM w24 fun w25=>
 X16 ((i64.wrap (s15.1+1)),()) w25)
 (J12 (()) w17))
 (0,()) w9)
 (fun s13 w14=>
 CallsX P N.f_bI_of #[.pointer q0,.slice s8a s8l s8c] w14 fun v27 w26=>
 ∃ p28:(OA),v27=(.pointer p28) ∧
 K (.pointer p28) w26)
def S_bI_Uint64 (N:Nums) (P:Program) (q0:OA) (w:World) (K:KV):Prop:=
 optM q0 fun a1=>
 cS_ w (a1.add 1) fun s2a s2l s2c=>
 cutM (σ:=Int×Unit) (fun J3=>
 cond (decide ((s2l:Int)>0))
 (optM q0 fun a6=>
 cS_ w (a6.add 1) fun s7a s7l s7c=>
 (0:Int)≤(0:Int)∧(0:Int)<(s7l:Nat) ∧
 optM s7a fun a8=>
 cW_ w (a8.add ((0:Int).toNat*1)) fun n9=>
 J3 ((u64.wrap n9),()) w)
 (J3 (0,()) w))
 (fun s4 w5=>
 optM q0 fun a10=>
 cS_ w5 (a10.add 1) fun s11a s11l s11c=>
 cutM (σ:=Int×Unit) (fun J12=>
 cond (decide ((s11l:Int)>1))
 (optM q0 fun a15=>
 cS_ w5 (a15.add 1) fun s16a s16l s16c=>
 (0:Int)≤(1:Int)∧(1:Int)<(s16l:Nat) ∧
 optM s16a fun a17=>
 cW_ w5 (a17.add ((1:Int).toNat*1)) fun n18=>
 (0:Int)≤32 ∧
 J12 ((u64.wrap (BitVec.ofInt u64.bits s4.1 ||| BitVec.ofInt u64.bits (u64.wrap ((u64.wrap n18)*2^(min (32:Int).toNat u64.bits)))).toNat),()) w5)
 (J12 (s4.1,()) w5))
 (fun s13 w14=>
 K (.int .u64 s13.1) w14))
def S_bn_add (N:Nums) (P:Program) (q0:OA) (qm qs:Nat) (q1:OA) (qr qw:Nat) (w:World) (K:KV):Prop:=
 cutM (σ:=(OA×Nat×Nat)×(OA×Nat×Nat)×Unit) (fun J1=>
 cond (decide ((qm:Int)<(qr:Int)))
 (J1 ((q1,qr,qw),(q0,qm,qs),()) w)
 (J1 ((q0,qm,qs),(q1,qr,qw),()) w))
 (fun s2 w3=>
 mkM N.t_uint32 1 4 #[.int .u32 0] (i64.wrap (((s2.1.2.1:Nat):Int)+1)) (i64.wrap (((s2.1.2.1:Nat):Int)+1)) w3 fun p4 w5=>
 cutM (σ:=Int×Unit) (fun J6=>
 loopM (σ:=Int×Int×Unit) (fun s9 X10 w11=>
 cond (decide (s9.2.1<((s2.1.2.1:Nat):Int)))
 ((0:Int)≤s9.2.1∧s9.2.1<(s2.1.2.1:Nat) ∧
 optM s2.1.1 fun a12=>
 cW_ w11 (a12.add (s9.2.1.toNat*1)) fun n13=>
 cutM (σ:=Int×Unit) (fun J14=>
 cond (decide (s9.2.1<((s2.2.1.2.1:Nat):Int)))
 ((0:Int)≤s9.2.1∧s9.2.1<(s2.2.1.2.1:Nat) ∧
 optM s2.2.1.1 fun a17=>
 cW_ w11 (a17.add (s9.2.1.toNat*1)) fun n18=>
 J14 ((u64.wrap ((u64.wrap (s9.1+(u64.wrap n13)))+(u64.wrap n18))),()) w11)
 (J14 ((u64.wrap (s9.1+(u64.wrap n13))),()) w11))
 (fun s15 w16=>
 (0:Int)≤s9.2.1∧s9.2.1<((i64.wrap (((s2.1.2.1:Nat):Int)+1)).toNat:Nat) ∧
 stM (p4.add (s9.2.1.toNat*1)) (.int .u32 (u32.wrap s15.1)) w16 fun w19=>
 (0:Int)≤32 ∧
 X10 ((s15.1.fdiv (2^(min (32:Int).toNat u64.bits))),(i64.wrap (s9.2.1+1)),()) w19))
 (J6 (s9.1,()) w11))
 (0,0,()) w5)
 (fun s7 w8=>
 (0:Int)≤((s2.1.2.1:Nat):Int)∧((s2.1.2.1:Nat):Int)<((i64.wrap (((s2.1.2.1:Nat):Int)+1)).toNat:Nat) ∧
 stM (p4.add (((s2.1.2.1:Nat):Int).toNat*1)) (.int .u32 (u32.wrap s7.1)) w8 fun w20=>
 CallsX P N.f_bn_trim #[.slice (some p4) ((i64.wrap (((s2.1.2.1:Nat):Int)+1)).toNat) ((i64.wrap (((s2.1.2.1:Nat):Int)+1)).toNat)] w20 fun v22 w21=>
 vS_ v22 fun s23a s23l s23c=>
 K (.slice s23a s23l s23c) w21))
def S_bn_right (N:Nums) (P:Program) (q0:OA) (qm qs:Nat) (q1:Int) (w:World) (K:KV):Prop:=
 (32:Int)≠0 ∧
 (32:Int)≠0 ∧
 cond (decide ((i64.wrap (u64.wrap (q1.tdiv 32)))≥(qm:Int)))
 (K (.slice none 0 0) w)
 (mkM N.t_uint32 1 4 #[.int .u32 0] (i64.wrap ((qm:Int)-(i64.wrap (u64.wrap (q1.tdiv 32))))) (i64.wrap ((qm:Int)-(i64.wrap (u64.wrap (q1.tdiv 32))))) w fun p1 w2=>
 cutM (σ:=Unit) (fun J3=>
 loopM (σ:=Int×Unit) (fun s6 X7 w8=>
 cond (decide (s6.1<(((i64.wrap ((qm:Int)-(i64.wrap (u64.wrap (q1.tdiv 32))))).toNat:Nat):Int)))
 ((0:Int)≤(i64.wrap (s6.1+(i64.wrap (u64.wrap (q1.tdiv 32)))))∧(i64.wrap (s6.1+(i64.wrap (u64.wrap (q1.tdiv 32)))))<(qm:Nat) ∧
 optM q0 fun a9=>
 ∃ n10,w8.cell? (a9.add ((i64.wrap (s6.1+(i64.wrap (u64.wrap (q1.tdiv 32))))).toNat*1))=some (.int .u32 n10) ∧
 cutM (σ:=Int×Unit) (fun J11=>
 cond (decide ((i64.wrap ((i64.wrap (s6.1+(i64.wrap (u64.wrap (q1.tdiv 32)))))+1))<(qm:Int)))
 ((0:Int)≤(i64.wrap ((i64.wrap (s6.1+(i64.wrap (u64.wrap (q1.tdiv 32)))))+1))∧(i64.wrap ((i64.wrap (s6.1+(i64.wrap (u64.wrap (q1.tdiv 32)))))+1))<(qm:Nat) ∧
 optM q0 fun a14=>
 ∃ n15,w8.cell? (a14.add ((i64.wrap ((i64.wrap (s6.1+(i64.wrap (u64.wrap (q1.tdiv 32)))))+1)).toNat*1))=some (.int .u32 n15) ∧
 (0:Int)≤32 ∧
 J11 ((u64.wrap (BitVec.ofInt u64.bits (u64.wrap n10) ||| BitVec.ofInt u64.bits (u64.wrap ((u64.wrap n15)*2^(min (32:Int).toNat u64.bits)))).toNat),()) w8)
 (J11 ((u64.wrap n10),()) w8))
 (fun s12 w13=>
 (0:Int)≤(q1.tmod 32) ∧
 (0:Int)≤s6.1∧s6.1<((i64.wrap ((qm:Int)-(i64.wrap (u64.wrap (q1.tdiv 32))))).toNat:Nat) ∧
 stM (p1.add (s6.1.toNat*1)) (.int .u32 (u32.wrap (s12.1.fdiv (2^(min (q1.tmod 32).toNat u64.bits))))) w13 fun w16=>
 X7 ((i64.wrap (s6.1+1)),()) w16))
 (J3 (()) w8))
 (0,()) w2)
 (fun s4 w5=>
 CallsX P N.f_bn_trim #[.slice (some p1) ((i64.wrap ((qm:Int)-(i64.wrap (u64.wrap (q1.tdiv 32))))).toNat) ((i64.wrap ((qm:Int)-(i64.wrap (u64.wrap (q1.tdiv 32))))).toNat)] w5 fun v18 w17=>
 vS_ v18 fun s19a s19l s19c=>
 K (.slice s19a s19l s19c) w17))
def S_bn_sub (N:Nums) (P:Program) (q0:OA) (qm qs:Nat) (q1:OA) (qr qw:Nat) (w:World) (K:KV):Prop:=
 mkM N.t_uint32 1 4 #[.int .u32 0] (qm:Int) (qm:Int) w fun p1 w2=>
 cutM (σ:=Unit) (fun J3=>
 loopM (σ:=Int×Int×Unit) (fun s6 X7 w8=>
 cond (decide (s6.2.1<(qm:Int)))
 ((0:Int)≤s6.2.1∧s6.2.1<(qm:Nat) ∧
 optM q0 fun a9=>
 cW_ w8 (a9.add (s6.2.1.toNat*1)) fun n10=>
 cutM (σ:=Int×Unit) (fun J11=>
 cond (decide (s6.2.1<(qr:Int)))
 ((0:Int)≤s6.2.1∧s6.2.1<(qr:Nat) ∧
 optM q1 fun a14=>
 cW_ w8 (a14.add (s6.2.1.toNat*1)) fun n15=>
 J11 ((u64.wrap ((u64.wrap ((u64.wrap n10)-s6.1))-(u64.wrap n15))),()) w8)
 (J11 ((u64.wrap ((u64.wrap n10)-s6.1)),()) w8))
 (fun s12 w13=>
 (0:Int)≤s6.2.1∧s6.2.1<((qm:Int).toNat:Nat) ∧
 stM (p1.add (s6.2.1.toNat*1)) (.int .u32 (u32.wrap s12.1)) w13 fun w16=>
 (0:Int)≤63 ∧
 X7 ((s12.1.fdiv (2^(min (63:Int).toNat u64.bits))),(i64.wrap (s6.2.1+1)),()) w16))
 (J3 (()) w8))
 (0,0,()) w2)
 (fun s4 w5=>
 CallsX P N.f_bn_trim #[.slice (some p1) ((qm:Int).toNat) ((qm:Int).toNat)] w5 fun v18 w17=>
 vS_ v18 fun s19a s19l s19c=>
 K (.slice s19a s19l s19c) w17)
def S_bn_twin (N:Nums) (P:Program) (q0:OA) (qm qs:Nat) (w:World) (K:KV):Prop:=
 appM N.t_uint32 1 4 #[.int .u32 0] none 0 0 q0 qm w fun s1a s1l s1c w2=>
 K (.slice s1a s1l s1c) w2
def S_bn_words (N:Nums) (P:Program) (q0:Int) (w:World) (K:KV):Prop:=
 (0:Int)≤32 ∧
 newM #[.int .u32 (u32.wrap q0),.int .u32 (u32.wrap (q0.fdiv (2^(min (32:Int).toNat u64.bits))))] N.t_uint32 w fun p1 w2=>
 CallsX P N.f_bn_trim #[.slice (some p1) 2 2] w2 fun v4 w3=>
 vS_ v4 fun s5a s5l s5c=>
 K (.slice s5a s5l s5c) w3
def S_math_frexp (N:Nums) (P:Program) (q0:Nat) (w:World) (K:KV):Prop:=
 cond (feq q0 0)
 (K (.tuple #[.float .f64 q0,.int .i64 0]) w)
 (CallsX P N.f_math_IsInf #[.float .f64 q0,.int .i64 0] w fun v2 w1=>
 vB_ v2 fun b3=>
 cond (!b3)
 (CallsX P N.f_math_IsNaN #[.float .f64 q0] w1 fun v5 w4=>
 vB_ v5 fun b6=>
 cond b6
 (K (.tuple #[.float .f64 q0,.int .i64 0]) w4)
 (CallsX P N.f_math_normalize #[.float .f64 q0] w4 fun v8 w7=>
 ∃ x9,∃ n10,v8=(.tuple #[.float .f64 x9,.int .i64 n10]) ∧
 CallsX P N.f_math_Float64bits #[.float .f64 x9] w7 fun v12 w11=>
 ∃ n13,v12=(.int .u64 n13) ∧
 (0:Int)≤52 ∧
 CallsX P N.f_math_Float64frombits #[.int .u64 (u64.wrap (BitVec.ofInt u64.bits (u64.wrap (BitVec.ofInt u64.bits n13 &&& ~~~BitVec.ofInt u64.bits 9218868437227405312).toNat) ||| BitVec.ofInt u64.bits 4602678819172646912).toNat)] w11 fun v15 w14=>
 ∃ x16,v15=(.float .f64 x16) ∧
 K (.tuple #[.float .f64 x16,.int .i64 (i64.wrap (n10+(i64.wrap ((i64.wrap ((i64.wrap (u64.wrap (BitVec.ofInt u64.bits (n13.fdiv (2^(min (52:Int).toNat u64.bits))) &&& BitVec.ofInt u64.bits 2047).toNat))-1023))+1))))]) w14))
 (K (.tuple #[.float .f64 q0,.int .i64 0]) w1))
def S_math_ldexp (N:Nums) (P:Program) (q0:Nat) (q1:Int) (w:World) (K:KV):Prop:=
 cond (feq q0 0)
 (K (.float .f64 q0) w)
 (cutM (σ:=Bool×Unit) (fun J1=>
 CallsX P N.f_math_IsInf #[.float .f64 q0,.int .i64 0] w fun v5 w4=>
 vB_ v5 fun b6=>
 cond (!b6)
 (CallsX P N.f_math_IsNaN #[.float .f64 q0] w4 fun v8 w7=>
 vB_ v8 fun b9=>
 J1 (b9,()) w7)
 (J1 (true,()) w4))
 (fun s2 w3=>
 cond s2.1
 (K (.float .f64 q0) w3)
 (CallsX P N.f_math_normalize #[.float .f64 q0] w3 fun v11 w10=>
 ∃ x12,∃ n13,v11=(.tuple #[.float .f64 x12,.int .i64 n13]) ∧
 CallsX P N.f_math_Float64bits #[.float .f64 x12] w10 fun v15 w14=>
 ∃ n16,v15=(.int .u64 n16) ∧
 (0:Int)≤52 ∧
 cond (decide ((i64.wrap ((i64.wrap (q1+n13))+(i64.wrap ((i64.wrap (BitVec.ofInt i64.bits (i64.wrap (n16.fdiv (2^(min (52:Int).toNat u64.bits)))) &&& BitVec.ofInt i64.bits 2047).toNat)-1023))))<(-1075)))
 (CallsX P N.f_math_Copysign #[.float .f64 0,.float .f64 x12] w14 fun v18 w17=>
 ∃ x19,v18=(.float .f64 x19) ∧
 K (.float .f64 x19) w17)
 (cond (decide ((i64.wrap ((i64.wrap (q1+n13))+(i64.wrap ((i64.wrap (BitVec.ofInt i64.bits (i64.wrap (n16.fdiv (2^(min (52:Int).toNat u64.bits)))) &&& BitVec.ofInt i64.bits 2047).toNat)-1023))))>1023))
 (cond (flt x12 0)
 (CallsX P N.f_math_Inf #[.int .i64 (-1)] w14 fun v21 w20=>
 ∃ x22,v21=(.float .f64 x22) ∧
 K (.float .f64 x22) w20)
 (CallsX P N.f_math_Inf #[.int .i64 1] w14 fun v24 w23=>
 ∃ x25,v24=(.float .f64 x25) ∧
 K (.float .f64 x25) w23))
 (cutM (σ:=Int×Nat×Unit) (fun J26=>
 cond (decide ((i64.wrap ((i64.wrap (q1+n13))+(i64.wrap ((i64.wrap (BitVec.ofInt i64.bits (i64.wrap (n16.fdiv (2^(min (52:Int).toNat u64.bits)))) &&& BitVec.ofInt i64.bits 2047).toNat)-1023))))<(-1022)))
 (J26 ((i64.wrap ((i64.wrap ((i64.wrap (q1+n13))+(i64.wrap ((i64.wrap (BitVec.ofInt i64.bits (i64.wrap (n16.fdiv (2^(min (52:Int).toNat u64.bits)))) &&& BitVec.ofInt i64.bits 2047).toNat)-1023))))+53)),4368491638549381120,()) w14)
 (J26 ((i64.wrap ((i64.wrap (q1+n13))+(i64.wrap ((i64.wrap (BitVec.ofInt i64.bits (i64.wrap (n16.fdiv (2^(min (52:Int).toNat u64.bits)))) &&& BitVec.ofInt i64.bits 2047).toNat)-1023)))),4607182418800017408,()) w14))
 (fun s27 w28=>
 (0:Int)≤52 ∧
 CallsX P N.f_math_Float64frombits #[.int .u64 (u64.wrap (BitVec.ofInt u64.bits (u64.wrap (BitVec.ofInt u64.bits n16 &&& ~~~BitVec.ofInt u64.bits 9218868437227405312).toNat) ||| BitVec.ofInt u64.bits (u64.wrap ((u64.wrap (i64.wrap (s27.1+1023)))*2^(min (52:Int).toNat u64.bits)))).toNat)] w28 fun v30 w29=>
 ∃ x31,v30=(.float .f64 x31) ∧
 fresM (fmul s27.2.1 x31) w29 fun x32 w33=>
 K (.float .f64 x32) w33))))))
def S_bI_low (N:Nums) (P:Program) (q0:OA) (q1:Int) (w:World) (K:KV):Prop:=
 mkM N.t_uint32 1 4 #[.int .u32 0] q1 q1 w fun p1 w2=>
 optM q0 fun a3=>
 cS_ w2 (a3.add 1) fun s4a s4l s4c=>
 copM 1 (some p1) q1.toNat s4a s4l w2 fun w5=>
 optM q0 fun a6=>
 cB_ w5 a6 fun b7=>
 cutM (σ:=Unit) (fun J8=>
 cond b7
 (cutM (σ:=Unit) (fun J11=>
 loopM (σ:=Int×Int×Unit) (fun s14 X15 w16=>
 cond (decide (s14.2.1<q1))
 ((0:Int)≤s14.2.1∧s14.2.1<(q1.toNat:Nat) ∧
 cW_ w16 (p1.add (s14.2.1.toNat*1)) fun n17=>
 (0:Int)≤s14.2.1∧s14.2.1<(q1.toNat:Nat) ∧
 stM (p1.add (s14.2.1.toNat*1)) (.int .u32 (u32.wrap (u64.wrap (s14.1+(u64.wrap (u32.wrap (BitVec.ofInt u32.bits (u32.max) ^^^ BitVec.ofInt u32.bits n17).toNat)))))) w16 fun w18=>
 (0:Int)≤32 ∧
 X15 (((u64.wrap (s14.1+(u64.wrap (u32.wrap (BitVec.ofInt u32.bits (u32.max) ^^^ BitVec.ofInt u32.bits n17).toNat)))).fdiv (2^(min (32:Int).toNat u64.bits))),(i64.wrap (s14.2.1+1)),()) w18)
 (J11 (()) w16))
 (1,0,()) w5)
 (fun s12 w13=>
 J8 (()) w13))
 (J8 (()) w5))
 (fun s9 w10=>
 K (.slice (some p1) q1.toNat q1.toNat) w10)
def S_bI_of (N:Nums) (P:Program) (q0:OA) (q1:OA) (qr qw:Nat) (w:World) (K:KV):Prop:=
 cutM (σ:=Bool×Unit) (fun J1=>
 cond (decide ((qr:Int)>0))
 ((0:Int)≤(i64.wrap ((qr:Int)-1))∧(i64.wrap ((qr:Int)-1))<(qr:Nat) ∧
 optM q1 fun a4=>
 ∃ n5,w.cell? (a4.add ((i64.wrap ((qr:Int)-1)).toNat*1))=some (.int .u32 n5) ∧
 (0:Int)≤31 ∧
 J1 (((n5.fdiv (2^(min (31:Int).toNat u32.bits)))==1),()) w)
 (J1 (false,()) w))
 (fun s2 w3=>
 cond s2.1
 (cutM (σ:=Unit) (fun J6=>
 loopM (σ:=Int×Int×Unit) (fun s9 X10 w11=>
 cond (decide (s9.2.1<(qr:Int)))
 ((0:Int)≤s9.2.1∧s9.2.1<(qr:Nat) ∧
 optM q1 fun a12=>
 cW_ w11 (a12.add (s9.2.1.toNat*1)) fun n13=>
 (0:Int)≤s9.2.1∧s9.2.1<(qr:Nat) ∧
 optM q1 fun a14=>
 stM (a14.add (s9.2.1.toNat*1)) (.int .u32 (u32.wrap (u64.wrap (s9.1+(u64.wrap (u32.wrap (BitVec.ofInt u32.bits (u32.max) ^^^ BitVec.ofInt u32.bits n13).toNat)))))) w11 fun w15=>
 (0:Int)≤32 ∧
 X10 (((u64.wrap (s9.1+(u64.wrap (u32.wrap (BitVec.ofInt u32.bits (u32.max) ^^^ BitVec.ofInt u32.bits n13).toNat)))).fdiv (2^(min (32:Int).toNat u64.bits))),(i64.wrap (s9.2.1+1)),()) w15)
 (J6 (()) w11))
 (1,0,()) w3)
 (fun s7 w8=>
 CallsX P N.f_bn_trim #[.slice q1 qr qw] w8 fun v17 w16=>
 vS_ v17 fun s18a s18l s18c=>
 CallsX P N.f_bI_give #[.pointer q0,.bool true,.slice s18a s18l s18c] w16 fun v20 w19=>
 ∃ p21:(OA),v20=(.pointer p21) ∧
 K (.pointer p21) w19))
 (CallsX P N.f_bn_trim #[.slice q1 qr qw] w3 fun v23 w22=>
 vS_ v23 fun s24a s24l s24c=>
 CallsX P N.f_bI_give #[.pointer q0,.bool false,.slice s24a s24l s24c] w22 fun v26 w25=>
 ∃ p27:(OA),v26=(.pointer p27) ∧
 K (.pointer p27) w25))
def S_bn_trim (N:Nums) (P:Program) (q0:OA) (qm qs:Nat) (w:World) (K:KV):Prop:=
 cutM (σ:=Int×Unit) (fun J1=>
 loopM (σ:=Int×Unit) (fun s4 X5 w6=>
 cond (decide (s4.1>0))
 ((0:Int)≤(i64.wrap (s4.1-1))∧(i64.wrap (s4.1-1))<(qm:Nat) ∧
 optM q0 fun a7=>
 ∃ n8,w6.cell? (a7.add ((i64.wrap (s4.1-1)).toNat*1))=some (.int .u32 n8) ∧
 cond (n8==0)
 (X5 ((i64.wrap (s4.1-1)),()) w6)
 (J1 (s4.1,()) w6))
 (J1 (s4.1,()) w6))
 ((qm:Int),()) w)
 (fun s2 w3=>
 (0:Int)≤s2.1∧s2.1≤(qs:Nat) ∧
 K (.slice (slBase q0 0 qs 1) s2.1.toNat qs) w3)
def S_matrix_fits (N:Nums) (P:Program) (q0:Int) (w:World) (K:KV):Prop:=
 cond (decide (q0≥0))
 (K (.bool (decide (q0≤48))) w)
 (K (.bool false) w)
def S_matrix_laid (N:Nums) (P:Program) (q0:Int) (q1:Int) (q2:Value) (w:World) (K:KV):Prop:=
 newM #[.int .i64 0,.int .i64 0,.slice none 0 0] N.t_Matrix w fun p1 w2=>
 mkM N.t_float64 1 8 #[.float .f64 0] (i64.wrap (q0*q1)) (i64.wrap (q0*q1)) w2 fun p3 w4=>
 newM #[.int .i64 0,.int .i64 0,.slice none 0 0] N.t_Matrix w4 fun p5 w6=>
 stM p5 (.int .i64 q0) w6 fun w7=>
 stM (p5.add 1) (.int .i64 q1) w7 fun w8=>
 stM (p5.add 2) (.slice (some p3) ((i64.wrap (q0*q1)).toNat) ((i64.wrap (q0*q1)).toNat)) w8 fun w9=>
 cutM (σ:=Unit) (fun J10=>
 loopM (σ:=Int×Unit) (fun s13 X14 w15=>
 cond (decide (s13.1<q0))
 (cutM (σ:=Unit) (fun J16=>
 loopM (σ:=Int×Unit) (fun s19 X20 w21=>
 cond (decide (s19.1<q1))
 (cS_ w21 (p5.add 2) fun s22a s22l s22c=>
 drM w21 fun w23=>
 fnM q2 fun f26 f26p f26q=>CallsX P f26 (f26p.toList++(([.int .i64 s13.1,.int .i64 s19.1]:List Value)++f26q.toList)).toArray w23 fun v25 w24=>
 ∃ x27,v25=(.float .f64 x27) ∧
 w24.cell? (p5.add 2)=some (.slice s22a s22l s22c) ∧
 (0:Int)≤(i64.wrap ((i64.wrap (s13.1*q1))+s19.1))∧(i64.wrap ((i64.wrap (s13.1*q1))+s19.1))<(s22l:Nat) ∧
 optM s22a fun a28=>
 drM w24 fun w29=>
 stM (a28.add ((i64.wrap ((i64.wrap (s13.1*q1))+s19.1)).toNat*1)) (.float .f64 x27) w29 fun w30=>
 drM w30 fun w31=>
 X20 ((i64.wrap (s19.1+1)),()) w31)
 (J16 (()) w21))
 (0,()) w15)
 (fun s17 w18=>
 X14 ((i64.wrap (s13.1+1)),()) w18))
 (J10 (()) w15))
 (0,()) w9)
 (fun s11 w12=>
 cI_ w12 p5 fun n32=>
 cI_ w12 (p5.add 1) fun n33=>
 cS_ w12 (p5.add 2) fun s34a s34l s34c=>
 stM p1 (.int .i64 n32) w12 fun w35=>
 stM (p1.add 1) (.int .i64 n33) w35 fun w36=>
 stM (p1.add 2) (.slice s34a s34l s34c) w36 fun w37=>
 cI_ w37 p1 fun n38=>
 cI_ w37 (p1.add 1) fun n39=>
 cS_ w37 (p1.add 2) fun s40a s40l s40c=>
 K (.agg #[.int .i64 n38,.int .i64 n39,.slice s40a s40l s40c]) w37)
def S_matrix_Make_1 (N:Nums) (P:Program) (q0:Int) (q1:Int) (w:World) (K:KV):Prop:=
 K (.float .f64 0) w
def S_matrix_Right (N:Nums) (P:Program) (qa:Int) (qb:Int) (qe:OA) (qf qg:Nat) (w:World) (K:KV):Prop:=
 newM #[.int .i64 qa,.int .i64 qb,.slice qe qf qg] N.t_Matrix w fun p1 w2=>
 cI_ w2 p1 fun n3=>
 CallsX P N.f_matrix_fits #[.int .i64 n3] w2 fun v5 w4=>
 vB_ v5 fun b6=>
 cond b6
 (cI_ w4 (p1.add 1) fun n7=>
 CallsX P N.f_matrix_fits #[.int .i64 n7] w4 fun v9 w8=>
 vB_ v9 fun b10=>
 cond b10
 (cS_ w8 (p1.add 2) fun s11a s11l s11c=>
 cI_ w8 p1 fun n12=>
 cI_ w8 (p1.add 1) fun n13=>
 K (.bool ((s11l:Int)==(i64.wrap (n12*n13)))) w8)
 (K (.bool false) w8))
 (K (.bool false) w4)
def S_matrix_Transpose_1 (N:Nums) (P:Program) (q0:Int) (q1:Int) (q2:OA) (w:World) (K:KV):Prop:=
 optM q2 fun a1=>
 cS_ w (a1.add 2) fun s2a s2l s2c=>
 optM q2 fun a3=>
 cI_ w (a3.add 1) fun n4=>
 (0:Int)≤(i64.wrap ((i64.wrap (q1*n4))+q0))∧(i64.wrap ((i64.wrap (q1*n4))+q0))<(s2l:Nat) ∧
 optM s2a fun a5=>
 ∃ x6,w.cell? (a5.add ((i64.wrap ((i64.wrap (q1*n4))+q0)).toNat*1))=some (.float .f64 x6) ∧
 K (.float .f64 x6) w
end Go.Eng
