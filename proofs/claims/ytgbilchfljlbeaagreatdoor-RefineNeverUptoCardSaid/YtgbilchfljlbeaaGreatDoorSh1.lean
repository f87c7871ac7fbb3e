/-
 Some of the functions as propositions in the manner of a weakest precondition, printed off the structured code by a program of the session. No condition.
-/
import Derived.Test.YtgbilchfljlbeaaGreatDoorTbl
import Derived.Test.YtgbilchfljlbeaaGreatDoorNm
set_option linter.all false
set_option maxRecDepth 100000
namespace Go.Eng
open Go
open Go.IntKind (i64 u64 u32 u8)
def S_w14_RefineNever (N:Nums) (P:Program) (qa:Int) (qb:Int) (qc:OA) (qd qe:Nat) (vv:Int) (vw:OA) (qz ve:Nat) (vx:OA) (vf vg:Nat) (vy:OA) (vh vj:Nat) (vz:OA) (vk vm:Nat) (q1:Int) (w:World) (K:KV):Prop:=
 newM #[.int .i64 qa,.int .i64 qb,.slice qc qd qe,.int .i64 vv,.slice vw qz ve,.slice vx vf vg,.slice vy vh vj,.slice vz vk vm] N.t_w14_Case w fun p1 w2=>
 CallsX P N.f_w14_awake #[] w2 fun v4 w3=>
 vB_ v4 fun b5=>
 cond (!b5)
 (K (.bool false) w3)
 (cutM (σ:=Bool×Unit) (fun J6=>
 cI_ w3 p1 fun n9=>
 cI_ w3 (p1.add 1) fun n10=>
 cS_ w3 (p1.add 2) fun s11a s11l s11c=>
 CallsX P N.f_w14_great #[.agg #[.int .i64 n9,.int .i64 n10,.slice s11a s11l s11c]] w3 fun v13 w12=>
 vB_ v13 fun b14=>
 cond (!b14)
 (cS_ w12 (p1.add 7) fun s15a s15l s15c=>
 J6 ((decide ((s15l:Int)>100)),()) w12)
 (J6 (true,()) w12))
 (fun s7 w8=>
 cond s7.1
 (K (.bool true) w8)
 (CallsX P N.f_k_Pick #[.int .i64 q1,.int .i64 12] w8 fun v17 w16=>
 ∃ n18,v17=(.int .i64 n18) ∧
 cI_ w16 p1 fun n19=>
 cI_ w16 (p1.add 1) fun n20=>
 cS_ w16 (p1.add 2) fun s21a s21l s21c=>
 cI_ w16 (p1.add 3) fun n22=>
 cS_ w16 ((p1.add 3).add 1) fun s23a s23l s23c=>
 cS_ w16 ((p1.add 3).add 2) fun s24a s24l s24c=>
 cS_ w16 (p1.add 7) fun s25a s25l s25c=>
 CallsX P N.f_refine_Until #[.agg #[.int .i64 n19,.int .i64 n20,.slice s21a s21l s21c],.agg #[.int .i64 n22,.slice s23a s23l s23c,.slice s24a s24l s24c],.slice s25a s25l s25c,.int .i64 n18] w16 fun v27 w26=>
 ∃ s28a s28l s28c,∃ n29,∃ n30,v27=(.tuple #[.slice s28a s28l s28c,.int .i64 n29,.int .i64 n30]) ∧
 cI_ w26 p1 fun n31=>
 cI_ w26 (p1.add 1) fun n32=>
 cS_ w26 (p1.add 2) fun s33a s33l s33c=>
 cI_ w26 (p1.add 3) fun n34=>
 cS_ w26 ((p1.add 3).add 1) fun s35a s35l s35c=>
 cS_ w26 ((p1.add 3).add 2) fun s36a s36l s36c=>
 cS_ w26 (p1.add 7) fun s37a s37l s37c=>
 CallsX P N.f_refine_Until #[.agg #[.int .i64 n31,.int .i64 n32,.slice s33a s33l s33c],.agg #[.int .i64 n34,.slice s35a s35l s35c,.slice s36a s36l s36c],.slice s37a s37l s37c,.int .i64 (i64.wrap (n18+1))] w26 fun v39 w38=>
 ∃ s40a s40l s40c,∃ n41,∃ n42,v39=(.tuple #[.slice s40a s40l s40c,.int .i64 n41,.int .i64 n42]) ∧
 cutM (σ:=Bool×Unit) (fun J43=>
 cond (!(n30 != n42))
 (J43 ((n30 != 0),()) w38)
 (J43 (true,()) w38))
 (fun s44 w45=>
 cond s44.1
 (cond (n30==n42)
 (cond (n29==0)
 (cond (n41==0)
 (K (.bool ((i64.wrap ((s28l:Int)+(s40l:Int)))==0)) w45)
 (K (.bool false) w45))
 (K (.bool false) w45))
 (K (.bool false) w45))
 (cI_ w45 (p1.add 3) fun n46=>
 cS_ w45 ((p1.add 3).add 1) fun s47a s47l s47c=>
 cS_ w45 ((p1.add 3).add 2) fun s48a s48l s48c=>
 cS_ w45 (p1.add 7) fun s49a s49l s49c=>
 CallsX P N.f_solve_Solve #[.agg #[.int .i64 n46,.slice s47a s47l s47c,.slice s48a s48l s48c],.slice s49a s49l s49c] w45 fun v51 w50=>
 ∃ s52a s52l s52c,∃ n53,v51=(.tuple #[.slice s52a s52l s52c,.int .i64 n53]) ∧
 cI_ w50 p1 fun n54=>
 cI_ w50 (p1.add 1) fun n55=>
 cS_ w50 (p1.add 2) fun s56a s56l s56c=>
 cI_ w50 (p1.add 3) fun n57=>
 cS_ w50 (p1.add 4) fun s58a s58l s58c=>
 cS_ w50 (p1.add 5) fun s59a s59l s59c=>
 cS_ w50 (p1.add 6) fun s60a s60l s60c=>
 cS_ w50 (p1.add 7) fun s61a s61l s61c=>
 CallsX P N.f_w14_left #[.agg #[.int .i64 n54,.int .i64 n55,.slice s56a s56l s56c,.int .i64 n57,.slice s58a s58l s58c,.slice s59a s59l s59c,.slice s60a s60l s60c,.slice s61a s61l s61c],.slice s52a s52l s52c] w50 fun v63 w62=>
 ∃ x64,∃ b65,v63=(.tuple #[.float .f64 x64,.bool b65]) ∧
 cI_ w62 p1 fun n66=>
 cI_ w62 (p1.add 1) fun n67=>
 cS_ w62 (p1.add 2) fun s68a s68l s68c=>
 cI_ w62 (p1.add 3) fun n69=>
 cS_ w62 (p1.add 4) fun s70a s70l s70c=>
 cS_ w62 (p1.add 5) fun s71a s71l s71c=>
 cS_ w62 (p1.add 6) fun s72a s72l s72c=>
 cS_ w62 (p1.add 7) fun s73a s73l s73c=>
 CallsX P N.f_w14_left #[.agg #[.int .i64 n66,.int .i64 n67,.slice s68a s68l s68c,.int .i64 n69,.slice s70a s70l s70c,.slice s71a s71l s71c,.slice s72a s72l s72c,.slice s73a s73l s73c],.slice s28a s28l s28c] w62 fun v75 w74=>
 ∃ x76,∃ b77,v75=(.tuple #[.float .f64 x76,.bool b77]) ∧
 cI_ w74 p1 fun n78=>
 cI_ w74 (p1.add 1) fun n79=>
 cS_ w74 (p1.add 2) fun s80a s80l s80c=>
 cI_ w74 (p1.add 3) fun n81=>
 cS_ w74 (p1.add 4) fun s82a s82l s82c=>
 cS_ w74 (p1.add 5) fun s83a s83l s83c=>
 cS_ w74 (p1.add 6) fun s84a s84l s84c=>
 cS_ w74 (p1.add 7) fun s85a s85l s85c=>
 CallsX P N.f_w14_left #[.agg #[.int .i64 n78,.int .i64 n79,.slice s80a s80l s80c,.int .i64 n81,.slice s82a s82l s82c,.slice s83a s83l s83c,.slice s84a s84l s84c,.slice s85a s85l s85c],.slice s40a s40l s40c] w74 fun v87 w86=>
 ∃ x88,∃ b89,v87=(.tuple #[.float .f64 x88,.bool b89]) ∧
 cutM (σ:=Bool×Unit) (fun J90=>
 cond (!(n53 != 0))
 (cond (!(!b65))
 (cond (!(!b77))
 (cond (!(!b89))
 (cond (!(decide (n29<0)))
 (cond (!(decide (n29>n18)))
 (cond (!(decide (n41<n29)))
 (cond (!(decide (n41>(i64.wrap (n29+1)))))
 (cond (!(fgt x76 x64))
 (J90 ((fgt x88 x76),()) w86)
 (J90 (true,()) w86))
 (J90 (true,()) w86))
 (J90 (true,()) w86))
 (J90 (true,()) w86))
 (J90 (true,()) w86))
 (J90 (true,()) w86))
 (J90 (true,()) w86))
 (J90 (true,()) w86))
 (J90 (true,()) w86))
 (fun s91 w92=>
 cond s91.1
 (K (.bool false) w92)
 (cond (n29==0)
 (CallsX P N.f_k_SameReals #[.slice s52a s52l s52c,.slice s28a s28l s28c] w92 fun v94 w93=>
 vB_ v94 fun b95=>
 cond (!(!b95))
 (cond (decide (n29>0))
 (cond (!(flt x76 x64))
 (K (.bool false) w93)
 (cond (n41==n29)
 (CallsX P N.f_k_SameReals #[.slice s28a s28l s28c,.slice s40a s40l s40c] w93 fun v97 w96=>
 vB_ v97 fun b98=>
 K (.bool b98) w96)
 (cond (n29==n18)
 (K (.bool (flt x88 x76)) w93)
 (K (.bool false) w93))))
 (cond (n41==n29)
 (CallsX P N.f_k_SameReals #[.slice s28a s28l s28c,.slice s40a s40l s40c] w93 fun v100 w99=>
 vB_ v100 fun b101=>
 K (.bool b101) w99)
 (cond (n29==n18)
 (K (.bool (flt x88 x76)) w93)
 (K (.bool false) w93))))
 (K (.bool false) w93))
 (cond (decide (n29>0))
 (cond (!(flt x76 x64))
 (K (.bool false) w92)
 (cond (n41==n29)
 (CallsX P N.f_k_SameReals #[.slice s28a s28l s28c,.slice s40a s40l s40c] w92 fun v103 w102=>
 vB_ v103 fun b104=>
 K (.bool b104) w102)
 (cond (n29==n18)
 (K (.bool (flt x88 x76)) w92)
 (K (.bool false) w92))))
 (cond (n41==n29)
 (CallsX P N.f_k_SameReals #[.slice s28a s28l s28c,.slice s40a s40l s40c] w92 fun v106 w105=>
 vB_ v106 fun b107=>
 K (.bool b107) w105)
 (cond (n29==n18)
 (K (.bool (flt x88 x76)) w92)
 (K (.bool false) w92)))))))))))
def S_w14_awake (N:Nums) (P:Program)  (w:World) (K:KV):Prop:=
 CallsX P N.f_w14_two #[] w fun v2 w1=>
 ∃ n3,∃ n4,∃ s5a s5l s5c,∃ n6,∃ s7a s7l s7c,∃ s8a s8l s8c,v2=(.tuple #[.agg #[.int .i64 n3,.int .i64 n4,.slice s5a s5l s5c],.agg #[.int .i64 n6,.slice s7a s7l s7c,.slice s8a s8l s8c]]) ∧
 newM #[.int .i64 0,.int .i64 0,.slice none 0 0] N.t_Matrix w1 fun p9 w10=>
 newM #[.int .i64 0,.slice none 0 0,.slice none 0 0] N.t_Factor w10 fun p11 w12=>
 stM p9 (.int .i64 n3) w12 fun w13=>
 stM (p9.add 1) (.int .i64 n4) w13 fun w14=>
 stM (p9.add 2) (.slice s5a s5l s5c) w14 fun w15=>
 stM p11 (.int .i64 n6) w15 fun w16=>
 stM (p11.add 1) (.slice s7a s7l s7c) w16 fun w17=>
 stM (p11.add 2) (.slice s8a s8l s8c) w17 fun w18=>
 cI_ w18 p9 fun n19=>
 cI_ w18 (p9.add 1) fun n20=>
 cS_ w18 (p9.add 2) fun s21a s21l s21c=>
 newM #[.float .f64 4607182418800017408,.float .f64 4607182418800017408] N.t_float64 w18 fun p22 w23=>
 newM #[.float .f64 4618441417868443648,.float .f64 4616189618054758400] N.t_float64 w23 fun p24 w25=>
 CallsX P N.f_refine_Left #[.agg #[.int .i64 n19,.int .i64 n20,.slice s21a s21l s21c],.slice (some p22) 2 2,.slice (some p24) 2 2] w25 fun v27 w26=>
 ∃ s28a s28l s28c,∃ n29,v27=(.tuple #[.slice s28a s28l s28c,.int .i64 n29]) ∧
 cI_ w26 p9 fun n30=>
 cI_ w26 (p9.add 1) fun n31=>
 cS_ w26 (p9.add 2) fun s32a s32l s32c=>
 cI_ w26 p11 fun n33=>
 cS_ w26 (p11.add 1) fun s34a s34l s34c=>
 cS_ w26 (p11.add 2) fun s35a s35l s35c=>
 newM #[.float .f64 4617315517961601024,.float .f64 4616189618054758400] N.t_float64 w26 fun p36 w37=>
 CallsX P N.f_refine_Until #[.agg #[.int .i64 n30,.int .i64 n31,.slice s32a s32l s32c],.agg #[.int .i64 n33,.slice s34a s34l s34c,.slice s35a s35l s35c],.slice (some p36) 2 2,.int .i64 8] w37 fun v39 w38=>
 ∃ s40a s40l s40c,∃ n41,∃ n42,v39=(.tuple #[.slice s40a s40l s40c,.int .i64 n41,.int .i64 n42]) ∧
 newM #[.float .f64 4607182418800017408,.float .f64 4607182418800017408] N.t_float64 w38 fun p43 w44=>
 newM #[.float .f64 4877398396442247168,.float .f64 4607182418800017408] N.t_float64 w44 fun p45 w46=>
 newM #[.float .f64 4877398396442247168] N.t_float64 w46 fun p47 w48=>
 CallsX P N.f_refine_Left #[.agg #[.int .i64 1,.int .i64 2,.slice (some p43) 2 2],.slice (some p45) 2 2,.slice (some p47) 1 1] w48 fun v50 w49=>
 ∃ s51a s51l s51c,∃ n52,v50=(.tuple #[.slice s51a s51l s51c,.int .i64 n52]) ∧
 cond (n29==0)
 (cond (n42==0)
 (cond (n52==0)
 (newM #[.float .f64 4607182418800017408,.float .f64 0] N.t_float64 w49 fun p53 w54=>
 CallsX P N.f_k_LikeReals #[.slice s28a s28l s28c,.slice (some p53) 2 2] w54 fun v56 w55=>
 vB_ v56 fun b57=>
 cond b57
 (cond ((s40l:Int)==2)
 ((0:Int)≤(0:Int)∧(0:Int)<(s40l:Nat) ∧
 optM s40a fun a58=>
 cF_ w55 (a58.add ((0:Int).toNat*1)) fun x59=>
 cond (fgt x59 4607092346807469998)
 ((0:Int)≤(0:Int)∧(0:Int)<(s40l:Nat) ∧
 optM s40a fun a60=>
 cF_ w55 (a60.add ((0:Int).toNat*1)) fun x61=>
 cond (flt x61 4607227454796291113)
 (cond (decide (n41≤8))
 (newM #[.float .f64 13830554455654793216] N.t_float64 w55 fun p62 w63=>
 CallsX P N.f_k_LikeReals #[.slice s51a s51l s51c,.slice (some p62) 1 1] w63 fun v65 w64=>
 vB_ v65 fun b66=>
 K (.bool b66) w64)
 (K (.bool false) w55))
 (K (.bool false) w55))
 (K (.bool false) w55))
 (K (.bool false) w55))
 (K (.bool false) w55))
 (K (.bool false) w49))
 (K (.bool false) w49))
 (K (.bool false) w49)
def S_w14_great (N:Nums) (P:Program) (qa:Int) (qb:Int) (qc:OA) (qd qe:Nat) (w:World) (K:KV):Prop:=
 newM #[.int .i64 qa,.int .i64 qb,.slice qc qd qe] N.t_Matrix w fun p1 w2=>
 cS_ w2 (p1.add 2) fun s3a s3l s3c=>
 K (.bool (decide ((s3l:Int)>100))) w2
def S_refine_Left (N:Nums) (P:Program) (qa:Int) (qb:Int) (qc:OA) (qd qe:Nat) (q1:OA) (qk qp:Nat) (q2:OA) (qx vo:Nat) (w:World) (K:KV):Prop:=
 newM #[.int .i64 qa,.int .i64 qb,.slice qc qd qe] N.t_Matrix w fun p1 w2=>
 cI_ w2 p1 fun n3=>
 cI_ w2 (p1.add 1) fun n4=>
 cS_ w2 (p1.add 2) fun s5a s5l s5c=>
 CallsX P N.f_refine_fit #[.agg #[.int .i64 n3,.int .i64 n4,.slice s5a s5l s5c],.slice q1 qk qp,.slice q2 qx vo] w2 fun v7 w6=>
 vB_ v7 fun b8=>
 cond (!b8)
 (K (.tuple #[.slice none 0 0,.int .i64 4]) w6)
 (cS_ w6 (p1.add 2) fun s9a s9l s9c=>
 newM #[.slice s9a s9l s9c,.slice q1 qk qp,.slice q2 qx vo] N.t_L_float64 w6 fun p10 w11=>
 CallsX P N.f_refine_finite #[.slice (some p10) 3 3] w11 fun v13 w12=>
 vB_ v13 fun b14=>
 cond (!b14)
 (K (.tuple #[.slice none 0 0,.int .i64 5]) w12)
 (newM #[.float .f64 4607182418800017408] N.t_float64 w12 fun p15 w16=>
 appM N.t_float64 1 8 #[.float .f64 0] (some p15) 1 1 q1 qk w16 fun s17a s17l s17c w18=>
 cI_ w18 p1 fun n19=>
 cutM (σ:=(OA×Nat×Nat)×Unit) (fun J20=>
 loopM (σ:=(OA×Nat×Nat)×Int×Unit) (fun s23 X24 w25=>
 cond (decide (s23.2.1<n19))
 ((0:Int)≤s23.2.1∧s23.2.1<(qx:Nat) ∧
 optM q2 fun a26=>
 cF_ w25 (a26.add (s23.2.1.toNat*1)) fun x27=>
 newM #[.float .f64 x27] N.t_float64 w25 fun p28 w29=>
 cS_ w29 (p1.add 2) fun s30a s30l s30c=>
 cI_ w29 (p1.add 1) fun n31=>
 cI_ w29 (p1.add 1) fun n32=>
 (0:Int)≤(i64.wrap ((i64.wrap (s23.2.1+1))*n32))∧(i64.wrap ((i64.wrap (s23.2.1+1))*n32))≤(s30c:Nat)∧(0:Int)≤(i64.wrap (s23.2.1*n31))∧(i64.wrap (s23.2.1*n31))≤(i64.wrap ((i64.wrap (s23.2.1+1))*n32)) ∧
 cutM (σ:=(OA×Nat×Nat)×Unit) (fun J33=>
 loopM (σ:=(OA×Nat×Nat)×Int×Unit) (fun s36 X37 w38=>
 cond (decide (s36.2.1<((((i64.wrap ((i64.wrap (s23.2.1+1))*n32)).toNat-(i64.wrap (s23.2.1*n31)).toNat):Nat):Int)))
 ((0:Int)≤s36.2.1∧s36.2.1<(((i64.wrap ((i64.wrap (s23.2.1+1))*n32)).toNat-(i64.wrap (s23.2.1*n31)).toNat):Nat) ∧
 optM (slBase s30a ((i64.wrap (s23.2.1*n31)).toNat) s30c 1) fun a39=>
 cF_ w38 (a39.add (s36.2.1.toNat*1)) fun x40=>
 newM #[.float .f64 (fneg x40)] N.t_float64 w38 fun p41 w42=>
 appM N.t_float64 1 8 #[.float .f64 0] s36.1.1 s36.1.2.1 s36.1.2.2 (some p41) 1 w42 fun s43a s43l s43c w44=>
 X37 ((s43a,s43l,s43c),(i64.wrap (s36.2.1+1)),()) w44)
 (J33 ((s36.1.1,s36.1.2.1,s36.1.2.2),()) w38))
 (((some p28),1,1),0,()) w29)
 (fun s34 w35=>
 CallsX P N.f_sums_DotExact #[.slice s34.1.1 s34.1.2.1 s34.1.2.2,.slice s17a s17l s17c,.int .i8 0] w35 fun v46 w45=>
 ∃ x47,∃ n48,v46=(.tuple #[.float .f64 x47,.int .i64 n48]) ∧
 newM #[.float .f64 x47] N.t_float64 w45 fun p49 w50=>
 appM N.t_float64 1 8 #[.float .f64 0] s23.1.1 s23.1.2.1 s23.1.2.2 (some p49) 1 w50 fun s51a s51l s51c w52=>
 X24 ((s51a,s51l,s51c),(i64.wrap (s23.2.1+1)),()) w52))
 (J20 ((s23.1.1,s23.1.2.1,s23.1.2.2),()) w25))
 ((none,0,0),0,()) w18)
 (fun s21 w22=>
 newM #[.slice s21.1.1 s21.1.2.1 s21.1.2.2] N.t_L_float64 w22 fun p53 w54=>
 CallsX P N.f_refine_finite #[.slice (some p53) 1 1] w54 fun v56 w55=>
 vB_ v56 fun b57=>
 cond (!b57)
 (K (.tuple #[.slice none 0 0,.int .i64 6]) w55)
 (K (.tuple #[.slice s21.1.1 s21.1.2.1 s21.1.2.2,.int .i64 0]) w55))))
def S_k_SameReals (N:Nums) (P:Program) (q0:OA) (qh qn:Nat) (q1:OA) (qk qp:Nat) (w:World) (K:KV):Prop:=
 cond ((qh:Int) != (qk:Int))
 (K (.bool false) w)
 (cutM (σ:=Unit) (fun J1=>
 loopM (σ:=Int×Unit) (fun s4 X5 w6=>
 cond (decide (s4.1<(qh:Int)))
 ((0:Int)≤s4.1∧s4.1<(qh:Nat) ∧
 optM q0 fun a7=>
 cF_ w6 (a7.add (s4.1.toNat*1)) fun x8=>
 (0:Int)≤s4.1∧s4.1<(qk:Nat) ∧
 optM q1 fun a9=>
 cF_ w6 (a9.add (s4.1.toNat*1)) fun x10=>
 drM w6 fun w11=>
 CallsX P N.f_k_SameFloat #[.float .f64 x8,.float .f64 x10] w11 fun v13 w12=>
 vB_ v13 fun b14=>
 drM w12 fun w15=>
 cond (!b14)
 (K (.bool false) w15)
 (X5 ((i64.wrap (s4.1+1)),()) w15))
 (J1 (()) w6))
 (0,()) w)
 (fun s2 w3=>
 K (.bool true) w3))
def S_refine_Step (N:Nums) (P:Program) (qa:Int) (qb:Int) (qc:OA) (qd qe:Nat) (ql:Int) (qm:OA) (qi qj:Nat) (qt:OA) (qv qw:Nat) (q2:OA) (qx vo:Nat) (q3:OA) (vt yk:Nat) (w:World) (K:KV):Prop:=
 newM #[.int .i64 qa,.int .i64 qb,.slice qc qd qe] N.t_Matrix w fun p1 w2=>
 newM #[.int .i64 ql,.slice qm qi qj,.slice qt qv qw] N.t_Factor w2 fun p3 w4=>
 cutM (σ:=Bool×Unit) (fun J5=>
 cI_ w4 p1 fun n8=>
 cI_ w4 (p1.add 1) fun n9=>
 cS_ w4 (p1.add 2) fun s10a s10l s10c=>
 CallsX P N.f_refine_fit #[.agg #[.int .i64 n8,.int .i64 n9,.slice s10a s10l s10c],.slice q2 qx vo,.slice q3 vt yk] w4 fun v12 w11=>
 vB_ v12 fun b13=>
 cond (!(!b13))
 (cI_ w11 p1 fun n14=>
 cI_ w11 (p1.add 1) fun n15=>
 cS_ w11 (p1.add 2) fun s16a s16l s16c=>
 cI_ w11 p3 fun n17=>
 cS_ w11 (p3.add 1) fun s18a s18l s18c=>
 cS_ w11 (p3.add 2) fun s19a s19l s19c=>
 CallsX P N.f_refine_fits #[.agg #[.int .i64 n14,.int .i64 n15,.slice s16a s16l s16c],.agg #[.int .i64 n17,.slice s18a s18l s18c,.slice s19a s19l s19c]] w11 fun v21 w20=>
 vB_ v21 fun b22=>
 J5 ((!b22),()) w20)
 (J5 (true,()) w11))
 (fun s6 w7=>
 cond s6.1
 (K (.tuple #[.slice none 0 0,.int .i64 4]) w7)
 (cI_ w7 p1 fun n23=>
 cI_ w7 (p1.add 1) fun n24=>
 cS_ w7 (p1.add 2) fun s25a s25l s25c=>
 CallsX P N.f_refine_Left #[.agg #[.int .i64 n23,.int .i64 n24,.slice s25a s25l s25c],.slice q2 qx vo,.slice q3 vt yk] w7 fun v27 w26=>
 ∃ s28a s28l s28c,∃ n29,v27=(.tuple #[.slice s28a s28l s28c,.int .i64 n29]) ∧
 cond (n29 != 0)
 (K (.tuple #[.slice none 0 0,.int .i64 n29]) w26)
 (cI_ w26 p3 fun n30=>
 cS_ w26 (p3.add 1) fun s31a s31l s31c=>
 cS_ w26 (p3.add 2) fun s32a s32l s32c=>
 CallsX P N.f_solve_Solve #[.agg #[.int .i64 n30,.slice s31a s31l s31c,.slice s32a s32l s32c],.slice s28a s28l s28c] w26 fun v34 w33=>
 ∃ s35a s35l s35c,∃ n36,v34=(.tuple #[.slice s35a s35l s35c,.int .i64 n36]) ∧
 cond (n36 != 0)
 (K (.tuple #[.slice none 0 0,.int .i64 n36]) w33)
 (CallsX P N.f_vector_Add #[.slice q2 qx vo,.slice s35a s35l s35c] w33 fun v38 w37=>
 ∃ s39a s39l s39c,∃ n40,v38=(.tuple #[.slice s39a s39l s39c,.int .i64 n40]) ∧
 newM #[.slice s39a s39l s39c] N.t_L_float64 w37 fun p41 w42=>
 CallsX P N.f_refine_finite #[.slice (some p41) 1 1] w42 fun v44 w43=>
 vB_ v44 fun b45=>
 cond (!b45)
 (K (.tuple #[.slice none 0 0,.int .i64 6]) w43)
 (K (.tuple #[.slice s39a s39l s39c,.int .i64 0]) w43)))))
def S_refine_Until (N:Nums) (P:Program) (qa:Int) (qb:Int) (qc:OA) (qd qe:Nat) (ql:Int) (qm:OA) (qi qj:Nat) (qt:OA) (qv qw:Nat) (q2:OA) (qx vo:Nat) (q3:Int) (w:World) (K:KV):Prop:=
 newM #[.int .i64 qa,.int .i64 qb,.slice qc qd qe] N.t_Matrix w fun p1 w2=>
 newM #[.int .i64 ql,.slice qm qi qj,.slice qt qv qw] N.t_Factor w2 fun p3 w4=>
 cutM (σ:=Bool×Unit) (fun J5=>
 cond (!(decide (q3<0)))
 (J5 ((decide (q3>64)),()) w4)
 (J5 (true,()) w4))
 (fun s6 w7=>
 cond s6.1
 (K (.tuple #[.slice none 0 0,.int .i64 0,.int .i64 2]) w7)
 (cutM (σ:=Bool×Unit) (fun J8=>
 cI_ w7 p1 fun n11=>
 cI_ w7 (p1.add 1) fun n12=>
 cS_ w7 (p1.add 2) fun s13a s13l s13c=>
 cI_ w7 p3 fun n14=>
 cS_ w7 (p3.add 1) fun s15a s15l s15c=>
 cS_ w7 (p3.add 2) fun s16a s16l s16c=>
 CallsX P N.f_refine_fits #[.agg #[.int .i64 n11,.int .i64 n12,.slice s13a s13l s13c],.agg #[.int .i64 n14,.slice s15a s15l s15c,.slice s16a s16l s16c]] w7 fun v18 w17=>
 vB_ v18 fun b19=>
 cond (!(!b19))
 (cI_ w17 p1 fun n20=>
 J8 (((qx:Int) != n20),()) w17)
 (J8 (true,()) w17))
 (fun s9 w10=>
 cond s9.1
 (K (.tuple #[.slice none 0 0,.int .i64 0,.int .i64 4]) w10)
 (cS_ w10 (p1.add 2) fun s21a s21l s21c=>
 newM #[.slice s21a s21l s21c,.slice q2 qx vo] N.t_L_float64 w10 fun p22 w23=>
 CallsX P N.f_refine_finite #[.slice (some p22) 2 2] w23 fun v25 w24=>
 vB_ v25 fun b26=>
 cond (!b26)
 (K (.tuple #[.slice none 0 0,.int .i64 0,.int .i64 5]) w24)
 (cI_ w24 p3 fun n27=>
 cS_ w24 (p3.add 1) fun s28a s28l s28c=>
 cS_ w24 (p3.add 2) fun s29a s29l s29c=>
 CallsX P N.f_solve_Solve #[.agg #[.int .i64 n27,.slice s28a s28l s28c,.slice s29a s29l s29c],.slice q2 qx vo] w24 fun v31 w30=>
 ∃ s32a s32l s32c,∃ n33,v31=(.tuple #[.slice s32a s32l s32c,.int .i64 n33]) ∧
 cond (n33 != 0)
 (K (.tuple #[.slice none 0 0,.int .i64 0,.int .i64 n33]) w30)
 (newM #[.slice s32a s32l s32c] N.t_L_float64 w30 fun p34 w35=>
 CallsX P N.f_refine_finite #[.slice (some p34) 1 1] w35 fun v37 w36=>
 vB_ v37 fun b38=>
 cond (!b38)
 (K (.tuple #[.slice none 0 0,.int .i64 0,.int .i64 6]) w36)
 (cI_ w36 p1 fun n39=>
 cI_ w36 (p1.add 1) fun n40=>
 cS_ w36 (p1.add 2) fun s41a s41l s41c=>
 CallsX P N.f_refine_Left #[.agg #[.int .i64 n39,.int .i64 n40,.slice s41a s41l s41c],.slice s32a s32l s32c,.slice q2 qx vo] w36 fun v43 w42=>
 ∃ s44a s44l s44c,∃ n45,v43=(.tuple #[.slice s44a s44l s44c,.int .i64 n45]) ∧
 cond (n45 != 0)
 (K (.tuple #[.slice none 0 0,.int .i64 0,.int .i64 n45]) w42)
 (CallsX P N.f_vector_Norm #[.slice s44a s44l s44c] w42 fun v47 w46=>
 ∃ x48,v47=(.float .f64 x48) ∧
 cutM (σ:=(OA×Nat×Nat)×Unit) (fun J49=>
 loopM (σ:=(OA×Nat×Nat)×Nat×Int×Unit) (fun s52 X53 w54=>
 cond (decide (s52.2.2.1<q3))
 (cI_ w54 p1 fun n55=>
 cI_ w54 (p1.add 1) fun n56=>
 cS_ w54 (p1.add 2) fun s57a s57l s57c=>
 cI_ w54 p3 fun n58=>
 cS_ w54 (p3.add 1) fun s59a s59l s59c=>
 cS_ w54 (p3.add 2) fun s60a s60l s60c=>
 CallsX P N.f_refine_Step #[.agg #[.int .i64 n55,.int .i64 n56,.slice s57a s57l s57c],.agg #[.int .i64 n58,.slice s59a s59l s59c,.slice s60a s60l s60c],.slice s52.1.1 s52.1.2.1 s52.1.2.2,.slice q2 qx vo] w54 fun v62 w61=>
 ∃ s63a s63l s63c,∃ n64,v62=(.tuple #[.slice s63a s63l s63c,.int .i64 n64]) ∧
 cond (n64 != 0)
 (K (.tuple #[.slice s52.1.1 s52.1.2.1 s52.1.2.2,.int .i64 s52.2.2.1,.int .i64 0]) w61)
 (cI_ w61 p1 fun n65=>
 cI_ w61 (p1.add 1) fun n66=>
 cS_ w61 (p1.add 2) fun s67a s67l s67c=>
 CallsX P N.f_refine_Left #[.agg #[.int .i64 n65,.int .i64 n66,.slice s67a s67l s67c],.slice s63a s63l s63c,.slice q2 qx vo] w61 fun v69 w68=>
 ∃ s70a s70l s70c,∃ n71,v69=(.tuple #[.slice s70a s70l s70c,.int .i64 n71]) ∧
 cond (!(n71 != 0))
 (CallsX P N.f_vector_Norm #[.slice s70a s70l s70c] w68 fun v73 w72=>
 ∃ x74,v73=(.float .f64 x74) ∧
 cond (fgt x74 s52.2.1||feq x74 s52.2.1)
 (K (.tuple #[.slice s52.1.1 s52.1.2.1 s52.1.2.2,.int .i64 s52.2.2.1,.int .i64 0]) w72)
 (CallsX P N.f_vector_Norm #[.slice s70a s70l s70c] w72 fun v76 w75=>
 ∃ x77,v76=(.float .f64 x77) ∧
 X53 ((s63a,s63l,s63c),x77,(i64.wrap (s52.2.2.1+1)),()) w75))
 (K (.tuple #[.slice s52.1.1 s52.1.2.1 s52.1.2.2,.int .i64 s52.2.2.1,.int .i64 0]) w68)))
 (J49 ((s52.1.1,s52.1.2.1,s52.1.2.2),()) w54))
 ((s32a,s32l,s32c),x48,0,()) w46)
 (fun s50 w51=>
 K (.tuple #[.slice s50.1.1 s50.1.2.1 s50.1.2.2,.int .i64 q3,.int .i64 0]) w51)))))))))
def S_k_Pick (N:Nums) (P:Program) (q0:Int) (q1:Int) (w:World) (K:KV):Prop:=
 cond (decide (q1<1))
 (K (.int .i64 0) w)
 ((q1:Int)≠0 ∧
 cutM (σ:=Int×Unit) (fun J1=>
 cond (decide ((q0.tmod q1)<0))
 (J1 ((i64.wrap ((q0.tmod q1)+q1)),()) w)
 (J1 ((q0.tmod q1),()) w))
 (fun s2 w3=>
 K (.int .i64 s2.1) w3))
def S_solve_Solve (N:Nums) (P:Program) (qa:Int) (qb:OA) (qf qg:Nat) (qc:OA) (qd qe:Nat) (q1:OA) (qk qp:Nat) (w:World) (K:KV):Prop:=
 newM #[.int .i64 qa,.slice qb qf qg,.slice qc qd qe] N.t_Factor w fun p1 w2=>
 cI_ w2 p1 fun n3=>
 cS_ w2 (p1.add 1) fun s4a s4l s4c=>
 cS_ w2 (p1.add 2) fun s5a s5l s5c=>
 CallsX P N.f_solve_Forward #[.agg #[.int .i64 n3,.slice s4a s4l s4c,.slice s5a s5l s5c],.slice q1 qk qp] w2 fun v7 w6=>
 ∃ s8a s8l s8c,∃ n9,v7=(.tuple #[.slice s8a s8l s8c,.int .i64 n9]) ∧
 cond (n9 != 0)
 (K (.tuple #[.slice none 0 0,.int .i64 n9]) w6)
 (cI_ w6 p1 fun n10=>
 cS_ w6 (p1.add 1) fun s11a s11l s11c=>
 cS_ w6 (p1.add 2) fun s12a s12l s12c=>
 CallsX P N.f_solve_Back #[.agg #[.int .i64 n10,.slice s11a s11l s11c,.slice s12a s12l s12c],.slice s8a s8l s8c] w6 fun v14 w13=>
 ∃ s15a s15l s15c,∃ n16,v14=(.tuple #[.slice s15a s15l s15c,.int .i64 n16]) ∧
 K (.tuple #[.slice s15a s15l s15c,.int .i64 n16]) w13)
def S_w14_left (N:Nums) (P:Program) (qa:Int) (qb:Int) (qc:OA) (qd qe:Nat) (vv:Int) (vw:OA) (qz ve:Nat) (vx:OA) (vf vg:Nat) (vy:OA) (vh vj:Nat) (vz:OA) (vk vm:Nat) (q1:OA) (qk qp:Nat) (w:World) (K:KV):Prop:=
 newM #[.int .i64 qa,.int .i64 qb,.slice qc qd qe,.int .i64 vv,.slice vw qz ve,.slice vx vf vg,.slice vy vh vj,.slice vz vk vm] N.t_w14_Case w fun p1 w2=>
 cI_ w2 p1 fun n3=>
 cI_ w2 (p1.add 1) fun n4=>
 cS_ w2 (p1.add 2) fun s5a s5l s5c=>
 cS_ w2 (p1.add 7) fun s6a s6l s6c=>
 CallsX P N.f_refine_Left #[.agg #[.int .i64 n3,.int .i64 n4,.slice s5a s5l s5c],.slice q1 qk qp,.slice s6a s6l s6c] w2 fun v8 w7=>
 ∃ s9a s9l s9c,∃ n10,v8=(.tuple #[.slice s9a s9l s9c,.int .i64 n10]) ∧
 CallsX P N.f_vector_Norm #[.slice s9a s9l s9c] w7 fun v12 w11=>
 ∃ x13,v12=(.float .f64 x13) ∧
 K (.tuple #[.float .f64 x13,.bool (n10==0)]) w11
def S_k_LikeReals (N:Nums) (P:Program) (q0:OA) (qh qn:Nat) (q1:OA) (qk qp:Nat) (w:World) (K:KV):Prop:=
 cond ((qh:Int) != (qk:Int))
 (K (.bool false) w)
 (cutM (σ:=Unit) (fun J1=>
 loopM (σ:=Int×Unit) (fun s4 X5 w6=>
 cond (decide (s4.1<(qh:Int)))
 ((0:Int)≤s4.1∧s4.1<(qh:Nat) ∧
 optM q0 fun a7=>
 cF_ w6 (a7.add (s4.1.toNat*1)) fun x8=>
 (0:Int)≤s4.1∧s4.1<(qk:Nat) ∧
 optM q1 fun a9=>
 cF_ w6 (a9.add (s4.1.toNat*1)) fun x10=>
 drM w6 fun w11=>
 CallsX P N.f_k_Like #[.float .f64 x8,.float .f64 x10] w11 fun v13 w12=>
 vB_ v13 fun b14=>
 drM w12 fun w15=>
 cond (!b14)
 (K (.bool false) w15)
 (X5 ((i64.wrap (s4.1+1)),()) w15))
 (J1 (()) w6))
 (0,()) w)
 (fun s2 w3=>
 K (.bool true) w3))
def S_w14_two (N:Nums) (P:Program)  (w:World) (K:KV):Prop:=
 newM #[.int .i64 0,.int .i64 0,.slice none 0 0] N.t_Matrix w fun p1 w2=>
 newM #[.int .i64 0,.slice none 0 0,.slice none 0 0] N.t_Factor w2 fun p3 w4=>
 newM #[.float .f64 4616189618054758400,.float .f64 4607182418800017408,.float .f64 4607182418800017408,.float .f64 4613937818241073152] N.t_float64 w4 fun p5 w6=>
 newM #[.float .f64 4598175219545276416] N.t_float64 w6 fun p7 w8=>
 newM #[.float .f64 4616189618054758400,.float .f64 4613374868287651840] N.t_float64 w8 fun p9 w10=>
 stM p1 (.int .i64 2) w10 fun w11=>
 stM (p1.add 1) (.int .i64 2) w11 fun w12=>
 stM (p1.add 2) (.slice (some p5) 4 4) w12 fun w13=>
 stM p3 (.int .i64 2) w13 fun w14=>
 stM (p3.add 1) (.slice (some p7) 1 1) w14 fun w15=>
 stM (p3.add 2) (.slice (some p9) 2 2) w15 fun w16=>
 cI_ w16 p1 fun n17=>
 cI_ w16 (p1.add 1) fun n18=>
 cS_ w16 (p1.add 2) fun s19a s19l s19c=>
 cI_ w16 p3 fun n20=>
 cS_ w16 (p3.add 1) fun s21a s21l s21c=>
 cS_ w16 (p3.add 2) fun s22a s22l s22c=>
 K (.tuple #[.agg #[.int .i64 n17,.int .i64 n18,.slice s19a s19l s19c],.agg #[.int .i64 n20,.slice s21a s21l s21c,.slice s22a s22l s22c]]) w16
def S_k_mark (N:Nums) (P:Program) (q0:Int) (q1:Int) (w:World) (K:KV):Prop:=
 K (.int .i64 (i64.wrap ((i64.wrap (1000003*(i64.wrap (q0+7))))+q1))) w
def S_refine_fit (N:Nums) (P:Program) (qa:Int) (qb:Int) (qc:OA) (qd qe:Nat) (q1:OA) (qk qp:Nat) (q2:OA) (qx vo:Nat) (w:World) (K:KV):Prop:=
 newM #[.int .i64 qa,.int .i64 qb,.slice qc qd qe] N.t_Matrix w fun p1 w2=>
 cI_ w2 p1 fun n3=>
 cI_ w2 (p1.add 1) fun n4=>
 cS_ w2 (p1.add 2) fun s5a s5l s5c=>
 CallsX P N.f_matrix_Right #[.agg #[.int .i64 n3,.int .i64 n4,.slice s5a s5l s5c]] w2 fun v7 w6=>
 vB_ v7 fun b8=>
 cond b8
 (cI_ w6 (p1.add 1) fun n9=>
 cond ((qk:Int)==n9)
 (cI_ w6 p1 fun n10=>
 K (.bool ((qx:Int)==n10)) w6)
 (K (.bool false) w6))
 (K (.bool false) w6)
def S_refine_finite (N:Nums) (P:Program) (q0:OA) (qh qn:Nat) (w:World) (K:KV):Prop:=
 cutM (σ:=Unit) (fun J1=>
 loopM (σ:=Int×Unit) (fun s4 X5 w6=>
 cond (decide (s4.1<(qh:Int)))
 ((0:Int)≤s4.1∧s4.1<(qh:Nat) ∧
 optM q0 fun a7=>
 cS_ w6 (a7.add (s4.1.toNat*1)) fun s8a s8l s8c=>
 cutM (σ:=Unit) (fun J9=>
 loopM (σ:=Int×Unit) (fun s12 X13 w14=>
 cond (decide (s12.1<(s8l:Int)))
 ((0:Int)≤s12.1∧s12.1<(s8l:Nat) ∧
 optM s8a fun a15=>
 cF_ w14 (a15.add (s12.1.toNat*1)) fun x16=>
 fresM (fsub x16 x16) w14 fun x17 w18=>
 cond (!feq x17 0)
 (K (.bool false) w18)
 (X13 ((i64.wrap (s12.1+1)),()) w18))
 (J9 (()) w14))
 (0,()) w6)
 (fun s10 w11=>
 X5 ((i64.wrap (s4.1+1)),()) w11))
 (J1 (()) w6))
 (0,()) w)
 (fun s2 w3=>
 K (.bool true) w3)
def S_sums_DotExact (N:Nums) (P:Program) (q0:OA) (qh qn:Nat) (q1:OA) (qk qp:Nat) (q2:Int) (w:World) (K:KV):Prop:=
 newM #[.slice q0 qh qn] N.t_L_float64 w fun p1 w2=>
 newM #[.slice q1 qk qp] N.t_L_float64 w2 fun p3 w4=>
 cS_ w4 p1 fun s5a s5l s5c=>
 cS_ w4 p3 fun s6a s6l s6c=>
 cond ((s5l:Int) != (s6l:Int))
 (K (.tuple #[.float .f64 0,.int .i64 4]) w4)
 (cS_ w4 p1 fun s7a s7l s7c=>
 CallsX P N.f_sums_finite #[.slice s7a s7l s7c] w4 fun v9 w8=>
 vB_ v9 fun b10=>
 cond (!(!b10))
 (cS_ w8 p3 fun s11a s11l s11c=>
 CallsX P N.f_sums_finite #[.slice s11a s11l s11c] w8 fun v13 w12=>
 vB_ v13 fun b14=>
 cond (!b14)
 (K (.tuple #[.float .f64 0,.int .i64 5]) w12)
 (cS_ w12 p1 fun s15a s15l s15c=>
 CallsX P N.f_sums_total #[.int .i64 (s15l:Int),.func (.func N.f_sums_DotExact_1) #[] #[.pointer (some p1),.pointer (some p3)]] w12 fun v17 w16=>
 ∃ b18,∃ s19a s19l s19c,∃ n20,v17=(.agg #[.bool b18,.slice s19a s19l s19c,.int .i64 n20]) ∧
 newM #[.bool false,.slice none 0 0,.int .i64 0] N.t_Dyad w16 fun p21 w22=>
 stM p21 (.bool b18) w22 fun w23=>
 stM (p21.add 1) (.slice s19a s19l s19c) w23 fun w24=>
 stM (p21.add 2) (.int .i64 n20) w24 fun w25=>
 cB_ w25 p21 fun b26=>
 cS_ w25 (p21.add 1) fun s27a s27l s27c=>
 cI_ w25 (p21.add 2) fun n28=>
 CallsX P N.f_dyad_Round #[.agg #[.bool b26,.slice s27a s27l s27c,.int .i64 n28],.int .i8 q2] w25 fun v30 w29=>
 ∃ x31,∃ n32,v30=(.tuple #[.float .f64 x31,.int .i64 n32]) ∧
 K (.tuple #[.float .f64 x31,.int .i64 n32]) w29))
 (K (.tuple #[.float .f64 0,.int .i64 5]) w8))
def S_k_SameFloat (N:Nums) (P:Program) (q0:Nat) (q1:Nat) (w:World) (K:KV):Prop:=
 CallsX P N.f_math_Float64bits #[.float .f64 q0] w fun v2 w1=>
 ∃ n3,v2=(.int .u64 n3) ∧
 CallsX P N.f_math_Float64bits #[.float .f64 q1] w1 fun v5 w4=>
 ∃ n6,v5=(.int .u64 n6) ∧
 cond (!(n3==n6))
 (cond (!feq q0 q0)
 (K (.bool (!feq q1 q1)) w4)
 (K (.bool false) w4))
 (K (.bool true) w4)
def S_refine_fits (N:Nums) (P:Program) (qa:Int) (qb:Int) (qc:OA) (qd qe:Nat) (ql:Int) (qm:OA) (qi qj:Nat) (qt:OA) (qv qw:Nat) (w:World) (K:KV):Prop:=
 newM #[.int .i64 qa,.int .i64 qb,.slice qc qd qe] N.t_Matrix w fun p1 w2=>
 newM #[.int .i64 ql,.slice qm qi qj,.slice qt qv qw] N.t_Factor w2 fun p3 w4=>
 cI_ w4 p1 fun n5=>
 cI_ w4 (p1.add 1) fun n6=>
 cS_ w4 (p1.add 2) fun s7a s7l s7c=>
 CallsX P N.f_matrix_Right #[.agg #[.int .i64 n5,.int .i64 n6,.slice s7a s7l s7c]] w4 fun v9 w8=>
 vB_ v9 fun b10=>
 cond b10
 (cI_ w8 p3 fun n11=>
 cS_ w8 (p3.add 1) fun s12a s12l s12c=>
 cS_ w8 (p3.add 2) fun s13a s13l s13c=>
 CallsX P N.f_lower_Right #[.agg #[.int .i64 n11,.slice s12a s12l s12c,.slice s13a s13l s13c]] w8 fun v15 w14=>
 vB_ v15 fun b16=>
 cond b16
 (cI_ w14 p1 fun n17=>
 cI_ w14 p3 fun n18=>
 cond (n17==n18)
 (cI_ w14 (p1.add 1) fun n19=>
 cI_ w14 p3 fun n20=>
 K (.bool (n19==n20)) w14)
 (K (.bool false) w14))
 (K (.bool false) w14))
 (K (.bool false) w8)
def S_vector_Add (N:Nums) (P:Program) (q0:OA) (qh qn:Nat) (q1:OA) (qk qp:Nat) (w:World) (K:KV):Prop:=
 CallsX P N.f_vector_each #[.slice q0 qh qn,.slice q1 qk qp,.func (.func N.f_vector_Add_1) #[] #[]] w fun v2 w1=>
 ∃ s3a s3l s3c,∃ n4,v2=(.tuple #[.slice s3a s3l s3c,.int .i64 n4]) ∧
 K (.tuple #[.slice s3a s3l s3c,.int .i64 n4]) w1
def S_vector_Norm (N:Nums) (P:Program) (q0:OA) (qh qn:Nat) (w:World) (K:KV):Prop:=
 cutM (σ:=Nat×Unit) (fun J1=>
 loopM (σ:=Nat×Int×Unit) (fun s4 X5 w6=>
 cond (decide (s4.2.1<(qh:Int)))
 ((0:Int)≤s4.2.1∧s4.2.1<(qh:Nat) ∧
 optM q0 fun a7=>
 cF_ w6 (a7.add (s4.2.1.toNat*1)) fun x8=>
 CallsX P N.f_math_Abs #[.float .f64 x8] w6 fun v10 w9=>
 ∃ x11,v10=(.float .f64 x11) ∧
 CallsX P N.f_round_Add #[.float .f64 s4.1,.float .f64 x11,.int .i8 2] w9 fun v13 w12=>
 ∃ x14,v13=(.float .f64 x14) ∧
 X5 (x14,(i64.wrap (s4.2.1+1)),()) w12)
 (J1 (s4.1,()) w6))
 (0,0,()) w)
 (fun s2 w3=>
 K (.float .f64 s2.1) w3)
def S_solve_Forward (N:Nums) (P:Program) (qa:Int) (qb:OA) (qf qg:Nat) (qc:OA) (qd qe:Nat) (q1:OA) (qk qp:Nat) (w:World) (K:KV):Prop:=
 newM #[.int .i64 qa,.slice qb qf qg,.slice qc qd qe] N.t_Factor w fun p1 w2=>
 cI_ w2 p1 fun n3=>
 cS_ w2 (p1.add 1) fun s4a s4l s4c=>
 cS_ w2 (p1.add 2) fun s5a s5l s5c=>
 CallsX P N.f_solve_fits #[.agg #[.int .i64 n3,.slice s4a s4l s4c,.slice s5a s5l s5c],.int .i64 (qk:Int)] w2 fun v7 w6=>
 ∃ n8,v7=(.int .i64 n8) ∧
 cond (n8 != 0)
 (K (.tuple #[.slice none 0 0,.int .i64 n8]) w6)
 (CallsX P N.f_slices_Clone___float64_float64 #[.slice q1 qk qp] w6 fun v10 w9=>
 vS_ v10 fun s11a s11l s11c=>
 cutM (σ:=Unit) (fun J12=>
 loopM (σ:=Int×Unit) (fun s15 X16 w17=>
 cond (decide (s15.1<(s11l:Int)))
 (cutM (σ:=Unit) (fun J18=>
 loopM (σ:=Int×Unit) (fun s21 X22 w23=>
 cond (decide (s21.1<s15.1))
 ((0:Int)≤s15.1∧s15.1<(s11l:Nat) ∧
 optM s11a fun a24=>
 cF_ w23 (a24.add (s15.1.toNat*1)) fun x25=>
 cI_ w23 p1 fun n26=>
 cS_ w23 (p1.add 1) fun s27a s27l s27c=>
 cS_ w23 (p1.add 2) fun s28a s28l s28c=>
 (0:Int)≤s21.1∧s21.1<(s11l:Nat) ∧
 optM s11a fun a29=>
 cF_ w23 (a29.add (s21.1.toNat*1)) fun x30=>
 drM w23 fun w31=>
 CallsX P N.f_solve_below #[.agg #[.int .i64 n26,.slice s27a s27l s27c,.slice s28a s28l s28c],.int .i64 s15.1,.int .i64 s21.1] w31 fun v33 w32=>
 ∃ x34,v33=(.float .f64 x34) ∧
 w32.cell? (a29.add (s21.1.toNat*1))=some (.float .f64 x30) ∧
 w32.cell? (a24.add (s15.1.toNat*1))=some (.float .f64 x25) ∧
 fresM (fmul x34 x30) w32 fun x35 w36=>
 fresM (fsub x25 x35) w32 fun x37 w38=>
 (0:Int)≤s15.1∧s15.1<(s11l:Nat) ∧
 optM s11a fun a39=>
 drM w32 fun w40=>
 stM (a39.add (s15.1.toNat*1)) (.float .f64 x37) w40 fun w41=>
 drM w41 fun w42=>
 X22 ((i64.wrap (s21.1+1)),()) w42)
 (J18 (()) w23))
 (0,()) w17)
 (fun s19 w20=>
 X16 ((i64.wrap (s15.1+1)),()) w20))
 (J12 (()) w17))
 (0,()) w9)
 (fun s13 w14=>
 K (.tuple #[.slice s11a s11l s11c,.int .i64 0]) w14))
def S_solve_Back (N:Nums) (P:Program) (qa:Int) (qb:OA) (qf qg:Nat) (qc:OA) (qd qe:Nat) (q1:OA) (qk qp:Nat) (w:World) (K:KV):Prop:=
 newM #[.int .i64 qa,.slice qb qf qg,.slice qc qd qe] N.t_Factor w fun p1 w2=>
 cI_ w2 p1 fun n3=>
 cS_ w2 (p1.add 1) fun s4a s4l s4c=>
 cS_ w2 (p1.add 2) fun s5a s5l s5c=>
 CallsX P N.f_solve_fits #[.agg #[.int .i64 n3,.slice s4a s4l s4c,.slice s5a s5l s5c],.int .i64 (qk:Int)] w2 fun v7 w6=>
 ∃ n8,v7=(.int .i64 n8) ∧
 cond (n8 != 0)
 (K (.tuple #[.slice none 0 0,.int .i64 n8]) w6)
 (cS_ w6 (p1.add 2) fun s9a s9l s9c=>
 CallsX P N.f_slices_Contains___float64_float64 #[.slice s9a s9l s9c,.float .f64 0] w6 fun v11 w10=>
 vB_ v11 fun b12=>
 cond b12
 (K (.tuple #[.slice none 0 0,.int .i64 7]) w10)
 (CallsX P N.f_slices_Clone___float64_float64 #[.slice q1 qk qp] w10 fun v14 w13=>
 vS_ v14 fun s15a s15l s15c=>
 cS_ w13 (p1.add 2) fun s16a s16l s16c=>
 cutM (σ:=Unit) (fun J17=>
 loopM (σ:=Int×Unit) (fun s20 X21 w22=>
 cond (decide (s20.1<(s16l:Int)))
 ((0:Int)≤s20.1∧s20.1<(s16l:Nat) ∧
 optM s16a fun a23=>
 cF_ w22 (a23.add (s20.1.toNat*1)) fun x24=>
 (0:Int)≤s20.1∧s20.1<(s15l:Nat) ∧
 optM s15a fun a25=>
 cF_ w22 (a25.add (s20.1.toNat*1)) fun x26=>
 fresM (fdiv x26 x24) w22 fun x27 w28=>
 (0:Int)≤s20.1∧s20.1<(s15l:Nat) ∧
 optM s15a fun a29=>
 stM (a29.add (s20.1.toNat*1)) (.float .f64 x27) w28 fun w30=>
 X21 ((i64.wrap (s20.1+1)),()) w30)
 (J17 (()) w22))
 (0,()) w13)
 (fun s18 w19=>
 cutM (σ:=Unit) (fun J31=>
 loopM (σ:=Int×Unit) (fun s34 X35 w36=>
 cond (decide (s34.1<(s15l:Int)))
 (cutM (σ:=Unit) (fun J37=>
 loopM (σ:=Int×Unit) (fun s40 X41 w42=>
 cond (decide (s40.1<(s15l:Int)))
 ((0:Int)≤(i64.wrap ((i64.wrap ((s15l:Int)-1))-s34.1))∧(i64.wrap ((i64.wrap ((s15l:Int)-1))-s34.1))<(s15l:Nat) ∧
 optM s15a fun a43=>
 ∃ x44,w42.cell? (a43.add ((i64.wrap ((i64.wrap ((s15l:Int)-1))-s34.1)).toNat*1))=some (.float .f64 x44) ∧
 cI_ w42 p1 fun n45=>
 cS_ w42 (p1.add 1) fun s46a s46l s46c=>
 cS_ w42 (p1.add 2) fun s47a s47l s47c=>
 (0:Int)≤s40.1∧s40.1<(s15l:Nat) ∧
 optM s15a fun a48=>
 cF_ w42 (a48.add (s40.1.toNat*1)) fun x49=>
 drM w42 fun w50=>
 CallsX P N.f_solve_below #[.agg #[.int .i64 n45,.slice s46a s46l s46c,.slice s47a s47l s47c],.int .i64 s40.1,.int .i64 (i64.wrap ((i64.wrap ((s15l:Int)-1))-s34.1))] w50 fun v52 w51=>
 ∃ x53,v52=(.float .f64 x53) ∧
 w51.cell? (a48.add (s40.1.toNat*1))=some (.float .f64 x49) ∧
 w51.cell? (a43.add ((i64.wrap ((i64.wrap ((s15l:Int)-1))-s34.1)).toNat*1))=some (.float .f64 x44) ∧
 fresM (fmul x53 x49) w51 fun x54 w55=>
 fresM (fsub x44 x54) w51 fun x56 w57=>
 (0:Int)≤(i64.wrap ((i64.wrap ((s15l:Int)-1))-s34.1))∧(i64.wrap ((i64.wrap ((s15l:Int)-1))-s34.1))<(s15l:Nat) ∧
 optM s15a fun a58=>
 drM w51 fun w59=>
 stM (a58.add ((i64.wrap ((i64.wrap ((s15l:Int)-1))-s34.1)).toNat*1)) (.float .f64 x56) w59 fun w60=>
 drM w60 fun w61=>
 X41 ((i64.wrap (s40.1+1)),()) w61)
 (J37 (()) w42))
 ((i64.wrap ((i64.wrap ((i64.wrap ((s15l:Int)-1))-s34.1))+1)),()) w36)
 (fun s38 w39=>
 X35 ((i64.wrap (s34.1+1)),()) w39))
 (J31 (()) w36))
 (0,()) w19)
 (fun s32 w33=>
 K (.tuple #[.slice s15a s15l s15c,.int .i64 0]) w33))))
def S_k_Like (N:Nums) (P:Program) (q0:Nat) (q1:Nat) (w:World) (K:KV):Prop:=
 cond (!(feq q0 q1))
 (cond (!feq q0 q0)
 (K (.bool (!feq q1 q1)) w)
 (K (.bool false) w))
 (K (.bool true) w)
def S_matrix_Right (N:Nums) (P:Program) (qa:Int) (qb:Int) (qc:OA) (qd qe:Nat) (w:World) (K:KV):Prop:=
 newM #[.int .i64 qa,.int .i64 qb,.slice qc qd qe] N.t_Matrix w fun p1 w2=>
 cI_ w2 p1 fun n3=>
 CallsX P N.f_matrix_fits #[.int .i64 n3] w2 fun v5 w4=>
 vB_ v5 fun b6=>
 cond b6
 (cI_ w4 (p1.add 1) fun n7=>
 CallsX P N.f_matrix_fits #[.int .i64 n7] w4 fun v9 w8=>
 vB_ v9 fun b10=>
 cond b10
 (cS_ w8 (p1.add 2) fun s11a s11l s11c=>
 cI_ w8 p1 fun n12=>
 cI_ w8 (p1.add 1) fun n13=>
 K (.bool ((s11l:Int)==(i64.wrap (n12*n13)))) w8)
 (K (.bool false) w8))
 (K (.bool false) w4)
def S_sums_finite (N:Nums) (P:Program) (q0:OA) (qh qn:Nat) (w:World) (K:KV):Prop:=
 cutM (σ:=Unit) (fun J1=>
 loopM (σ:=Int×Unit) (fun s4 X5 w6=>
 cond (decide (s4.1<(qh:Int)))
 ((0:Int)≤s4.1∧s4.1<(qh:Nat) ∧
 optM q0 fun a7=>
 cF_ w6 (a7.add (s4.1.toNat*1)) fun x8=>
 CallsX P N.f_math_IsNaN #[.float .f64 x8] w6 fun v10 w9=>
 vB_ v10 fun b11=>
 cond (!b11)
 (CallsX P N.f_math_IsInf #[.float .f64 x8,.int .i64 0] w9 fun v13 w12=>
 vB_ v13 fun b14=>
 cond b14
 (K (.bool false) w12)
 (X5 ((i64.wrap (s4.1+1)),()) w12))
 (K (.bool false) w9))
 (J1 (()) w6))
 (0,()) w)
 (fun s2 w3=>
 K (.bool true) w3)
def S_sums_total (N:Nums) (P:Program) (q0:Int) (q1:Value) (w:World) (K:KV):Prop:=
 newM #[.bool false,.slice none 0 0,.int .i64 0] N.t_Dyad w fun p1 w2=>
 CallsX P N.f_dyad_Int #[.int .i64 0] w2 fun v4 w3=>
 ∃ b5,∃ s6a s6l s6c,∃ n7,v4=(.agg #[.bool b5,.slice s6a s6l s6c,.int .i64 n7]) ∧
 newM #[.bool false,.slice none 0 0,.int .i64 0] N.t_Dyad w3 fun p8 w9=>
 stM p8 (.bool b5) w9 fun w10=>
 stM (p8.add 1) (.slice s6a s6l s6c) w10 fun w11=>
 stM (p8.add 2) (.int .i64 n7) w11 fun w12=>
 cutM (σ:=Unit) (fun J13=>
 loopM (σ:=Int×Unit) (fun s16 X17 w18=>
 cond (decide (s16.1<q0))
 (cB_ w18 p8 fun b19=>
 cS_ w18 (p8.add 1) fun s20a s20l s20c=>
 cI_ w18 (p8.add 2) fun n21=>
 drM w18 fun w22=>
 fnM q1 fun f25 f25p f25q=>CallsX P f25 (f25p.toList++(([.int .i64 s16.1]:List Value)++f25q.toList)).toArray w22 fun v24 w23=>
 ∃ b26,∃ s27a s27l s27c,∃ n28,v24=(.agg #[.bool b26,.slice s27a s27l s27c,.int .i64 n28]) ∧
 w23.cell? p8=some (.bool b19) ∧
 w23.cell? (p8.add 1)=some (.slice s20a s20l s20c) ∧
 w23.cell? (p8.add 2)=some (.int .i64 n21) ∧
 drM w23 fun w29=>
 CallsX P N.f_dyad_Add #[.agg #[.bool b19,.slice s20a s20l s20c,.int .i64 n21],.agg #[.bool b26,.slice s27a s27l s27c,.int .i64 n28]] w29 fun v31 w30=>
 ∃ b32,∃ s33a s33l s33c,∃ n34,∃ n35,v31=(.tuple #[.agg #[.bool b32,.slice s33a s33l s33c,.int .i64 n34],.int .i64 n35]) ∧
 drM w30 fun w36=>
 stM p8 (.bool b32) w36 fun w37=>
 stM (p8.add 1) (.slice s33a s33l s33c) w37 fun w38=>
 stM (p8.add 2) (.int .i64 n34) w38 fun w39=>
 drM w39 fun w40=>
 X17 ((i64.wrap (s16.1+1)),()) w40)
 (J13 (()) w18))
 (0,()) w12)
 (fun s14 w15=>
 cB_ w15 p8 fun b41=>
 cS_ w15 (p8.add 1) fun s42a s42l s42c=>
 cI_ w15 (p8.add 2) fun n43=>
 stM p1 (.bool b41) w15 fun w44=>
 stM (p1.add 1) (.slice s42a s42l s42c) w44 fun w45=>
 stM (p1.add 2) (.int .i64 n43) w45 fun w46=>
 cB_ w46 p1 fun b47=>
 cS_ w46 (p1.add 1) fun s48a s48l s48c=>
 cI_ w46 (p1.add 2) fun n49=>
 K (.agg #[.bool b47,.slice s48a s48l s48c,.int .i64 n49]) w46)
def S_sums_DotExact_1 (N:Nums) (P:Program) (q0:Int) (q1:OA) (q2:OA) (w:World) (K:KV):Prop:=
 newM #[.bool false,.slice none 0 0,.int .i64 0] N.t_Dyad w fun p1 w2=>
 optM q1 fun a3=>
 cS_ w2 a3 fun s4a s4l s4c=>
 (0:Int)≤q0∧q0<(s4l:Nat) ∧
 optM s4a fun a5=>
 cF_ w2 (a5.add (q0.toNat*1)) fun x6=>
 CallsX P N.f_dyad_Of #[.float .f64 x6] w2 fun v8 w7=>
 ∃ b9,∃ s10a s10l s10c,∃ n11,∃ n12,v8=(.tuple #[.agg #[.bool b9,.slice s10a s10l s10c,.int .i64 n11],.int .i64 n12]) ∧
 newM #[.bool false,.slice none 0 0,.int .i64 0] N.t_Dyad w7 fun p13 w14=>
 stM p13 (.bool b9) w14 fun w15=>
 stM (p13.add 1) (.slice s10a s10l s10c) w15 fun w16=>
 stM (p13.add 2) (.int .i64 n11) w16 fun w17=>
 optM q2 fun a18=>
 cS_ w17 a18 fun s19a s19l s19c=>
 (0:Int)≤q0∧q0<(s19l:Nat) ∧
 optM s19a fun a20=>
 cF_ w17 (a20.add (q0.toNat*1)) fun x21=>
 CallsX P N.f_dyad_Of #[.float .f64 x21] w17 fun v23 w22=>
 ∃ b24,∃ s25a s25l s25c,∃ n26,∃ n27,v23=(.tuple #[.agg #[.bool b24,.slice s25a s25l s25c,.int .i64 n26],.int .i64 n27]) ∧
 newM #[.bool false,.slice none 0 0,.int .i64 0] N.t_Dyad w22 fun p28 w29=>
 stM p28 (.bool b24) w29 fun w30=>
 stM (p28.add 1) (.slice s25a s25l s25c) w30 fun w31=>
 stM (p28.add 2) (.int .i64 n26) w31 fun w32=>
 cB_ w32 p13 fun b33=>
 cS_ w32 (p13.add 1) fun s34a s34l s34c=>
 cI_ w32 (p13.add 2) fun n35=>
 cB_ w32 p28 fun b36=>
 cS_ w32 (p28.add 1) fun s37a s37l s37c=>
 cI_ w32 (p28.add 2) fun n38=>
 CallsX P N.f_dyad_Mul #[.agg #[.bool b33,.slice s34a s34l s34c,.int .i64 n35],.agg #[.bool b36,.slice s37a s37l s37c,.int .i64 n38]] w32 fun v40 w39=>
 ∃ b41,∃ s42a s42l s42c,∃ n43,∃ n44,v40=(.tuple #[.agg #[.bool b41,.slice s42a s42l s42c,.int .i64 n43],.int .i64 n44]) ∧
 newM #[.bool false,.slice none 0 0,.int .i64 0] N.t_Dyad w39 fun p45 w46=>
 stM p45 (.bool b41) w46 fun w47=>
 stM (p45.add 1) (.slice s42a s42l s42c) w47 fun w48=>
 stM (p45.add 2) (.int .i64 n43) w48 fun w49=>
 cB_ w49 p45 fun b50=>
 cS_ w49 (p45.add 1) fun s51a s51l s51c=>
 cI_ w49 (p45.add 2) fun n52=>
 stM p1 (.bool b50) w49 fun w53=>
 stM (p1.add 1) (.slice s51a s51l s51c) w53 fun w54=>
 stM (p1.add 2) (.int .i64 n52) w54 fun w55=>
 cB_ w55 p1 fun b56=>
 cS_ w55 (p1.add 1) fun s57a s57l s57c=>
 cI_ w55 (p1.add 2) fun n58=>
 K (.agg #[.bool b56,.slice s57a s57l s57c,.int .i64 n58]) w55
def S_dyad_Of (N:Nums) (P:Program) (q0:Nat) (w:World) (K:KV):Prop:=
 newM #[.bool false,.slice none 0 0,.int .i64 0] N.t_Dyad w fun p1 w2=>
 CallsX P N.f_bits_Split #[.float .f64 q0] w2 fun v4 w3=>
 ∃ b5,∃ n6,∃ n7,∃ b8,v4=(.tuple #[.agg #[.bool b5,.int .u64 n6,.int .i64 n7],.bool b8]) ∧
 newM #[.bool false,.int .u64 0,.int .i64 0] N.t_Parts w3 fun p9 w10=>
 stM p9 (.bool b5) w10 fun w11=>
 stM (p9.add 1) (.int .u64 n6) w11 fun w12=>
 stM (p9.add 2) (.int .i64 n7) w12 fun w13=>
 cond (!b8)
 (stM p1 (.bool false) w13 fun w14=>
 stM (p1.add 1) (.slice none 0 0) w14 fun w15=>
 stM (p1.add 2) (.int .i64 0) w15 fun w16=>
 cB_ w16 p1 fun b17=>
 cS_ w16 (p1.add 1) fun s18a s18l s18c=>
 cI_ w16 (p1.add 2) fun n19=>
 K (.tuple #[.agg #[.bool b17,.slice s18a s18l s18c,.int .i64 n19],.int .i64 5]) w16)
 (cU_ w13 (p9.add 1) fun n20=>
 cond (n20==0)
 (stM p1 (.bool false) w13 fun w21=>
 stM (p1.add 1) (.slice none 0 0) w21 fun w22=>
 stM (p1.add 2) (.int .i64 0) w22 fun w23=>
 cB_ w23 p1 fun b24=>
 cS_ w23 (p1.add 1) fun s25a s25l s25c=>
 cI_ w23 (p1.add 2) fun n26=>
 K (.tuple #[.agg #[.bool b24,.slice s25a s25l s25c,.int .i64 n26],.int .i64 0]) w23)
 (cB_ w13 p9 fun b27=>
 cU_ w13 (p9.add 1) fun n28=>
 newM #[.int .u64 n28] N.t_uint64 w13 fun p29 w30=>
 cI_ w30 (p9.add 2) fun n31=>
 stM p1 (.bool b27) w30 fun w32=>
 stM (p1.add 1) (.slice (some p29) 1 1) w32 fun w33=>
 stM (p1.add 2) (.int .i64 n31) w33 fun w34=>
 cB_ w34 p1 fun b35=>
 cS_ w34 (p1.add 1) fun s36a s36l s36c=>
 cI_ w34 (p1.add 2) fun n37=>
 K (.tuple #[.agg #[.bool b35,.slice s36a s36l s36c,.int .i64 n37],.int .i64 0]) w34))
def S_dyad_Mul (N:Nums) (P:Program) (qa:Bool) (qb:OA) (qf qg:Nat) (qc:Int) (ql:Bool) (qm:OA) (qi qj:Nat) (qt:Int) (w:World) (K:KV):Prop:=
 newM #[.bool qa,.slice qb qf qg,.int .i64 qc] N.t_Dyad w fun p1 w2=>
 newM #[.bool ql,.slice qm qi qj,.int .i64 qt] N.t_Dyad w2 fun p3 w4=>
 newM #[.bool false,.slice none 0 0,.int .i64 0] N.t_Dyad w4 fun p5 w6=>
 cB_ w6 p1 fun b7=>
 cS_ w6 (p1.add 1) fun s8a s8l s8c=>
 cI_ w6 (p1.add 2) fun n9=>
 cB_ w6 p3 fun b10=>
 cS_ w6 (p3.add 1) fun s11a s11l s11c=>
 cI_ w6 (p3.add 2) fun n12=>
 CallsX P N.f_dyad_both #[.agg #[.bool b7,.slice s8a s8l s8c,.int .i64 n9],.agg #[.bool b10,.slice s11a s11l s11c,.int .i64 n12]] w6 fun v14 w13=>
 vB_ v14 fun b15=>
 cond (!b15)
 (stM p5 (.bool false) w13 fun w16=>
 stM (p5.add 1) (.slice none 0 0) w16 fun w17=>
 stM (p5.add 2) (.int .i64 0) w17 fun w18=>
 cB_ w18 p5 fun b19=>
 cS_ w18 (p5.add 1) fun s20a s20l s20c=>
 cI_ w18 (p5.add 2) fun n21=>
 K (.tuple #[.agg #[.bool b19,.slice s20a s20l s20c,.int .i64 n21],.int .i64 2]) w18)
 (cB_ w13 p1 fun b22=>
 cS_ w13 (p1.add 1) fun s23a s23l s23c=>
 cI_ w13 (p1.add 2) fun n24=>
 CallsX P N.f_dyad_whole #[.agg #[.bool b22,.slice s23a s23l s23c,.int .i64 n24]] w13 fun v26 w25=>
 ∃ p27:(OA),v26=(.pointer p27) ∧
 cB_ w25 p3 fun b28=>
 cS_ w25 (p3.add 1) fun s29a s29l s29c=>
 cI_ w25 (p3.add 2) fun n30=>
 cI_ w25 (p1.add 2) fun n31=>
 cI_ w25 (p3.add 2) fun n32=>
 drM w25 fun w33=>
 CallsX P N.f_dyad_whole #[.agg #[.bool b28,.slice s29a s29l s29c,.int .i64 n30]] w33 fun v35 w34=>
 ∃ p36:(OA),v35=(.pointer p36) ∧
 w34.cell? (p3.add 2)=some (.int .i64 n32) ∧
 w34.cell? (p1.add 2)=some (.int .i64 n31) ∧
 drM w34 fun w37=>
 CallsX P N.f_bI_Mul #[.pointer p27,.pointer p27,.pointer p36] w37 fun v39 w38=>
 ∃ p40:(OA),v39=(.pointer p40) ∧
 w38.cell? (p3.add 2)=some (.int .i64 n32) ∧
 w38.cell? (p1.add 2)=some (.int .i64 n31) ∧
 drM w38 fun w41=>
 CallsX P N.f_dyad_made #[.pointer p40,.int .i64 (i64.wrap (n31+n32))] w41 fun v43 w42=>
 ∃ b44,∃ s45a s45l s45c,∃ n46,∃ n47,v43=(.tuple #[.agg #[.bool b44,.slice s45a s45l s45c,.int .i64 n46],.int .i64 n47]) ∧
 drM w42 fun w48=>
 stM p5 (.bool b44) w48 fun w49=>
 stM (p5.add 1) (.slice s45a s45l s45c) w49 fun w50=>
 stM (p5.add 2) (.int .i64 n46) w50 fun w51=>
 drM w51 fun w52=>
 cB_ w52 p5 fun b53=>
 cS_ w52 (p5.add 1) fun s54a s54l s54c=>
 cI_ w52 (p5.add 2) fun n55=>
 K (.tuple #[.agg #[.bool b53,.slice s54a s54l s54c,.int .i64 n55],.int .i64 n47]) w52)
def S_dyad_Round (N:Nums) (P:Program) (qa:Bool) (qb:OA) (qf qg:Nat) (qc:Int) (q1:Int) (w:World) (K:KV):Prop:=
 newM #[.bool qa,.slice qb qf qg,.int .i64 qc] N.t_Dyad w fun p1 w2=>
 cB_ w2 p1 fun b3=>
 cS_ w2 (p1.add 1) fun s4a s4l s4c=>
 cI_ w2 (p1.add 2) fun n5=>
 CallsX P N.f_dyad_Right #[.agg #[.bool b3,.slice s4a s4l s4c,.int .i64 n5]] w2 fun v7 w6=>
 vB_ v7 fun b8=>
 cond (!b8)
 (K (.tuple #[.float .f64 0,.int .i64 2]) w6)
 (cS_ w6 (p1.add 1) fun s9a s9l s9c=>
 cond ((s9l:Int)==0)
 (K (.tuple #[.float .f64 0,.int .i64 0]) w6)
 (cB_ w6 p1 fun b10=>
 cS_ w6 (p1.add 1) fun s11a s11l s11c=>
 cI_ w6 (p1.add 2) fun n12=>
 CallsX P N.f_dyad_whole #[.agg #[.bool b10,.slice s11a s11l s11c,.int .i64 n12]] w6 fun v14 w13=>
 ∃ p15:(OA),v14=(.pointer p15) ∧
 CallsX P N.f_bI_Abs #[.pointer p15,.pointer p15] w13 fun v17 w16=>
 ∃ p18:(OA),v17=(.pointer p18) ∧
 cB_ w16 p1 fun b19=>
 cS_ w16 (p1.add 1) fun s20a s20l s20c=>
 cI_ w16 (p1.add 2) fun n21=>
 CallsX P N.f_dyad_top #[.agg #[.bool b19,.slice s20a s20l s20c,.int .i64 n21]] w16 fun v23 w22=>
 ∃ n24,v23=(.int .i64 n24) ∧
 cI_ w22 (p1.add 2) fun n25=>
 cutM (σ:=Int×Unit) (fun J26=>
 cond (decide ((i64.wrap ((if (-1074)>(i64.wrap (n24-53)) then (-1074) else (i64.wrap (n24-53)))-n25))≤0))
 (newM #[.bool false,.slice none 0 0] N.t_bn_Int w22 fun p29 w30=>
 CallsX P N.f_bI_Lsh #[.pointer (some p29),.pointer p15,.int .u64 (u64.wrap (i64.wrap (0-(i64.wrap ((if (-1074)>(i64.wrap (n24-53)) then (-1074) else (i64.wrap (n24-53)))-n25)))))] w30 fun v32 w31=>
 ∃ p33:(OA),v32=(.pointer p33) ∧
 CallsX P N.f_bI_Uint64 #[.pointer p33] w31 fun v35 w34=>
 ∃ n36,v35=(.int .u64 n36) ∧
 J26 (n36,()) w34)
 (newM #[.bool false,.slice none 0 0] N.t_bn_Int w22 fun p37 w38=>
 CallsX P N.f_bI_Rsh #[.pointer (some p37),.pointer p15,.int .u64 (u64.wrap (i64.wrap ((if (-1074)>(i64.wrap (n24-53)) then (-1074) else (i64.wrap (n24-53)))-n25)))] w38 fun v40 w39=>
 ∃ p41:(OA),v40=(.pointer p41) ∧
 CallsX P N.f_bI_Uint64 #[.pointer p41] w39 fun v43 w42=>
 ∃ n44,v43=(.int .u64 n44) ∧
 CallsX P N.f_bI_Lsh #[.pointer p41,.pointer p41,.int .u64 (u64.wrap (i64.wrap ((if (-1074)>(i64.wrap (n24-53)) then (-1074) else (i64.wrap (n24-53)))-n25)))] w42 fun v46 w45=>
 ∃ p47:(OA),v46=(.pointer p47) ∧
 CallsX P N.f_bI_Sub #[.pointer p15,.pointer p15,.pointer p47] w45 fun v49 w48=>
 ∃ p50:(OA),v49=(.pointer p50) ∧
 newM #[.bool false,.slice none 0 0] N.t_bn_Int w48 fun p51 w52=>
 CallsX P N.f_bn_NewInt #[.int .i64 1] w52 fun v54 w53=>
 ∃ p55:(OA),v54=(.pointer p55) ∧
 CallsX P N.f_bI_Lsh #[.pointer (some p51),.pointer p55,.int .u64 (u64.wrap (i64.wrap ((i64.wrap ((if (-1074)>(i64.wrap (n24-53)) then (-1074) else (i64.wrap (n24-53)))-n25))-1)))] w53 fun v57 w56=>
 ∃ p58:(OA),v57=(.pointer p58) ∧
 CallsX P N.f_bI_Cmp #[.pointer p50,.pointer p58] w56 fun v60 w59=>
 ∃ n61,v60=(.int .i64 n61) ∧
 CallsX P N.f_bI_Sign #[.pointer p50] w59 fun v63 w62=>
 ∃ n64,v63=(.int .i64 n64) ∧
 cond (decide (n64>0))
 (cB_ w62 p1 fun b65=>
 CallsX P N.f_dyad_away #[.int .i8 q1,.bool b65,.int .i64 n61,.bool ((u64.wrap (BitVec.ofInt u64.bits n44 &&& BitVec.ofInt u64.bits 1).toNat)==1)] w62 fun v67 w66=>
 vB_ v67 fun b68=>
 cutM (σ:=Int×Unit) (fun J69=>
 cond b68
 (J69 ((u64.wrap (n44+1)),()) w66)
 (J69 (n44,()) w66))
 (fun s70 w71=>
 J26 (s70.1,()) w71))
 (cutM (σ:=Int×Unit) (fun J72=>
 J72 (n44,()) w62)
 (fun s73 w74=>
 J26 (s73.1,()) w74))))
 (fun s27 w28=>
 cB_ w28 p1 fun b75=>
 CallsX P N.f_dyad_float #[.bool b75,.int .u64 s27.1,.int .i64 (if (-1074)>(i64.wrap (n24-53)) then (-1074) else (i64.wrap (n24-53))),.int .i8 q1] w28 fun v77 w76=>
 ∃ x78,v77=(.float .f64 x78) ∧
 K (.tuple #[.float .f64 x78,.int .i64 0]) w76)))
def S_lower_Right (N:Nums) (P:Program) (qa:Int) (qb:OA) (qf qg:Nat) (qc:OA) (qd qe:Nat) (w:World) (K:KV):Prop:=
 newM #[.int .i64 qa,.slice qb qf qg,.slice qc qd qe] N.t_Factor w fun p1 w2=>
 cI_ w2 p1 fun n3=>
 cond (decide (n3≥0))
 (cI_ w2 p1 fun n4=>
 cond (decide (n4≤48))
 (cS_ w2 (p1.add 1) fun s5a s5l s5c=>
 cI_ w2 p1 fun n6=>
 cI_ w2 p1 fun n7=>
 (2:Int)≠0 ∧
 cond ((s5l:Int)==(i64.wrap ((i64.wrap (n6*(i64.wrap (n7-1)))).tdiv 2)))
 (cS_ w2 (p1.add 2) fun s8a s8l s8c=>
 cI_ w2 p1 fun n9=>
 K (.bool ((s8l:Int)==n9)) w2)
 (K (.bool false) w2))
 (K (.bool false) w2))
 (K (.bool false) w2)
def S_vector_each (N:Nums) (P:Program) (q0:OA) (qh qn:Nat) (q1:OA) (qk qp:Nat) (q2:Value) (w:World) (K:KV):Prop:=
 CallsX P N.f_vector_fit #[.slice q0 qh qn,.slice q1 qk qp] w fun v2 w1=>
 ∃ n3,v2=(.int .i64 n3) ∧
 cond (n3 != 0)
 (K (.tuple #[.slice none 0 0,.int .i64 n3]) w1)
 (mkM N.t_float64 1 8 #[.float .f64 0] (qh:Int) (qh:Int) w1 fun p4 w5=>
 cutM (σ:=Unit) (fun J6=>
 loopM (σ:=Int×Unit) (fun s9 X10 w11=>
 cond (decide (s9.1<(qh:Int)))
 ((0:Int)≤s9.1∧s9.1<(qh:Nat) ∧
 optM q0 fun a12=>
 cF_ w11 (a12.add (s9.1.toNat*1)) fun x13=>
 (0:Int)≤s9.1∧s9.1<(qk:Nat) ∧
 optM q1 fun a14=>
 cF_ w11 (a14.add (s9.1.toNat*1)) fun x15=>
 drM w11 fun w16=>
 fnM q2 fun f19 f19p f19q=>CallsX P f19 (f19p.toList++(([.float .f64 x13,.float .f64 x15]:List Value)++f19q.toList)).toArray w16 fun v18 w17=>
 ∃ x20,v18=(.float .f64 x20) ∧
 (0:Int)≤s9.1∧s9.1<((qh:Int).toNat:Nat) ∧
 drM w17 fun w21=>
 stM (p4.add (s9.1.toNat*1)) (.float .f64 x20) w21 fun w22=>
 drM w22 fun w23=>
 X10 ((i64.wrap (s9.1+1)),()) w23)
 (J6 (()) w11))
 (0,()) w5)
 (fun s7 w8=>
 K (.tuple #[.slice (some p4) ((qh:Int).toNat) ((qh:Int).toNat),.int .i64 0]) w8))
def S_vector_Add_1 (N:Nums) (P:Program) (q0:Nat) (q1:Nat) (w:World) (K:KV):Prop:=
 fresM (fadd q0 q1) w fun x1 w2=>
 K (.float .f64 x1) w2
def S_round_Add (N:Nums) (P:Program) (q0:Nat) (q1:Nat) (q2:Int) (w:World) (K:KV):Prop:=
 CallsX P N.f_round_way #[.int .i8 q2] w fun v2 w1=>
 ∃ n3,v2=(.int .i8 n3) ∧
 fresM (fadd q0 q1) w1 fun x4 w5=>
 newM #[.float .f64 q0,.float .f64 q1] N.t_float64 w5 fun p6 w7=>
 CallsX P N.f_round_finite #[.slice (some p6) 2 2] w7 fun v9 w8=>
 vB_ v9 fun b10=>
 cond (!b10)
 (K (.float .f64 x4) w8)
 (cutM (σ:=Bool×Unit) (fun J11=>
 cond (feq x4 0)
 (cond (!(!feq q0 0))
 (cond (feq x4 0)
 (CallsX P N.f_math_Signbit #[.float .f64 q0] w8 fun v15 w14=>
 vB_ v15 fun b16=>
 CallsX P N.f_math_Signbit #[.float .f64 q1] w14 fun v18 w17=>
 vB_ v18 fun b19=>
 J11 ((!(b16==b19)),()) w17)
 (J11 (false,()) w8))
 (J11 (true,()) w8))
 (cond (feq x4 0)
 (CallsX P N.f_math_Signbit #[.float .f64 q0] w8 fun v21 w20=>
 vB_ v21 fun b22=>
 CallsX P N.f_math_Signbit #[.float .f64 q1] w20 fun v24 w23=>
 vB_ v24 fun b25=>
 J11 ((!(b22==b25)),()) w23)
 (J11 (false,()) w8)))
 (fun s12 w13=>
 cond s12.1
 (CallsX P N.f_round_none #[.int .i8 n3] w13 fun v27 w26=>
 ∃ x28,v27=(.float .f64 x28) ∧
 K (.float .f64 x28) w26)
 (cond (feq x4 0)
 (K (.float .f64 x4) w13)
 (CallsX P N.f_math_IsInf #[.float .f64 x4,.int .i64 0] w13 fun v30 w29=>
 vB_ v30 fun b31=>
 cond b31
 (CallsX P N.f_round_settle #[.float .f64 x4,.int .i64 0,.int .i8 n3] w29 fun v33 w32=>
 ∃ x34,v33=(.float .f64 x34) ∧
 K (.float .f64 x34) w32)
 (CallsX P N.f_math_Abs #[.float .f64 q0] w29 fun v36 w35=>
 ∃ x37,v36=(.float .f64 x37) ∧
 CallsX P N.f_math_Abs #[.float .f64 q1] w35 fun v39 w38=>
 ∃ x40,v39=(.float .f64 x40) ∧
 cutM (σ:=Nat×Nat×Unit) (fun J41=>
 cond (flt x37 x40)
 (J41 (q1,q0,()) w38)
 (J41 (q0,q1,()) w38))
 (fun s42 w43=>
 fresM (fsub x4 s42.1) w43 fun x44 w45=>
 fresM (fsub s42.2.1 x44) w45 fun x46 w47=>
 CallsX P N.f_round_sign #[.float .f64 x46] w47 fun v49 w48=>
 ∃ n50,v49=(.int .i64 n50) ∧
 CallsX P N.f_round_settle #[.float .f64 x4,.int .i64 n50,.int .i8 n3] w48 fun v52 w51=>
 ∃ x53,v52=(.float .f64 x53) ∧
 K (.float .f64 x53) w51))))))
def S_math_Abs (N:Nums) (P:Program) (q0:Nat) (w:World) (K:KV):Prop:=
 CallsX P N.f_math_Float64bits #[.float .f64 q0] w fun v2 w1=>
 ∃ n3,v2=(.int .u64 n3) ∧
 CallsX P N.f_math_Float64frombits #[.int .u64 (u64.wrap (BitVec.ofInt u64.bits n3 &&& ~~~BitVec.ofInt u64.bits 9223372036854775808).toNat)] w1 fun v5 w4=>
 ∃ x6,v5=(.float .f64 x6) ∧
 K (.float .f64 x6) w4
def S_solve_fits (N:Nums) (P:Program) (qa:Int) (qb:OA) (qf qg:Nat) (qc:OA) (qd qe:Nat) (q1:Int) (w:World) (K:KV):Prop:=
 newM #[.int .i64 qa,.slice qb qf qg,.slice qc qd qe] N.t_Factor w fun p1 w2=>
 cI_ w2 p1 fun n3=>
 cS_ w2 (p1.add 1) fun s4a s4l s4c=>
 cS_ w2 (p1.add 2) fun s5a s5l s5c=>
 CallsX P N.f_lower_Right #[.agg #[.int .i64 n3,.slice s4a s4l s4c,.slice s5a s5l s5c]] w2 fun v7 w6=>
 vB_ v7 fun b8=>
 cond (!(!b8))
 (cI_ w6 p1 fun n9=>
 cond (q1 != n9)
 (K (.int .i64 4) w6)
 (K (.int .i64 0) w6))
 (K (.int .i64 4) w6)
def S_slices_Clone___float64_float64 (N:Nums) (P:Program) (q0:OA) (qh qn:Nat) (w:World) (K:KV):Prop:=
 cond (Option.isNone q0)
 (K (.slice none 0 0) w)
 (newM #[] N.t_float64 w fun p1 w2=>
 appM N.t_float64 1 8 #[.float .f64 0] (some p1) 0 0 q0 qh w2 fun s3a s3l s3c w4=>
 K (.slice s3a s3l s3c) w4)
def S_solve_below (N:Nums) (P:Program) (qa:Int) (qb:OA) (qf qg:Nat) (qc:OA) (qd qe:Nat) (q1:Int) (q2:Int) (w:World) (K:KV):Prop:=
 newM #[.int .i64 qa,.slice qb qf qg,.slice qc qd qe] N.t_Factor w fun p1 w2=>
 cS_ w2 (p1.add 1) fun s3a s3l s3c=>
 (2:Int)≠0 ∧
 (0:Int)≤(i64.wrap ((i64.wrap ((i64.wrap (q1*(i64.wrap (q1-1)))).tdiv 2))+q2))∧(i64.wrap ((i64.wrap ((i64.wrap (q1*(i64.wrap (q1-1)))).tdiv 2))+q2))<(s3l:Nat) ∧
 optM s3a fun a4=>
 ∃ x5,w2.cell? (a4.add ((i64.wrap ((i64.wrap ((i64.wrap (q1*(i64.wrap (q1-1)))).tdiv 2))+q2)).toNat*1))=some (.float .f64 x5) ∧
 K (.float .f64 x5) w2
def S_slices_Contains___float64_float64 (N:Nums) (P:Program) (q0:OA) (qh qn:Nat) (q1:Nat) (w:World) (K:KV):Prop:=
 CallsX P N.f_slices_Index___float64_float64 #[.slice q0 qh qn,.float .f64 q1] w fun v2 w1=>
 ∃ n3,v2=(.int .i64 n3) ∧
 K (.bool (decide (n3≥0))) w1
def S_matrix_fits (N:Nums) (P:Program) (q0:Int) (w:World) (K:KV):Prop:=
 cond (decide (q0≥0))
 (K (.bool (decide (q0≤48))) w)
 (K (.bool false) w)
def S_math_IsNaN (N:Nums) (P:Program) (q0:Nat) (w:World) (K:KV):Prop:=
 K (.bool (!feq q0 q0)) w
def S_math_IsInf (N:Nums) (P:Program) (q0:Nat) (q1:Int) (w:World) (K:KV):Prop:=
 cutM (σ:=Nat×Unit) (fun J1=>
 cond (q1==0)
 (CallsX P N.f_math_Abs #[.float .f64 q0] w fun v5 w4=>
 ∃ x6,v5=(.float .f64 x6) ∧
 J1 (x6,()) w4)
 (cutM (σ:=Nat×Unit) (fun J7=>
 cond (decide (q1<0))
 (J7 ((fneg q0),()) w)
 (J7 (q0,()) w))
 (fun s8 w9=>
 J1 (s8.1,()) w9)))
 (fun s2 w3=>
 K (.bool (fgt s2.1 9218868437227405311)) w3)
def S_dyad_Int (N:Nums) (P:Program) (q0:Int) (w:World) (K:KV):Prop:=
 newM #[.bool false,.slice none 0 0,.int .i64 0] N.t_Dyad w fun p1 w2=>
 CallsX P N.f_bn_NewInt #[.int .i64 q0] w2 fun v4 w3=>
 ∃ p5:(OA),v4=(.pointer p5) ∧
 CallsX P N.f_dyad_made #[.pointer p5,.int .i64 0] w3 fun v7 w6=>
 ∃ b8,∃ s9a s9l s9c,∃ n10,∃ n11,v7=(.tuple #[.agg #[.bool b8,.slice s9a s9l s9c,.int .i64 n10],.int .i64 n11]) ∧
 newM #[.bool false,.slice none 0 0,.int .i64 0] N.t_Dyad w6 fun p12 w13=>
 stM p12 (.bool b8) w13 fun w14=>
 stM (p12.add 1) (.slice s9a s9l s9c) w14 fun w15=>
 stM (p12.add 2) (.int .i64 n10) w15 fun w16=>
 cB_ w16 p12 fun b17=>
 cS_ w16 (p12.add 1) fun s18a s18l s18c=>
 cI_ w16 (p12.add 2) fun n19=>
 stM p1 (.bool b17) w16 fun w20=>
 stM (p1.add 1) (.slice s18a s18l s18c) w20 fun w21=>
 stM (p1.add 2) (.int .i64 n19) w21 fun w22=>
 cB_ w22 p1 fun b23=>
 cS_ w22 (p1.add 1) fun s24a s24l s24c=>
 cI_ w22 (p1.add 2) fun n25=>
 K (.agg #[.bool b23,.slice s24a s24l s24c,.int .i64 n25]) w22
def S_dyad_Add (N:Nums) (P:Program) (qa:Bool) (qb:OA) (qf qg:Nat) (qc:Int) (ql:Bool) (qm:OA) (qi qj:Nat) (qt:Int) (w:World) (K:KV):Prop:=
 newM #[.bool qa,.slice qb qf qg,.int .i64 qc] N.t_Dyad w fun p1 w2=>
 newM #[.bool ql,.slice qm qi qj,.int .i64 qt] N.t_Dyad w2 fun p3 w4=>
 newM #[.bool false,.slice none 0 0,.int .i64 0] N.t_Dyad w4 fun p5 w6=>
 cB_ w6 p1 fun b7=>
 cS_ w6 (p1.add 1) fun s8a s8l s8c=>
 cI_ w6 (p1.add 2) fun n9=>
 cB_ w6 p3 fun b10=>
 cS_ w6 (p3.add 1) fun s11a s11l s11c=>
 cI_ w6 (p3.add 2) fun n12=>
 CallsX P N.f_dyad_both #[.agg #[.bool b7,.slice s8a s8l s8c,.int .i64 n9],.agg #[.bool b10,.slice s11a s11l s11c,.int .i64 n12]] w6 fun v14 w13=>
 vB_ v14 fun b15=>
 cond (!b15)
 (stM p5 (.bool false) w13 fun w16=>
 stM (p5.add 1) (.slice none 0 0) w16 fun w17=>
 stM (p5.add 2) (.int .i64 0) w17 fun w18=>
 cB_ w18 p5 fun b19=>
 cS_ w18 (p5.add 1) fun s20a s20l s20c=>
 cI_ w18 (p5.add 2) fun n21=>
 K (.tuple #[.agg #[.bool b19,.slice s20a s20l s20c,.int .i64 n21],.int .i64 2]) w18)
 (cB_ w13 p1 fun b22=>
 cS_ w13 (p1.add 1) fun s23a s23l s23c=>
 cI_ w13 (p1.add 2) fun n24=>
 cB_ w13 p3 fun b25=>
 cS_ w13 (p3.add 1) fun s26a s26l s26c=>
 cI_ w13 (p3.add 2) fun n27=>
 drM w13 fun w28=>
 CallsX P N.f_dyad_whole #[.agg #[.bool b22,.slice s23a s23l s23c,.int .i64 n24]] w28 fun v30 w29=>
 ∃ p31:(OA),v30=(.pointer p31) ∧
 w29.cell? p3=some (.bool b25) ∧
 w29.cell? (p3.add 1)=some (.slice s26a s26l s26c) ∧
 w29.cell? (p3.add 2)=some (.int .i64 n27) ∧
 drM w29 fun w32=>
 CallsX P N.f_dyad_whole #[.agg #[.bool b25,.slice s26a s26l s26c,.int .i64 n27]] w32 fun v34 w33=>
 ∃ p35:(OA),v34=(.pointer p35) ∧
 drM w33 fun w36=>
 cutM (σ:=Bool×Unit) (fun J37=>
 CallsX P N.f_bI_Sign #[.pointer p31] w36 fun v41 w40=>
 ∃ n42,v41=(.int .i64 n42) ∧
 cond (!(n42==0))
 (CallsX P N.f_bI_Sign #[.pointer p35] w40 fun v44 w43=>
 ∃ n45,v44=(.int .i64 n45) ∧
 J37 ((n45==0),()) w43)
 (J37 (true,()) w40))
 (fun s38 w39=>
 cond s38.1
 (cI_ w39 (p1.add 2) fun n46=>
 cI_ w39 (p3.add 2) fun n47=>
 drM w39 fun w48=>
 CallsX P N.f_bI_Add #[.pointer p31,.pointer p31,.pointer p35] w48 fun v50 w49=>
 ∃ p51:(OA),v50=(.pointer p51) ∧
 w49.cell? (p3.add 2)=some (.int .i64 n47) ∧
 w49.cell? (p1.add 2)=some (.int .i64 n46) ∧
 drM w49 fun w52=>
 CallsX P N.f_dyad_made #[.pointer p51,.int .i64 (i64.wrap (n46+n47))] w52 fun v54 w53=>
 ∃ b55,∃ s56a s56l s56c,∃ n57,∃ n58,v54=(.tuple #[.agg #[.bool b55,.slice s56a s56l s56c,.int .i64 n57],.int .i64 n58]) ∧
 drM w53 fun w59=>
 stM p5 (.bool b55) w59 fun w60=>
 stM (p5.add 1) (.slice s56a s56l s56c) w60 fun w61=>
 stM (p5.add 2) (.int .i64 n57) w61 fun w62=>
 drM w62 fun w63=>
 cB_ w63 p5 fun b64=>
 cS_ w63 (p5.add 1) fun s65a s65l s65c=>
 cI_ w63 (p5.add 2) fun n66=>
 K (.tuple #[.agg #[.bool b64,.slice s65a s65l s65c,.int .i64 n66],.int .i64 n58]) w63)
 (cI_ w39 (p1.add 2) fun n67=>
 cI_ w39 (p3.add 2) fun n68=>
 cutM (σ:=(OA)×(OA)×Unit) (fun J69=>
 cond (decide (n67<n68))
 (cB_ w39 p3 fun b72=>
 cS_ w39 (p3.add 1) fun s73a s73l s73c=>
 cI_ w39 (p3.add 2) fun n74=>
 cB_ w39 p1 fun b75=>
 cS_ w39 (p1.add 1) fun s76a s76l s76c=>
 cI_ w39 (p1.add 2) fun n77=>
 stM p1 (.bool b72) w39 fun w78=>
 stM (p1.add 1) (.slice s73a s73l s73c) w78 fun w79=>
 stM (p1.add 2) (.int .i64 n74) w79 fun w80=>
 stM p3 (.bool b75) w80 fun w81=>
 stM (p3.add 1) (.slice s76a s76l s76c) w81 fun w82=>
 stM (p3.add 2) (.int .i64 n77) w82 fun w83=>
 J69 (p35,p31,()) w83)
 (J69 (p31,p35,()) w39))
 (fun s70 w71=>
 cI_ w71 (p1.add 2) fun n84=>
 cI_ w71 (p3.add 2) fun n85=>
 cond (decide ((i64.wrap (n84-n85))>16385))
 (stM p5 (.bool false) w71 fun w86=>
 stM (p5.add 1) (.slice none 0 0) w86 fun w87=>
 stM (p5.add 2) (.int .i64 0) w87 fun w88=>
 cB_ w88 p5 fun b89=>
 cS_ w88 (p5.add 1) fun s90a s90l s90c=>
 cI_ w88 (p5.add 2) fun n91=>
 K (.tuple #[.agg #[.bool b89,.slice s90a s90l s90c,.int .i64 n91],.int .i64 3]) w88)
 (cI_ w71 (p3.add 2) fun n92=>
 drM w71 fun w93=>
 CallsX P N.f_bI_Lsh #[.pointer s70.1,.pointer s70.1,.int .u64 (u64.wrap (i64.wrap (n84-n85)))] w93 fun v95 w94=>
 ∃ p96:(OA),v95=(.pointer p96) ∧
 w94.cell? (p3.add 2)=some (.int .i64 n92) ∧
 drM w94 fun w97=>
 CallsX P N.f_bI_Add #[.pointer s70.1,.pointer p96,.pointer s70.2.1] w97 fun v99 w98=>
 ∃ p100:(OA),v99=(.pointer p100) ∧
 w98.cell? (p3.add 2)=some (.int .i64 n92) ∧
 drM w98 fun w101=>
 CallsX P N.f_dyad_made #[.pointer p100,.int .i64 n92] w101 fun v103 w102=>
 ∃ b104,∃ s105a s105l s105c,∃ n106,∃ n107,v103=(.tuple #[.agg #[.bool b104,.slice s105a s105l s105c,.int .i64 n106],.int .i64 n107]) ∧
 drM w102 fun w108=>
 stM p5 (.bool b104) w108 fun w109=>
 stM (p5.add 1) (.slice s105a s105l s105c) w109 fun w110=>
 stM (p5.add 2) (.int .i64 n106) w110 fun w111=>
 drM w111 fun w112=>
 cB_ w112 p5 fun b113=>
 cS_ w112 (p5.add 1) fun s114a s114l s114c=>
 cI_ w112 (p5.add 2) fun n115=>
 K (.tuple #[.agg #[.bool b113,.slice s114a s114l s114c,.int .i64 n115],.int .i64 n107]) w112)))))
def S_bits_Split (N:Nums) (P:Program) (q0:Nat) (w:World) (K:KV):Prop:=
 newM #[.bool false,.int .u64 0,.int .i64 0] N.t_Parts w fun p1 w2=>
 CallsX P N.f_bits_Kind #[.float .f64 q0] w2 fun v4 w3=>
 ∃ n5,v4=(.int .i64 n5) ∧
 cond (decide (n5>2))
 (stM p1 (.bool false) w3 fun w6=>
 stM (p1.add 1) (.int .u64 0) w6 fun w7=>
 stM (p1.add 2) (.int .i64 0) w7 fun w8=>
 cB_ w8 p1 fun b9=>
 cU_ w8 (p1.add 1) fun n10=>
 cI_ w8 (p1.add 2) fun n11=>
 K (.tuple #[.agg #[.bool b9,.int .u64 n10,.int .i64 n11],.bool false]) w8)
 (CallsX P N.f_math_Signbit #[.float .f64 q0] w3 fun v13 w12=>
 vB_ v13 fun b14=>
 newM #[.bool false,.int .u64 0,.int .i64 0] N.t_Parts w12 fun p15 w16=>
 stM p15 (.bool b14) w16 fun w17=>
 stM (p15.add 1) (.int .u64 0) w17 fun w18=>
 stM (p15.add 2) (.int .i64 0) w18 fun w19=>
 cond (feq q0 0)
 (cB_ w19 p15 fun b20=>
 cU_ w19 (p15.add 1) fun n21=>
 cI_ w19 (p15.add 2) fun n22=>
 stM p1 (.bool b20) w19 fun w23=>
 stM (p1.add 1) (.int .u64 n21) w23 fun w24=>
 stM (p1.add 2) (.int .i64 n22) w24 fun w25=>
 cB_ w25 p1 fun b26=>
 cU_ w25 (p1.add 1) fun n27=>
 cI_ w25 (p1.add 2) fun n28=>
 K (.tuple #[.agg #[.bool b26,.int .u64 n27,.int .i64 n28],.bool true]) w25)
 (CallsX P N.f_math_Abs #[.float .f64 q0] w19 fun v30 w29=>
 ∃ x31,v30=(.float .f64 x31) ∧
 CallsX P N.f_math_Frexp #[.float .f64 x31] w29 fun v33 w32=>
 ∃ x34,∃ n35,v33=(.tuple #[.float .f64 x34,.int .i64 n35]) ∧
 CallsX P N.f_math_Ldexp #[.float .f64 x34,.int .i64 53] w32 fun v37 w36=>
 ∃ x38,v37=(.float .f64 x38) ∧
 f2iM x38 .u64 w36 fun n39 w40=>
 stM (p15.add 1) (.int .u64 n39) w40 fun w41=>
 cU_ w41 (p15.add 1) fun n42=>
 CallsX P N.f_math_bits_TrailingZeros64 #[.int .u64 n42] w41 fun v44 w43=>
 ∃ n45,v44=(.int .i64 n45) ∧
 cU_ w43 (p15.add 1) fun n46=>
 (0:Int)≤n45 ∧
 stM (p15.add 1) (.int .u64 (n46.fdiv (2^(min n45.toNat u64.bits)))) w43 fun w47=>
 stM (p15.add 2) (.int .i64 (i64.wrap ((i64.wrap (n35-53))+n45))) w47 fun w48=>
 cB_ w48 p15 fun b49=>
 cU_ w48 (p15.add 1) fun n50=>
 cI_ w48 (p15.add 2) fun n51=>
 stM p1 (.bool b49) w48 fun w52=>
 stM (p1.add 1) (.int .u64 n50) w52 fun w53=>
 stM (p1.add 2) (.int .i64 n51) w53 fun w54=>
 cB_ w54 p1 fun b55=>
 cU_ w54 (p1.add 1) fun n56=>
 cI_ w54 (p1.add 2) fun n57=>
 K (.tuple #[.agg #[.bool b55,.int .u64 n56,.int .i64 n57],.bool true]) w54))
def S_dyad_both (N:Nums) (P:Program) (qa:Bool) (qb:OA) (qf qg:Nat) (qc:Int) (ql:Bool) (qm:OA) (qi qj:Nat) (qt:Int) (w:World) (K:KV):Prop:=
 newM #[.bool qa,.slice qb qf qg,.int .i64 qc] N.t_Dyad w fun p1 w2=>
 newM #[.bool ql,.slice qm qi qj,.int .i64 qt] N.t_Dyad w2 fun p3 w4=>
 cB_ w4 p1 fun b5=>
 cS_ w4 (p1.add 1) fun s6a s6l s6c=>
 cI_ w4 (p1.add 2) fun n7=>
 CallsX P N.f_dyad_Right #[.agg #[.bool b5,.slice s6a s6l s6c,.int .i64 n7]] w4 fun v9 w8=>
 vB_ v9 fun b10=>
 cond b10
 (cB_ w8 p3 fun b11=>
 cS_ w8 (p3.add 1) fun s12a s12l s12c=>
 cI_ w8 (p3.add 2) fun n13=>
 CallsX P N.f_dyad_Right #[.agg #[.bool b11,.slice s12a s12l s12c,.int .i64 n13]] w8 fun v15 w14=>
 vB_ v15 fun b16=>
 K (.bool b16) w14)
 (K (.bool false) w8)
def S_dyad_whole (N:Nums) (P:Program) (qa:Bool) (qb:OA) (qf qg:Nat) (qc:Int) (w:World) (K:KV):Prop:=
 newM #[.bool qa,.slice qb qf qg,.int .i64 qc] N.t_Dyad w fun p1 w2=>
 newM #[.bool false,.slice none 0 0] N.t_bn_Int w2 fun p3 w4=>
 cS_ w4 (p1.add 1) fun s5a s5l s5c=>
 cutM (σ:=Unit) (fun J6=>
 loopM (σ:=Int×Unit) (fun s9 X10 w11=>
 cond (decide (s9.1<(s5l:Int)))
 (CallsX P N.f_bI_Lsh #[.pointer (some p3),.pointer (some p3),.int .u64 64] w11 fun v13 w12=>
 ∃ p14:(OA),v13=(.pointer p14) ∧
 newM #[.bool false,.slice none 0 0] N.t_bn_Int w12 fun p15 w16=>
 cS_ w16 (p1.add 1) fun s17a s17l s17c=>
 cS_ w16 (p1.add 1) fun s18a s18l s18c=>
 (0:Int)≤(i64.wrap ((i64.wrap ((s18l:Int)-1))-s9.1))∧(i64.wrap ((i64.wrap ((s18l:Int)-1))-s9.1))<(s17l:Nat) ∧
 optM s17a fun a19=>
 ∃ n20,w16.cell? (a19.add ((i64.wrap ((i64.wrap ((s18l:Int)-1))-s9.1)).toNat*1))=some (.int .u64 n20) ∧
 CallsX P N.f_bI_SetUint64 #[.pointer (some p15),.int .u64 n20] w16 fun v22 w21=>
 ∃ p23:(OA),v22=(.pointer p23) ∧
 CallsX P N.f_bI_Or #[.pointer (some p3),.pointer (some p3),.pointer p23] w21 fun v25 w24=>
 ∃ p26:(OA),v25=(.pointer p26) ∧
 X10 ((i64.wrap (s9.1+1)),()) w24)
 (J6 (()) w11))
 (0,()) w4)
 (fun s7 w8=>
 cB_ w8 p1 fun b27=>
 cutM (σ:=Unit) (fun J28=>
 cond b27
 (CallsX P N.f_bI_Neg #[.pointer (some p3),.pointer (some p3)] w8 fun v32 w31=>
 ∃ p33:(OA),v32=(.pointer p33) ∧
 J28 (()) w31)
 (J28 (()) w8))
 (fun s29 w30=>
 K (.pointer (some p3)) w30))
def S_dyad_made (N:Nums) (P:Program) (q0:OA) (q1:Int) (w:World) (K:KV):Prop:=
 newM #[.bool false,.slice none 0 0,.int .i64 0] N.t_Dyad w fun p1 w2=>
 CallsX P N.f_bI_Sign #[.pointer q0] w2 fun v4 w3=>
 ∃ n5,v4=(.int .i64 n5) ∧
 cond (n5==0)
 (stM p1 (.bool false) w3 fun w6=>
 stM (p1.add 1) (.slice none 0 0) w6 fun w7=>
 stM (p1.add 2) (.int .i64 0) w7 fun w8=>
 cB_ w8 p1 fun b9=>
 cS_ w8 (p1.add 1) fun s10a s10l s10c=>
 cI_ w8 (p1.add 2) fun n11=>
 K (.tuple #[.agg #[.bool b9,.slice s10a s10l s10c,.int .i64 n11],.int .i64 0]) w8)
 (CallsX P N.f_bI_TrailingZeroBits #[.pointer q0] w3 fun v13 w12=>
 ∃ n14,v13=(.int .u64 n14) ∧
 cond (decide (q1>65536))
 (stM p1 (.bool false) w12 fun w15=>
 stM (p1.add 1) (.slice none 0 0) w15 fun w16=>
 stM (p1.add 2) (.int .i64 0) w16 fun w17=>
 cB_ w17 p1 fun b18=>
 cS_ w17 (p1.add 1) fun s19a s19l s19c=>
 cI_ w17 (p1.add 2) fun n20=>
 K (.tuple #[.agg #[.bool b18,.slice s19a s19l s19c,.int .i64 n20],.int .i64 3]) w17)
 (cond (decide (q1<(i64.wrap ((-65536)-(i64.wrap n14)))))
 (stM p1 (.bool false) w12 fun w21=>
 stM (p1.add 1) (.slice none 0 0) w21 fun w22=>
 stM (p1.add 2) (.int .i64 0) w22 fun w23=>
 cB_ w23 p1 fun b24=>
 cS_ w23 (p1.add 1) fun s25a s25l s25c=>
 cI_ w23 (p1.add 2) fun n26=>
 K (.tuple #[.agg #[.bool b24,.slice s25a s25l s25c,.int .i64 n26],.int .i64 3]) w23)
 (cond (decide ((i64.wrap (q1+(i64.wrap n14)))>65536))
 (stM p1 (.bool false) w12 fun w27=>
 stM (p1.add 1) (.slice none 0 0) w27 fun w28=>
 stM (p1.add 2) (.int .i64 0) w28 fun w29=>
 cB_ w29 p1 fun b30=>
 cS_ w29 (p1.add 1) fun s31a s31l s31c=>
 cI_ w29 (p1.add 2) fun n32=>
 K (.tuple #[.agg #[.bool b30,.slice s31a s31l s31c,.int .i64 n32],.int .i64 3]) w29)
 (CallsX P N.f_bI_BitLen #[.pointer q0] w12 fun v34 w33=>
 ∃ n35,v34=(.int .i64 n35) ∧
 cond (decide ((i64.wrap (n35-(i64.wrap n14)))>16384))
 (stM p1 (.bool false) w33 fun w36=>
 stM (p1.add 1) (.slice none 0 0) w36 fun w37=>
 stM (p1.add 2) (.int .i64 0) w37 fun w38=>
 cB_ w38 p1 fun b39=>
 cS_ w38 (p1.add 1) fun s40a s40l s40c=>
 cI_ w38 (p1.add 2) fun n41=>
 K (.tuple #[.agg #[.bool b39,.slice s40a s40l s40c,.int .i64 n41],.int .i64 3]) w38)
 (CallsX P N.f_bI_Sign #[.pointer q0] w33 fun v43 w42=>
 ∃ n44,v43=(.int .i64 n44) ∧
 newM #[.bool false,.slice none 0 0] N.t_bn_Int w42 fun p45 w46=>
 newM #[.bool false,.slice none 0 0] N.t_bn_Int w46 fun p47 w48=>
 CallsX P N.f_bI_Abs #[.pointer (some p47),.pointer q0] w48 fun v50 w49=>
 ∃ p51:(OA),v50=(.pointer p51) ∧
 CallsX P N.f_bI_Rsh #[.pointer (some p45),.pointer p51,.int .u64 (u64.wrap (i64.wrap n14))] w49 fun v53 w52=>
 ∃ p54:(OA),v53=(.pointer p54) ∧
 CallsX P N.f_dyad_limbs #[.pointer p54] w52 fun v56 w55=>
 vS_ v56 fun s57a s57l s57c=>
 stM p1 (.bool (decide (n44<0))) w55 fun w58=>
 stM (p1.add 1) (.slice s57a s57l s57c) w58 fun w59=>
 stM (p1.add 2) (.int .i64 (i64.wrap (q1+(i64.wrap n14)))) w59 fun w60=>
 cB_ w60 p1 fun b61=>
 cS_ w60 (p1.add 1) fun s62a s62l s62c=>
 cI_ w60 (p1.add 2) fun n63=>
 K (.tuple #[.agg #[.bool b61,.slice s62a s62l s62c,.int .i64 n63],.int .i64 0]) w60)))))
def S_bI_Mul (N:Nums) (P:Program) (q0:OA) (q1:OA) (q2:OA) (w:World) (K:KV):Prop:=
 optM q1 fun a1=>
 cB_ w a1 fun b2=>
 optM q2 fun a3=>
 cB_ w a3 fun b4=>
 optM q1 fun a5=>
 cS_ w (a5.add 1) fun s6a s6l s6c=>
 optM q2 fun a7=>
 cS_ w (a7.add 1) fun s8a s8l s8c=>
 drM w fun w9=>
 CallsX P N.f_bn_mul #[.slice s6a s6l s6c,.slice s8a s8l s8c] w9 fun v11 w10=>
 vS_ v11 fun s12a s12l s12c=>
 w10.cell? a3=some (.bool b4) ∧
 w10.cell? a1=some (.bool b2) ∧
 drM w10 fun w13=>
 CallsX P N.f_bI_give #[.pointer q0,.bool (!(b2==b4)),.slice s12a s12l s12c] w13 fun v15 w14=>
 ∃ p16:(OA),v15=(.pointer p16) ∧
 drM w14 fun w17=>
 K (.pointer p16) w17
def S_dyad_Right (N:Nums) (P:Program) (qa:Bool) (qb:OA) (qf qg:Nat) (qc:Int) (w:World) (K:KV):Prop:=
 newM #[.bool qa,.slice qb qf qg,.int .i64 qc] N.t_Dyad w fun p1 w2=>
 cS_ w2 (p1.add 1) fun s3a s3l s3c=>
 cond ((s3l:Int)==0)
 (cB_ w2 p1 fun b4=>
 cond (!b4)
 (cI_ w2 (p1.add 2) fun n5=>
 K (.bool (n5==0)) w2)
 (K (.bool false) w2))
 (cond (decide ((s3l:Int)≤256))
 (cS_ w2 (p1.add 1) fun s6a s6l s6c=>
 (0:Int)≤(i64.wrap ((s3l:Int)-1))∧(i64.wrap ((s3l:Int)-1))<(s6l:Nat) ∧
 optM s6a fun a7=>
 ∃ n8,w2.cell? (a7.add ((i64.wrap ((s3l:Int)-1)).toNat*1))=some (.int .u64 n8) ∧
 cond (n8 != 0)
 (cS_ w2 (p1.add 1) fun s9a s9l s9c=>
 (0:Int)≤(0:Int)∧(0:Int)<(s9l:Nat) ∧
 optM s9a fun a10=>
 cU_ w2 (a10.add ((0:Int).toNat*1)) fun n11=>
 cond ((u64.wrap (BitVec.ofInt u64.bits n11 &&& BitVec.ofInt u64.bits 1).toNat)==1)
 (cI_ w2 (p1.add 2) fun n12=>
 cond (decide (((-65536):Int)≤n12))
 (cI_ w2 (p1.add 2) fun n13=>
 K (.bool (decide (n13≤65536))) w2)
 (K (.bool false) w2))
 (K (.bool false) w2))
 (K (.bool false) w2))
 (K (.bool false) w2))
def S_bI_Abs (N:Nums) (P:Program) (q0:OA) (q1:OA) (w:World) (K:KV):Prop:=
 optM q1 fun a1=>
 cS_ w (a1.add 1) fun s2a s2l s2c=>
 CallsX P N.f_bn_twin #[.slice s2a s2l s2c] w fun v4 w3=>
 vS_ v4 fun s5a s5l s5c=>
 CallsX P N.f_bI_give #[.pointer q0,.bool false,.slice s5a s5l s5c] w3 fun v7 w6=>
 ∃ p8:(OA),v7=(.pointer p8) ∧
 K (.pointer p8) w6
def S_dyad_top (N:Nums) (P:Program) (qa:Bool) (qb:OA) (qf qg:Nat) (qc:Int) (w:World) (K:KV):Prop:=
 newM #[.bool qa,.slice qb qf qg,.int .i64 qc] N.t_Dyad w fun p1 w2=>
 cS_ w2 (p1.add 1) fun s3a s3l s3c=>
 cI_ w2 (p1.add 2) fun n4=>
 cS_ w2 (p1.add 1) fun s5a s5l s5c=>
 (0:Int)≤(i64.wrap ((s3l:Int)-1))∧(i64.wrap ((s3l:Int)-1))<(s5l:Nat) ∧
 optM s5a fun a6=>
 ∃ n7,w2.cell? (a6.add ((i64.wrap ((s3l:Int)-1)).toNat*1))=some (.int .u64 n7) ∧
 drM w2 fun w8=>
 CallsX P N.f_math_bits_Len64 #[.int .u64 n7] w8 fun v10 w9=>
 ∃ n11,v10=(.int .i64 n11) ∧
 w9.cell? (p1.add 2)=some (.int .i64 n4) ∧
 drM w9 fun w12=>
 K (.int .i64 (i64.wrap ((i64.wrap (n4+(i64.wrap (64*(i64.wrap ((s3l:Int)-1))))))+n11))) w12
def S_bI_Lsh (N:Nums) (P:Program) (q0:OA) (q1:OA) (q2:Int) (w:World) (K:KV):Prop:=
 optM q1 fun a1=>
 cB_ w a1 fun b2=>
 optM q1 fun a3=>
 cS_ w (a3.add 1) fun s4a s4l s4c=>
 drM w fun w5=>
 CallsX P N.f_bn_left #[.slice s4a s4l s4c,.int .u64 q2] w5 fun v7 w6=>
 vS_ v7 fun s8a s8l s8c=>
 w6.cell? a1=some (.bool b2) ∧
 drM w6 fun w9=>
 CallsX P N.f_bI_give #[.pointer q0,.bool b2,.slice s8a s8l s8c] w9 fun v11 w10=>
 ∃ p12:(OA),v11=(.pointer p12) ∧
 drM w10 fun w13=>
 K (.pointer p12) w13
def S_bI_Uint64 (N:Nums) (P:Program) (q0:OA) (w:World) (K:KV):Prop:=
 optM q0 fun a1=>
 cS_ w (a1.add 1) fun s2a s2l s2c=>
 cutM (σ:=Int×Unit) (fun J3=>
 cond (decide ((s2l:Int)>0))
 (optM q0 fun a6=>
 cS_ w (a6.add 1) fun s7a s7l s7c=>
 (0:Int)≤(0:Int)∧(0:Int)<(s7l:Nat) ∧
 optM s7a fun a8=>
 cW_ w (a8.add ((0:Int).toNat*1)) fun n9=>
 J3 ((u64.wrap n9),()) w)
 (J3 (0,()) w))
 (fun s4 w5=>
 optM q0 fun a10=>
 cS_ w5 (a10.add 1) fun s11a s11l s11c=>
 cutM (σ:=Int×Unit) (fun J12=>
 cond (decide ((s11l:Int)>1))
 (optM q0 fun a15=>
 cS_ w5 (a15.add 1) fun s16a s16l s16c=>
 (0:Int)≤(1:Int)∧(1:Int)<(s16l:Nat) ∧
 optM s16a fun a17=>
 cW_ w5 (a17.add ((1:Int).toNat*1)) fun n18=>
 (0:Int)≤32 ∧
 J12 ((u64.wrap (BitVec.ofInt u64.bits s4.1 ||| BitVec.ofInt u64.bits (u64.wrap ((u64.wrap n18)*2^(min (32:Int).toNat u64.bits)))).toNat),()) w5)
 (J12 (s4.1,()) w5))
 (fun s13 w14=>
 K (.int .u64 s13.1) w14))
def S_bI_Rsh (N:Nums) (P:Program) (q0:OA) (q1:OA) (q2:Int) (w:World) (K:KV):Prop:=
 optM q1 fun a1=>
 cB_ w a1 fun b2=>
 cond b2
 (optM q1 fun a3=>
 cS_ w (a3.add 1) fun s4a s4l s4c=>
 newM #[.int .u32 1] N.t_uint32 w fun p5 w6=>
 CallsX P N.f_bn_sub #[.slice s4a s4l s4c,.slice (some p5) 1 1] w6 fun v8 w7=>
 vS_ v8 fun s9a s9l s9c=>
 CallsX P N.f_bn_right #[.slice s9a s9l s9c,.int .u64 q2] w7 fun v11 w10=>
 vS_ v11 fun s12a s12l s12c=>
 newM #[.int .u32 1] N.t_uint32 w10 fun p13 w14=>
 CallsX P N.f_bn_add #[.slice s12a s12l s12c,.slice (some p13) 1 1] w14 fun v16 w15=>
 vS_ v16 fun s17a s17l s17c=>
 CallsX P N.f_bI_give #[.pointer q0,.bool true,.slice s17a s17l s17c] w15 fun v19 w18=>
 ∃ p20:(OA),v19=(.pointer p20) ∧
 K (.pointer p20) w18)
 (optM q1 fun a21=>
 cS_ w (a21.add 1) fun s22a s22l s22c=>
 CallsX P N.f_bn_right #[.slice s22a s22l s22c,.int .u64 q2] w fun v24 w23=>
 vS_ v24 fun s25a s25l s25c=>
 CallsX P N.f_bI_give #[.pointer q0,.bool false,.slice s25a s25l s25c] w23 fun v27 w26=>
 ∃ p28:(OA),v27=(.pointer p28) ∧
 K (.pointer p28) w26)
def S_bI_Sub (N:Nums) (P:Program) (q0:OA) (q1:OA) (q2:OA) (w:World) (K:KV):Prop:=
 optM q1 fun a1=>
 cB_ w a1 fun b2=>
 optM q1 fun a3=>
 cS_ w (a3.add 1) fun s4a s4l s4c=>
 optM q2 fun a5=>
 cB_ w a5 fun b6=>
 optM q2 fun a7=>
 cS_ w (a7.add 1) fun s8a s8l s8c=>
 drM w fun w9=>
 CallsX P N.f_bn_sum #[.bool b2,.slice s4a s4l s4c,.bool (!b6),.slice s8a s8l s8c] w9 fun v11 w10=>
 ∃ b12,∃ s13a s13l s13c,v11=(.tuple #[.bool b12,.slice s13a s13l s13c]) ∧
 drM w10 fun w14=>
 CallsX P N.f_bI_give #[.pointer q0,.bool b12,.slice s13a s13l s13c] w14 fun v16 w15=>
 ∃ p17:(OA),v16=(.pointer p17) ∧
 drM w15 fun w18=>
 K (.pointer p17) w18
def S_bI_Cmp (N:Nums) (P:Program) (q0:OA) (q1:OA) (w:World) (K:KV):Prop:=
 optM q0 fun a1=>
 cB_ w a1 fun b2=>
 optM q1 fun a3=>
 cB_ w a3 fun b4=>
 drM w fun w5=>
 cond (!(b2==b4))
 (optM q0 fun a6=>
 cB_ w5 a6 fun b7=>
 cond b7
 (K (.int .i64 (-1)) w5)
 (K (.int .i64 1) w5))
 (optM q0 fun a8=>
 cS_ w5 (a8.add 1) fun s9a s9l s9c=>
 optM q1 fun a10=>
 cS_ w5 (a10.add 1) fun s11a s11l s11c=>
 drM w5 fun w12=>
 CallsX P N.f_bn_cmp #[.slice s9a s9l s9c,.slice s11a s11l s11c] w12 fun v14 w13=>
 ∃ n15,v14=(.int .i64 n15) ∧
 drM w13 fun w16=>
 optM q0 fun a17=>
 cB_ w16 a17 fun b18=>
 cond b18
 (K (.int .i64 (i64.wrap (0-n15))) w16)
 (K (.int .i64 n15) w16))
def S_bn_NewInt (N:Nums) (P:Program) (q0:Int) (w:World) (K:KV):Prop:=
 newM #[.bool false,.slice none 0 0] N.t_bn_Int w fun p1 w2=>
 CallsX P N.f_bI_SetInt64 #[.pointer (some p1),.int .i64 q0] w2 fun v4 w3=>
 ∃ p5:(OA),v4=(.pointer p5) ∧
 K (.pointer p5) w3
def S_bI_Sign (N:Nums) (P:Program) (q0:OA) (w:World) (K:KV):Prop:=
 optM q0 fun a1=>
 cS_ w (a1.add 1) fun s2a s2l s2c=>
 cond ((s2l:Int)==0)
 (K (.int .i64 0) w)
 (optM q0 fun a3=>
 cB_ w a3 fun b4=>
 cond b4
 (K (.int .i64 (-1)) w)
 (K (.int .i64 1) w))
def S_dyad_away (N:Nums) (P:Program) (q0:Int) (q1:Bool) (q2:Int) (q3:Bool) (w:World) (K:KV):Prop:=
 cond (q0==1)
 (K (.bool q1) w)
 (cond (q0==2)
 (K (.bool (!q1)) w)
 (cond (q0==3)
 (K (.bool false) w)
 (cond (!(decide (q2>0)))
 (cond (q2==0)
 (K (.bool q3) w)
 (K (.bool false) w))
 (K (.bool true) w))))
def S_dyad_float (N:Nums) (P:Program) (q0:Bool) (q1:Int) (q2:Int) (q3:Int) (w:World) (K:KV):Prop:=
 newM #[.bool false,.int .u64 0,.int .i64 0] N.t_Parts w fun p1 w2=>
 stM p1 (.bool q0) w2 fun w3=>
 stM (p1.add 1) (.int .u64 0) w3 fun w4=>
 stM (p1.add 2) (.int .i64 0) w4 fun w5=>
 cutM (σ:=Unit) (fun J6=>
 cond (decide (q1>0))
 (CallsX P N.f_math_bits_TrailingZeros64 #[.int .u64 q1] w5 fun v10 w9=>
 ∃ n11,v10=(.int .i64 n11) ∧
 (0:Int)≤n11 ∧
 stM (p1.add 1) (.int .u64 (q1.fdiv (2^(min n11.toNat u64.bits)))) w9 fun w12=>
 stM (p1.add 2) (.int .i64 (i64.wrap (q2+n11))) w12 fun w13=>
 J6 (()) w13)
 (J6 (()) w5))
 (fun s7 w8=>
 cU_ w8 (p1.add 1) fun n14=>
 cI_ w8 (p1.add 2) fun n15=>
 drM w8 fun w16=>
 CallsX P N.f_math_bits_Len64 #[.int .u64 n14] w16 fun v18 w17=>
 ∃ n19,v18=(.int .i64 n19) ∧
 w17.cell? (p1.add 2)=some (.int .i64 n15) ∧
 drM w17 fun w20=>
 cond (decide ((i64.wrap (n19+n15))>1024))
 (stM (p1.add 1) (.int .u64 9007199254740991) w20 fun w21=>
 stM (p1.add 2) (.int .i64 971) w21 fun w22=>
 cB_ w22 p1 fun b23=>
 cU_ w22 (p1.add 1) fun n24=>
 cI_ w22 (p1.add 2) fun n25=>
 CallsX P N.f_bits_Join #[.agg #[.bool b23,.int .u64 n24,.int .i64 n25]] w22 fun v27 w26=>
 ∃ x28,∃ b29,v27=(.tuple #[.float .f64 x28,.bool b29]) ∧
 cond (!(q3==3))
 (cond (q3==1)
 (cond (!(!q0))
 (cond (q3==2)
 (cond q0
 (K (.float .f64 x28) w26)
 (CallsX P N.f_bits_Next #[.float .f64 x28,.bool (!q0)] w26 fun v31 w30=>
 ∃ x32,v31=(.float .f64 x32) ∧
 K (.float .f64 x32) w30))
 (CallsX P N.f_bits_Next #[.float .f64 x28,.bool (!q0)] w26 fun v34 w33=>
 ∃ x35,v34=(.float .f64 x35) ∧
 K (.float .f64 x35) w33))
 (K (.float .f64 x28) w26))
 (cond (q3==2)
 (cond q0
 (K (.float .f64 x28) w26)
 (CallsX P N.f_bits_Next #[.float .f64 x28,.bool (!q0)] w26 fun v37 w36=>
 ∃ x38,v37=(.float .f64 x38) ∧
 K (.float .f64 x38) w36))
 (CallsX P N.f_bits_Next #[.float .f64 x28,.bool (!q0)] w26 fun v40 w39=>
 ∃ x41,v40=(.float .f64 x41) ∧
 K (.float .f64 x41) w39)))
 (K (.float .f64 x28) w26))
 (cB_ w20 p1 fun b42=>
 cU_ w20 (p1.add 1) fun n43=>
 cI_ w20 (p1.add 2) fun n44=>
 CallsX P N.f_bits_Join #[.agg #[.bool b42,.int .u64 n43,.int .i64 n44]] w20 fun v46 w45=>
 ∃ x47,∃ b48,v46=(.tuple #[.float .f64 x47,.bool b48]) ∧
 K (.float .f64 x47) w45))
def S_vector_fit (N:Nums) (P:Program) (q0:OA) (qh qn:Nat) (q1:OA) (qk qp:Nat) (w:World) (K:KV):Prop:=
 cond ((qh:Int) != (qk:Int))
 (K (.int .i64 4) w)
 (cond (decide ((qh:Int)>4096))
 (K (.int .i64 3) w)
 (K (.int .i64 0) w))
def S_round_way (N:Nums) (P:Program) (q0:Int) (w:World) (K:KV):Prop:=
 cond (!(decide (q0<0)))
 (cond (decide (q0>3))
 (K (.int .i8 0) w)
 (K (.int .i8 q0) w))
 (K (.int .i8 0) w)
def S_round_finite (N:Nums) (P:Program) (q0:OA) (qh qn:Nat) (w:World) (K:KV):Prop:=
 cutM (σ:=Unit) (fun J1=>
 loopM (σ:=Int×Unit) (fun s4 X5 w6=>
 cond (decide (s4.1<(qh:Int)))
 ((0:Int)≤s4.1∧s4.1<(qh:Nat) ∧
 optM q0 fun a7=>
 cF_ w6 (a7.add (s4.1.toNat*1)) fun x8=>
 CallsX P N.f_math_IsNaN #[.float .f64 x8] w6 fun v10 w9=>
 vB_ v10 fun b11=>
 cond (!b11)
 (CallsX P N.f_math_IsInf #[.float .f64 x8,.int .i64 0] w9 fun v13 w12=>
 vB_ v13 fun b14=>
 cond b14
 (K (.bool false) w12)
 (X5 ((i64.wrap (s4.1+1)),()) w12))
 (K (.bool false) w9))
 (J1 (()) w6))
 (0,()) w)
 (fun s2 w3=>
 K (.bool true) w3)
def S_math_Signbit (N:Nums) (P:Program) (q0:Nat) (w:World) (K:KV):Prop:=
 CallsX P N.f_math_Float64bits #[.float .f64 q0] w fun v2 w1=>
 ∃ n3,v2=(.int .u64 n3) ∧
 K (.bool (decide ((i64.wrap n3)<0))) w1
def S_round_none (N:Nums) (P:Program) (q0:Int) (w:World) (K:KV):Prop:=
 cond (q0==1)
 (CallsX P N.f_math_Copysign #[.float .f64 0,.float .f64 13830554455654793216] w fun v2 w1=>
 ∃ x3,v2=(.float .f64 x3) ∧
 K (.float .f64 x3) w1)
 (K (.float .f64 0) w)
def S_round_settle (N:Nums) (P:Program) (q0:Nat) (q1:Int) (q2:Int) (w:World) (K:KV):Prop:=
 cutM (σ:=Int×Unit) (fun J1=>
 cond (q2==3)
 (CallsX P N.f_math_Signbit #[.float .f64 q0] w fun v5 w4=>
 vB_ v5 fun b6=>
 cutM (σ:=Int×Unit) (fun J7=>
 cond b6
 (J7 (2,()) w4)
 (J7 (1,()) w4))
 (fun s8 w9=>
 J1 (s8.1,()) w9))
 (J1 (q2,()) w))
 (fun s2 w3=>
 CallsX P N.f_math_IsInf #[.float .f64 q0,.int .i64 0] w3 fun v11 w10=>
 vB_ v11 fun b12=>
 cond b12
 (cond (fgt q0 0)
 (cond (!(s2.1==1))
 (cond (flt q0 0)
 (cond (s2.1==2)
 (CallsX P N.f_math_Copysign #[.float .f64 9218868437227405311,.float .f64 q0] w10 fun v14 w13=>
 ∃ x15,v14=(.float .f64 x15) ∧
 K (.float .f64 x15) w13)
 (K (.float .f64 q0) w10))
 (K (.float .f64 q0) w10))
 (CallsX P N.f_math_Copysign #[.float .f64 9218868437227405311,.float .f64 q0] w10 fun v17 w16=>
 ∃ x18,v17=(.float .f64 x18) ∧
 K (.float .f64 x18) w16))
 (cond (flt q0 0)
 (cond (s2.1==2)
 (CallsX P N.f_math_Copysign #[.float .f64 9218868437227405311,.float .f64 q0] w10 fun v20 w19=>
 ∃ x21,v20=(.float .f64 x21) ∧
 K (.float .f64 x21) w19)
 (K (.float .f64 q0) w10))
 (K (.float .f64 q0) w10)))
 (cond (decide (q1<0))
 (cond (!(s2.1==1))
 (cond (decide (q1>0))
 (cond (s2.1==2)
 (CallsX P N.f_round_step #[.float .f64 q0,.bool (decide (q1>0))] w10 fun v23 w22=>
 ∃ x24,v23=(.float .f64 x24) ∧
 K (.float .f64 x24) w22)
 (K (.float .f64 q0) w10))
 (K (.float .f64 q0) w10))
 (CallsX P N.f_round_step #[.float .f64 q0,.bool (decide (q1>0))] w10 fun v26 w25=>
 ∃ x27,v26=(.float .f64 x27) ∧
 K (.float .f64 x27) w25))
 (cond (decide (q1>0))
 (cond (s2.1==2)
 (CallsX P N.f_round_step #[.float .f64 q0,.bool (decide (q1>0))] w10 fun v29 w28=>
 ∃ x30,v29=(.float .f64 x30) ∧
 K (.float .f64 x30) w28)
 (K (.float .f64 q0) w10))
 (K (.float .f64 q0) w10))))
def S_round_sign (N:Nums) (P:Program) (q0:Nat) (w:World) (K:KV):Prop:=
 cond (fgt q0 0)
 (K (.int .i64 1) w)
 (cond (flt q0 0)
 (K (.int .i64 (-1)) w)
 (K (.int .i64 0) w))
def S_slices_Index___float64_float64 (N:Nums) (P:Program) (q0:OA) (qh qn:Nat) (q1:Nat) (w:World) (K:KV):Prop:=
 cutM (σ:=Unit) (fun J1=>
 loopM (σ:=Int×Unit) (fun s4 X5 w6=>
 cond (decide (s4.1<(qh:Int)))
 ((0:Int)≤s4.1∧s4.1<(qh:Nat) ∧
 optM q0 fun a7=>
 cF_ w6 (a7.add (s4.1.toNat*1)) fun x8=>
 cond (feq q1 x8)
 (K (.int .i64 s4.1) w6)
 (X5 ((i64.wrap (s4.1+1)),()) w6))
 (J1 (()) w6))
 (0,()) w)
 (fun s2 w3=>
 K (.int .i64 (-1)) w3)
def S_bI_Add (N:Nums) (P:Program) (q0:OA) (q1:OA) (q2:OA) (w:World) (K:KV):Prop:=
 optM q1 fun a1=>
 cB_ w a1 fun b2=>
 optM q1 fun a3=>
 cS_ w (a3.add 1) fun s4a s4l s4c=>
 optM q2 fun a5=>
 cB_ w a5 fun b6=>
 optM q2 fun a7=>
 cS_ w (a7.add 1) fun s8a s8l s8c=>
 drM w fun w9=>
 CallsX P N.f_bn_sum #[.bool b2,.slice s4a s4l s4c,.bool b6,.slice s8a s8l s8c] w9 fun v11 w10=>
 ∃ b12,∃ s13a s13l s13c,v11=(.tuple #[.bool b12,.slice s13a s13l s13c]) ∧
 drM w10 fun w14=>
 CallsX P N.f_bI_give #[.pointer q0,.bool b12,.slice s13a s13l s13c] w14 fun v16 w15=>
 ∃ p17:(OA),v16=(.pointer p17) ∧
 drM w15 fun w18=>
 K (.pointer p17) w18
def S_bits_Kind (N:Nums) (P:Program) (q0:Nat) (w:World) (K:KV):Prop:=
 CallsX P N.f_math_Abs #[.float .f64 q0] w fun v2 w1=>
 ∃ x3,v2=(.float .f64 x3) ∧
 cond (!feq q0 q0)
 (K (.int .i64 4) w1)
 (CallsX P N.f_math_IsInf #[.float .f64 q0,.int .i64 0] w1 fun v5 w4=>
 vB_ v5 fun b6=>
 cond b6
 (K (.int .i64 3) w4)
 (cond (fgt x3 4503599627370496||feq x3 4503599627370496)
 (K (.int .i64 2) w4)
 (cond (fgt x3 0)
 (K (.int .i64 1) w4)
 (K (.int .i64 0) w4))))
def S_math_Frexp (N:Nums) (P:Program) (q0:Nat) (w:World) (K:KV):Prop:=
 CallsX P N.f_math_frexp #[.float .f64 q0] w fun v2 w1=>
 ∃ x3,∃ n4,v2=(.tuple #[.float .f64 x3,.int .i64 n4]) ∧
 K (.tuple #[.float .f64 x3,.int .i64 n4]) w1
def S_math_Ldexp (N:Nums) (P:Program) (q0:Nat) (q1:Int) (w:World) (K:KV):Prop:=
 CallsX P N.f_math_ldexp #[.float .f64 q0,.int .i64 q1] w fun v2 w1=>
 ∃ x3,v2=(.float .f64 x3) ∧
 K (.float .f64 x3) w1
def S_math_bits_TrailingZeros64 (N:Nums) (P:Program) (q0:Int) (w:World) (K:KV):Prop:=
 cond (q0==0)
 (K (.int .i64 64) w)
 ((0:Int)≤58 ∧
 (0:Int)≤((u64.wrap ((u64.wrap (BitVec.ofInt u64.bits q0 &&& BitVec.ofInt u64.bits (u64.wrap (0-q0))).toNat)*285870213051353865)).fdiv (2^(min (58:Int).toNat u64.bits)))∧((u64.wrap ((u64.wrap (BitVec.ofInt u64.bits q0 &&& BitVec.ofInt u64.bits (u64.wrap (0-q0))).toNat)*285870213051353865)).fdiv (2^(min (58:Int).toNat u64.bits)))<(64:Nat) ∧
 ∃ n1,w.cell? ((⟨N.g_1,0,none⟩:Addr).add (((u64.wrap ((u64.wrap (BitVec.ofInt u64.bits q0 &&& BitVec.ofInt u64.bits (u64.wrap (0-q0))).toNat)*285870213051353865)).fdiv (2^(min (58:Int).toNat u64.bits))).toNat*1))=some (.int .u8 n1) ∧
 K (.int .i64 (i64.wrap n1)) w)
def S_bI_Or (N:Nums) (P:Program) (q0:OA) (q1:OA) (q2:OA) (w:World) (K:KV):Prop:=
 optM q1 fun a1=>
 cS_ w (a1.add 1) fun s2a s2l s2c=>
 optM q2 fun a3=>
 cS_ w (a3.add 1) fun s4a s4l s4c=>
 drM w fun w5=>
 CallsX P N.f_bI_low #[.pointer q1,.int .i64 (i64.wrap ((if (s4l:Int)>(s2l:Int) then (s4l:Int) else (s2l:Int))+1))] w5 fun v7 w6=>
 vS_ v7 fun s8a s8l s8c=>
 CallsX P N.f_bI_low #[.pointer q2,.int .i64 (i64.wrap ((if (s4l:Int)>(s2l:Int) then (s4l:Int) else (s2l:Int))+1))] w6 fun v10 w9=>
 vS_ v10 fun s11a s11l s11c=>
 cutM (σ:=Unit) (fun J12=>
 loopM (σ:=Int×Unit) (fun s15 X16 w17=>
 cond (decide (s15.1<(i64.wrap ((if (s4l:Int)>(s2l:Int) then (s4l:Int) else (s2l:Int))+1))))
 ((0:Int)≤s15.1∧s15.1<(s8l:Nat) ∧
 optM s8a fun a18=>
 cW_ w17 (a18.add (s15.1.toNat*1)) fun n19=>
 (0:Int)≤s15.1∧s15.1<(s11l:Nat) ∧
 optM s11a fun a20=>
 cW_ w17 (a20.add (s15.1.toNat*1)) fun n21=>
 (0:Int)≤s15.1∧s15.1<(s8l:Nat) ∧
 optM s8a fun a22=>
 drM w17 fun w23=>
 stM (a22.add (s15.1.toNat*1)) (.int .u32 (u32.wrap (BitVec.ofInt u32.bits n19 ||| BitVec.ofInt u32.bits n21).toNat)) w23 fun w24=>
 drM w24 fun w25=>
 X16 ((i64.wrap (s15.1+1)),()) w25)
 (J12 (()) w17))
 (0,()) w9)
 (fun s13 w14=>
 CallsX P N.f_bI_of #[.pointer q0,.slice s8a s8l s8c] w14 fun v27 w26=>
 ∃ p28:(OA),v27=(.pointer p28) ∧
 K (.pointer p28) w26)
def S_bI_SetUint64 (N:Nums) (P:Program) (q0:OA) (q1:Int) (w:World) (K:KV):Prop:=
 CallsX P N.f_bn_words #[.int .u64 q1] w fun v2 w1=>
 vS_ v2 fun s3a s3l s3c=>
 CallsX P N.f_bI_give #[.pointer q0,.bool false,.slice s3a s3l s3c] w1 fun v5 w4=>
 ∃ p6:(OA),v5=(.pointer p6) ∧
 K (.pointer p6) w4
def S_bI_Neg (N:Nums) (P:Program) (q0:OA) (q1:OA) (w:World) (K:KV):Prop:=
 optM q1 fun a1=>
 cB_ w a1 fun b2=>
 optM q1 fun a3=>
 cS_ w (a3.add 1) fun s4a s4l s4c=>
 drM w fun w5=>
 CallsX P N.f_bn_twin #[.slice s4a s4l s4c] w5 fun v7 w6=>
 vS_ v7 fun s8a s8l s8c=>
 w6.cell? a1=some (.bool b2) ∧
 drM w6 fun w9=>
 CallsX P N.f_bI_give #[.pointer q0,.bool (!b2),.slice s8a s8l s8c] w9 fun v11 w10=>
 ∃ p12:(OA),v11=(.pointer p12) ∧
 drM w10 fun w13=>
 K (.pointer p12) w13
def S_bI_TrailingZeroBits (N:Nums) (P:Program) (q0:OA) (w:World) (K:KV):Prop:=
 optM q0 fun a1=>
 cS_ w (a1.add 1) fun s2a s2l s2c=>
 cond ((s2l:Int)==0)
 (K (.int .u64 0) w)
 (cutM (σ:=Int×Unit) (fun J3=>
 loopM (σ:=Int×Unit) (fun s6 X7 w8=>
 optM q0 fun a9=>
 cS_ w8 (a9.add 1) fun s10a s10l s10c=>
 CallsX P N.f_bn_bit #[.slice s10a s10l s10c,.int .i64 (i64.wrap s6.1)] w8 fun v12 w11=>
 ∃ n13,v12=(.int .u64 n13) ∧
 cond (n13==0)
 (X7 ((u64.wrap (s6.1+1)),()) w11)
 (J3 (s6.1,()) w11))
 (0,()) w)
 (fun s4 w5=>
 K (.int .u64 s4.1) w5))
def S_bI_BitLen (N:Nums) (P:Program) (q0:OA) (w:World) (K:KV):Prop:=
 optM q0 fun a1=>
 cS_ w (a1.add 1) fun s2a s2l s2c=>
 CallsX P N.f_bn_length #[.slice s2a s2l s2c] w fun v4 w3=>
 ∃ n5,v4=(.int .i64 n5) ∧
 K (.int .i64 n5) w3
def S_dyad_limbs (N:Nums) (P:Program) (q0:OA) (w:World) (K:KV):Prop:=
 newM #[.bool false,.slice none 0 0] N.t_bn_Int w fun p1 w2=>
 CallsX P N.f_bI_Abs #[.pointer (some p1),.pointer q0] w2 fun v4 w3=>
 ∃ p5:(OA),v4=(.pointer p5) ∧
 newM #[.bool false,.slice none 0 0] N.t_bn_Int w3 fun p6 w7=>
 newM #[.bool false,.slice none 0 0] N.t_bn_Int w7 fun p8 w9=>
 CallsX P N.f_bI_SetUint64 #[.pointer (some p8),.int .u64 18446744073709551615] w9 fun v11 w10=>
 ∃ p12:(OA),v11=(.pointer p12) ∧
 cutM (σ:=(OA×Nat×Nat)×Unit) (fun J13=>
 loopM (σ:=(OA×Nat×Nat)×Unit) (fun s16 X17 w18=>
 CallsX P N.f_bI_Sign #[.pointer p5] w18 fun v20 w19=>
 ∃ n21,v20=(.int .i64 n21) ∧
 cond (decide (n21>0))
 (CallsX P N.f_bI_And #[.pointer (some p6),.pointer p5,.pointer p12] w19 fun v23 w22=>
 ∃ p24:(OA),v23=(.pointer p24) ∧
 CallsX P N.f_bI_Uint64 #[.pointer p24] w22 fun v26 w25=>
 ∃ n27,v26=(.int .u64 n27) ∧
 newM #[.int .u64 n27] N.t_uint64 w25 fun p28 w29=>
 appM N.t_uint64 1 8 #[.int .u64 0] s16.1.1 s16.1.2.1 s16.1.2.2 (some p28) 1 w29 fun s30a s30l s30c w31=>
 CallsX P N.f_bI_Rsh #[.pointer p5,.pointer p5,.int .u64 64] w31 fun v33 w32=>
 ∃ p34:(OA),v33=(.pointer p34) ∧
 X17 ((s30a,s30l,s30c),()) w32)
 (J13 ((s16.1.1,s16.1.2.1,s16.1.2.2),()) w19))
 ((none,0,0),()) w10)
 (fun s14 w15=>
 K (.slice s14.1.1 s14.1.2.1 s14.1.2.2) w15)
def S_bI_give (N:Nums) (P:Program) (q0:OA) (q1:Bool) (q2:OA) (qx vo:Nat) (w:World) (K:KV):Prop:=
 optM q0 fun a1=>
 stM (a1.add 1) (.slice q2 qx vo) w fun w2=>
 cond q1
 (optM q0 fun a3=>
 stM a3 (.bool (decide ((qx:Int)>0))) w2 fun w4=>
 K (.pointer q0) w4)
 (optM q0 fun a5=>
 stM a5 (.bool false) w2 fun w6=>
 K (.pointer q0) w6)
def S_bn_mul (N:Nums) (P:Program) (q0:OA) (qh qn:Nat) (q1:OA) (qk qp:Nat) (w:World) (K:KV):Prop:=
 cutM (σ:=Bool×Unit) (fun J1=>
 cond (!((qh:Int)==0))
 (J1 (((qk:Int)==0),()) w)
 (J1 (true,()) w))
 (fun s2 w3=>
 cond s2.1
 (K (.slice none 0 0) w3)
 (mkM N.t_uint32 1 4 #[.int .u32 0] (i64.wrap ((qh:Int)+(qk:Int))) (i64.wrap ((qh:Int)+(qk:Int))) w3 fun p4 w5=>
 cutM (σ:=Unit) (fun J6=>
 loopM (σ:=Int×Unit) (fun s9 X10 w11=>
 cond (decide (s9.1<(qh:Int)))
 (cutM (σ:=Int×Unit) (fun J12=>
 loopM (σ:=Int×Int×Unit) (fun s15 X16 w17=>
 cond (decide (s15.2.1<(qk:Int)))
 ((0:Int)≤s9.1∧s9.1<(qh:Nat) ∧
 optM q0 fun a18=>
 cW_ w17 (a18.add (s9.1.toNat*1)) fun n19=>
 (0:Int)≤s15.2.1∧s15.2.1<(qk:Nat) ∧
 optM q1 fun a20=>
 cW_ w17 (a20.add (s15.2.1.toNat*1)) fun n21=>
 (0:Int)≤(i64.wrap (s9.1+s15.2.1))∧(i64.wrap (s9.1+s15.2.1))<((i64.wrap ((qh:Int)+(qk:Int))).toNat:Nat) ∧
 ∃ n22,w17.cell? (p4.add ((i64.wrap (s9.1+s15.2.1)).toNat*1))=some (.int .u32 n22) ∧
 drM w17 fun w23=>
 (0:Int)≤(i64.wrap (s9.1+s15.2.1))∧(i64.wrap (s9.1+s15.2.1))<((i64.wrap ((qh:Int)+(qk:Int))).toNat:Nat) ∧
 stM (p4.add ((i64.wrap (s9.1+s15.2.1)).toNat*1)) (.int .u32 (u32.wrap (u64.wrap (s15.1+(u64.wrap ((u64.wrap ((u64.wrap n19)*(u64.wrap n21)))+(u64.wrap n22))))))) w23 fun w24=>
 (0:Int)≤32 ∧
 X16 (((u64.wrap (s15.1+(u64.wrap ((u64.wrap ((u64.wrap n19)*(u64.wrap n21)))+(u64.wrap n22))))).fdiv (2^(min (32:Int).toNat u64.bits))),(i64.wrap (s15.2.1+1)),()) w24)
 (J12 (s15.1,()) w17))
 (0,0,()) w11)
 (fun s13 w14=>
 (0:Int)≤(i64.wrap (s9.1+(qk:Int)))∧(i64.wrap (s9.1+(qk:Int)))<((i64.wrap ((qh:Int)+(qk:Int))).toNat:Nat) ∧
 stM (p4.add ((i64.wrap (s9.1+(qk:Int))).toNat*1)) (.int .u32 (u32.wrap s13.1)) w14 fun w25=>
 X10 ((i64.wrap (s9.1+1)),()) w25))
 (J6 (()) w11))
 (0,()) w5)
 (fun s7 w8=>
 CallsX P N.f_bn_trim #[.slice (some p4) ((i64.wrap ((qh:Int)+(qk:Int))).toNat) ((i64.wrap ((qh:Int)+(qk:Int))).toNat)] w8 fun v27 w26=>
 vS_ v27 fun s28a s28l s28c=>
 K (.slice s28a s28l s28c) w26)))
def S_bn_twin (N:Nums) (P:Program) (q0:OA) (qh qn:Nat) (w:World) (K:KV):Prop:=
 appM N.t_uint32 1 4 #[.int .u32 0] none 0 0 q0 qh w fun s1a s1l s1c w2=>
 K (.slice s1a s1l s1c) w2
def S_bn_left (N:Nums) (P:Program) (q0:OA) (qh qn:Nat) (q1:Int) (w:World) (K:KV):Prop:=
 cond ((qh:Int)==0)
 (K (.slice none 0 0) w)
 ((32:Int)≠0 ∧
 (32:Int)≠0 ∧
 mkM N.t_uint32 1 4 #[.int .u32 0] (i64.wrap ((i64.wrap ((qh:Int)+(i64.wrap (u64.wrap (q1.tdiv 32)))))+1)) (i64.wrap ((i64.wrap ((qh:Int)+(i64.wrap (u64.wrap (q1.tdiv 32)))))+1)) w fun p1 w2=>
 cutM (σ:=Unit) (fun J3=>
 loopM (σ:=Int×Unit) (fun s6 X7 w8=>
 cond (decide (s6.1<(qh:Int)))
 ((0:Int)≤s6.1∧s6.1<(qh:Nat) ∧
 optM q0 fun a9=>
 cW_ w8 (a9.add (s6.1.toNat*1)) fun n10=>
 (0:Int)≤(q1.tmod 32) ∧
 (0:Int)≤(i64.wrap (s6.1+(i64.wrap (u64.wrap (q1.tdiv 32)))))∧(i64.wrap (s6.1+(i64.wrap (u64.wrap (q1.tdiv 32)))))<((i64.wrap ((i64.wrap ((qh:Int)+(i64.wrap (u64.wrap (q1.tdiv 32)))))+1)).toNat:Nat) ∧
 ∃ n11,w8.cell? (p1.add ((i64.wrap (s6.1+(i64.wrap (u64.wrap (q1.tdiv 32))))).toNat*1))=some (.int .u32 n11) ∧
 (0:Int)≤(i64.wrap (s6.1+(i64.wrap (u64.wrap (q1.tdiv 32)))))∧(i64.wrap (s6.1+(i64.wrap (u64.wrap (q1.tdiv 32)))))<((i64.wrap ((i64.wrap ((qh:Int)+(i64.wrap (u64.wrap (q1.tdiv 32)))))+1)).toNat:Nat) ∧
 stM (p1.add ((i64.wrap (s6.1+(i64.wrap (u64.wrap (q1.tdiv 32))))).toNat*1)) (.int .u32 (u32.wrap (BitVec.ofInt u32.bits n11 ||| BitVec.ofInt u32.bits (u32.wrap (u64.wrap ((u64.wrap n10)*2^(min (q1.tmod 32).toNat u64.bits))))).toNat)) w8 fun w12=>
 (0:Int)≤(i64.wrap ((i64.wrap (s6.1+(i64.wrap (u64.wrap (q1.tdiv 32)))))+1))∧(i64.wrap ((i64.wrap (s6.1+(i64.wrap (u64.wrap (q1.tdiv 32)))))+1))<((i64.wrap ((i64.wrap ((qh:Int)+(i64.wrap (u64.wrap (q1.tdiv 32)))))+1)).toNat:Nat) ∧
 ∃ n13,w12.cell? (p1.add ((i64.wrap ((i64.wrap (s6.1+(i64.wrap (u64.wrap (q1.tdiv 32)))))+1)).toNat*1))=some (.int .u32 n13) ∧
 (0:Int)≤32 ∧
 (0:Int)≤(i64.wrap ((i64.wrap (s6.1+(i64.wrap (u64.wrap (q1.tdiv 32)))))+1))∧(i64.wrap ((i64.wrap (s6.1+(i64.wrap (u64.wrap (q1.tdiv 32)))))+1))<((i64.wrap ((i64.wrap ((qh:Int)+(i64.wrap (u64.wrap (q1.tdiv 32)))))+1)).toNat:Nat) ∧
 stM (p1.add ((i64.wrap ((i64.wrap (s6.1+(i64.wrap (u64.wrap (q1.tdiv 32)))))+1)).toNat*1)) (.int .u32 (u32.wrap (BitVec.ofInt u32.bits n13 ||| BitVec.ofInt u32.bits (u32.wrap ((u64.wrap ((u64.wrap n10)*2^(min (q1.tmod 32).toNat u64.bits))).fdiv (2^(min (32:Int).toNat u64.bits))))).toNat)) w12 fun w14=>
 X7 ((i64.wrap (s6.1+1)),()) w14)
 (J3 (()) w8))
 (0,()) w2)
 (fun s4 w5=>
 CallsX P N.f_bn_trim #[.slice (some p1) ((i64.wrap ((i64.wrap ((qh:Int)+(i64.wrap (u64.wrap (q1.tdiv 32)))))+1)).toNat) ((i64.wrap ((i64.wrap ((qh:Int)+(i64.wrap (u64.wrap (q1.tdiv 32)))))+1)).toNat)] w5 fun v16 w15=>
 vS_ v16 fun s17a s17l s17c=>
 K (.slice s17a s17l s17c) w15))
def S_bn_add (N:Nums) (P:Program) (q0:OA) (qh qn:Nat) (q1:OA) (qk qp:Nat) (w:World) (K:KV):Prop:=
 cutM (σ:=(OA×Nat×Nat)×(OA×Nat×Nat)×Unit) (fun J1=>
 cond (decide ((qh:Int)<(qk:Int)))
 (J1 ((q1,qk,qp),(q0,qh,qn),()) w)
 (J1 ((q0,qh,qn),(q1,qk,qp),()) w))
 (fun s2 w3=>
 mkM N.t_uint32 1 4 #[.int .u32 0] (i64.wrap (((s2.1.2.1:Nat):Int)+1)) (i64.wrap (((s2.1.2.1:Nat):Int)+1)) w3 fun p4 w5=>
 cutM (σ:=Int×Unit) (fun J6=>
 loopM (σ:=Int×Int×Unit) (fun s9 X10 w11=>
 cond (decide (s9.2.1<((s2.1.2.1:Nat):Int)))
 ((0:Int)≤s9.2.1∧s9.2.1<(s2.1.2.1:Nat) ∧
 optM s2.1.1 fun a12=>
 cW_ w11 (a12.add (s9.2.1.toNat*1)) fun n13=>
 cutM (σ:=Int×Unit) (fun J14=>
 cond (decide (s9.2.1<((s2.2.1.2.1:Nat):Int)))
 ((0:Int)≤s9.2.1∧s9.2.1<(s2.2.1.2.1:Nat) ∧
 optM s2.2.1.1 fun a17=>
 cW_ w11 (a17.add (s9.2.1.toNat*1)) fun n18=>
 J14 ((u64.wrap ((u64.wrap (s9.1+(u64.wrap n13)))+(u64.wrap n18))),()) w11)
 (J14 ((u64.wrap (s9.1+(u64.wrap n13))),()) w11))
 (fun s15 w16=>
 (0:Int)≤s9.2.1∧s9.2.1<((i64.wrap (((s2.1.2.1:Nat):Int)+1)).toNat:Nat) ∧
 stM (p4.add (s9.2.1.toNat*1)) (.int .u32 (u32.wrap s15.1)) w16 fun w19=>
 (0:Int)≤32 ∧
 X10 ((s15.1.fdiv (2^(min (32:Int).toNat u64.bits))),(i64.wrap (s9.2.1+1)),()) w19))
 (J6 (s9.1,()) w11))
 (0,0,()) w5)
 (fun s7 w8=>
 (0:Int)≤((s2.1.2.1:Nat):Int)∧((s2.1.2.1:Nat):Int)<((i64.wrap (((s2.1.2.1:Nat):Int)+1)).toNat:Nat) ∧
 stM (p4.add (((s2.1.2.1:Nat):Int).toNat*1)) (.int .u32 (u32.wrap s7.1)) w8 fun w20=>
 CallsX P N.f_bn_trim #[.slice (some p4) ((i64.wrap (((s2.1.2.1:Nat):Int)+1)).toNat) ((i64.wrap (((s2.1.2.1:Nat):Int)+1)).toNat)] w20 fun v22 w21=>
 vS_ v22 fun s23a s23l s23c=>
 K (.slice s23a s23l s23c) w21))
def S_bn_right (N:Nums) (P:Program) (q0:OA) (qh qn:Nat) (q1:Int) (w:World) (K:KV):Prop:=
 (32:Int)≠0 ∧
 (32:Int)≠0 ∧
 cond (decide ((i64.wrap (u64.wrap (q1.tdiv 32)))≥(qh:Int)))
 (K (.slice none 0 0) w)
 (mkM N.t_uint32 1 4 #[.int .u32 0] (i64.wrap ((qh:Int)-(i64.wrap (u64.wrap (q1.tdiv 32))))) (i64.wrap ((qh:Int)-(i64.wrap (u64.wrap (q1.tdiv 32))))) w fun p1 w2=>
 cutM (σ:=Unit) (fun J3=>
 loopM (σ:=Int×Unit) (fun s6 X7 w8=>
 cond (decide (s6.1<(((i64.wrap ((qh:Int)-(i64.wrap (u64.wrap (q1.tdiv 32))))).toNat:Nat):Int)))
 ((0:Int)≤(i64.wrap (s6.1+(i64.wrap (u64.wrap (q1.tdiv 32)))))∧(i64.wrap (s6.1+(i64.wrap (u64.wrap (q1.tdiv 32)))))<(qh:Nat) ∧
 optM q0 fun a9=>
 ∃ n10,w8.cell? (a9.add ((i64.wrap (s6.1+(i64.wrap (u64.wrap (q1.tdiv 32))))).toNat*1))=some (.int .u32 n10) ∧
 cutM (σ:=Int×Unit) (fun J11=>
 cond (decide ((i64.wrap ((i64.wrap (s6.1+(i64.wrap (u64.wrap (q1.tdiv 32)))))+1))<(qh:Int)))
 ((0:Int)≤(i64.wrap ((i64.wrap (s6.1+(i64.wrap (u64.wrap (q1.tdiv 32)))))+1))∧(i64.wrap ((i64.wrap (s6.1+(i64.wrap (u64.wrap (q1.tdiv 32)))))+1))<(qh:Nat) ∧
 optM q0 fun a14=>
 ∃ n15,w8.cell? (a14.add ((i64.wrap ((i64.wrap (s6.1+(i64.wrap (u64.wrap (q1.tdiv 32)))))+1)).toNat*1))=some (.int .u32 n15) ∧
 (0:Int)≤32 ∧
 J11 ((u64.wrap (BitVec.ofInt u64.bits (u64.wrap n10) ||| BitVec.ofInt u64.bits (u64.wrap ((u64.wrap n15)*2^(min (32:Int).toNat u64.bits)))).toNat),()) w8)
 (J11 ((u64.wrap n10),()) w8))
 (fun s12 w13=>
 (0:Int)≤(q1.tmod 32) ∧
 (0:Int)≤s6.1∧s6.1<((i64.wrap ((qh:Int)-(i64.wrap (u64.wrap (q1.tdiv 32))))).toNat:Nat) ∧
 stM (p1.add (s6.1.toNat*1)) (.int .u32 (u32.wrap (s12.1.fdiv (2^(min (q1.tmod 32).toNat u64.bits))))) w13 fun w16=>
 X7 ((i64.wrap (s6.1+1)),()) w16))
 (J3 (()) w8))
 (0,()) w2)
 (fun s4 w5=>
 CallsX P N.f_bn_trim #[.slice (some p1) ((i64.wrap ((qh:Int)-(i64.wrap (u64.wrap (q1.tdiv 32))))).toNat) ((i64.wrap ((qh:Int)-(i64.wrap (u64.wrap (q1.tdiv 32))))).toNat)] w5 fun v18 w17=>
 vS_ v18 fun s19a s19l s19c=>
 K (.slice s19a s19l s19c) w17))
def S_bn_sub (N:Nums) (P:Program) (q0:OA) (qh qn:Nat) (q1:OA) (qk qp:Nat) (w:World) (K:KV):Prop:=
 mkM N.t_uint32 1 4 #[.int .u32 0] (qh:Int) (qh:Int) w fun p1 w2=>
 cutM (σ:=Unit) (fun J3=>
 loopM (σ:=Int×Int×Unit) (fun s6 X7 w8=>
 cond (decide (s6.2.1<(qh:Int)))
 ((0:Int)≤s6.2.1∧s6.2.1<(qh:Nat) ∧
 optM q0 fun a9=>
 cW_ w8 (a9.add (s6.2.1.toNat*1)) fun n10=>
 cutM (σ:=Int×Unit) (fun J11=>
 cond (decide (s6.2.1<(qk:Int)))
 ((0:Int)≤s6.2.1∧s6.2.1<(qk:Nat) ∧
 optM q1 fun a14=>
 cW_ w8 (a14.add (s6.2.1.toNat*1)) fun n15=>
 J11 ((u64.wrap ((u64.wrap ((u64.wrap n10)-s6.1))-(u64.wrap n15))),()) w8)
 (J11 ((u64.wrap ((u64.wrap n10)-s6.1)),()) w8))
 (fun s12 w13=>
 (0:Int)≤s6.2.1∧s6.2.1<((qh:Int).toNat:Nat) ∧
 stM (p1.add (s6.2.1.toNat*1)) (.int .u32 (u32.wrap s12.1)) w13 fun w16=>
 (0:Int)≤63 ∧
 X7 ((s12.1.fdiv (2^(min (63:Int).toNat u64.bits))),(i64.wrap (s6.2.1+1)),()) w16))
 (J3 (()) w8))
 (0,0,()) w2)
 (fun s4 w5=>
 CallsX P N.f_bn_trim #[.slice (some p1) ((qh:Int).toNat) ((qh:Int).toNat)] w5 fun v18 w17=>
 vS_ v18 fun s19a s19l s19c=>
 K (.slice s19a s19l s19c) w17)
def S_bn_sum (N:Nums) (P:Program) (q0:Bool) (q1:OA) (qk qp:Nat) (q2:Bool) (q3:OA) (vt yk:Nat) (w:World) (K:KV):Prop:=
 cond (q0==q2)
 (CallsX P N.f_bn_add #[.slice q1 qk qp,.slice q3 vt yk] w fun v2 w1=>
 vS_ v2 fun s3a s3l s3c=>
 K (.tuple #[.bool q0,.slice s3a s3l s3c]) w1)
 (CallsX P N.f_bn_cmp #[.slice q1 qk qp,.slice q3 vt yk] w fun v5 w4=>
 ∃ n6,v5=(.int .i64 n6) ∧
 cond (decide (n6≥0))
 (CallsX P N.f_bn_sub #[.slice q1 qk qp,.slice q3 vt yk] w4 fun v8 w7=>
 vS_ v8 fun s9a s9l s9c=>
 K (.tuple #[.bool q0,.slice s9a s9l s9c]) w7)
 (CallsX P N.f_bn_sub #[.slice q3 vt yk,.slice q1 qk qp] w4 fun v11 w10=>
 vS_ v11 fun s12a s12l s12c=>
 K (.tuple #[.bool q2,.slice s12a s12l s12c]) w10))
def S_bn_cmp (N:Nums) (P:Program) (q0:OA) (qh qn:Nat) (q1:OA) (qk qp:Nat) (w:World) (K:KV):Prop:=
 cond ((qh:Int) != (qk:Int))
 (cond (decide ((qh:Int)<(qk:Int)))
 (K (.int .i64 (-1)) w)
 (K (.int .i64 1) w))
 (cutM (σ:=Unit) (fun J1=>
 loopM (σ:=Int×Unit) (fun s4 X5 w6=>
 cond (decide (s4.1≥0))
 ((0:Int)≤s4.1∧s4.1<(qh:Nat) ∧
 optM q0 fun a7=>
 cW_ w6 (a7.add (s4.1.toNat*1)) fun n8=>
 (0:Int)≤s4.1∧s4.1<(qk:Nat) ∧
 optM q1 fun a9=>
 cW_ w6 (a9.add (s4.1.toNat*1)) fun n10=>
 drM w6 fun w11=>
 cond (n8 != n10)
 ((0:Int)≤s4.1∧s4.1<(qh:Nat) ∧
 optM q0 fun a12=>
 cW_ w11 (a12.add (s4.1.toNat*1)) fun n13=>
 (0:Int)≤s4.1∧s4.1<(qk:Nat) ∧
 optM q1 fun a14=>
 cW_ w11 (a14.add (s4.1.toNat*1)) fun n15=>
 drM w11 fun w16=>
 cond (decide (n13<n15))
 (K (.int .i64 (-1)) w16)
 (K (.int .i64 1) w16))
 (X5 ((i64.wrap (s4.1-1)),()) w11))
 (J1 (()) w6))
 ((i64.wrap ((qh:Int)-1)),()) w)
 (fun s2 w3=>
 K (.int .i64 0) w3))
def S_bI_SetInt64 (N:Nums) (P:Program) (q0:OA) (q1:Int) (w:World) (K:KV):Prop:=
 cutM (σ:=Int×Unit) (fun J1=>
 cond (decide (q1<0))
 (J1 ((u64.wrap (0-(u64.wrap q1))),()) w)
 (J1 ((u64.wrap q1),()) w))
 (fun s2 w3=>
 CallsX P N.f_bn_words #[.int .u64 s2.1] w3 fun v5 w4=>
 vS_ v5 fun s6a s6l s6c=>
 CallsX P N.f_bI_give #[.pointer q0,.bool (decide (q1<0)),.slice s6a s6l s6c] w4 fun v8 w7=>
 ∃ p9:(OA),v8=(.pointer p9) ∧
 K (.pointer p9) w7)
def S_bits_Join (N:Nums) (P:Program) (qa:Bool) (qb:Int) (qc:Int) (w:World) (K:KV):Prop:=
 newM #[.bool qa,.int .u64 qb,.int .i64 qc] N.t_Parts w fun p1 w2=>
 cU_ w2 (p1.add 1) fun n3=>
 CallsX P N.f_math_bits_Len64 #[.int .u64 n3] w2 fun v5 w4=>
 ∃ n6,v5=(.int .i64 n6) ∧
 cutM (σ:=Bool×Unit) (fun J7=>
 cU_ w4 (p1.add 1) fun n10=>
 cond (n10==0)
 (cI_ w4 (p1.add 2) fun n11=>
 cond (!(n11 != 0))
 (cU_ w4 (p1.add 1) fun n12=>
 cond (n12 != 0)
 (cU_ w4 (p1.add 1) fun n13=>
 (2:Int)≠0 ∧
 J7 (((n13.tmod 2)==0),()) w4)
 (J7 (false,()) w4))
 (J7 (true,()) w4))
 (cU_ w4 (p1.add 1) fun n14=>
 cond (n14 != 0)
 (cU_ w4 (p1.add 1) fun n15=>
 (2:Int)≠0 ∧
 J7 (((n15.tmod 2)==0),()) w4)
 (J7 (false,()) w4)))
 (fun s8 w9=>
 cond s8.1
 (K (.tuple #[.float .f64 0,.bool false]) w9)
 (cutM (σ:=Bool×Unit) (fun J16=>
 cond (!(decide (n6>53)))
 (cI_ w9 (p1.add 2) fun n19=>
 cond (!(decide (n19>1024)))
 (cI_ w9 (p1.add 2) fun n20=>
 cond (!(decide (n20<(-1074))))
 (cU_ w9 (p1.add 1) fun n21=>
 cond (n21 != 0)
 (cI_ w9 (p1.add 2) fun n22=>
 J16 ((decide ((i64.wrap (n22+n6))>1024)),()) w9)
 (J16 (false,()) w9))
 (J16 (true,()) w9))
 (J16 (true,()) w9))
 (J16 (true,()) w9))
 (fun s17 w18=>
 cond s17.1
 (K (.tuple #[.float .f64 0,.bool false]) w18)
 (cU_ w18 (p1.add 1) fun n23=>
 cI_ w18 (p1.add 2) fun n24=>
 CallsX P N.f_math_Ldexp #[.float .f64 (FloatKind.f64.nearest n23),.int .i64 n24] w18 fun v26 w25=>
 ∃ x27,v26=(.float .f64 x27) ∧
 cB_ w25 p1 fun b28=>
 cutM (σ:=Nat×Unit) (fun J29=>
 cond b28
 (CallsX P N.f_math_Copysign #[.float .f64 x27,.float .f64 13830554455654793216] w25 fun v33 w32=>
 ∃ x34,v33=(.float .f64 x34) ∧
 J29 (x34,()) w32)
 (J29 (x27,()) w25))
 (fun s30 w31=>
 K (.tuple #[.float .f64 s30.1,.bool true]) w31)))))
def S_bits_Next (N:Nums) (P:Program) (q0:Nat) (q1:Bool) (w:World) (K:KV):Prop:=
 CallsX P N.f_bits_Place #[.float .f64 q0] w fun v2 w1=>
 ∃ n3,∃ b4,v2=(.tuple #[.int .i64 n3,.bool b4]) ∧
 cond (!b4)
 (K (.float .f64 q0) w1)
 (cutM (σ:=Int×Unit) (fun J5=>
 cond q1
 (J5 ((if 9218868437227405312<(i64.wrap (n3+1)) then 9218868437227405312 else (i64.wrap (n3+1))),()) w1)
 (J5 ((if (-9218868437227405312)>(i64.wrap (n3-1)) then (-9218868437227405312) else (i64.wrap (n3-1))),()) w1))
 (fun s6 w7=>
 CallsX P N.f_bits_At #[.int .i64 s6.1] w7 fun v9 w8=>
 ∃ x10,∃ b11,v9=(.tuple #[.float .f64 x10,.bool b11]) ∧
 K (.float .f64 x10) w8))
def S_math_Copysign (N:Nums) (P:Program) (q0:Nat) (q1:Nat) (w:World) (K:KV):Prop:=
 CallsX P N.f_math_Float64bits #[.float .f64 q0] w fun v2 w1=>
 ∃ n3,v2=(.int .u64 n3) ∧
 CallsX P N.f_math_Float64bits #[.float .f64 q1] w1 fun v5 w4=>
 ∃ n6,v5=(.int .u64 n6) ∧
 CallsX P N.f_math_Float64frombits #[.int .u64 (u64.wrap (BitVec.ofInt u64.bits (u64.wrap (BitVec.ofInt u64.bits n3 &&& ~~~BitVec.ofInt u64.bits 9223372036854775808).toNat) ||| BitVec.ofInt u64.bits (u64.wrap (BitVec.ofInt u64.bits n6 &&& BitVec.ofInt u64.bits 9223372036854775808).toNat)).toNat)] w4 fun v8 w7=>
 ∃ x9,v8=(.float .f64 x9) ∧
 K (.float .f64 x9) w7
def S_round_step (N:Nums) (P:Program) (q0:Nat) (q1:Bool) (w:World) (K:KV):Prop:=
 CallsX P N.f_math_Float64bits #[.float .f64 q0] w fun v2 w1=>
 ∃ n3,v2=(.int .u64 n3) ∧
 cutM (σ:=Int×Unit) (fun J4=>
 cutM (σ:=Int×Unit) (fun J7=>
 cond (feq q0 0)
 (cutM (σ:=Int×Unit) (fun J10=>
 cond (!q1)
 (J10 ((u64.wrap (BitVec.ofInt u64.bits 1 ||| BitVec.ofInt u64.bits 9223372036854775808).toNat),()) w1)
 (J10 (1,()) w1))
 (fun s11 w12=>
 J7 (s11.1,()) w12))
 (cutM (σ:=Int×Unit) (fun J13=>
 cond (q1==(fgt q0 0))
 (J13 ((u64.wrap (n3+1)),()) w1)
 (J13 ((u64.wrap (n3-1)),()) w1))
 (fun s14 w15=>
 J7 (s14.1,()) w15)))
 (fun s8 w9=>
 J4 (s8.1,()) w9))
 (fun s5 w6=>
 CallsX P N.f_math_Float64frombits #[.int .u64 s5.1] w6 fun v17 w16=>
 ∃ x18,v17=(.float .f64 x18) ∧
 K (.float .f64 x18) w16)
def S_math_frexp (N:Nums) (P:Program) (q0:Nat) (w:World) (K:KV):Prop:=
 cond (feq q0 0)
 (K (.tuple #[.float .f64 q0,.int .i64 0]) w)
 (CallsX P N.f_math_IsInf #[.float .f64 q0,.int .i64 0] w fun v2 w1=>
 vB_ v2 fun b3=>
 cond (!b3)
 (CallsX P N.f_math_IsNaN #[.float .f64 q0] w1 fun v5 w4=>
 vB_ v5 fun b6=>
 cond b6
 (K (.tuple #[.float .f64 q0,.int .i64 0]) w4)
 (CallsX P N.f_math_normalize #[.float .f64 q0] w4 fun v8 w7=>
 ∃ x9,∃ n10,v8=(.tuple #[.float .f64 x9,.int .i64 n10]) ∧
 CallsX P N.f_math_Float64bits #[.float .f64 x9] w7 fun v12 w11=>
 ∃ n13,v12=(.int .u64 n13) ∧
 (0:Int)≤52 ∧
 CallsX P N.f_math_Float64frombits #[.int .u64 (u64.wrap (BitVec.ofInt u64.bits (u64.wrap (BitVec.ofInt u64.bits n13 &&& ~~~BitVec.ofInt u64.bits 9218868437227405312).toNat) ||| BitVec.ofInt u64.bits 4602678819172646912).toNat)] w11 fun v15 w14=>
 ∃ x16,v15=(.float .f64 x16) ∧
 K (.tuple #[.float .f64 x16,.int .i64 (i64.wrap (n10+(i64.wrap ((i64.wrap ((i64.wrap (u64.wrap (BitVec.ofInt u64.bits (n13.fdiv (2^(min (52:Int).toNat u64.bits))) &&& BitVec.ofInt u64.bits 2047).toNat))-1023))+1))))]) w14))
 (K (.tuple #[.float .f64 q0,.int .i64 0]) w1))
def S_math_ldexp (N:Nums) (P:Program) (q0:Nat) (q1:Int) (w:World) (K:KV):Prop:=
 cond (feq q0 0)
 (K (.float .f64 q0) w)
 (cutM (σ:=Bool×Unit) (fun J1=>
 CallsX P N.f_math_IsInf #[.float .f64 q0,.int .i64 0] w fun v5 w4=>
 vB_ v5 fun b6=>
 cond (!b6)
 (CallsX P N.f_math_IsNaN #[.float .f64 q0] w4 fun v8 w7=>
 vB_ v8 fun b9=>
 J1 (b9,()) w7)
 (J1 (true,()) w4))
 (fun s2 w3=>
 cond s2.1
 (K (.float .f64 q0) w3)
 (CallsX P N.f_math_normalize #[.float .f64 q0] w3 fun v11 w10=>
 ∃ x12,∃ n13,v11=(.tuple #[.float .f64 x12,.int .i64 n13]) ∧
 CallsX P N.f_math_Float64bits #[.float .f64 x12] w10 fun v15 w14=>
 ∃ n16,v15=(.int .u64 n16) ∧
 (0:Int)≤52 ∧
 cond (decide ((i64.wrap ((i64.wrap (q1+n13))+(i64.wrap ((i64.wrap (BitVec.ofInt i64.bits (i64.wrap (n16.fdiv (2^(min (52:Int).toNat u64.bits)))) &&& BitVec.ofInt i64.bits 2047).toNat)-1023))))<(-1075)))
 (CallsX P N.f_math_Copysign #[.float .f64 0,.float .f64 x12] w14 fun v18 w17=>
 ∃ x19,v18=(.float .f64 x19) ∧
 K (.float .f64 x19) w17)
 (cond (decide ((i64.wrap ((i64.wrap (q1+n13))+(i64.wrap ((i64.wrap (BitVec.ofInt i64.bits (i64.wrap (n16.fdiv (2^(min (52:Int).toNat u64.bits)))) &&& BitVec.ofInt i64.bits 2047).toNat)-1023))))>1023))
 (cond (flt x12 0)
 (CallsX P N.f_math_Inf #[.int .i64 (-1)] w14 fun v21 w20=>
 ∃ x22,v21=(.float .f64 x22) ∧
 K (.float .f64 x22) w20)
 (CallsX P N.f_math_Inf #[.int .i64 1] w14 fun v24 w23=>
 ∃ x25,v24=(.float .f64 x25) ∧
 K (.float .f64 x25) w23))
 (cutM (σ:=Int×Nat×Unit) (fun J26=>
 cond (decide ((i64.wrap ((i64.wrap (q1+n13))+(i64.wrap ((i64.wrap (BitVec.ofInt i64.bits (i64.wrap (n16.fdiv (2^(min (52:Int).toNat u64.bits)))) &&& BitVec.ofInt i64.bits 2047).toNat)-1023))))<(-1022)))
 (J26 ((i64.wrap ((i64.wrap ((i64.wrap (q1+n13))+(i64.wrap ((i64.wrap (BitVec.ofInt i64.bits (i64.wrap (n16.fdiv (2^(min (52:Int).toNat u64.bits)))) &&& BitVec.ofInt i64.bits 2047).toNat)-1023))))+53)),4368491638549381120,()) w14)
 (J26 ((i64.wrap ((i64.wrap (q1+n13))+(i64.wrap ((i64.wrap (BitVec.ofInt i64.bits (i64.wrap (n16.fdiv (2^(min (52:Int).toNat u64.bits)))) &&& BitVec.ofInt i64.bits 2047).toNat)-1023)))),4607182418800017408,()) w14))
 (fun s27 w28=>
 (0:Int)≤52 ∧
 CallsX P N.f_math_Float64frombits #[.int .u64 (u64.wrap (BitVec.ofInt u64.bits (u64.wrap (BitVec.ofInt u64.bits n16 &&& ~~~BitVec.ofInt u64.bits 9218868437227405312).toNat) ||| BitVec.ofInt u64.bits (u64.wrap ((u64.wrap (i64.wrap (s27.1+1023)))*2^(min (52:Int).toNat u64.bits)))).toNat)] w28 fun v30 w29=>
 ∃ x31,v30=(.float .f64 x31) ∧
 fresM (fmul s27.2.1 x31) w29 fun x32 w33=>
 K (.float .f64 x32) w33))))))
def S_bI_low (N:Nums) (P:Program) (q0:OA) (q1:Int) (w:World) (K:KV):Prop:=
 mkM N.t_uint32 1 4 #[.int .u32 0] q1 q1 w fun p1 w2=>
 optM q0 fun a3=>
 cS_ w2 (a3.add 1) fun s4a s4l s4c=>
 copM 1 (some p1) q1.toNat s4a s4l w2 fun w5=>
 optM q0 fun a6=>
 cB_ w5 a6 fun b7=>
 cutM (σ:=Unit) (fun J8=>
 cond b7
 (cutM (σ:=Unit) (fun J11=>
 loopM (σ:=Int×Int×Unit) (fun s14 X15 w16=>
 cond (decide (s14.2.1<q1))
 ((0:Int)≤s14.2.1∧s14.2.1<(q1.toNat:Nat) ∧
 cW_ w16 (p1.add (s14.2.1.toNat*1)) fun n17=>
 (0:Int)≤s14.2.1∧s14.2.1<(q1.toNat:Nat) ∧
 stM (p1.add (s14.2.1.toNat*1)) (.int .u32 (u32.wrap (u64.wrap (s14.1+(u64.wrap (u32.wrap (BitVec.ofInt u32.bits (u32.max) ^^^ BitVec.ofInt u32.bits n17).toNat)))))) w16 fun w18=>
 (0:Int)≤32 ∧
 X15 (((u64.wrap (s14.1+(u64.wrap (u32.wrap (BitVec.ofInt u32.bits (u32.max) ^^^ BitVec.ofInt u32.bits n17).toNat)))).fdiv (2^(min (32:Int).toNat u64.bits))),(i64.wrap (s14.2.1+1)),()) w18)
 (J11 (()) w16))
 (1,0,()) w5)
 (fun s12 w13=>
 J8 (()) w13))
 (J8 (()) w5))
 (fun s9 w10=>
 K (.slice (some p1) q1.toNat q1.toNat) w10)
def S_bI_of (N:Nums) (P:Program) (q0:OA) (q1:OA) (qk qp:Nat) (w:World) (K:KV):Prop:=
 cutM (σ:=Bool×Unit) (fun J1=>
 cond (decide ((qk:Int)>0))
 ((0:Int)≤(i64.wrap ((qk:Int)-1))∧(i64.wrap ((qk:Int)-1))<(qk:Nat) ∧
 optM q1 fun a4=>
 ∃ n5,w.cell? (a4.add ((i64.wrap ((qk:Int)-1)).toNat*1))=some (.int .u32 n5) ∧
 (0:Int)≤31 ∧
 J1 (((n5.fdiv (2^(min (31:Int).toNat u32.bits)))==1),()) w)
 (J1 (false,()) w))
 (fun s2 w3=>
 cond s2.1
 (cutM (σ:=Unit) (fun J6=>
 loopM (σ:=Int×Int×Unit) (fun s9 X10 w11=>
 cond (decide (s9.2.1<(qk:Int)))
 ((0:Int)≤s9.2.1∧s9.2.1<(qk:Nat) ∧
 optM q1 fun a12=>
 cW_ w11 (a12.add (s9.2.1.toNat*1)) fun n13=>
 (0:Int)≤s9.2.1∧s9.2.1<(qk:Nat) ∧
 optM q1 fun a14=>
 stM (a14.add (s9.2.1.toNat*1)) (.int .u32 (u32.wrap (u64.wrap (s9.1+(u64.wrap (u32.wrap (BitVec.ofInt u32.bits (u32.max) ^^^ BitVec.ofInt u32.bits n13).toNat)))))) w11 fun w15=>
 (0:Int)≤32 ∧
 X10 (((u64.wrap (s9.1+(u64.wrap (u32.wrap (BitVec.ofInt u32.bits (u32.max) ^^^ BitVec.ofInt u32.bits n13).toNat)))).fdiv (2^(min (32:Int).toNat u64.bits))),(i64.wrap (s9.2.1+1)),()) w15)
 (J6 (()) w11))
 (1,0,()) w3)
 (fun s7 w8=>
 CallsX P N.f_bn_trim #[.slice q1 qk qp] w8 fun v17 w16=>
 vS_ v17 fun s18a s18l s18c=>
 CallsX P N.f_bI_give #[.pointer q0,.bool true,.slice s18a s18l s18c] w16 fun v20 w19=>
 ∃ p21:(OA),v20=(.pointer p21) ∧
 K (.pointer p21) w19))
 (CallsX P N.f_bn_trim #[.slice q1 qk qp] w3 fun v23 w22=>
 vS_ v23 fun s24a s24l s24c=>
 CallsX P N.f_bI_give #[.pointer q0,.bool false,.slice s24a s24l s24c] w22 fun v26 w25=>
 ∃ p27:(OA),v26=(.pointer p27) ∧
 K (.pointer p27) w25))
def S_bn_words (N:Nums) (P:Program) (q0:Int) (w:World) (K:KV):Prop:=
 (0:Int)≤32 ∧
 newM #[.int .u32 (u32.wrap q0),.int .u32 (u32.wrap (q0.fdiv (2^(min (32:Int).toNat u64.bits))))] N.t_uint32 w fun p1 w2=>
 CallsX P N.f_bn_trim #[.slice (some p1) 2 2] w2 fun v4 w3=>
 vS_ v4 fun s5a s5l s5c=>
 K (.slice s5a s5l s5c) w3
def S_bn_bit (N:Nums) (P:Program) (q0:OA) (qh qn:Nat) (q1:Int) (w:World) (K:KV):Prop:=
 cond (!(decide (q1<0)))
 ((32:Int)≠0 ∧
 cond (decide ((i64.wrap (q1.tdiv 32))≥(qh:Int)))
 (K (.int .u64 0) w)
 ((32:Int)≠0 ∧
 (0:Int)≤(i64.wrap (q1.tdiv 32))∧(i64.wrap (q1.tdiv 32))<(qh:Nat) ∧
 optM q0 fun a1=>
 ∃ n2,w.cell? (a1.add ((i64.wrap (q1.tdiv 32)).toNat*1))=some (.int .u32 n2) ∧
 (32:Int)≠0 ∧
 (0:Int)≤((u64.wrap q1).tmod 32) ∧
 K (.int .u64 (u64.wrap (BitVec.ofInt u64.bits (u64.wrap (n2.fdiv (2^(min ((u64.wrap q1).tmod 32).toNat u32.bits)))) &&& BitVec.ofInt u64.bits 1).toNat)) w))
 (K (.int .u64 0) w)
def S_bn_length (N:Nums) (P:Program) (q0:OA) (qh qn:Nat) (w:World) (K:KV):Prop:=
 cond ((qh:Int)==0)
 (K (.int .i64 0) w)
 ((0:Int)≤(i64.wrap ((qh:Int)-1))∧(i64.wrap ((qh:Int)-1))<(qh:Nat) ∧
 optM q0 fun a1=>
 ∃ n2,w.cell? (a1.add ((i64.wrap ((qh:Int)-1)).toNat*1))=some (.int .u32 n2) ∧
 cutM (σ:=Int×Unit) (fun J3=>
 loopM (σ:=Int×Int×Unit) (fun s6 X7 w8=>
 cond (s6.2.1 != 0)
 ((0:Int)≤1 ∧
 X7 ((i64.wrap (s6.1+1)),(s6.2.1.fdiv (2^(min (1:Int).toNat u32.bits))),()) w8)
 (J3 (s6.1,()) w8))
 (0,n2,()) w)
 (fun s4 w5=>
 K (.int .i64 (i64.wrap ((i64.wrap ((i64.wrap ((qh:Int)-1))*32))+s4.1))) w5))
def S_bI_And (N:Nums) (P:Program) (q0:OA) (q1:OA) (q2:OA) (w:World) (K:KV):Prop:=
 optM q1 fun a1=>
 cS_ w (a1.add 1) fun s2a s2l s2c=>
 optM q2 fun a3=>
 cS_ w (a3.add 1) fun s4a s4l s4c=>
 drM w fun w5=>
 CallsX P N.f_bI_low #[.pointer q1,.int .i64 (i64.wrap ((if (s4l:Int)>(s2l:Int) then (s4l:Int) else (s2l:Int))+1))] w5 fun v7 w6=>
 vS_ v7 fun s8a s8l s8c=>
 CallsX P N.f_bI_low #[.pointer q2,.int .i64 (i64.wrap ((if (s4l:Int)>(s2l:Int) then (s4l:Int) else (s2l:Int))+1))] w6 fun v10 w9=>
 vS_ v10 fun s11a s11l s11c=>
 cutM (σ:=Unit) (fun J12=>
 loopM (σ:=Int×Unit) (fun s15 X16 w17=>
 cond (decide (s15.1<(i64.wrap ((if (s4l:Int)>(s2l:Int) then (s4l:Int) else (s2l:Int))+1))))
 ((0:Int)≤s15.1∧s15.1<(s8l:Nat) ∧
 optM s8a fun a18=>
 cW_ w17 (a18.add (s15.1.toNat*1)) fun n19=>
 (0:Int)≤s15.1∧s15.1<(s11l:Nat) ∧
 optM s11a fun a20=>
 cW_ w17 (a20.add (s15.1.toNat*1)) fun n21=>
 (0:Int)≤s15.1∧s15.1<(s8l:Nat) ∧
 optM s8a fun a22=>
 drM w17 fun w23=>
 stM (a22.add (s15.1.toNat*1)) (.int .u32 (u32.wrap (BitVec.ofInt u32.bits n19 &&& BitVec.ofInt u32.bits n21).toNat)) w23 fun w24=>
 drM w24 fun w25=>
 X16 ((i64.wrap (s15.1+1)),()) w25)
 (J12 (()) w17))
 (0,()) w9)
 (fun s13 w14=>
 CallsX P N.f_bI_of #[.pointer q0,.slice s8a s8l s8c] w14 fun v27 w26=>
 ∃ p28:(OA),v27=(.pointer p28) ∧
 K (.pointer p28) w26)
def S_bn_trim (N:Nums) (P:Program) (q0:OA) (qh qn:Nat) (w:World) (K:KV):Prop:=
 cutM (σ:=Int×Unit) (fun J1=>
 loopM (σ:=Int×Unit) (fun s4 X5 w6=>
 cond (decide (s4.1>0))
 ((0:Int)≤(i64.wrap (s4.1-1))∧(i64.wrap (s4.1-1))<(qh:Nat) ∧
 optM q0 fun a7=>
 ∃ n8,w6.cell? (a7.add ((i64.wrap (s4.1-1)).toNat*1))=some (.int .u32 n8) ∧
 cond (n8==0)
 (X5 ((i64.wrap (s4.1-1)),()) w6)
 (J1 (s4.1,()) w6))
 (J1 (s4.1,()) w6))
 ((qh:Int),()) w)
 (fun s2 w3=>
 (0:Int)≤s2.1∧s2.1≤(qn:Nat) ∧
 K (.slice (slBase q0 0 qn 1) s2.1.toNat qn) w3)
def S_bits_Place (N:Nums) (P:Program) (q0:Nat) (w:World) (K:KV):Prop:=
 cond (!feq q0 q0)
 (K (.tuple #[.int .i64 0,.bool false]) w)
 (CallsX P N.f_math_Abs #[.float .f64 q0] w fun v2 w1=>
 ∃ x3,v2=(.float .f64 x3) ∧
 CallsX P N.f_math_Float64bits #[.float .f64 x3] w1 fun v5 w4=>
 ∃ n6,v5=(.int .u64 n6) ∧
 cutM (σ:=Int×Unit) (fun J7=>
 cond (flt q0 0)
 (J7 ((i64.wrap (0-(i64.wrap n6))),()) w4)
 (J7 ((i64.wrap n6),()) w4))
 (fun s8 w9=>
 K (.tuple #[.int .i64 s8.1,.bool true]) w9))
def S_bits_At (N:Nums) (P:Program) (q0:Int) (w:World) (K:KV):Prop:=
 cond (!(decide (q0>9218868437227405312)))
 (cond (decide (q0<(-9218868437227405312)))
 (K (.tuple #[.float .f64 0,.bool false]) w)
 (cond (decide (q0<0))
 (CallsX P N.f_math_Float64frombits #[.int .u64 (u64.wrap (i64.wrap (0-q0)))] w fun v2 w1=>
 ∃ x3,v2=(.float .f64 x3) ∧
 K (.tuple #[.float .f64 (fneg x3),.bool true]) w1)
 (CallsX P N.f_math_Float64frombits #[.int .u64 (u64.wrap q0)] w fun v5 w4=>
 ∃ x6,v5=(.float .f64 x6) ∧
 K (.tuple #[.float .f64 x6,.bool true]) w4)))
 (K (.tuple #[.float .f64 0,.bool false]) w)
def S_math_normalize (N:Nums) (P:Program) (q0:Nat) (w:World) (K:KV):Prop:=
 CallsX P N.f_math_Abs #[.float .f64 q0] w fun v2 w1=>
 ∃ x3,v2=(.float .f64 x3) ∧
 cond (flt x3 4503599627370496)
 (fresM (fmul q0 4841369599423283200) w1 fun x4 w5=>
 K (.tuple #[.float .f64 x4,.int .i64 (-52)]) w5)
 (K (.tuple #[.float .f64 q0,.int .i64 0]) w1)
def S_math_Inf (N:Nums) (P:Program) (q0:Int) (w:World) (K:KV):Prop:=
 cutM (σ:=Int×Unit) (fun J1=>
 cond (decide (q0≥0))
 (J1 (9218868437227405312,()) w)
 (J1 (18442240474082181120,()) w))
 (fun s2 w3=>
 CallsX P N.f_math_Float64frombits #[.int .u64 s2.1] w3 fun v5 w4=>
 ∃ x6,v5=(.float .f64 x6) ∧
 K (.float .f64 x6) w4)
end Go.Eng
