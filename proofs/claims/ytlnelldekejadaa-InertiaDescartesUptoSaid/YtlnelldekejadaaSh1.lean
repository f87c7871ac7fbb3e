/-
 Some of the functions as propositions in the manner of a weakest precondition, printed off the structured code by a program of the session. No condition.
-/
import Derived.Test.YtlnelldekejadaaTbl
import Derived.Test.YtlnelldekejadaaNm
set_option linter.all false
set_option maxRecDepth 100000
namespace Go.Eng
open Go
open Go.IntKind (i64 u64 u32 u8)
def S_w16_InertiaDescartes (N:Nums) (P:Program) (qe:Int) (qf:Int) (qg:OA) (qo qp:Nat) (w:World) (K:KV):Prop:=
 newM #[.int .i64 qe,.int .i64 qf,.slice qg qo qp] N.t_Dyads w fun p1 w2=>
 cI_ w2 p1 fun n3=>
 cI_ w2 (p1.add 1) fun n4=>
 cS_ w2 (p1.add 2) fun s5a s5l s5c=>
 CallsX P N.f_w16_great #[.agg #[.int .i64 n3,.int .i64 n4,.slice s5a s5l s5c]] w2 fun v7 w6=>
 vB_ v7 fun b8=>
 cond b8
 (CallsX P N.f_w16_awake #[] w6 fun v10 w9=>
 vB_ v10 fun b11=>
 K (.bool b11) w9)
 (cI_ w6 p1 fun n12=>
 cI_ w6 (p1.add 1) fun n13=>
 cS_ w6 (p1.add 2) fun s14a s14l s14c=>
 CallsX P N.f_inertia_Signs #[.agg #[.int .i64 n12,.int .i64 n13,.slice s14a s14l s14c]] w6 fun v16 w15=>
 ∃ n17,∃ n18,∃ n19,∃ n20,v16=(.tuple #[.agg #[.int .i64 n17,.int .i64 n18,.int .i64 n19],.int .i64 n20]) ∧
 newM #[.int .i64 0,.int .i64 0,.int .i64 0] N.t_Signs w15 fun p21 w22=>
 stM p21 (.int .i64 n17) w22 fun w23=>
 stM (p21.add 1) (.int .i64 n18) w23 fun w24=>
 stM (p21.add 2) (.int .i64 n19) w24 fun w25=>
 cI_ w25 p1 fun n26=>
 cI_ w25 (p1.add 1) fun n27=>
 cS_ w25 (p1.add 2) fun s28a s28l s28c=>
 CallsX P N.f_inertia_Poly #[.agg #[.int .i64 n26,.int .i64 n27,.slice s28a s28l s28c]] w25 fun v30 w29=>
 ∃ s31a s31l s31c,∃ n32,v30=(.tuple #[.slice s31a s31l s31c,.int .i64 n32]) ∧
 cI_ w29 p1 fun n33=>
 cI_ w29 (p1.add 1) fun n34=>
 cS_ w29 (p1.add 2) fun s35a s35l s35c=>
 CallsX P N.f_inertia_Symmetric #[.agg #[.int .i64 n33,.int .i64 n34,.slice s35a s35l s35c]] w29 fun v37 w36=>
 vB_ v37 fun b38=>
 cond (!b38)
 (cond (n20==4)
 (cond (n32==4)
 (cI_ w36 p21 fun n39=>
 cI_ w36 (p21.add 1) fun n40=>
 cI_ w36 (p21.add 2) fun n41=>
 cond (n39==0&&(n40==0&&n41==0))
 (cond ((s31l:Int)==0)
 (CallsX P N.f_w16_awake #[] w36 fun v43 w42=>
 vB_ v43 fun b44=>
 K (.bool b44) w42)
 (K (.bool false) w36))
 (K (.bool false) w36))
 (K (.bool false) w36))
 (K (.bool false) w36))
 (cutM (σ:=Bool×Unit) (fun J45=>
 cond (!(n20 != 0))
 (J45 ((n32 != 0),()) w36)
 (J45 (true,()) w36))
 (fun s46 w47=>
 cond s46.1
 (cond (n32==3)
 (cond (!(n20==0))
 (cond (n20==3)
 (cond ((s31l:Int)==0)
 (CallsX P N.f_w16_awake #[] w47 fun v49 w48=>
 vB_ v49 fun b50=>
 K (.bool b50) w48)
 (K (.bool false) w47))
 (K (.bool false) w47))
 (cond ((s31l:Int)==0)
 (CallsX P N.f_w16_awake #[] w47 fun v52 w51=>
 vB_ v52 fun b53=>
 K (.bool b53) w51)
 (K (.bool false) w47)))
 (K (.bool false) w47))
 (cI_ w47 p1 fun n54=>
 cutM (σ:=Bool×Unit) (fun J55=>
 cond (!((s31l:Int) != (i64.wrap (n54+1))))
 ((0:Int)≤n54∧n54≤(s31l:Nat) ∧
 drM w47 fun w58=>
 newM #[.int .i64 1] N.t_int64 w58 fun p59 w60=>
 drM w60 fun w61=>
 CallsX P N.f_w16_of #[.int .i64 1,.slice (some p59) 1 1] w61 fun v63 w62=>
 ∃ n64,∃ n65,∃ s66a s66l s66c,v63=(.agg #[.int .i64 n64,.int .i64 n65,.slice s66a s66l s66c]) ∧
 drM w62 fun w67=>
 CallsX P N.f_k_SameDyads #[.slice (slBase s31a n54.toNat s31c 3) (s31l-n54.toNat) (s31c-n54.toNat),.slice s66a s66l s66c] w67 fun v69 w68=>
 vB_ v69 fun b70=>
 cond (!(!b70))
 (cI_ w68 p21 fun n71=>
 cI_ w68 (p21.add 1) fun n72=>
 cI_ w68 (p21.add 2) fun n73=>
 drM w68 fun w74=>
 J55 (((i64.wrap ((i64.wrap (n71+n72))+n73)) != n54),()) w74)
 (drM w68 fun w75=>
 J55 (true,()) w75))
 (drM w47 fun w76=>
 drM w76 fun w77=>
 drM w77 fun w78=>
 drM w78 fun w79=>
 J55 (true,()) w79))
 (fun s56 w57=>
 cond s56.1
 (K (.bool false) w57)
 (cutM (σ:=Int×Int×Unit) (fun J80=>
 loopM (σ:=Int×Int×Int×Int×Unit) (fun s83 X84 w85=>
 cond (decide (s83.2.2.2.1≤n54))
 (cutM (σ:=Int×Int×Int×Unit) (fun J86=>
 (0:Int)≤s83.2.2.2.1∧s83.2.2.2.1<(s31l:Nat) ∧
 optM s31a fun a89=>
 cB_ w85 (a89.add (s83.2.2.2.1.toNat*3)) fun b90=>
 cS_ w85 ((a89.add (s83.2.2.2.1.toNat*3)).add 1) fun s91a s91l s91c=>
 cI_ w85 ((a89.add (s83.2.2.2.1.toNat*3)).add 2) fun n92=>
 CallsX P N.f_w16_sign #[.agg #[.bool b90,.slice s91a s91l s91c,.int .i64 n92]] w85 fun v94 w93=>
 ∃ n95,v94=(.int .i64 n95) ∧
 cond (n95 != 0)
 (cutM (σ:=Int×Unit) (fun J96=>
 cond (decide (s83.2.1<0))
 (J96 (s83.2.2.2.1,()) w93)
 (J96 (s83.2.1,()) w93))
 (fun s97 w98=>
 cond (n95 != 0)
 (cond (s83.2.2.1 != 0)
 (cutM (σ:=Int×Unit) (fun J99=>
 cond (n95 != s83.2.2.1)
 (J99 ((i64.wrap (s83.1+1)),()) w98)
 (J99 (s83.1,()) w98))
 (fun s100 w101=>
 cutM (σ:=Int×Unit) (fun J102=>
 cond (n95 != 0)
 (J102 (n95,()) w101)
 (J102 (s83.2.2.1,()) w101))
 (fun s103 w104=>
 J86 (s100.1,s97.1,s103.1,()) w104)))
 (cutM (σ:=Int×Unit) (fun J105=>
 J105 (s83.1,()) w98)
 (fun s106 w107=>
 cutM (σ:=Int×Unit) (fun J108=>
 cond (n95 != 0)
 (J108 (n95,()) w107)
 (J108 (s83.2.2.1,()) w107))
 (fun s109 w110=>
 J86 (s106.1,s97.1,s109.1,()) w110))))
 (cutM (σ:=Int×Unit) (fun J111=>
 J111 (s83.1,()) w98)
 (fun s112 w113=>
 cutM (σ:=Int×Unit) (fun J114=>
 cond (n95 != 0)
 (J114 (n95,()) w113)
 (J114 (s83.2.2.1,()) w113))
 (fun s115 w116=>
 J86 (s112.1,s97.1,s115.1,()) w116)))))
 (cutM (σ:=Int×Unit) (fun J117=>
 J117 (s83.2.1,()) w93)
 (fun s118 w119=>
 cond (n95 != 0)
 (cond (s83.2.2.1 != 0)
 (cutM (σ:=Int×Unit) (fun J120=>
 cond (n95 != s83.2.2.1)
 (J120 ((i64.wrap (s83.1+1)),()) w119)
 (J120 (s83.1,()) w119))
 (fun s121 w122=>
 cutM (σ:=Int×Unit) (fun J123=>
 cond (n95 != 0)
 (J123 (n95,()) w122)
 (J123 (s83.2.2.1,()) w122))
 (fun s124 w125=>
 J86 (s121.1,s118.1,s124.1,()) w125)))
 (cutM (σ:=Int×Unit) (fun J126=>
 J126 (s83.1,()) w119)
 (fun s127 w128=>
 cutM (σ:=Int×Unit) (fun J129=>
 cond (n95 != 0)
 (J129 (n95,()) w128)
 (J129 (s83.2.2.1,()) w128))
 (fun s130 w131=>
 J86 (s127.1,s118.1,s130.1,()) w131))))
 (cutM (σ:=Int×Unit) (fun J132=>
 J132 (s83.1,()) w119)
 (fun s133 w134=>
 cutM (σ:=Int×Unit) (fun J135=>
 cond (n95 != 0)
 (J135 (n95,()) w134)
 (J135 (s83.2.2.1,()) w134))
 (fun s136 w137=>
 J86 (s133.1,s118.1,s136.1,()) w137))))))
 (fun s87 w88=>
 X84 (s87.1,s87.2.1,s87.2.2.1,(i64.wrap (s83.2.2.2.1+1)),()) w88))
 (J80 (s83.1,s83.2.1,()) w85))
 (0,(-1),0,0,()) w57)
 (fun s81 w82=>
 cutM (σ:=Bool×Unit) (fun J138=>
 cI_ w82 (p21.add 2) fun n141=>
 cond (!(s81.1 != n141))
 (cI_ w82 (p21.add 1) fun n142=>
 J138 ((s81.2.1 != n142),()) w82)
 (J138 (true,()) w82))
 (fun s139 w140=>
 cond s139.1
 (K (.bool false) w140)
 (cond (n54==0)
 (CallsX P N.f_w16_awake #[] w140 fun v144 w143=>
 vB_ v144 fun b145=>
 K (.bool b145) w143)
 (CallsX P N.f_dyad_Int #[.int .i64 0] w140 fun v147 w146=>
 ∃ b148,∃ s149a s149l s149c,∃ n150,v147=(.agg #[.bool b148,.slice s149a s149l s149c,.int .i64 n150]) ∧
 newM #[.bool false,.slice none 0 0,.int .i64 0] N.t_Dyad w146 fun p151 w152=>
 stM p151 (.bool b148) w152 fun w153=>
 stM (p151.add 1) (.slice s149a s149l s149c) w153 fun w154=>
 stM (p151.add 2) (.int .i64 n150) w154 fun w155=>
 cutM (σ:=Unit) (fun J156=>
 loopM (σ:=Int×Unit) (fun s159 X160 w161=>
 cond (decide (s159.1<n54))
 (cB_ w161 p151 fun b162=>
 cS_ w161 (p151.add 1) fun s163a s163l s163c=>
 cI_ w161 (p151.add 2) fun n164=>
 cS_ w161 (p1.add 2) fun s165a s165l s165c=>
 (0:Int)≤(i64.wrap ((i64.wrap (s159.1*n54))+s159.1))∧(i64.wrap ((i64.wrap (s159.1*n54))+s159.1))<(s165l:Nat) ∧
 optM s165a fun a166=>
 ∃ b167,w161.cell? (a166.add ((i64.wrap ((i64.wrap (s159.1*n54))+s159.1)).toNat*3))=some (.bool b167) ∧
 ∃ s168a s168l s168c,w161.cell? ((a166.add ((i64.wrap ((i64.wrap (s159.1*n54))+s159.1)).toNat*3)).add 1)=some (.slice s168a s168l s168c) ∧
 ∃ n169,w161.cell? ((a166.add ((i64.wrap ((i64.wrap (s159.1*n54))+s159.1)).toNat*3)).add 2)=some (.int .i64 n169) ∧
 (drM w161 fun w170=>
 CallsX P N.f_dyad_Add #[.agg #[.bool b162,.slice s163a s163l s163c,.int .i64 n164],.agg #[.bool b167,.slice s168a s168l s168c,.int .i64 n169]] w170 fun v172 w171=>
 ∃ b173,∃ s174a s174l s174c,∃ n175,∃ n176,v172=(.tuple #[.agg #[.bool b173,.slice s174a s174l s174c,.int .i64 n175],.int .i64 n176]) ∧
 drM w171 fun w177=>
 newM #[.bool false,.slice none 0 0,.int .i64 0] N.t_Dyad w177 fun p178 w179=>
 drM w179 fun w180=>
 stM p178 (.bool b173) w180 fun w181=>
 stM (p178.add 1) (.slice s174a s174l s174c) w181 fun w182=>
 stM (p178.add 2) (.int .i64 n175) w182 fun w183=>
 drM w183 fun w184=>
 cond (n176 != 0)
 (CallsX P N.f_w16_awake #[] w184 fun v186 w185=>
 vB_ v186 fun b187=>
 K (.bool b187) w185)
 (cB_ w184 p178 fun b188=>
 cS_ w184 (p178.add 1) fun s189a s189l s189c=>
 cI_ w184 (p178.add 2) fun n190=>
 stM p151 (.bool b188) w184 fun w191=>
 stM (p151.add 1) (.slice s189a s189l s189c) w191 fun w192=>
 stM (p151.add 2) (.int .i64 n190) w192 fun w193=>
 X160 ((i64.wrap (s159.1+1)),()) w193)) ∧
 (drM w161 fun w194=>
 newM #[.bool false,.slice none 0 0,.int .i64 0] N.t_Dyad w194 fun p195 w196=>
 w196.cell? (a166.add ((i64.wrap ((i64.wrap (s159.1*n54))+s159.1)).toNat*3))=some (.bool b167) ∧
 w196.cell? ((a166.add ((i64.wrap ((i64.wrap (s159.1*n54))+s159.1)).toNat*3)).add 1)=some (.slice s168a s168l s168c) ∧
 w196.cell? ((a166.add ((i64.wrap ((i64.wrap (s159.1*n54))+s159.1)).toNat*3)).add 2)=some (.int .i64 n169) ∧
 w196.cell? (p1.add 2)=some (.slice s165a s165l s165c) ∧
 w196.cell? p151=some (.bool b162) ∧
 w196.cell? (p151.add 1)=some (.slice s163a s163l s163c) ∧
 w196.cell? (p151.add 2)=some (.int .i64 n164) ∧
 drM w196 fun w197=>
 CallsX P N.f_dyad_Add #[.agg #[.bool b162,.slice s163a s163l s163c,.int .i64 n164],.agg #[.bool b167,.slice s168a s168l s168c,.int .i64 n169]] w197 fun v199 w198=>
 ∃ b200,∃ s201a s201l s201c,∃ n202,∃ n203,v199=(.tuple #[.agg #[.bool b200,.slice s201a s201l s201c,.int .i64 n202],.int .i64 n203]) ∧
 drM w198 fun w204=>
 stM p195 (.bool b200) w204 fun w205=>
 stM (p195.add 1) (.slice s201a s201l s201c) w205 fun w206=>
 stM (p195.add 2) (.int .i64 n202) w206 fun w207=>
 drM w207 fun w208=>
 cond (n203 != 0)
 (CallsX P N.f_w16_awake #[] w208 fun v210 w209=>
 vB_ v210 fun b211=>
 K (.bool b211) w209)
 (cB_ w208 p195 fun b212=>
 cS_ w208 (p195.add 1) fun s213a s213l s213c=>
 cI_ w208 (p195.add 2) fun n214=>
 stM p151 (.bool b212) w208 fun w215=>
 stM (p151.add 1) (.slice s213a s213l s213c) w215 fun w216=>
 stM (p151.add 2) (.int .i64 n214) w216 fun w217=>
 X160 ((i64.wrap (s159.1+1)),()) w217)))
 (J156 (()) w161))
 (0,()) w155)
 (fun s157 w158=>
 cB_ w158 p151 fun b218=>
 cS_ w158 (p151.add 1) fun s219a s219l s219c=>
 cI_ w158 (p151.add 2) fun n220=>
 CallsX P N.f_dyad_Neg #[.agg #[.bool b218,.slice s219a s219l s219c,.int .i64 n220]] w158 fun v222 w221=>
 ∃ b223,∃ s224a s224l s224c,∃ n225,∃ n226,v222=(.tuple #[.agg #[.bool b223,.slice s224a s224l s224c,.int .i64 n225],.int .i64 n226]) ∧
 newM #[.bool false,.slice none 0 0,.int .i64 0] N.t_Dyad w221 fun p227 w228=>
 stM p227 (.bool b223) w228 fun w229=>
 stM (p227.add 1) (.slice s224a s224l s224c) w229 fun w230=>
 stM (p227.add 2) (.int .i64 n225) w230 fun w231=>
 cond (n226==0)
 (cB_ w231 p227 fun b232=>
 cS_ w231 (p227.add 1) fun s233a s233l s233c=>
 cI_ w231 (p227.add 2) fun n234=>
 (0:Int)≤n54∧n54≤(s31c:Nat)∧(0:Int)≤(i64.wrap (n54-1))∧(i64.wrap (n54-1))≤n54 ∧
 drM w231 fun w235=>
 newM #[.bool b232,.slice s233a s233l s233c,.int .i64 n234] N.t_Dyad w235 fun p236 w237=>
 drM w237 fun w238=>
 CallsX P N.f_k_SameDyads #[.slice (some p236) 1 1,.slice (slBase s31a ((i64.wrap (n54-1)).toNat) s31c 3) (n54.toNat-(i64.wrap (n54-1)).toNat) (s31c-(i64.wrap (n54-1)).toNat)] w238 fun v240 w239=>
 vB_ v240 fun b241=>
 drM w239 fun w242=>
 cond b241
 (CallsX P N.f_w16_awake #[] w242 fun v244 w243=>
 vB_ v244 fun b245=>
 drM w243 fun w246=>
 K (.bool b245) w246)
 (drM w242 fun w247=>
 K (.bool false) w247))
 (drM w231 fun w248=>
 drM w248 fun w249=>
 drM w249 fun w250=>
 drM w250 fun w251=>
 K (.bool false) w251))))))))))))
def S_inertia_Signs (N:Nums) (P:Program) (qe:Int) (qf:Int) (qg:OA) (qo qp:Nat) (w:World) (K:KV):Prop:=
 newM #[.int .i64 qe,.int .i64 qf,.slice qg qo qp] N.t_Dyads w fun p1 w2=>
 newM #[.int .i64 0,.int .i64 0,.int .i64 0] N.t_Signs w2 fun p3 w4=>
 cI_ w4 p1 fun n5=>
 cI_ w4 (p1.add 1) fun n6=>
 cS_ w4 (p1.add 2) fun s7a s7l s7c=>
 CallsX P N.f_inertia_Symmetric #[.agg #[.int .i64 n5,.int .i64 n6,.slice s7a s7l s7c]] w4 fun v9 w8=>
 vB_ v9 fun b10=>
 cond (!b10)
 (stM p3 (.int .i64 0) w8 fun w11=>
 stM (p3.add 1) (.int .i64 0) w11 fun w12=>
 stM (p3.add 2) (.int .i64 0) w12 fun w13=>
 cI_ w13 p3 fun n14=>
 cI_ w13 (p3.add 1) fun n15=>
 cI_ w13 (p3.add 2) fun n16=>
 K (.tuple #[.agg #[.int .i64 n14,.int .i64 n15,.int .i64 n16],.int .i64 4]) w13)
 (cI_ w8 p1 fun n17=>
 cI_ w8 (p1.add 1) fun n18=>
 cS_ w8 (p1.add 2) fun s19a s19l s19c=>
 CallsX P N.f_inertia_scaled #[.agg #[.int .i64 n17,.int .i64 n18,.slice s19a s19l s19c],.agg #[.bool false,.slice none 0 0,.int .i64 0]] w8 fun v21 w20=>
 ∃ s22a s22l s22c,∃ n23,∃ b24,v21=(.tuple #[.agg #[.slice s22a s22l s22c,.int .i64 n23],.bool b24]) ∧
 newM #[.slice none 0 0,.int .i64 0] N.t_inertia_rows w20 fun p25 w26=>
 stM p25 (.slice s22a s22l s22c) w26 fun w27=>
 stM (p25.add 1) (.int .i64 n23) w27 fun w28=>
 cond (!b24)
 (stM p3 (.int .i64 0) w28 fun w29=>
 stM (p3.add 1) (.int .i64 0) w29 fun w30=>
 stM (p3.add 2) (.int .i64 0) w30 fun w31=>
 cI_ w31 p3 fun n32=>
 cI_ w31 (p3.add 1) fun n33=>
 cI_ w31 (p3.add 2) fun n34=>
 K (.tuple #[.agg #[.int .i64 n32,.int .i64 n33,.int .i64 n34],.int .i64 3]) w31)
 (CallsX P N.f_p_inertia_rows_signs #[.pointer (some p25)] w28 fun v36 w35=>
 ∃ n37,∃ n38,∃ n39,v36=(.agg #[.int .i64 n37,.int .i64 n38,.int .i64 n39]) ∧
 stM p3 (.int .i64 n37) w35 fun w40=>
 stM (p3.add 1) (.int .i64 n38) w40 fun w41=>
 stM (p3.add 2) (.int .i64 n39) w41 fun w42=>
 cI_ w42 p3 fun n43=>
 cI_ w42 (p3.add 1) fun n44=>
 cI_ w42 (p3.add 2) fun n45=>
 K (.tuple #[.agg #[.int .i64 n43,.int .i64 n44,.int .i64 n45],.int .i64 0]) w42))
def S_w16_of (N:Nums) (P:Program) (q0:Int) (q1:OA) (qs qx:Nat) (w:World) (K:KV):Prop:=
 newM #[.int .i64 0,.int .i64 0,.slice none 0 0] N.t_Dyads w fun p1 w2=>
 newM #[.int .i64 0,.int .i64 0,.slice none 0 0] N.t_Dyads w2 fun p3 w4=>
 stM p3 (.int .i64 q0) w4 fun w5=>
 stM (p3.add 1) (.int .i64 q0) w5 fun w6=>
 stM (p3.add 2) (.slice none 0 0) w6 fun w7=>
 cutM (σ:=Unit) (fun J8=>
 loopM (σ:=Int×Unit) (fun s11 X12 w13=>
 cond (decide (s11.1<(qs:Int)))
 (cS_ w13 (p3.add 2) fun s14a s14l s14c=>
 (0:Int)≤s11.1∧s11.1<(qs:Nat) ∧
 optM q1 fun a15=>
 cI_ w13 (a15.add (s11.1.toNat*1)) fun n16=>
 drM w13 fun w17=>
 CallsX P N.f_r02_Int #[.int .i64 n16] w17 fun v19 w18=>
 ∃ b20,∃ s21a s21l s21c,∃ n22,v19=(.agg #[.bool b20,.slice s21a s21l s21c,.int .i64 n22]) ∧
 w18.cell? (p3.add 2)=some (.slice s14a s14l s14c) ∧
 drM w18 fun w23=>
 newM #[.bool b20,.slice s21a s21l s21c,.int .i64 n22] N.t_Dyad w23 fun p24 w25=>
 w25.cell? (p3.add 2)=some (.slice s14a s14l s14c) ∧
 drM w25 fun w26=>
 appM N.t_Dyad 3 40 #[.bool false,.slice none 0 0,.int .i64 0] s14a s14l s14c (some p24) 1 w26 fun s27a s27l s27c w28=>
 drM w28 fun w29=>
 stM (p3.add 2) (.slice s27a s27l s27c) w29 fun w30=>
 drM w30 fun w31=>
 X12 ((i64.wrap (s11.1+1)),()) w31)
 (J8 (()) w13))
 (0,()) w7)
 (fun s9 w10=>
 cI_ w10 p3 fun n32=>
 cI_ w10 (p3.add 1) fun n33=>
 cS_ w10 (p3.add 2) fun s34a s34l s34c=>
 stM p1 (.int .i64 n32) w10 fun w35=>
 stM (p1.add 1) (.int .i64 n33) w35 fun w36=>
 stM (p1.add 2) (.slice s34a s34l s34c) w36 fun w37=>
 cI_ w37 p1 fun n38=>
 cI_ w37 (p1.add 1) fun n39=>
 cS_ w37 (p1.add 2) fun s40a s40l s40c=>
 K (.agg #[.int .i64 n38,.int .i64 n39,.slice s40a s40l s40c]) w37)
def S_inertia_Poly (N:Nums) (P:Program) (qe:Int) (qf:Int) (qg:OA) (qo qp:Nat) (w:World) (K:KV):Prop:=
 newM #[.int .i64 qe,.int .i64 qf,.slice qg qo qp] N.t_Dyads w fun p1 w2=>
 cI_ w2 p1 fun n3=>
 cI_ w2 (p1.add 1) fun n4=>
 cS_ w2 (p1.add 2) fun s5a s5l s5c=>
 CallsX P N.f_inertia_Symmetric #[.agg #[.int .i64 n3,.int .i64 n4,.slice s5a s5l s5c]] w2 fun v7 w6=>
 vB_ v7 fun b8=>
 cond (!b8)
 (K (.tuple #[.slice none 0 0,.int .i64 4]) w6)
 (cI_ w6 p1 fun n9=>
 cI_ w6 (p1.add 1) fun n10=>
 cS_ w6 (p1.add 2) fun s11a s11l s11c=>
 CallsX P N.f_inertia_scaled #[.agg #[.int .i64 n9,.int .i64 n10,.slice s11a s11l s11c],.agg #[.bool false,.slice none 0 0,.int .i64 0]] w6 fun v13 w12=>
 ∃ s14a s14l s14c,∃ n15,∃ b16,v13=(.tuple #[.agg #[.slice s14a s14l s14c,.int .i64 n15],.bool b16]) ∧
 newM #[.slice none 0 0,.int .i64 0] N.t_inertia_rows w12 fun p17 w18=>
 stM p17 (.slice s14a s14l s14c) w18 fun w19=>
 stM (p17.add 1) (.int .i64 n15) w19 fun w20=>
 cond (!b16)
 (K (.tuple #[.slice none 0 0,.int .i64 3]) w20)
 (CallsX P N.f_p_inertia_rows_coefficients #[.pointer (some p17)] w20 fun v22 w21=>
 vS_ v22 fun s23a s23l s23c=>
 cutM (σ:=(OA×Nat×Nat)×Unit) (fun J24=>
 loopM (σ:=(OA×Nat×Nat)×Int×Unit) (fun s27 X28 w29=>
 cond (decide (s27.2.1<(s23l:Int)))
 ((0:Int)≤s27.2.1∧s27.2.1<(s23l:Nat) ∧
 optM s23a fun a30=>
 ∃ p31:(OA),w29.cell? (a30.add (s27.2.1.toNat*1))=some (.pointer p31) ∧
 cI_ w29 (p17.add 1) fun n32=>
 CallsX P N.f_inertia_told #[.pointer p31,.int .i64 (i64.wrap (s27.2.1*n32))] w29 fun v34 w33=>
 ∃ b35,∃ s36a s36l s36c,∃ n37,∃ n38,v34=(.tuple #[.agg #[.bool b35,.slice s36a s36l s36c,.int .i64 n37],.int .i64 n38]) ∧
 newM #[.bool false,.slice none 0 0,.int .i64 0] N.t_Dyad w33 fun p39 w40=>
 stM p39 (.bool b35) w40 fun w41=>
 stM (p39.add 1) (.slice s36a s36l s36c) w41 fun w42=>
 stM (p39.add 2) (.int .i64 n37) w42 fun w43=>
 cond (n38 != 0)
 (K (.tuple #[.slice none 0 0,.int .i64 3]) w43)
 (cB_ w43 p39 fun b44=>
 cS_ w43 (p39.add 1) fun s45a s45l s45c=>
 cI_ w43 (p39.add 2) fun n46=>
 newM #[.bool b44,.slice s45a s45l s45c,.int .i64 n46] N.t_Dyad w43 fun p47 w48=>
 appM N.t_Dyad 3 40 #[.bool false,.slice none 0 0,.int .i64 0] s27.1.1 s27.1.2.1 s27.1.2.2 (some p47) 1 w48 fun s49a s49l s49c w50=>
 X28 ((s49a,s49l,s49c),(i64.wrap (s27.2.1+1)),()) w50))
 (J24 ((s27.1.1,s27.1.2.1,s27.1.2.2),()) w29))
 ((none,0,0),0,()) w21)
 (fun s25 w26=>
 CallsX P N.f_slices_Reverse___api_Dyad_api_Dyad #[.slice s25.1.1 s25.1.2.1 s25.1.2.2] w26 fun v52 w51=>
 v52=(.tuple #[]) ∧
 K (.tuple #[.slice s25.1.1 s25.1.2.1 s25.1.2.2,.int .i64 0]) w51)))
def S_k_SameDyads (N:Nums) (P:Program) (q0:OA) (qh qk:Nat) (q1:OA) (qs qx:Nat) (w:World) (K:KV):Prop:=
 cond ((qh:Int) != (qs:Int))
 (K (.bool false) w)
 (cutM (σ:=Unit) (fun J1=>
 loopM (σ:=Int×Unit) (fun s4 X5 w6=>
 cond (decide (s4.1<(qh:Int)))
 ((0:Int)≤s4.1∧s4.1<(qh:Nat) ∧
 optM q0 fun a7=>
 cB_ w6 (a7.add (s4.1.toNat*3)) fun b8=>
 cS_ w6 ((a7.add (s4.1.toNat*3)).add 1) fun s9a s9l s9c=>
 cI_ w6 ((a7.add (s4.1.toNat*3)).add 2) fun n10=>
 (0:Int)≤s4.1∧s4.1<(qs:Nat) ∧
 optM q1 fun a11=>
 cB_ w6 (a11.add (s4.1.toNat*3)) fun b12=>
 cS_ w6 ((a11.add (s4.1.toNat*3)).add 1) fun s13a s13l s13c=>
 cI_ w6 ((a11.add (s4.1.toNat*3)).add 2) fun n14=>
 drM w6 fun w15=>
 CallsX P N.f_k_SameDyad #[.agg #[.bool b8,.slice s9a s9l s9c,.int .i64 n10],.agg #[.bool b12,.slice s13a s13l s13c,.int .i64 n14]] w15 fun v17 w16=>
 vB_ v17 fun b18=>
 drM w16 fun w19=>
 cond (!b18)
 (K (.bool false) w19)
 (X5 ((i64.wrap (s4.1+1)),()) w19))
 (J1 (()) w6))
 (0,()) w)
 (fun s2 w3=>
 K (.bool true) w3))
def S_inertia_Below (N:Nums) (P:Program) (qe:Int) (qf:Int) (qg:OA) (qo qp:Nat) (qq:Bool) (qr:OA) (qi qj:Nat) (qw:Int) (w:World) (K:KV):Prop:=
 newM #[.int .i64 qe,.int .i64 qf,.slice qg qo qp] N.t_Dyads w fun p1 w2=>
 newM #[.bool qq,.slice qr qi qj,.int .i64 qw] N.t_Dyad w2 fun p3 w4=>
 cI_ w4 p1 fun n5=>
 cI_ w4 (p1.add 1) fun n6=>
 cS_ w4 (p1.add 2) fun s7a s7l s7c=>
 CallsX P N.f_inertia_Symmetric #[.agg #[.int .i64 n5,.int .i64 n6,.slice s7a s7l s7c]] w4 fun v9 w8=>
 vB_ v9 fun b10=>
 cond (!b10)
 (K (.tuple #[.int .i64 0,.int .i64 4]) w8)
 (cB_ w8 p3 fun b11=>
 cS_ w8 (p3.add 1) fun s12a s12l s12c=>
 cI_ w8 (p3.add 2) fun n13=>
 CallsX P N.f_dyad_Right #[.agg #[.bool b11,.slice s12a s12l s12c,.int .i64 n13]] w8 fun v15 w14=>
 vB_ v15 fun b16=>
 cond (!b16)
 (K (.tuple #[.int .i64 0,.int .i64 2]) w14)
 (cI_ w14 p1 fun n17=>
 cI_ w14 (p1.add 1) fun n18=>
 cS_ w14 (p1.add 2) fun s19a s19l s19c=>
 cB_ w14 p3 fun b20=>
 cS_ w14 (p3.add 1) fun s21a s21l s21c=>
 cI_ w14 (p3.add 2) fun n22=>
 CallsX P N.f_inertia_scaled #[.agg #[.int .i64 n17,.int .i64 n18,.slice s19a s19l s19c],.agg #[.bool b20,.slice s21a s21l s21c,.int .i64 n22]] w14 fun v24 w23=>
 ∃ s25a s25l s25c,∃ n26,∃ b27,v24=(.tuple #[.agg #[.slice s25a s25l s25c,.int .i64 n26],.bool b27]) ∧
 newM #[.slice none 0 0,.int .i64 0] N.t_inertia_rows w23 fun p28 w29=>
 stM p28 (.slice s25a s25l s25c) w29 fun w30=>
 stM (p28.add 1) (.int .i64 n26) w30 fun w31=>
 cond (!b27)
 (K (.tuple #[.int .i64 0,.int .i64 3]) w31)
 (CallsX P N.f_p_inertia_rows_signs #[.pointer (some p28)] w31 fun v33 w32=>
 ∃ n34,∃ n35,∃ n36,v33=(.agg #[.int .i64 n34,.int .i64 n35,.int .i64 n36]) ∧
 K (.tuple #[.int .i64 n34,.int .i64 0]) w32)))
def S_r02_Int (N:Nums) (P:Program) (q0:Int) (w:World) (K:KV):Prop:=
 newM #[.bool false,.slice none 0 0,.int .i64 0] N.t_Dyad w fun p1 w2=>
 CallsX P N.f_r02_Whole #[.int .i64 q0] w2 fun v4 w3=>
 ∃ b5,∃ s6a s6l s6c,∃ n7,v4=(.agg #[.bool b5,.slice s6a s6l s6c,.int .i64 n7]) ∧
 CallsX P N.f_r02_Told #[.agg #[.bool b5,.slice s6a s6l s6c,.int .i64 n7]] w3 fun v9 w8=>
 ∃ b10,∃ s11a s11l s11c,∃ n12,∃ n13,v9=(.tuple #[.agg #[.bool b10,.slice s11a s11l s11c,.int .i64 n12],.int .i64 n13]) ∧
 newM #[.bool false,.slice none 0 0,.int .i64 0] N.t_Dyad w8 fun p14 w15=>
 stM p14 (.bool b10) w15 fun w16=>
 stM (p14.add 1) (.slice s11a s11l s11c) w16 fun w17=>
 stM (p14.add 2) (.int .i64 n12) w17 fun w18=>
 cB_ w18 p14 fun b19=>
 cS_ w18 (p14.add 1) fun s20a s20l s20c=>
 cI_ w18 (p14.add 2) fun n21=>
 stM p1 (.bool b19) w18 fun w22=>
 stM (p1.add 1) (.slice s20a s20l s20c) w22 fun w23=>
 stM (p1.add 2) (.int .i64 n21) w23 fun w24=>
 cB_ w24 p1 fun b25=>
 cS_ w24 (p1.add 1) fun s26a s26l s26c=>
 cI_ w24 (p1.add 2) fun n27=>
 K (.agg #[.bool b25,.slice s26a s26l s26c,.int .i64 n27]) w24
def S_w16_awake (N:Nums) (P:Program)  (w:World) (K:KV):Prop:=
 newM #[.int .i64 1,.int .i64 2,.int .i64 2,.int .i64 1] N.t_int64 w fun p1 w2=>
 CallsX P N.f_w16_of #[.int .i64 2,.slice (some p1) 4 4] w2 fun v4 w3=>
 ∃ n5,∃ n6,∃ s7a s7l s7c,v4=(.agg #[.int .i64 n5,.int .i64 n6,.slice s7a s7l s7c]) ∧
 CallsX P N.f_inertia_Signs #[.agg #[.int .i64 n5,.int .i64 n6,.slice s7a s7l s7c]] w3 fun v9 w8=>
 ∃ n10,∃ n11,∃ n12,∃ n13,v9=(.tuple #[.agg #[.int .i64 n10,.int .i64 n11,.int .i64 n12],.int .i64 n13]) ∧
 newM #[.int .i64 0,.int .i64 0,.int .i64 0] N.t_Signs w8 fun p14 w15=>
 stM p14 (.int .i64 n10) w15 fun w16=>
 stM (p14.add 1) (.int .i64 n11) w16 fun w17=>
 stM (p14.add 2) (.int .i64 n12) w17 fun w18=>
 newM #[.int .i64 1,.int .i64 2,.int .i64 2,.int .i64 1] N.t_int64 w18 fun p19 w20=>
 CallsX P N.f_w16_of #[.int .i64 2,.slice (some p19) 4 4] w20 fun v22 w21=>
 ∃ n23,∃ n24,∃ s25a s25l s25c,v22=(.agg #[.int .i64 n23,.int .i64 n24,.slice s25a s25l s25c]) ∧
 CallsX P N.f_inertia_Poly #[.agg #[.int .i64 n23,.int .i64 n24,.slice s25a s25l s25c]] w21 fun v27 w26=>
 ∃ s28a s28l s28c,∃ n29,v27=(.tuple #[.slice s28a s28l s28c,.int .i64 n29]) ∧
 newM #[.int .i64 1,.int .i64 2,.int .i64 2,.int .i64 1] N.t_int64 w26 fun p30 w31=>
 CallsX P N.f_w16_of #[.int .i64 2,.slice (some p30) 4 4] w31 fun v33 w32=>
 ∃ n34,∃ n35,∃ s36a s36l s36c,v33=(.agg #[.int .i64 n34,.int .i64 n35,.slice s36a s36l s36c]) ∧
 CallsX P N.f_r02_Int #[.int .i64 4] w32 fun v38 w37=>
 ∃ b39,∃ s40a s40l s40c,∃ n41,v38=(.agg #[.bool b39,.slice s40a s40l s40c,.int .i64 n41]) ∧
 CallsX P N.f_inertia_Below #[.agg #[.int .i64 n34,.int .i64 n35,.slice s36a s36l s36c],.agg #[.bool b39,.slice s40a s40l s40c,.int .i64 n41]] w37 fun v43 w42=>
 ∃ n44,∃ n45,v43=(.tuple #[.int .i64 n44,.int .i64 n45]) ∧
 cond (n13==0)
 (cond (n29==0)
 (cond (n45==0)
 (cond (n44==2)
 (cI_ w42 p14 fun n46=>
 cI_ w42 (p14.add 1) fun n47=>
 cI_ w42 (p14.add 2) fun n48=>
 cond (n46==1&&(n47==0&&n48==1))
 (newM #[.int .i64 (-3),.int .i64 (-2),.int .i64 1] N.t_int64 w42 fun p49 w50=>
 CallsX P N.f_w16_of #[.int .i64 3,.slice (some p49) 3 3] w50 fun v52 w51=>
 ∃ n53,∃ n54,∃ s55a s55l s55c,v52=(.agg #[.int .i64 n53,.int .i64 n54,.slice s55a s55l s55c]) ∧
 CallsX P N.f_k_SameDyads #[.slice s28a s28l s28c,.slice s55a s55l s55c] w51 fun v57 w56=>
 vB_ v57 fun b58=>
 K (.bool b58) w56)
 (K (.bool false) w42))
 (K (.bool false) w42))
 (K (.bool false) w42))
 (K (.bool false) w42))
 (K (.bool false) w42)
def S_dyad_Int (N:Nums) (P:Program) (q0:Int) (w:World) (K:KV):Prop:=
 newM #[.bool false,.slice none 0 0,.int .i64 0] N.t_Dyad w fun p1 w2=>
 CallsX P N.f_bn_NewInt #[.int .i64 q0] w2 fun v4 w3=>
 ∃ p5:(OA),v4=(.pointer p5) ∧
 CallsX P N.f_dyad_made #[.pointer p5,.int .i64 0] w3 fun v7 w6=>
 ∃ b8,∃ s9a s9l s9c,∃ n10,∃ n11,v7=(.tuple #[.agg #[.bool b8,.slice s9a s9l s9c,.int .i64 n10],.int .i64 n11]) ∧
 newM #[.bool false,.slice none 0 0,.int .i64 0] N.t_Dyad w6 fun p12 w13=>
 stM p12 (.bool b8) w13 fun w14=>
 stM (p12.add 1) (.slice s9a s9l s9c) w14 fun w15=>
 stM (p12.add 2) (.int .i64 n10) w15 fun w16=>
 cB_ w16 p12 fun b17=>
 cS_ w16 (p12.add 1) fun s18a s18l s18c=>
 cI_ w16 (p12.add 2) fun n19=>
 stM p1 (.bool b17) w16 fun w20=>
 stM (p1.add 1) (.slice s18a s18l s18c) w20 fun w21=>
 stM (p1.add 2) (.int .i64 n19) w21 fun w22=>
 cB_ w22 p1 fun b23=>
 cS_ w22 (p1.add 1) fun s24a s24l s24c=>
 cI_ w22 (p1.add 2) fun n25=>
 K (.agg #[.bool b23,.slice s24a s24l s24c,.int .i64 n25]) w22
def S_dyad_Neg (N:Nums) (P:Program) (qe:Bool) (qf:OA) (qb qd:Nat) (qg:Int) (w:World) (K:KV):Prop:=
 newM #[.bool qe,.slice qf qb qd,.int .i64 qg] N.t_Dyad w fun p1 w2=>
 newM #[.bool false,.slice none 0 0,.int .i64 0] N.t_Dyad w2 fun p3 w4=>
 cB_ w4 p1 fun b5=>
 cS_ w4 (p1.add 1) fun s6a s6l s6c=>
 cI_ w4 (p1.add 2) fun n7=>
 CallsX P N.f_dyad_Right #[.agg #[.bool b5,.slice s6a s6l s6c,.int .i64 n7]] w4 fun v9 w8=>
 vB_ v9 fun b10=>
 cond (!b10)
 (stM p3 (.bool false) w8 fun w11=>
 stM (p3.add 1) (.slice none 0 0) w11 fun w12=>
 stM (p3.add 2) (.int .i64 0) w12 fun w13=>
 cB_ w13 p3 fun b14=>
 cS_ w13 (p3.add 1) fun s15a s15l s15c=>
 cI_ w13 (p3.add 2) fun n16=>
 K (.tuple #[.agg #[.bool b14,.slice s15a s15l s15c,.int .i64 n16],.int .i64 2]) w13)
 (cB_ w8 p1 fun b17=>
 cond (!b17)
 (cS_ w8 (p1.add 1) fun s18a s18l s18c=>
 cI_ w8 (p1.add 2) fun n19=>
 newM #[.bool false,.slice none 0 0,.int .i64 0] N.t_Dyad w8 fun p20 w21=>
 stM p20 (.bool (decide ((s18l:Int)>0))) w21 fun w22=>
 stM (p20.add 1) (.slice none 0 0) w22 fun w23=>
 stM (p20.add 2) (.int .i64 n19) w23 fun w24=>
 cS_ w24 (p20.add 1) fun s25a s25l s25c=>
 cS_ w24 (p1.add 1) fun s26a s26l s26c=>
 appM N.t_uint64 1 8 #[.int .u64 0] s25a s25l s25c s26a s26l w24 fun s27a s27l s27c w28=>
 stM (p20.add 1) (.slice s27a s27l s27c) w28 fun w29=>
 cB_ w29 p20 fun b30=>
 cS_ w29 (p20.add 1) fun s31a s31l s31c=>
 cI_ w29 (p20.add 2) fun n32=>
 stM p3 (.bool b30) w29 fun w33=>
 stM (p3.add 1) (.slice s31a s31l s31c) w33 fun w34=>
 stM (p3.add 2) (.int .i64 n32) w34 fun w35=>
 cB_ w35 p3 fun b36=>
 cS_ w35 (p3.add 1) fun s37a s37l s37c=>
 cI_ w35 (p3.add 2) fun n38=>
 K (.tuple #[.agg #[.bool b36,.slice s37a s37l s37c,.int .i64 n38],.int .i64 0]) w35)
 (cI_ w8 (p1.add 2) fun n39=>
 newM #[.bool false,.slice none 0 0,.int .i64 0] N.t_Dyad w8 fun p40 w41=>
 stM p40 (.bool false) w41 fun w42=>
 stM (p40.add 1) (.slice none 0 0) w42 fun w43=>
 stM (p40.add 2) (.int .i64 n39) w43 fun w44=>
 cS_ w44 (p40.add 1) fun s45a s45l s45c=>
 cS_ w44 (p1.add 1) fun s46a s46l s46c=>
 appM N.t_uint64 1 8 #[.int .u64 0] s45a s45l s45c s46a s46l w44 fun s47a s47l s47c w48=>
 stM (p40.add 1) (.slice s47a s47l s47c) w48 fun w49=>
 cB_ w49 p40 fun b50=>
 cS_ w49 (p40.add 1) fun s51a s51l s51c=>
 cI_ w49 (p40.add 2) fun n52=>
 stM p3 (.bool b50) w49 fun w53=>
 stM (p3.add 1) (.slice s51a s51l s51c) w53 fun w54=>
 stM (p3.add 2) (.int .i64 n52) w54 fun w55=>
 cB_ w55 p3 fun b56=>
 cS_ w55 (p3.add 1) fun s57a s57l s57c=>
 cI_ w55 (p3.add 2) fun n58=>
 K (.tuple #[.agg #[.bool b56,.slice s57a s57l s57c,.int .i64 n58],.int .i64 0]) w55))
def S_w16_great (N:Nums) (P:Program) (qe:Int) (qf:Int) (qg:OA) (qo qp:Nat) (w:World) (K:KV):Prop:=
 newM #[.int .i64 qe,.int .i64 qf,.slice qg qo qp] N.t_Dyads w fun p1 w2=>
 cutM (σ:=Int×Unit) (fun J3=>
 loopM (σ:=Int×Int×Unit) (fun s6 X7 w8=>
 cS_ w8 (p1.add 2) fun s9a s9l s9c=>
 cond (decide (s6.2.1<(s9l:Int)))
 (cond (decide (s6.1≤400))
 (cS_ w8 (p1.add 2) fun s10a s10l s10c=>
 (0:Int)≤s6.2.1∧s6.2.1<(s10l:Nat) ∧
 optM s10a fun a11=>
 cS_ w8 ((a11.add (s6.2.1.toNat*3)).add 1) fun s12a s12l s12c=>
 X7 ((i64.wrap (s6.1+(s12l:Int))),(i64.wrap (s6.2.1+1)),()) w8)
 (J3 (s6.1,()) w8))
 (J3 (s6.1,()) w8))
 (0,0,()) w2)
 (fun s4 w5=>
 cI_ w5 p1 fun n13=>
 cond (!(decide (n13>8)))
 (cI_ w5 (p1.add 1) fun n14=>
 cond (!(decide (n14>8)))
 (K (.bool (decide (s4.1>400))) w5)
 (K (.bool true) w5))
 (K (.bool true) w5))
def S_inertia_Symmetric (N:Nums) (P:Program) (qe:Int) (qf:Int) (qg:OA) (qo qp:Nat) (w:World) (K:KV):Prop:=
 newM #[.int .i64 qe,.int .i64 qf,.slice qg qo qp] N.t_Dyads w fun p1 w2=>
 cutM (σ:=Bool×Unit) (fun J3=>
 cI_ w2 p1 fun n6=>
 cI_ w2 (p1.add 1) fun n7=>
 cS_ w2 (p1.add 2) fun s8a s8l s8c=>
 CallsX P N.f_inertia_Right #[.agg #[.int .i64 n6,.int .i64 n7,.slice s8a s8l s8c]] w2 fun v10 w9=>
 vB_ v10 fun b11=>
 cond (!(!b11))
 (cI_ w9 p1 fun n12=>
 cI_ w9 (p1.add 1) fun n13=>
 J3 ((n12 != n13),()) w9)
 (J3 (true,()) w9))
 (fun s4 w5=>
 cond s4.1
 (K (.bool false) w5)
 (cI_ w5 p1 fun n14=>
 cutM (σ:=Unit) (fun J15=>
 loopM (σ:=Int×Unit) (fun s18 X19 w20=>
 cond (decide (s18.1<n14))
 (cutM (σ:=Unit) (fun J21=>
 loopM (σ:=Int×Unit) (fun s24 X25 w26=>
 cond (decide (s24.1<s18.1))
 (cS_ w26 (p1.add 2) fun s27a s27l s27c=>
 cI_ w26 (p1.add 1) fun n28=>
 (0:Int)≤(i64.wrap ((i64.wrap (s18.1*n28))+s24.1))∧(i64.wrap ((i64.wrap (s18.1*n28))+s24.1))<(s27l:Nat) ∧
 optM s27a fun a29=>
 ∃ b30,w26.cell? (a29.add ((i64.wrap ((i64.wrap (s18.1*n28))+s24.1)).toNat*3))=some (.bool b30) ∧
 ∃ s31a s31l s31c,w26.cell? ((a29.add ((i64.wrap ((i64.wrap (s18.1*n28))+s24.1)).toNat*3)).add 1)=some (.slice s31a s31l s31c) ∧
 ∃ n32,w26.cell? ((a29.add ((i64.wrap ((i64.wrap (s18.1*n28))+s24.1)).toNat*3)).add 2)=some (.int .i64 n32) ∧
 cS_ w26 (p1.add 2) fun s33a s33l s33c=>
 cI_ w26 (p1.add 1) fun n34=>
 (0:Int)≤(i64.wrap ((i64.wrap (s24.1*n34))+s18.1))∧(i64.wrap ((i64.wrap (s24.1*n34))+s18.1))<(s33l:Nat) ∧
 optM s33a fun a35=>
 ∃ b36,w26.cell? (a35.add ((i64.wrap ((i64.wrap (s24.1*n34))+s18.1)).toNat*3))=some (.bool b36) ∧
 ∃ s37a s37l s37c,w26.cell? ((a35.add ((i64.wrap ((i64.wrap (s24.1*n34))+s18.1)).toNat*3)).add 1)=some (.slice s37a s37l s37c) ∧
 ∃ n38,w26.cell? ((a35.add ((i64.wrap ((i64.wrap (s24.1*n34))+s18.1)).toNat*3)).add 2)=some (.int .i64 n38) ∧
 drM w26 fun w39=>
 CallsX P N.f_dyad_Cmp #[.agg #[.bool b30,.slice s31a s31l s31c,.int .i64 n32],.agg #[.bool b36,.slice s37a s37l s37c,.int .i64 n38]] w39 fun v41 w40=>
 ∃ n42,∃ n43,v41=(.tuple #[.int .i64 n42,.int .i64 n43]) ∧
 drM w40 fun w44=>
 cond (n42 != 0)
 (K (.bool false) w44)
 (X25 ((i64.wrap (s24.1+1)),()) w44))
 (J21 (()) w26))
 (0,()) w20)
 (fun s22 w23=>
 X19 ((i64.wrap (s18.1+1)),()) w23))
 (J15 (()) w20))
 (0,()) w5)
 (fun s16 w17=>
 K (.bool true) w17)))
def S_w16_sign (N:Nums) (P:Program) (qe:Bool) (qf:OA) (qb qd:Nat) (qg:Int) (w:World) (K:KV):Prop:=
 newM #[.bool qe,.slice qf qb qd,.int .i64 qg] N.t_Dyad w fun p1 w2=>
 cB_ w2 p1 fun b3=>
 cS_ w2 (p1.add 1) fun s4a s4l s4c=>
 cI_ w2 (p1.add 2) fun n5=>
 CallsX P N.f_dyad_Sign #[.agg #[.bool b3,.slice s4a s4l s4c,.int .i64 n5]] w2 fun v7 w6=>
 ∃ n8,∃ n9,v7=(.tuple #[.int .i64 n8,.int .i64 n9]) ∧
 K (.int .i64 n8) w6
def S_dyad_Add (N:Nums) (P:Program) (qe:Bool) (qf:OA) (qb qd:Nat) (qg:Int) (qq:Bool) (qr:OA) (qi qj:Nat) (qw:Int) (w:World) (K:KV):Prop:=
 newM #[.bool qe,.slice qf qb qd,.int .i64 qg] N.t_Dyad w fun p1 w2=>
 newM #[.bool qq,.slice qr qi qj,.int .i64 qw] N.t_Dyad w2 fun p3 w4=>
 newM #[.bool false,.slice none 0 0,.int .i64 0] N.t_Dyad w4 fun p5 w6=>
 cB_ w6 p1 fun b7=>
 cS_ w6 (p1.add 1) fun s8a s8l s8c=>
 cI_ w6 (p1.add 2) fun n9=>
 cB_ w6 p3 fun b10=>
 cS_ w6 (p3.add 1) fun s11a s11l s11c=>
 cI_ w6 (p3.add 2) fun n12=>
 CallsX P N.f_dyad_both #[.agg #[.bool b7,.slice s8a s8l s8c,.int .i64 n9],.agg #[.bool b10,.slice s11a s11l s11c,.int .i64 n12]] w6 fun v14 w13=>
 vB_ v14 fun b15=>
 cond (!b15)
 (stM p5 (.bool false) w13 fun w16=>
 stM (p5.add 1) (.slice none 0 0) w16 fun w17=>
 stM (p5.add 2) (.int .i64 0) w17 fun w18=>
 cB_ w18 p5 fun b19=>
 cS_ w18 (p5.add 1) fun s20a s20l s20c=>
 cI_ w18 (p5.add 2) fun n21=>
 K (.tuple #[.agg #[.bool b19,.slice s20a s20l s20c,.int .i64 n21],.int .i64 2]) w18)
 (cB_ w13 p1 fun b22=>
 cS_ w13 (p1.add 1) fun s23a s23l s23c=>
 cI_ w13 (p1.add 2) fun n24=>
 cB_ w13 p3 fun b25=>
 cS_ w13 (p3.add 1) fun s26a s26l s26c=>
 cI_ w13 (p3.add 2) fun n27=>
 drM w13 fun w28=>
 CallsX P N.f_dyad_whole #[.agg #[.bool b22,.slice s23a s23l s23c,.int .i64 n24]] w28 fun v30 w29=>
 ∃ p31:(OA),v30=(.pointer p31) ∧
 w29.cell? p3=some (.bool b25) ∧
 w29.cell? (p3.add 1)=some (.slice s26a s26l s26c) ∧
 w29.cell? (p3.add 2)=some (.int .i64 n27) ∧
 drM w29 fun w32=>
 CallsX P N.f_dyad_whole #[.agg #[.bool b25,.slice s26a s26l s26c,.int .i64 n27]] w32 fun v34 w33=>
 ∃ p35:(OA),v34=(.pointer p35) ∧
 drM w33 fun w36=>
 cutM (σ:=Bool×Unit) (fun J37=>
 CallsX P N.f_bI_Sign #[.pointer p31] w36 fun v41 w40=>
 ∃ n42,v41=(.int .i64 n42) ∧
 cond (!(n42==0))
 (CallsX P N.f_bI_Sign #[.pointer p35] w40 fun v44 w43=>
 ∃ n45,v44=(.int .i64 n45) ∧
 J37 ((n45==0),()) w43)
 (J37 (true,()) w40))
 (fun s38 w39=>
 cond s38.1
 (cI_ w39 (p1.add 2) fun n46=>
 cI_ w39 (p3.add 2) fun n47=>
 drM w39 fun w48=>
 CallsX P N.f_bI_Add #[.pointer p31,.pointer p31,.pointer p35] w48 fun v50 w49=>
 ∃ p51:(OA),v50=(.pointer p51) ∧
 w49.cell? (p3.add 2)=some (.int .i64 n47) ∧
 w49.cell? (p1.add 2)=some (.int .i64 n46) ∧
 drM w49 fun w52=>
 CallsX P N.f_dyad_made #[.pointer p51,.int .i64 (i64.wrap (n46+n47))] w52 fun v54 w53=>
 ∃ b55,∃ s56a s56l s56c,∃ n57,∃ n58,v54=(.tuple #[.agg #[.bool b55,.slice s56a s56l s56c,.int .i64 n57],.int .i64 n58]) ∧
 drM w53 fun w59=>
 stM p5 (.bool b55) w59 fun w60=>
 stM (p5.add 1) (.slice s56a s56l s56c) w60 fun w61=>
 stM (p5.add 2) (.int .i64 n57) w61 fun w62=>
 drM w62 fun w63=>
 cB_ w63 p5 fun b64=>
 cS_ w63 (p5.add 1) fun s65a s65l s65c=>
 cI_ w63 (p5.add 2) fun n66=>
 K (.tuple #[.agg #[.bool b64,.slice s65a s65l s65c,.int .i64 n66],.int .i64 n58]) w63)
 (cI_ w39 (p1.add 2) fun n67=>
 cI_ w39 (p3.add 2) fun n68=>
 cutM (σ:=(OA)×(OA)×Unit) (fun J69=>
 cond (decide (n67<n68))
 (cB_ w39 p3 fun b72=>
 cS_ w39 (p3.add 1) fun s73a s73l s73c=>
 cI_ w39 (p3.add 2) fun n74=>
 cB_ w39 p1 fun b75=>
 cS_ w39 (p1.add 1) fun s76a s76l s76c=>
 cI_ w39 (p1.add 2) fun n77=>
 stM p1 (.bool b72) w39 fun w78=>
 stM (p1.add 1) (.slice s73a s73l s73c) w78 fun w79=>
 stM (p1.add 2) (.int .i64 n74) w79 fun w80=>
 stM p3 (.bool b75) w80 fun w81=>
 stM (p3.add 1) (.slice s76a s76l s76c) w81 fun w82=>
 stM (p3.add 2) (.int .i64 n77) w82 fun w83=>
 J69 (p35,p31,()) w83)
 (J69 (p31,p35,()) w39))
 (fun s70 w71=>
 cI_ w71 (p1.add 2) fun n84=>
 cI_ w71 (p3.add 2) fun n85=>
 cond (decide ((i64.wrap (n84-n85))>16385))
 (stM p5 (.bool false) w71 fun w86=>
 stM (p5.add 1) (.slice none 0 0) w86 fun w87=>
 stM (p5.add 2) (.int .i64 0) w87 fun w88=>
 cB_ w88 p5 fun b89=>
 cS_ w88 (p5.add 1) fun s90a s90l s90c=>
 cI_ w88 (p5.add 2) fun n91=>
 K (.tuple #[.agg #[.bool b89,.slice s90a s90l s90c,.int .i64 n91],.int .i64 3]) w88)
 (cI_ w71 (p3.add 2) fun n92=>
 drM w71 fun w93=>
 CallsX P N.f_bI_Lsh #[.pointer s70.1,.pointer s70.1,.int .u64 (u64.wrap (i64.wrap (n84-n85)))] w93 fun v95 w94=>
 ∃ p96:(OA),v95=(.pointer p96) ∧
 w94.cell? (p3.add 2)=some (.int .i64 n92) ∧
 drM w94 fun w97=>
 CallsX P N.f_bI_Add #[.pointer s70.1,.pointer p96,.pointer s70.2.1] w97 fun v99 w98=>
 ∃ p100:(OA),v99=(.pointer p100) ∧
 w98.cell? (p3.add 2)=some (.int .i64 n92) ∧
 drM w98 fun w101=>
 CallsX P N.f_dyad_made #[.pointer p100,.int .i64 n92] w101 fun v103 w102=>
 ∃ b104,∃ s105a s105l s105c,∃ n106,∃ n107,v103=(.tuple #[.agg #[.bool b104,.slice s105a s105l s105c,.int .i64 n106],.int .i64 n107]) ∧
 drM w102 fun w108=>
 stM p5 (.bool b104) w108 fun w109=>
 stM (p5.add 1) (.slice s105a s105l s105c) w109 fun w110=>
 stM (p5.add 2) (.int .i64 n106) w110 fun w111=>
 drM w111 fun w112=>
 cB_ w112 p5 fun b113=>
 cS_ w112 (p5.add 1) fun s114a s114l s114c=>
 cI_ w112 (p5.add 2) fun n115=>
 K (.tuple #[.agg #[.bool b113,.slice s114a s114l s114c,.int .i64 n115],.int .i64 n107]) w112)))))
def S_dyad_Right (N:Nums) (P:Program) (qe:Bool) (qf:OA) (qb qd:Nat) (qg:Int) (w:World) (K:KV):Prop:=
 newM #[.bool qe,.slice qf qb qd,.int .i64 qg] N.t_Dyad w fun p1 w2=>
 cS_ w2 (p1.add 1) fun s3a s3l s3c=>
 cond ((s3l:Int)==0)
 (cB_ w2 p1 fun b4=>
 cond (!b4)
 (cI_ w2 (p1.add 2) fun n5=>
 K (.bool (n5==0)) w2)
 (K (.bool false) w2))
 (cond (decide ((s3l:Int)≤256))
 (cS_ w2 (p1.add 1) fun s6a s6l s6c=>
 (0:Int)≤(i64.wrap ((s3l:Int)-1))∧(i64.wrap ((s3l:Int)-1))<(s6l:Nat) ∧
 optM s6a fun a7=>
 ∃ n8,w2.cell? (a7.add ((i64.wrap ((s3l:Int)-1)).toNat*1))=some (.int .u64 n8) ∧
 cond (n8 != 0)
 (cS_ w2 (p1.add 1) fun s9a s9l s9c=>
 (0:Int)≤(0:Int)∧(0:Int)<(s9l:Nat) ∧
 optM s9a fun a10=>
 cU_ w2 (a10.add ((0:Int).toNat*1)) fun n11=>
 cond ((u64.wrap (BitVec.ofInt u64.bits n11 &&& BitVec.ofInt u64.bits 1).toNat)==1)
 (cI_ w2 (p1.add 2) fun n12=>
 cond (decide (((-65536):Int)≤n12))
 (cI_ w2 (p1.add 2) fun n13=>
 K (.bool (decide (n13≤65536))) w2)
 (K (.bool false) w2))
 (K (.bool false) w2))
 (K (.bool false) w2))
 (K (.bool false) w2))
def S_dyad_Cmp (N:Nums) (P:Program) (qe:Bool) (qf:OA) (qb qd:Nat) (qg:Int) (qq:Bool) (qr:OA) (qi qj:Nat) (qw:Int) (w:World) (K:KV):Prop:=
 newM #[.bool qe,.slice qf qb qd,.int .i64 qg] N.t_Dyad w fun p1 w2=>
 newM #[.bool qq,.slice qr qi qj,.int .i64 qw] N.t_Dyad w2 fun p3 w4=>
 cB_ w4 p1 fun b5=>
 cS_ w4 (p1.add 1) fun s6a s6l s6c=>
 cI_ w4 (p1.add 2) fun n7=>
 CallsX P N.f_dyad_Sign #[.agg #[.bool b5,.slice s6a s6l s6c,.int .i64 n7]] w4 fun v9 w8=>
 ∃ n10,∃ n11,v9=(.tuple #[.int .i64 n10,.int .i64 n11]) ∧
 cB_ w8 p3 fun b12=>
 cS_ w8 (p3.add 1) fun s13a s13l s13c=>
 cI_ w8 (p3.add 2) fun n14=>
 CallsX P N.f_dyad_Sign #[.agg #[.bool b12,.slice s13a s13l s13c,.int .i64 n14]] w8 fun v16 w15=>
 ∃ n17,∃ n18,v16=(.tuple #[.int .i64 n17,.int .i64 n18]) ∧
 cutM (σ:=Bool×Unit) (fun J19=>
 cond (!(n11 != 0))
 (J19 ((n18 != 0),()) w15)
 (J19 (true,()) w15))
 (fun s20 w21=>
 cond s20.1
 (K (.tuple #[.int .i64 0,.int .i64 2]) w21)
 (cond (n10 != n17)
 (cond (decide (n10<n17))
 (K (.tuple #[.int .i64 (-1),.int .i64 0]) w21)
 (K (.tuple #[.int .i64 1,.int .i64 0]) w21))
 (cond (n10==0)
 (K (.tuple #[.int .i64 0,.int .i64 0]) w21)
 (cB_ w21 p1 fun b22=>
 cS_ w21 (p1.add 1) fun s23a s23l s23c=>
 cI_ w21 (p1.add 2) fun n24=>
 cB_ w21 p3 fun b25=>
 cS_ w21 (p3.add 1) fun s26a s26l s26c=>
 cI_ w21 (p3.add 2) fun n27=>
 drM w21 fun w28=>
 CallsX P N.f_dyad_top #[.agg #[.bool b22,.slice s23a s23l s23c,.int .i64 n24]] w28 fun v30 w29=>
 ∃ n31,v30=(.int .i64 n31) ∧
 w29.cell? p3=some (.bool b25) ∧
 w29.cell? (p3.add 1)=some (.slice s26a s26l s26c) ∧
 w29.cell? (p3.add 2)=some (.int .i64 n27) ∧
 drM w29 fun w32=>
 CallsX P N.f_dyad_top #[.agg #[.bool b25,.slice s26a s26l s26c,.int .i64 n27]] w32 fun v34 w33=>
 ∃ n35,v34=(.int .i64 n35) ∧
 drM w33 fun w36=>
 cond (n31 != n35)
 (cB_ w36 p1 fun b37=>
 cS_ w36 (p1.add 1) fun s38a s38l s38c=>
 cI_ w36 (p1.add 2) fun n39=>
 cB_ w36 p3 fun b40=>
 cS_ w36 (p3.add 1) fun s41a s41l s41c=>
 cI_ w36 (p3.add 2) fun n42=>
 drM w36 fun w43=>
 CallsX P N.f_dyad_top #[.agg #[.bool b37,.slice s38a s38l s38c,.int .i64 n39]] w43 fun v45 w44=>
 ∃ n46,v45=(.int .i64 n46) ∧
 w44.cell? p3=some (.bool b40) ∧
 w44.cell? (p3.add 1)=some (.slice s41a s41l s41c) ∧
 w44.cell? (p3.add 2)=some (.int .i64 n42) ∧
 drM w44 fun w47=>
 CallsX P N.f_dyad_top #[.agg #[.bool b40,.slice s41a s41l s41c,.int .i64 n42]] w47 fun v49 w48=>
 ∃ n50,v49=(.int .i64 n50) ∧
 drM w48 fun w51=>
 cond (decide (n46<n50))
 (K (.tuple #[.int .i64 (i64.wrap (0-n10)),.int .i64 0]) w51)
 (K (.tuple #[.int .i64 n10,.int .i64 0]) w51))
 (cB_ w36 p1 fun b52=>
 cS_ w36 (p1.add 1) fun s53a s53l s53c=>
 cI_ w36 (p1.add 2) fun n54=>
 cB_ w36 p3 fun b55=>
 cS_ w36 (p3.add 1) fun s56a s56l s56c=>
 cI_ w36 (p3.add 2) fun n57=>
 drM w36 fun w58=>
 CallsX P N.f_dyad_whole #[.agg #[.bool b52,.slice s53a s53l s53c,.int .i64 n54]] w58 fun v60 w59=>
 ∃ p61:(OA),v60=(.pointer p61) ∧
 w59.cell? p3=some (.bool b55) ∧
 w59.cell? (p3.add 1)=some (.slice s56a s56l s56c) ∧
 w59.cell? (p3.add 2)=some (.int .i64 n57) ∧
 drM w59 fun w62=>
 CallsX P N.f_dyad_whole #[.agg #[.bool b55,.slice s56a s56l s56c,.int .i64 n57]] w62 fun v64 w63=>
 ∃ p65:(OA),v64=(.pointer p65) ∧
 drM w63 fun w66=>
 cI_ w66 (p1.add 2) fun n67=>
 cI_ w66 (p3.add 2) fun n68=>
 cutM (σ:=Unit) (fun J69=>
 cond (decide (n67>n68))
 (cI_ w66 (p1.add 2) fun n72=>
 cI_ w66 (p3.add 2) fun n73=>
 CallsX P N.f_bI_Lsh #[.pointer p61,.pointer p61,.int .u64 (u64.wrap (i64.wrap (n72-n73)))] w66 fun v75 w74=>
 ∃ p76:(OA),v75=(.pointer p76) ∧
 J69 (()) w74)
 (cI_ w66 (p3.add 2) fun n77=>
 cI_ w66 (p1.add 2) fun n78=>
 CallsX P N.f_bI_Lsh #[.pointer p65,.pointer p65,.int .u64 (u64.wrap (i64.wrap (n77-n78)))] w66 fun v80 w79=>
 ∃ p81:(OA),v80=(.pointer p81) ∧
 J69 (()) w79))
 (fun s70 w71=>
 CallsX P N.f_bI_Cmp #[.pointer p61,.pointer p65] w71 fun v83 w82=>
 ∃ n84,v83=(.int .i64 n84) ∧
 K (.tuple #[.int .i64 n84,.int .i64 0]) w82))))))
def S_inertia_scaled (N:Nums) (P:Program) (qe:Int) (qf:Int) (qg:OA) (qo qp:Nat) (qq:Bool) (qr:OA) (qi qj:Nat) (qw:Int) (w:World) (K:KV):Prop:=
 newM #[.int .i64 qe,.int .i64 qf,.slice qg qo qp] N.t_Dyads w fun p1 w2=>
 newM #[.bool qq,.slice qr qi qj,.int .i64 qw] N.t_Dyad w2 fun p3 w4=>
 newM #[.slice none 0 0,.int .i64 0] N.t_inertia_rows w4 fun p5 w6=>
 cI_ w6 p1 fun n7=>
 mkM N.t_L_p_bn_Int 1 24 #[.slice none 0 0] n7 n7 w6 fun p8 w9=>
 newM #[.slice none 0 0,.int .i64 0] N.t_inertia_rows w9 fun p10 w11=>
 stM p10 (.slice (some p8) n7.toNat n7.toNat) w11 fun w12=>
 stM (p10.add 1) (.int .i64 65536) w12 fun w13=>
 cutM (σ:=(OA×Nat×Nat)×Int×Int×Unit) (fun J14=>
 cS_ w13 (p1.add 2) fun s17a s17l s17c=>
 cB_ w13 p3 fun b18=>
 cS_ w13 (p3.add 1) fun s19a s19l s19c=>
 cI_ w13 (p3.add 2) fun n20=>
 (drM w13 fun w21=>
 CallsX P N.f_slices_Clone___api_Dyad_api_Dyad #[.slice s17a s17l s17c] w21 fun v23 w22=>
 vS_ v23 fun s24a s24l s24c=>
 w22.cell? p3=some (.bool b18) ∧
 w22.cell? (p3.add 1)=some (.slice s19a s19l s19c) ∧
 w22.cell? (p3.add 2)=some (.int .i64 n20) ∧
 drM w22 fun w25=>
 newM #[.bool b18,.slice s19a s19l s19c,.int .i64 n20] N.t_Dyad w25 fun p26 w27=>
 drM w27 fun w28=>
 appM N.t_Dyad 3 40 #[.bool false,.slice none 0 0,.int .i64 0] s24a s24l s24c (some p26) 1 w28 fun s29a s29l s29c w30=>
 drM w30 fun w31=>
 J14 ((s29a,s29l,s29c),(s29l:Int),0,()) w31) ∧
 (drM w13 fun w32=>
 newM #[.bool b18,.slice s19a s19l s19c,.int .i64 n20] N.t_Dyad w32 fun p33 w34=>
 w34.cell? (p1.add 2)=some (.slice s17a s17l s17c) ∧
 drM w34 fun w35=>
 CallsX P N.f_slices_Clone___api_Dyad_api_Dyad #[.slice s17a s17l s17c] w35 fun v37 w36=>
 vS_ v37 fun s38a s38l s38c=>
 drM w36 fun w39=>
 appM N.t_Dyad 3 40 #[.bool false,.slice none 0 0,.int .i64 0] s38a s38l s38c (some p33) 1 w39 fun s40a s40l s40c w41=>
 drM w41 fun w42=>
 J14 ((s40a,s40l,s40c),(s40l:Int),0,()) w42))
 (fun s15 w16=>
 cutM (σ:=Unit) (fun J43=>
 loopM (σ:=Int×Unit) (fun s46 X47 w48=>
 cond (decide (s46.1<s15.2.1))
 (cutM (σ:=Unit) (fun J49=>
 (0:Int)≤s46.1∧s46.1<(s15.1.2.1:Nat) ∧
 optM s15.1.1 fun a52=>
 cB_ w48 (a52.add (s46.1.toNat*3)) fun b53=>
 cS_ w48 ((a52.add (s46.1.toNat*3)).add 1) fun s54a s54l s54c=>
 cI_ w48 ((a52.add (s46.1.toNat*3)).add 2) fun n55=>
 newM #[.bool false,.slice none 0 0,.int .i64 0] N.t_Dyad w48 fun p56 w57=>
 stM p56 (.bool b53) w57 fun w58=>
 stM (p56.add 1) (.slice s54a s54l s54c) w58 fun w59=>
 stM (p56.add 2) (.int .i64 n55) w59 fun w60=>
 cS_ w60 (p56.add 1) fun s61a s61l s61c=>
 cutM (σ:=Unit) (fun J62=>
 cond (decide ((s61l:Int)>0))
 (cI_ w60 (p10.add 1) fun n65=>
 cI_ w60 (p56.add 2) fun n66=>
 stM (p10.add 1) (.int .i64 (if n66<n65 then n66 else n65)) w60 fun w67=>
 J62 (()) w67)
 (J62 (()) w60))
 (fun s63 w64=>
 J49 (()) w64))
 (fun s50 w51=>
 X47 ((i64.wrap (s46.1+1)),()) w51))
 (J43 (()) w48))
 (s15.2.2.1,()) w16)
 (fun s44 w45=>
 cI_ w45 p1 fun n68=>
 cutM (σ:=Int×Int×Unit) (fun J69=>
 loopM (σ:=Int×Int×Int×Unit) (fun s72 X73 w74=>
 cond (decide (s72.2.2.1<n68))
 (cI_ w74 (p1.add 1) fun n75=>
 cutM (σ:=Int×Int×Unit) (fun J76=>
 loopM (σ:=Int×Int×Int×Unit) (fun s79 X80 w81=>
 cond (decide (s79.2.2.1<n75))
 (cS_ w81 (p1.add 2) fun s82a s82l s82c=>
 cI_ w81 (p1.add 1) fun n83=>
 (0:Int)≤(i64.wrap ((i64.wrap (s72.2.2.1*n83))+s79.2.2.1))∧(i64.wrap ((i64.wrap (s72.2.2.1*n83))+s79.2.2.1))<(s82l:Nat) ∧
 optM s82a fun a84=>
 ∃ b85,w81.cell? (a84.add ((i64.wrap ((i64.wrap (s72.2.2.1*n83))+s79.2.2.1)).toNat*3))=some (.bool b85) ∧
 ∃ s86a s86l s86c,w81.cell? ((a84.add ((i64.wrap ((i64.wrap (s72.2.2.1*n83))+s79.2.2.1)).toNat*3)).add 1)=some (.slice s86a s86l s86c) ∧
 ∃ n87,w81.cell? ((a84.add ((i64.wrap ((i64.wrap (s72.2.2.1*n83))+s79.2.2.1)).toNat*3)).add 2)=some (.int .i64 n87) ∧
 cI_ w81 (p10.add 1) fun n88=>
 drM w81 fun w89=>
 CallsX P N.f_inertia_whole #[.agg #[.bool b85,.slice s86a s86l s86c,.int .i64 n87],.int .i64 n88] w89 fun v91 w90=>
 ∃ p92:(OA),v91=(.pointer p92) ∧
 drM w90 fun w93=>
 cutM (σ:=Unit) (fun J94=>
 cond (s72.2.2.1==s79.2.2.1)
 (cB_ w93 p3 fun b97=>
 cS_ w93 (p3.add 1) fun s98a s98l s98c=>
 cI_ w93 (p3.add 2) fun n99=>
 cI_ w93 (p10.add 1) fun n100=>
 CallsX P N.f_inertia_whole #[.agg #[.bool b97,.slice s98a s98l s98c,.int .i64 n99],.int .i64 n100] w93 fun v102 w101=>
 ∃ p103:(OA),v102=(.pointer p103) ∧
 CallsX P N.f_bI_Sub #[.pointer p92,.pointer p92,.pointer p103] w101 fun v105 w104=>
 ∃ p106:(OA),v105=(.pointer p106) ∧
 J94 (()) w104)
 (J94 (()) w93))
 (fun s95 w96=>
 CallsX P N.f_bI_Sign #[.pointer p92] w96 fun v108 w107=>
 ∃ n109,v108=(.int .i64 n109) ∧
 cutM (σ:=Int×Int×Unit) (fun J110=>
 cond (n109 != 0)
 (CallsX P N.f_bI_TrailingZeroBits #[.pointer p92] w107 fun v114 w113=>
 ∃ n115,v114=(.int .u64 n115) ∧
 CallsX P N.f_bI_BitLen #[.pointer p92] w113 fun v117 w116=>
 ∃ n118,v117=(.int .i64 n118) ∧
 J110 ((if (i64.wrap n115)<s79.1 then (i64.wrap n115) else s79.1),(if n118>s79.2.1 then n118 else s79.2.1),()) w116)
 (J110 (s79.1,s79.2.1,()) w107))
 (fun s111 w112=>
 cS_ w112 p10 fun s119a s119l s119c=>
 cS_ w112 p10 fun s120a s120l s120c=>
 (0:Int)≤s72.2.2.1∧s72.2.2.1<(s120l:Nat) ∧
 optM s120a fun a121=>
 cS_ w112 (a121.add (s72.2.2.1.toNat*1)) fun s122a s122l s122c=>
 drM w112 fun w123=>
 newM #[.pointer p92] N.t_p_bn_Int w123 fun p124 w125=>
 w125.cell? (a121.add (s72.2.2.1.toNat*1))=some (.slice s122a s122l s122c) ∧
 w125.cell? p10=some (.slice s120a s120l s120c) ∧
 w125.cell? p10=some (.slice s119a s119l s119c) ∧
 drM w125 fun w126=>
 appM N.t_p_bn_Int 1 8 #[.pointer none] s122a s122l s122c (some p124) 1 w126 fun s127a s127l s127c w128=>
 w128.cell? p10=some (.slice s119a s119l s119c) ∧
 (0:Int)≤s72.2.2.1∧s72.2.2.1<(s119l:Nat) ∧
 optM s119a fun a129=>
 drM w128 fun w130=>
 stM (a129.add (s72.2.2.1.toNat*1)) (.slice s127a s127l s127c) w130 fun w131=>
 drM w131 fun w132=>
 X80 (s111.1,s111.2.1,(i64.wrap (s79.2.2.1+1)),()) w132)))
 (J76 (s79.1,s79.2.1,()) w81))
 (s72.1,s72.2.1,0,()) w74)
 (fun s77 w78=>
 X73 (s77.1,s77.2.1,(i64.wrap (s72.2.2.1+1)),()) w78))
 (J69 (s72.1,s72.2.1,()) w74))
 (1073741824,0,0,()) w45)
 (fun s70 w71=>
 cond (s70.2.1==0)
 (cS_ w71 p10 fun s133a s133l s133c=>
 cI_ w71 (p10.add 1) fun n134=>
 stM p5 (.slice s133a s133l s133c) w71 fun w135=>
 stM (p5.add 1) (.int .i64 n134) w135 fun w136=>
 cS_ w136 p5 fun s137a s137l s137c=>
 cI_ w136 (p5.add 1) fun n138=>
 K (.tuple #[.agg #[.slice s137a s137l s137c,.int .i64 n138],.bool true]) w136)
 (cS_ w71 p10 fun s139a s139l s139c=>
 cutM (σ:=Unit) (fun J140=>
 loopM (σ:=Int×Unit) (fun s143 X144 w145=>
 cond (decide (s143.1<(s139l:Int)))
 ((0:Int)≤s143.1∧s143.1<(s139l:Nat) ∧
 optM s139a fun a146=>
 cS_ w145 (a146.add (s143.1.toNat*1)) fun s147a s147l s147c=>
 cutM (σ:=Unit) (fun J148=>
 loopM (σ:=Int×Unit) (fun s151 X152 w153=>
 cond (decide (s151.1<(s147l:Int)))
 ((0:Int)≤s151.1∧s151.1<(s147l:Nat) ∧
 optM s147a fun a154=>
 ∃ p155:(OA),w153.cell? (a154.add (s151.1.toNat*1))=some (.pointer p155) ∧
 CallsX P N.f_bI_Rsh #[.pointer p155,.pointer p155,.int .u64 (u64.wrap s70.1)] w153 fun v157 w156=>
 ∃ p158:(OA),v157=(.pointer p158) ∧
 X152 ((i64.wrap (s151.1+1)),()) w156)
 (J148 (()) w153))
 (0,()) w145)
 (fun s149 w150=>
 X144 ((i64.wrap (s143.1+1)),()) w150))
 (J140 (()) w145))
 (0,()) w71)
 (fun s141 w142=>
 cI_ w142 (p10.add 1) fun n159=>
 stM (p10.add 1) (.int .i64 (i64.wrap (n159+s70.1))) w142 fun w160=>
 cS_ w160 p10 fun s161a s161l s161c=>
 cI_ w160 (p10.add 1) fun n162=>
 cI_ w160 p1 fun n163=>
 drM w160 fun w164=>
 stM p5 (.slice s161a s161l s161c) w164 fun w165=>
 stM (p5.add 1) (.int .i64 n162) w165 fun w166=>
 w166.cell? p1=some (.int .i64 n163) ∧
 drM w166 fun w167=>
 cS_ w167 p5 fun s168a s168l s168c=>
 cI_ w167 (p5.add 1) fun n169=>
 K (.tuple #[.agg #[.slice s168a s168l s168c,.int .i64 n169],.bool (decide ((i64.wrap ((i64.wrap (s70.2.1-s70.1))*n163))≤8192))]) w167)))))
def S_p_inertia_rows_signs (N:Nums) (P:Program) (q0:OA) (w:World) (K:KV):Prop:=
 newM #[.int .i64 0,.int .i64 0,.int .i64 0] N.t_Signs w fun p1 w2=>
 optM q0 fun a3=>
 cS_ w2 a3 fun s4a s4l s4c=>
 CallsX P N.f_bn_NewInt #[.int .i64 1] w2 fun v6 w5=>
 ∃ p7:(OA),v6=(.pointer p7) ∧
 newM #[.int .i64 0,.int .i64 0,.int .i64 0] N.t_Signs w5 fun p8 w9=>
 cutM (σ:=Unit) (fun J10=>
 loopM (σ:=(OA)×Int×Unit) (fun s13 X14 w15=>
 cond (decide (s13.2.1<(s4l:Int)))
 (CallsX P N.f_p_inertia_rows_pivot #[.pointer q0,.int .i64 s13.2.1] w15 fun v17 w16=>
 vB_ v17 fun b18=>
 cond (!b18)
 (stM (p8.add 1) (.int .i64 (i64.wrap ((s4l:Int)-s13.2.1))) w16 fun w19=>
 cI_ w19 p8 fun n20=>
 cI_ w19 (p8.add 1) fun n21=>
 cI_ w19 (p8.add 2) fun n22=>
 stM p1 (.int .i64 n20) w19 fun w23=>
 stM (p1.add 1) (.int .i64 n21) w23 fun w24=>
 stM (p1.add 2) (.int .i64 n22) w24 fun w25=>
 cI_ w25 p1 fun n26=>
 cI_ w25 (p1.add 1) fun n27=>
 cI_ w25 (p1.add 2) fun n28=>
 K (.agg #[.int .i64 n26,.int .i64 n27,.int .i64 n28]) w25)
 (optM q0 fun a29=>
 cS_ w16 a29 fun s30a s30l s30c=>
 (0:Int)≤s13.2.1∧s13.2.1<(s30l:Nat) ∧
 optM s30a fun a31=>
 cS_ w16 (a31.add (s13.2.1.toNat*1)) fun s32a s32l s32c=>
 (0:Int)≤s13.2.1∧s13.2.1<(s32l:Nat) ∧
 optM s32a fun a33=>
 ∃ p34:(OA),w16.cell? (a33.add (s13.2.1.toNat*1))=some (.pointer p34) ∧
 CallsX P N.f_bI_Sign #[.pointer p34] w16 fun v36 w35=>
 ∃ n37,v36=(.int .i64 n37) ∧
 CallsX P N.f_bI_Sign #[.pointer s13.1] w35 fun v39 w38=>
 ∃ n40,v39=(.int .i64 n40) ∧
 cutM (σ:=Unit) (fun J41=>
 cond (n37==n40)
 (cI_ w38 (p8.add 2) fun n44=>
 stM (p8.add 2) (.int .i64 (i64.wrap (n44+1))) w38 fun w45=>
 J41 (()) w45)
 (cI_ w38 p8 fun n46=>
 stM p8 (.int .i64 (i64.wrap (n46+1))) w38 fun w47=>
 J41 (()) w47))
 (fun s42 w43=>
 cutM (σ:=Unit) (fun J48=>
 loopM (σ:=Int×Unit) (fun s51 X52 w53=>
 cond (decide (s51.1<(s4l:Int)))
 (cutM (σ:=Unit) (fun J54=>
 loopM (σ:=Int×Unit) (fun s57 X58 w59=>
 cond (decide (s57.1<(s4l:Int)))
 (newM #[.bool false,.slice none 0 0] N.t_bn_Int w59 fun p60 w61=>
 optM q0 fun a62=>
 cS_ w61 a62 fun s63a s63l s63c=>
 (0:Int)≤s51.1∧s51.1<(s63l:Nat) ∧
 optM s63a fun a64=>
 cS_ w61 (a64.add (s51.1.toNat*1)) fun s65a s65l s65c=>
 (0:Int)≤s57.1∧s57.1<(s65l:Nat) ∧
 optM s65a fun a66=>
 ∃ p67:(OA),w61.cell? (a66.add (s57.1.toNat*1))=some (.pointer p67) ∧
 CallsX P N.f_bI_Mul #[.pointer (some p60),.pointer p34,.pointer p67] w61 fun v69 w68=>
 ∃ p70:(OA),v69=(.pointer p70) ∧
 optM q0 fun a71=>
 cS_ w68 a71 fun s72a s72l s72c=>
 (0:Int)≤s51.1∧s51.1<(s72l:Nat) ∧
 optM s72a fun a73=>
 cS_ w68 (a73.add (s51.1.toNat*1)) fun s74a s74l s74c=>
 (0:Int)≤s13.2.1∧s13.2.1<(s74l:Nat) ∧
 optM s74a fun a75=>
 ∃ p76:(OA),w68.cell? (a75.add (s13.2.1.toNat*1))=some (.pointer p76) ∧
 optM q0 fun a77=>
 cS_ w68 a77 fun s78a s78l s78c=>
 (0:Int)≤s13.2.1∧s13.2.1<(s78l:Nat) ∧
 optM s78a fun a79=>
 cS_ w68 (a79.add (s13.2.1.toNat*1)) fun s80a s80l s80c=>
 (0:Int)≤s57.1∧s57.1<(s80l:Nat) ∧
 optM s80a fun a81=>
 ∃ p82:(OA),w68.cell? (a81.add (s57.1.toNat*1))=some (.pointer p82) ∧
 drM w68 fun w83=>
 newM #[.bool false,.slice none 0 0] N.t_bn_Int w83 fun p84 w85=>
 w85.cell? (a81.add (s57.1.toNat*1))=some (.pointer p82) ∧
 w85.cell? (a79.add (s13.2.1.toNat*1))=some (.slice s80a s80l s80c) ∧
 w85.cell? a77=some (.slice s78a s78l s78c) ∧
 w85.cell? (a75.add (s13.2.1.toNat*1))=some (.pointer p76) ∧
 w85.cell? (a73.add (s51.1.toNat*1))=some (.slice s74a s74l s74c) ∧
 w85.cell? a71=some (.slice s72a s72l s72c) ∧
 drM w85 fun w86=>
 CallsX P N.f_bI_Mul #[.pointer (some p84),.pointer p76,.pointer p82] w86 fun v88 w87=>
 ∃ p89:(OA),v88=(.pointer p89) ∧
 drM w87 fun w90=>
 CallsX P N.f_bI_Sub #[.pointer p70,.pointer p70,.pointer p89] w90 fun v92 w91=>
 ∃ p93:(OA),v92=(.pointer p93) ∧
 drM w91 fun w94=>
 optM q0 fun a95=>
 cS_ w94 a95 fun s96a s96l s96c=>
 (0:Int)≤s51.1∧s51.1<(s96l:Nat) ∧
 optM s96a fun a97=>
 cS_ w94 (a97.add (s51.1.toNat*1)) fun s98a s98l s98c=>
 drM w94 fun w99=>
 CallsX P N.f_bI_Quo #[.pointer p70,.pointer p70,.pointer s13.1] w99 fun v101 w100=>
 ∃ p102:(OA),v101=(.pointer p102) ∧
 w100.cell? (a97.add (s51.1.toNat*1))=some (.slice s98a s98l s98c) ∧
 w100.cell? a95=some (.slice s96a s96l s96c) ∧
 (0:Int)≤s57.1∧s57.1<(s98l:Nat) ∧
 optM s98a fun a103=>
 drM w100 fun w104=>
 stM (a103.add (s57.1.toNat*1)) (.pointer p102) w104 fun w105=>
 drM w105 fun w106=>
 X58 ((i64.wrap (s57.1+1)),()) w106)
 (J54 (()) w59))
 ((i64.wrap (s13.2.1+1)),()) w53)
 (fun s55 w56=>
 X52 ((i64.wrap (s51.1+1)),()) w56))
 (J48 (()) w53))
 ((i64.wrap (s13.2.1+1)),()) w43)
 (fun s49 w50=>
 X14 (p34,(i64.wrap (s13.2.1+1)),()) w50))))
 (J10 (()) w15))
 (p7,0,()) w9)
 (fun s11 w12=>
 cI_ w12 p8 fun n107=>
 cI_ w12 (p8.add 1) fun n108=>
 cI_ w12 (p8.add 2) fun n109=>
 stM p1 (.int .i64 n107) w12 fun w110=>
 stM (p1.add 1) (.int .i64 n108) w110 fun w111=>
 stM (p1.add 2) (.int .i64 n109) w111 fun w112=>
 cI_ w112 p1 fun n113=>
 cI_ w112 (p1.add 1) fun n114=>
 cI_ w112 (p1.add 2) fun n115=>
 K (.agg #[.int .i64 n113,.int .i64 n114,.int .i64 n115]) w112)
def S_p_inertia_rows_coefficients (N:Nums) (P:Program) (q0:OA) (w:World) (K:KV):Prop:=
 optM q0 fun a1=>
 cS_ w a1 fun s2a s2l s2c=>
 CallsX P N.f_bn_NewInt #[.int .i64 1] w fun v4 w3=>
 ∃ p5:(OA),v4=(.pointer p5) ∧
 newM #[.pointer p5] N.t_p_bn_Int w3 fun p6 w7=>
 mkM N.t_L_p_bn_Int 1 24 #[.slice none 0 0] (s2l:Int) (s2l:Int) w7 fun p8 w9=>
 cutM (σ:=Unit) (fun J10=>
 loopM (σ:=Int×Unit) (fun s13 X14 w15=>
 cond (decide (s13.1<(s2l:Int)))
 (cutM (σ:=Unit) (fun J16=>
 loopM (σ:=Int×Unit) (fun s19 X20 w21=>
 cond (decide (s19.1<(s2l:Int)))
 ((0:Int)≤s13.1∧s13.1<((s2l:Int).toNat:Nat) ∧
 cS_ w21 (p8.add (s13.1.toNat*1)) fun s22a s22l s22c=>
 newM #[.bool false,.slice none 0 0] N.t_bn_Int w21 fun p23 w24=>
 newM #[.pointer (some p23)] N.t_p_bn_Int w24 fun p25 w26=>
 appM N.t_p_bn_Int 1 8 #[.pointer none] s22a s22l s22c (some p25) 1 w26 fun s27a s27l s27c w28=>
 (0:Int)≤s13.1∧s13.1<((s2l:Int).toNat:Nat) ∧
 stM (p8.add (s13.1.toNat*1)) (.slice s27a s27l s27c) w28 fun w29=>
 X20 ((i64.wrap (s19.1+1)),()) w29)
 (J16 (()) w21))
 (0,()) w15)
 (fun s17 w18=>
 X14 ((i64.wrap (s13.1+1)),()) w18))
 (J10 (()) w15))
 (0,()) w9)
 (fun s11 w12=>
 cutM (σ:=(OA×Nat×Nat)×Unit) (fun J30=>
 loopM (σ:=(OA×Nat×Nat)×(OA×Nat×Nat)×Int×Unit) (fun s33 X34 w35=>
 cond (decide (s33.2.2.1<(s2l:Int)))
 (cutM (σ:=Unit) (fun J36=>
 loopM (σ:=Int×Unit) (fun s39 X40 w41=>
 cond (decide (s39.1<(s2l:Int)))
 ((0:Int)≤s39.1∧s39.1<(s33.2.1.2.1:Nat) ∧
 optM s33.2.1.1 fun a42=>
 cS_ w41 (a42.add (s39.1.toNat*1)) fun s43a s43l s43c=>
 (0:Int)≤s39.1∧s39.1<(s43l:Nat) ∧
 optM s43a fun a44=>
 ∃ p45:(OA),w41.cell? (a44.add (s39.1.toNat*1))=some (.pointer p45) ∧
 (0:Int)≤s39.1∧s39.1<(s33.2.1.2.1:Nat) ∧
 optM s33.2.1.1 fun a46=>
 cS_ w41 (a46.add (s39.1.toNat*1)) fun s47a s47l s47c=>
 (0:Int)≤s39.1∧s39.1<(s47l:Nat) ∧
 optM s47a fun a48=>
 ∃ p49:(OA),w41.cell? (a48.add (s39.1.toNat*1))=some (.pointer p49) ∧
 (0:Int)≤s33.2.2.1∧s33.2.2.1<(s33.1.2.1:Nat) ∧
 optM s33.1.1 fun a50=>
 ∃ p51:(OA),w41.cell? (a50.add (s33.2.2.1.toNat*1))=some (.pointer p51) ∧
 drM w41 fun w52=>
 CallsX P N.f_bI_Add #[.pointer p45,.pointer p49,.pointer p51] w52 fun v54 w53=>
 ∃ p55:(OA),v54=(.pointer p55) ∧
 drM w53 fun w56=>
 X40 ((i64.wrap (s39.1+1)),()) w56)
 (J36 (()) w41))
 (0,()) w35)
 (fun s37 w38=>
 mkM N.t_L_p_bn_Int 1 24 #[.slice none 0 0] (s2l:Int) (s2l:Int) w38 fun p57 w58=>
 newM #[.bool false,.slice none 0 0] N.t_bn_Int w58 fun p59 w60=>
 cutM (σ:=Unit) (fun J61=>
 loopM (σ:=Int×Unit) (fun s64 X65 w66=>
 cond (decide (s64.1<(s2l:Int)))
 (cutM (σ:=Unit) (fun J67=>
 loopM (σ:=Int×Unit) (fun s70 X71 w72=>
 cond (decide (s70.1<(s2l:Int)))
 (newM #[.bool false,.slice none 0 0] N.t_bn_Int w72 fun p73 w74=>
 newM #[.bool false,.slice none 0 0] N.t_bn_Int w74 fun p75 w76=>
 cutM (σ:=Unit) (fun J77=>
 loopM (σ:=Int×Unit) (fun s80 X81 w82=>
 cond (decide (s80.1<(s2l:Int)))
 (optM q0 fun a83=>
 cS_ w82 a83 fun s84a s84l s84c=>
 (0:Int)≤s64.1∧s64.1<(s84l:Nat) ∧
 optM s84a fun a85=>
 cS_ w82 (a85.add (s64.1.toNat*1)) fun s86a s86l s86c=>
 (0:Int)≤s80.1∧s80.1<(s86l:Nat) ∧
 optM s86a fun a87=>
 ∃ p88:(OA),w82.cell? (a87.add (s80.1.toNat*1))=some (.pointer p88) ∧
 (0:Int)≤s80.1∧s80.1<(s33.2.1.2.1:Nat) ∧
 optM s33.2.1.1 fun a89=>
 cS_ w82 (a89.add (s80.1.toNat*1)) fun s90a s90l s90c=>
 (0:Int)≤s70.1∧s70.1<(s90l:Nat) ∧
 optM s90a fun a91=>
 ∃ p92:(OA),w82.cell? (a91.add (s70.1.toNat*1))=some (.pointer p92) ∧
 drM w82 fun w93=>
 CallsX P N.f_bI_Mul #[.pointer (some p75),.pointer p88,.pointer p92] w93 fun v95 w94=>
 ∃ p96:(OA),v95=(.pointer p96) ∧
 drM w94 fun w97=>
 CallsX P N.f_bI_Add #[.pointer (some p73),.pointer (some p73),.pointer p96] w97 fun v99 w98=>
 ∃ p100:(OA),v99=(.pointer p100) ∧
 drM w98 fun w101=>
 X81 ((i64.wrap (s80.1+1)),()) w101)
 (J77 (()) w82))
 (0,()) w76)
 (fun s78 w79=>
 (0:Int)≤s64.1∧s64.1<((s2l:Int).toNat:Nat) ∧
 cS_ w79 (p57.add (s64.1.toNat*1)) fun s102a s102l s102c=>
 newM #[.pointer (some p73)] N.t_p_bn_Int w79 fun p103 w104=>
 appM N.t_p_bn_Int 1 8 #[.pointer none] s102a s102l s102c (some p103) 1 w104 fun s105a s105l s105c w106=>
 (0:Int)≤s64.1∧s64.1<((s2l:Int).toNat:Nat) ∧
 stM (p57.add (s64.1.toNat*1)) (.slice s105a s105l s105c) w106 fun w107=>
 X71 ((i64.wrap (s70.1+1)),()) w107))
 (J67 (()) w72))
 (0,()) w66)
 (fun s68 w69=>
 (0:Int)≤s64.1∧s64.1<((s2l:Int).toNat:Nat) ∧
 cS_ w69 (p57.add (s64.1.toNat*1)) fun s108a s108l s108c=>
 (0:Int)≤s64.1∧s64.1<(s108l:Nat) ∧
 optM s108a fun a109=>
 ∃ p110:(OA),w69.cell? (a109.add (s64.1.toNat*1))=some (.pointer p110) ∧
 CallsX P N.f_bI_Add #[.pointer (some p59),.pointer (some p59),.pointer p110] w69 fun v112 w111=>
 ∃ p113:(OA),v112=(.pointer p113) ∧
 X65 ((i64.wrap (s64.1+1)),()) w111))
 (J61 (()) w66))
 (0,()) w60)
 (fun s62 w63=>
 CallsX P N.f_bn_NewInt #[.int .i64 (i64.wrap (s33.2.2.1+1))] w63 fun v115 w114=>
 ∃ p116:(OA),v115=(.pointer p116) ∧
 CallsX P N.f_bI_Quo #[.pointer (some p59),.pointer (some p59),.pointer p116] w114 fun v118 w117=>
 ∃ p119:(OA),v118=(.pointer p119) ∧
 CallsX P N.f_bI_Neg #[.pointer (some p59),.pointer (some p59)] w117 fun v121 w120=>
 ∃ p122:(OA),v121=(.pointer p122) ∧
 newM #[.pointer p122] N.t_p_bn_Int w120 fun p123 w124=>
 appM N.t_p_bn_Int 1 8 #[.pointer none] s33.1.1 s33.1.2.1 s33.1.2.2 (some p123) 1 w124 fun s125a s125l s125c w126=>
 X34 ((s125a,s125l,s125c),((some p57),(s2l:Int).toNat,(s2l:Int).toNat),(i64.wrap (s33.2.2.1+1)),()) w126)))
 (J30 ((s33.1.1,s33.1.2.1,s33.1.2.2),()) w35))
 (((some p6),1,1),((some p8),(s2l:Int).toNat,(s2l:Int).toNat),0,()) w12)
 (fun s31 w32=>
 K (.slice s31.1.1 s31.1.2.1 s31.1.2.2) w32))
def S_inertia_told (N:Nums) (P:Program) (q0:OA) (q1:Int) (w:World) (K:KV):Prop:=
 newM #[.bool false,.slice none 0 0,.int .i64 0] N.t_Dyad w fun p1 w2=>
 CallsX P N.f_bI_Sign #[.pointer q0] w2 fun v4 w3=>
 ∃ n5,v4=(.int .i64 n5) ∧
 newM #[.bool false,.slice none 0 0,.int .i64 0] N.t_Dyad w3 fun p6 w7=>
 stM p6 (.bool (decide (n5<0))) w7 fun w8=>
 stM (p6.add 1) (.slice none 0 0) w8 fun w9=>
 stM (p6.add 2) (.int .i64 q1) w9 fun w10=>
 newM #[.bool false,.slice none 0 0] N.t_bn_Int w10 fun p11 w12=>
 CallsX P N.f_bI_Abs #[.pointer (some p11),.pointer q0] w12 fun v14 w13=>
 ∃ p15:(OA),v14=(.pointer p15) ∧
 cutM (σ:=Unit) (fun J16=>
 loopM (σ:=Unit) (fun s19 X20 w21=>
 CallsX P N.f_bI_Sign #[.pointer p15] w21 fun v23 w22=>
 ∃ n24,v23=(.int .i64 n24) ∧
 cond (decide (n24>0))
 (cS_ w22 (p6.add 1) fun s25a s25l s25c=>
 drM w22 fun w26=>
 CallsX P N.f_bI_Uint64 #[.pointer p15] w26 fun v28 w27=>
 ∃ n29,v28=(.int .u64 n29) ∧
 w27.cell? (p6.add 1)=some (.slice s25a s25l s25c) ∧
 drM w27 fun w30=>
 newM #[.int .u64 n29] N.t_uint64 w30 fun p31 w32=>
 w32.cell? (p6.add 1)=some (.slice s25a s25l s25c) ∧
 drM w32 fun w33=>
 appM N.t_uint64 1 8 #[.int .u64 0] s25a s25l s25c (some p31) 1 w33 fun s34a s34l s34c w35=>
 drM w35 fun w36=>
 stM (p6.add 1) (.slice s34a s34l s34c) w36 fun w37=>
 drM w37 fun w38=>
 CallsX P N.f_bI_Rsh #[.pointer p15,.pointer p15,.int .u64 64] w38 fun v40 w39=>
 ∃ p41:(OA),v40=(.pointer p41) ∧
 X20 (()) w39)
 (J16 (()) w22))
 (()) w13)
 (fun s17 w18=>
 cB_ w18 p6 fun b42=>
 cS_ w18 (p6.add 1) fun s43a s43l s43c=>
 cI_ w18 (p6.add 2) fun n44=>
 CallsX P N.f_dyad_Norm #[.agg #[.bool b42,.slice s43a s43l s43c,.int .i64 n44]] w18 fun v46 w45=>
 ∃ b47,∃ s48a s48l s48c,∃ n49,∃ n50,v46=(.tuple #[.agg #[.bool b47,.slice s48a s48l s48c,.int .i64 n49],.int .i64 n50]) ∧
 stM p1 (.bool b47) w45 fun w51=>
 stM (p1.add 1) (.slice s48a s48l s48c) w51 fun w52=>
 stM (p1.add 2) (.int .i64 n49) w52 fun w53=>
 cB_ w53 p1 fun b54=>
 cS_ w53 (p1.add 1) fun s55a s55l s55c=>
 cI_ w53 (p1.add 2) fun n56=>
 K (.tuple #[.agg #[.bool b54,.slice s55a s55l s55c,.int .i64 n56],.int .i64 n50]) w53)
def S_slices_Reverse___api_Dyad_api_Dyad (N:Nums) (P:Program) (q0:OA) (qh qk:Nat) (w:World) (K:KV):Prop:=
 cutM (σ:=Unit) (fun J1=>
 loopM (σ:=Int×Int×Unit) (fun s4 X5 w6=>
 cond (decide (s4.1<s4.2.1))
 ((0:Int)≤s4.2.1∧s4.2.1<(qh:Nat) ∧
 optM q0 fun a7=>
 cB_ w6 (a7.add (s4.2.1.toNat*3)) fun b8=>
 cS_ w6 ((a7.add (s4.2.1.toNat*3)).add 1) fun s9a s9l s9c=>
 cI_ w6 ((a7.add (s4.2.1.toNat*3)).add 2) fun n10=>
 (0:Int)≤s4.1∧s4.1<(qh:Nat) ∧
 optM q0 fun a11=>
 cB_ w6 (a11.add (s4.1.toNat*3)) fun b12=>
 cS_ w6 ((a11.add (s4.1.toNat*3)).add 1) fun s13a s13l s13c=>
 cI_ w6 ((a11.add (s4.1.toNat*3)).add 2) fun n14=>
 (0:Int)≤s4.1∧s4.1<(qh:Nat) ∧
 optM q0 fun a15=>
 drM w6 fun w16=>
 stM (a15.add (s4.1.toNat*3)) (.bool b8) w16 fun w17=>
 stM ((a15.add (s4.1.toNat*3)).add 1) (.slice s9a s9l s9c) w17 fun w18=>
 stM ((a15.add (s4.1.toNat*3)).add 2) (.int .i64 n10) w18 fun w19=>
 (0:Int)≤s4.2.1∧s4.2.1<(qh:Nat) ∧
 optM q0 fun a20=>
 drM w19 fun w21=>
 stM (a20.add (s4.2.1.toNat*3)) (.bool b12) w21 fun w22=>
 stM ((a20.add (s4.2.1.toNat*3)).add 1) (.slice s13a s13l s13c) w22 fun w23=>
 stM ((a20.add (s4.2.1.toNat*3)).add 2) (.int .i64 n14) w23 fun w24=>
 drM w24 fun w25=>
 X5 ((i64.wrap (s4.1+1)),(i64.wrap (s4.2.1-1)),()) w25)
 (J1 (()) w6))
 (0,(i64.wrap ((qh:Int)-1)),()) w)
 (fun s2 w3=>
 K (.tuple #[]) w3)
def S_k_SameDyad (N:Nums) (P:Program) (qe:Bool) (qf:OA) (qb qd:Nat) (qg:Int) (qq:Bool) (qr:OA) (qi qj:Nat) (qw:Int) (w:World) (K:KV):Prop:=
 newM #[.bool qe,.slice qf qb qd,.int .i64 qg] N.t_Dyad w fun p1 w2=>
 newM #[.bool qq,.slice qr qi qj,.int .i64 qw] N.t_Dyad w2 fun p3 w4=>
 cB_ w4 p1 fun b5=>
 cB_ w4 p3 fun b6=>
 cond (b5==b6)
 (cS_ w4 (p1.add 1) fun s7a s7l s7c=>
 cS_ w4 (p3.add 1) fun s8a s8l s8c=>
 CallsX P N.f_k_SameLimbs #[.slice s7a s7l s7c,.slice s8a s8l s8c] w4 fun v10 w9=>
 vB_ v10 fun b11=>
 cond b11
 (cI_ w9 (p1.add 2) fun n12=>
 cI_ w9 (p3.add 2) fun n13=>
 K (.bool (n12==n13)) w9)
 (K (.bool false) w9))
 (K (.bool false) w4)
def S_r02_Told (N:Nums) (P:Program) (qe:Bool) (qf:OA) (qb qd:Nat) (qg:Int) (w:World) (K:KV):Prop:=
 newM #[.bool qe,.slice qf qb qd,.int .i64 qg] N.t_r02_Num w fun p1 w2=>
 newM #[.bool false,.slice none 0 0,.int .i64 0] N.t_Dyad w2 fun p3 w4=>
 cB_ w4 p1 fun b5=>
 cS_ w4 (p1.add 1) fun s6a s6l s6c=>
 cI_ w4 (p1.add 2) fun n7=>
 CallsX P N.f_r02_Norm #[.agg #[.bool b5,.slice s6a s6l s6c,.int .i64 n7]] w4 fun v9 w8=>
 ∃ b10,∃ s11a s11l s11c,∃ n12,∃ n13,v9=(.tuple #[.agg #[.bool b10,.slice s11a s11l s11c,.int .i64 n12],.int .i64 n13]) ∧
 stM p3 (.bool b10) w8 fun w14=>
 stM (p3.add 1) (.slice s11a s11l s11c) w14 fun w15=>
 stM (p3.add 2) (.int .i64 n12) w15 fun w16=>
 cB_ w16 p3 fun b17=>
 cS_ w16 (p3.add 1) fun s18a s18l s18c=>
 cI_ w16 (p3.add 2) fun n19=>
 K (.tuple #[.agg #[.bool b17,.slice s18a s18l s18c,.int .i64 n19],.int .i64 n13]) w16
def S_r02_Whole (N:Nums) (P:Program) (q0:Int) (w:World) (K:KV):Prop:=
 newM #[.bool false,.slice none 0 0,.int .i64 0] N.t_r02_Num w fun p1 w2=>
 newM #[.bool false,.slice none 0 0,.int .i64 0] N.t_r02_Num w2 fun p3 w4=>
 stM p3 (.bool (decide (q0<0))) w4 fun w5=>
 stM (p3.add 1) (.slice none 0 0) w5 fun w6=>
 stM (p3.add 2) (.int .i64 0) w6 fun w7=>
 cutM (σ:=Int×Unit) (fun J8=>
 cond (decide (q0<0))
 (J8 ((u64.wrap (0-(u64.wrap q0))),()) w7)
 (J8 ((u64.wrap q0),()) w7))
 (fun s9 w10=>
 CallsX P N.f_r02_NatOf #[.int .u64 s9.1] w10 fun v12 w11=>
 vS_ v12 fun s13a s13l s13c=>
 stM (p3.add 1) (.slice s13a s13l s13c) w11 fun w14=>
 cB_ w14 p3 fun b15=>
 cS_ w14 (p3.add 1) fun s16a s16l s16c=>
 cI_ w14 (p3.add 2) fun n17=>
 stM p1 (.bool b15) w14 fun w18=>
 stM (p1.add 1) (.slice s16a s16l s16c) w18 fun w19=>
 stM (p1.add 2) (.int .i64 n17) w19 fun w20=>
 cB_ w20 p1 fun b21=>
 cS_ w20 (p1.add 1) fun s22a s22l s22c=>
 cI_ w20 (p1.add 2) fun n23=>
 K (.agg #[.bool b21,.slice s22a s22l s22c,.int .i64 n23]) w20)
def S_dyad_made (N:Nums) (P:Program) (q0:OA) (q1:Int) (w:World) (K:KV):Prop:=
 newM #[.bool false,.slice none 0 0,.int .i64 0] N.t_Dyad w fun p1 w2=>
 CallsX P N.f_bI_Sign #[.pointer q0] w2 fun v4 w3=>
 ∃ n5,v4=(.int .i64 n5) ∧
 cond (n5==0)
 (stM p1 (.bool false) w3 fun w6=>
 stM (p1.add 1) (.slice none 0 0) w6 fun w7=>
 stM (p1.add 2) (.int .i64 0) w7 fun w8=>
 cB_ w8 p1 fun b9=>
 cS_ w8 (p1.add 1) fun s10a s10l s10c=>
 cI_ w8 (p1.add 2) fun n11=>
 K (.tuple #[.agg #[.bool b9,.slice s10a s10l s10c,.int .i64 n11],.int .i64 0]) w8)
 (CallsX P N.f_bI_TrailingZeroBits #[.pointer q0] w3 fun v13 w12=>
 ∃ n14,v13=(.int .u64 n14) ∧
 cond (decide (q1>65536))
 (stM p1 (.bool false) w12 fun w15=>
 stM (p1.add 1) (.slice none 0 0) w15 fun w16=>
 stM (p1.add 2) (.int .i64 0) w16 fun w17=>
 cB_ w17 p1 fun b18=>
 cS_ w17 (p1.add 1) fun s19a s19l s19c=>
 cI_ w17 (p1.add 2) fun n20=>
 K (.tuple #[.agg #[.bool b18,.slice s19a s19l s19c,.int .i64 n20],.int .i64 3]) w17)
 (cond (decide (q1<(i64.wrap ((-65536)-(i64.wrap n14)))))
 (stM p1 (.bool false) w12 fun w21=>
 stM (p1.add 1) (.slice none 0 0) w21 fun w22=>
 stM (p1.add 2) (.int .i64 0) w22 fun w23=>
 cB_ w23 p1 fun b24=>
 cS_ w23 (p1.add 1) fun s25a s25l s25c=>
 cI_ w23 (p1.add 2) fun n26=>
 K (.tuple #[.agg #[.bool b24,.slice s25a s25l s25c,.int .i64 n26],.int .i64 3]) w23)
 (cond (decide ((i64.wrap (q1+(i64.wrap n14)))>65536))
 (stM p1 (.bool false) w12 fun w27=>
 stM (p1.add 1) (.slice none 0 0) w27 fun w28=>
 stM (p1.add 2) (.int .i64 0) w28 fun w29=>
 cB_ w29 p1 fun b30=>
 cS_ w29 (p1.add 1) fun s31a s31l s31c=>
 cI_ w29 (p1.add 2) fun n32=>
 K (.tuple #[.agg #[.bool b30,.slice s31a s31l s31c,.int .i64 n32],.int .i64 3]) w29)
 (CallsX P N.f_bI_BitLen #[.pointer q0] w12 fun v34 w33=>
 ∃ n35,v34=(.int .i64 n35) ∧
 cond (decide ((i64.wrap (n35-(i64.wrap n14)))>16384))
 (stM p1 (.bool false) w33 fun w36=>
 stM (p1.add 1) (.slice none 0 0) w36 fun w37=>
 stM (p1.add 2) (.int .i64 0) w37 fun w38=>
 cB_ w38 p1 fun b39=>
 cS_ w38 (p1.add 1) fun s40a s40l s40c=>
 cI_ w38 (p1.add 2) fun n41=>
 K (.tuple #[.agg #[.bool b39,.slice s40a s40l s40c,.int .i64 n41],.int .i64 3]) w38)
 (CallsX P N.f_bI_Sign #[.pointer q0] w33 fun v43 w42=>
 ∃ n44,v43=(.int .i64 n44) ∧
 newM #[.bool false,.slice none 0 0] N.t_bn_Int w42 fun p45 w46=>
 newM #[.bool false,.slice none 0 0] N.t_bn_Int w46 fun p47 w48=>
 CallsX P N.f_bI_Abs #[.pointer (some p47),.pointer q0] w48 fun v50 w49=>
 ∃ p51:(OA),v50=(.pointer p51) ∧
 CallsX P N.f_bI_Rsh #[.pointer (some p45),.pointer p51,.int .u64 (u64.wrap (i64.wrap n14))] w49 fun v53 w52=>
 ∃ p54:(OA),v53=(.pointer p54) ∧
 CallsX P N.f_dyad_limbs #[.pointer p54] w52 fun v56 w55=>
 vS_ v56 fun s57a s57l s57c=>
 stM p1 (.bool (decide (n44<0))) w55 fun w58=>
 stM (p1.add 1) (.slice s57a s57l s57c) w58 fun w59=>
 stM (p1.add 2) (.int .i64 (i64.wrap (q1+(i64.wrap n14)))) w59 fun w60=>
 cB_ w60 p1 fun b61=>
 cS_ w60 (p1.add 1) fun s62a s62l s62c=>
 cI_ w60 (p1.add 2) fun n63=>
 K (.tuple #[.agg #[.bool b61,.slice s62a s62l s62c,.int .i64 n63],.int .i64 0]) w60)))))
def S_dyad_whole (N:Nums) (P:Program) (qe:Bool) (qf:OA) (qb qd:Nat) (qg:Int) (w:World) (K:KV):Prop:=
 newM #[.bool qe,.slice qf qb qd,.int .i64 qg] N.t_Dyad w fun p1 w2=>
 newM #[.bool false,.slice none 0 0] N.t_bn_Int w2 fun p3 w4=>
 cS_ w4 (p1.add 1) fun s5a s5l s5c=>
 cutM (σ:=Unit) (fun J6=>
 loopM (σ:=Int×Unit) (fun s9 X10 w11=>
 cond (decide (s9.1<(s5l:Int)))
 (CallsX P N.f_bI_Lsh #[.pointer (some p3),.pointer (some p3),.int .u64 64] w11 fun v13 w12=>
 ∃ p14:(OA),v13=(.pointer p14) ∧
 newM #[.bool false,.slice none 0 0] N.t_bn_Int w12 fun p15 w16=>
 cS_ w16 (p1.add 1) fun s17a s17l s17c=>
 cS_ w16 (p1.add 1) fun s18a s18l s18c=>
 (0:Int)≤(i64.wrap ((i64.wrap ((s18l:Int)-1))-s9.1))∧(i64.wrap ((i64.wrap ((s18l:Int)-1))-s9.1))<(s17l:Nat) ∧
 optM s17a fun a19=>
 ∃ n20,w16.cell? (a19.add ((i64.wrap ((i64.wrap ((s18l:Int)-1))-s9.1)).toNat*1))=some (.int .u64 n20) ∧
 CallsX P N.f_bI_SetUint64 #[.pointer (some p15),.int .u64 n20] w16 fun v22 w21=>
 ∃ p23:(OA),v22=(.pointer p23) ∧
 CallsX P N.f_bI_Or #[.pointer (some p3),.pointer (some p3),.pointer p23] w21 fun v25 w24=>
 ∃ p26:(OA),v25=(.pointer p26) ∧
 X10 ((i64.wrap (s9.1+1)),()) w24)
 (J6 (()) w11))
 (0,()) w4)
 (fun s7 w8=>
 cB_ w8 p1 fun b27=>
 cutM (σ:=Unit) (fun J28=>
 cond b27
 (CallsX P N.f_bI_Neg #[.pointer (some p3),.pointer (some p3)] w8 fun v32 w31=>
 ∃ p33:(OA),v32=(.pointer p33) ∧
 J28 (()) w31)
 (J28 (()) w8))
 (fun s29 w30=>
 K (.pointer (some p3)) w30))
def S_bn_NewInt (N:Nums) (P:Program) (q0:Int) (w:World) (K:KV):Prop:=
 newM #[.bool false,.slice none 0 0] N.t_bn_Int w fun p1 w2=>
 CallsX P N.f_bI_SetInt64 #[.pointer (some p1),.int .i64 q0] w2 fun v4 w3=>
 ∃ p5:(OA),v4=(.pointer p5) ∧
 K (.pointer p5) w3
def S_inertia_Right (N:Nums) (P:Program) (qe:Int) (qf:Int) (qg:OA) (qo qp:Nat) (w:World) (K:KV):Prop:=
 newM #[.int .i64 qe,.int .i64 qf,.slice qg qo qp] N.t_Dyads w fun p1 w2=>
 cI_ w2 p1 fun n3=>
 CallsX P N.f_inertia_fits #[.int .i64 n3] w2 fun v5 w4=>
 vB_ v5 fun b6=>
 cond b6
 (cI_ w4 (p1.add 1) fun n7=>
 CallsX P N.f_inertia_fits #[.int .i64 n7] w4 fun v9 w8=>
 vB_ v9 fun b10=>
 cond b10
 (cS_ w8 (p1.add 2) fun s11a s11l s11c=>
 cI_ w8 p1 fun n12=>
 cI_ w8 (p1.add 1) fun n13=>
 cond ((s11l:Int)==(i64.wrap (n12*n13)))
 (cS_ w8 (p1.add 2) fun s14a s14l s14c=>
 CallsX P N.f_slices_ContainsFunc___api_Dyad_api_Dyad #[.slice s14a s14l s14c,.func (.func N.f_inertia_Right_1) #[] #[]] w8 fun v16 w15=>
 vB_ v16 fun b17=>
 K (.bool (!b17)) w15)
 (K (.bool false) w8))
 (K (.bool false) w8))
 (K (.bool false) w4)
def S_dyad_Sign (N:Nums) (P:Program) (qe:Bool) (qf:OA) (qb qd:Nat) (qg:Int) (w:World) (K:KV):Prop:=
 newM #[.bool qe,.slice qf qb qd,.int .i64 qg] N.t_Dyad w fun p1 w2=>
 cB_ w2 p1 fun b3=>
 cS_ w2 (p1.add 1) fun s4a s4l s4c=>
 cI_ w2 (p1.add 2) fun n5=>
 CallsX P N.f_dyad_Right #[.agg #[.bool b3,.slice s4a s4l s4c,.int .i64 n5]] w2 fun v7 w6=>
 vB_ v7 fun b8=>
 cond (!b8)
 (K (.tuple #[.int .i64 0,.int .i64 2]) w6)
 (cS_ w6 (p1.add 1) fun s9a s9l s9c=>
 cond ((s9l:Int)==0)
 (K (.tuple #[.int .i64 0,.int .i64 0]) w6)
 (cB_ w6 p1 fun b10=>
 cond b10
 (K (.tuple #[.int .i64 (-1),.int .i64 0]) w6)
 (K (.tuple #[.int .i64 1,.int .i64 0]) w6)))
def S_dyad_both (N:Nums) (P:Program) (qe:Bool) (qf:OA) (qb qd:Nat) (qg:Int) (qq:Bool) (qr:OA) (qi qj:Nat) (qw:Int) (w:World) (K:KV):Prop:=
 newM #[.bool qe,.slice qf qb qd,.int .i64 qg] N.t_Dyad w fun p1 w2=>
 newM #[.bool qq,.slice qr qi qj,.int .i64 qw] N.t_Dyad w2 fun p3 w4=>
 cB_ w4 p1 fun b5=>
 cS_ w4 (p1.add 1) fun s6a s6l s6c=>
 cI_ w4 (p1.add 2) fun n7=>
 CallsX P N.f_dyad_Right #[.agg #[.bool b5,.slice s6a s6l s6c,.int .i64 n7]] w4 fun v9 w8=>
 vB_ v9 fun b10=>
 cond b10
 (cB_ w8 p3 fun b11=>
 cS_ w8 (p3.add 1) fun s12a s12l s12c=>
 cI_ w8 (p3.add 2) fun n13=>
 CallsX P N.f_dyad_Right #[.agg #[.bool b11,.slice s12a s12l s12c,.int .i64 n13]] w8 fun v15 w14=>
 vB_ v15 fun b16=>
 K (.bool b16) w14)
 (K (.bool false) w8)
def S_bI_Sign (N:Nums) (P:Program) (q0:OA) (w:World) (K:KV):Prop:=
 optM q0 fun a1=>
 cS_ w (a1.add 1) fun s2a s2l s2c=>
 cond ((s2l:Int)==0)
 (K (.int .i64 0) w)
 (optM q0 fun a3=>
 cB_ w a3 fun b4=>
 cond b4
 (K (.int .i64 (-1)) w)
 (K (.int .i64 1) w))
def S_bI_Add (N:Nums) (P:Program) (q0:OA) (q1:OA) (q2:OA) (w:World) (K:KV):Prop:=
 optM q1 fun a1=>
 cB_ w a1 fun b2=>
 optM q1 fun a3=>
 cS_ w (a3.add 1) fun s4a s4l s4c=>
 optM q2 fun a5=>
 cB_ w a5 fun b6=>
 optM q2 fun a7=>
 cS_ w (a7.add 1) fun s8a s8l s8c=>
 drM w fun w9=>
 CallsX P N.f_bn_sum #[.bool b2,.slice s4a s4l s4c,.bool b6,.slice s8a s8l s8c] w9 fun v11 w10=>
 ∃ b12,∃ s13a s13l s13c,v11=(.tuple #[.bool b12,.slice s13a s13l s13c]) ∧
 drM w10 fun w14=>
 CallsX P N.f_bI_give #[.pointer q0,.bool b12,.slice s13a s13l s13c] w14 fun v16 w15=>
 ∃ p17:(OA),v16=(.pointer p17) ∧
 drM w15 fun w18=>
 K (.pointer p17) w18
def S_bI_Lsh (N:Nums) (P:Program) (q0:OA) (q1:OA) (q2:Int) (w:World) (K:KV):Prop:=
 optM q1 fun a1=>
 cB_ w a1 fun b2=>
 optM q1 fun a3=>
 cS_ w (a3.add 1) fun s4a s4l s4c=>
 drM w fun w5=>
 CallsX P N.f_bn_left #[.slice s4a s4l s4c,.int .u64 q2] w5 fun v7 w6=>
 vS_ v7 fun s8a s8l s8c=>
 w6.cell? a1=some (.bool b2) ∧
 drM w6 fun w9=>
 CallsX P N.f_bI_give #[.pointer q0,.bool b2,.slice s8a s8l s8c] w9 fun v11 w10=>
 ∃ p12:(OA),v11=(.pointer p12) ∧
 drM w10 fun w13=>
 K (.pointer p12) w13
def S_dyad_top (N:Nums) (P:Program) (qe:Bool) (qf:OA) (qb qd:Nat) (qg:Int) (w:World) (K:KV):Prop:=
 newM #[.bool qe,.slice qf qb qd,.int .i64 qg] N.t_Dyad w fun p1 w2=>
 cS_ w2 (p1.add 1) fun s3a s3l s3c=>
 cI_ w2 (p1.add 2) fun n4=>
 cS_ w2 (p1.add 1) fun s5a s5l s5c=>
 (0:Int)≤(i64.wrap ((s3l:Int)-1))∧(i64.wrap ((s3l:Int)-1))<(s5l:Nat) ∧
 optM s5a fun a6=>
 ∃ n7,w2.cell? (a6.add ((i64.wrap ((s3l:Int)-1)).toNat*1))=some (.int .u64 n7) ∧
 drM w2 fun w8=>
 CallsX P N.f_math_bits_Len64 #[.int .u64 n7] w8 fun v10 w9=>
 ∃ n11,v10=(.int .i64 n11) ∧
 w9.cell? (p1.add 2)=some (.int .i64 n4) ∧
 drM w9 fun w12=>
 K (.int .i64 (i64.wrap ((i64.wrap (n4+(i64.wrap (64*(i64.wrap ((s3l:Int)-1))))))+n11))) w12
def S_bI_Cmp (N:Nums) (P:Program) (q0:OA) (q1:OA) (w:World) (K:KV):Prop:=
 optM q0 fun a1=>
 cB_ w a1 fun b2=>
 optM q1 fun a3=>
 cB_ w a3 fun b4=>
 drM w fun w5=>
 cond (!(b2==b4))
 (optM q0 fun a6=>
 cB_ w5 a6 fun b7=>
 cond b7
 (K (.int .i64 (-1)) w5)
 (K (.int .i64 1) w5))
 (optM q0 fun a8=>
 cS_ w5 (a8.add 1) fun s9a s9l s9c=>
 optM q1 fun a10=>
 cS_ w5 (a10.add 1) fun s11a s11l s11c=>
 drM w5 fun w12=>
 CallsX P N.f_bn_cmp #[.slice s9a s9l s9c,.slice s11a s11l s11c] w12 fun v14 w13=>
 ∃ n15,v14=(.int .i64 n15) ∧
 drM w13 fun w16=>
 optM q0 fun a17=>
 cB_ w16 a17 fun b18=>
 cond b18
 (K (.int .i64 (i64.wrap (0-n15))) w16)
 (K (.int .i64 n15) w16))
def S_slices_Clone___api_Dyad_api_Dyad (N:Nums) (P:Program) (q0:OA) (qh qk:Nat) (w:World) (K:KV):Prop:=
 cond (Option.isNone q0)
 (K (.slice none 0 0) w)
 (newM #[] N.t_Dyad w fun p1 w2=>
 appM N.t_Dyad 3 40 #[.bool false,.slice none 0 0,.int .i64 0] (some p1) 0 0 q0 qh w2 fun s3a s3l s3c w4=>
 K (.slice s3a s3l s3c) w4)
def S_inertia_whole (N:Nums) (P:Program) (qe:Bool) (qf:OA) (qb qd:Nat) (qg:Int) (q1:Int) (w:World) (K:KV):Prop:=
 newM #[.bool qe,.slice qf qb qd,.int .i64 qg] N.t_Dyad w fun p1 w2=>
 newM #[.bool false,.slice none 0 0] N.t_bn_Int w2 fun p3 w4=>
 cS_ w4 (p1.add 1) fun s5a s5l s5c=>
 cond ((s5l:Int)==0)
 (K (.pointer (some p3)) w4)
 (cS_ w4 (p1.add 1) fun s6a s6l s6c=>
 cutM (σ:=Unit) (fun J7=>
 loopM (σ:=Int×Unit) (fun s10 X11 w12=>
 cond (decide (s10.1<(s6l:Int)))
 (CallsX P N.f_bI_Lsh #[.pointer (some p3),.pointer (some p3),.int .u64 64] w12 fun v14 w13=>
 ∃ p15:(OA),v14=(.pointer p15) ∧
 newM #[.bool false,.slice none 0 0] N.t_bn_Int w13 fun p16 w17=>
 cS_ w17 (p1.add 1) fun s18a s18l s18c=>
 cS_ w17 (p1.add 1) fun s19a s19l s19c=>
 (0:Int)≤(i64.wrap ((i64.wrap ((s19l:Int)-1))-s10.1))∧(i64.wrap ((i64.wrap ((s19l:Int)-1))-s10.1))<(s18l:Nat) ∧
 optM s18a fun a20=>
 ∃ n21,w17.cell? (a20.add ((i64.wrap ((i64.wrap ((s19l:Int)-1))-s10.1)).toNat*1))=some (.int .u64 n21) ∧
 CallsX P N.f_bI_SetUint64 #[.pointer (some p16),.int .u64 n21] w17 fun v23 w22=>
 ∃ p24:(OA),v23=(.pointer p24) ∧
 CallsX P N.f_bI_Or #[.pointer (some p3),.pointer (some p3),.pointer p24] w22 fun v26 w25=>
 ∃ p27:(OA),v26=(.pointer p27) ∧
 X11 ((i64.wrap (s10.1+1)),()) w25)
 (J7 (()) w12))
 (0,()) w4)
 (fun s8 w9=>
 cB_ w9 p1 fun b28=>
 cutM (σ:=Unit) (fun J29=>
 cond b28
 (CallsX P N.f_bI_Neg #[.pointer (some p3),.pointer (some p3)] w9 fun v33 w32=>
 ∃ p34:(OA),v33=(.pointer p34) ∧
 J29 (()) w32)
 (J29 (()) w9))
 (fun s30 w31=>
 cI_ w31 (p1.add 2) fun n35=>
 CallsX P N.f_bI_Lsh #[.pointer (some p3),.pointer (some p3),.int .u64 (u64.wrap (i64.wrap (n35-q1)))] w31 fun v37 w36=>
 ∃ p38:(OA),v37=(.pointer p38) ∧
 K (.pointer p38) w36)))
def S_bI_Sub (N:Nums) (P:Program) (q0:OA) (q1:OA) (q2:OA) (w:World) (K:KV):Prop:=
 optM q1 fun a1=>
 cB_ w a1 fun b2=>
 optM q1 fun a3=>
 cS_ w (a3.add 1) fun s4a s4l s4c=>
 optM q2 fun a5=>
 cB_ w a5 fun b6=>
 optM q2 fun a7=>
 cS_ w (a7.add 1) fun s8a s8l s8c=>
 drM w fun w9=>
 CallsX P N.f_bn_sum #[.bool b2,.slice s4a s4l s4c,.bool (!b6),.slice s8a s8l s8c] w9 fun v11 w10=>
 ∃ b12,∃ s13a s13l s13c,v11=(.tuple #[.bool b12,.slice s13a s13l s13c]) ∧
 drM w10 fun w14=>
 CallsX P N.f_bI_give #[.pointer q0,.bool b12,.slice s13a s13l s13c] w14 fun v16 w15=>
 ∃ p17:(OA),v16=(.pointer p17) ∧
 drM w15 fun w18=>
 K (.pointer p17) w18
def S_bI_TrailingZeroBits (N:Nums) (P:Program) (q0:OA) (w:World) (K:KV):Prop:=
 optM q0 fun a1=>
 cS_ w (a1.add 1) fun s2a s2l s2c=>
 cond ((s2l:Int)==0)
 (K (.int .u64 0) w)
 (cutM (σ:=Int×Unit) (fun J3=>
 loopM (σ:=Int×Unit) (fun s6 X7 w8=>
 optM q0 fun a9=>
 cS_ w8 (a9.add 1) fun s10a s10l s10c=>
 CallsX P N.f_bn_bit #[.slice s10a s10l s10c,.int .i64 (i64.wrap s6.1)] w8 fun v12 w11=>
 ∃ n13,v12=(.int .u64 n13) ∧
 cond (n13==0)
 (X7 ((u64.wrap (s6.1+1)),()) w11)
 (J3 (s6.1,()) w11))
 (0,()) w)
 (fun s4 w5=>
 K (.int .u64 s4.1) w5))
def S_bI_BitLen (N:Nums) (P:Program) (q0:OA) (w:World) (K:KV):Prop:=
 optM q0 fun a1=>
 cS_ w (a1.add 1) fun s2a s2l s2c=>
 CallsX P N.f_bn_length #[.slice s2a s2l s2c] w fun v4 w3=>
 ∃ n5,v4=(.int .i64 n5) ∧
 K (.int .i64 n5) w3
def S_bI_Rsh (N:Nums) (P:Program) (q0:OA) (q1:OA) (q2:Int) (w:World) (K:KV):Prop:=
 optM q1 fun a1=>
 cB_ w a1 fun b2=>
 cond b2
 (optM q1 fun a3=>
 cS_ w (a3.add 1) fun s4a s4l s4c=>
 newM #[.int .u32 1] N.t_uint32 w fun p5 w6=>
 CallsX P N.f_bn_sub #[.slice s4a s4l s4c,.slice (some p5) 1 1] w6 fun v8 w7=>
 vS_ v8 fun s9a s9l s9c=>
 CallsX P N.f_bn_right #[.slice s9a s9l s9c,.int .u64 q2] w7 fun v11 w10=>
 vS_ v11 fun s12a s12l s12c=>
 newM #[.int .u32 1] N.t_uint32 w10 fun p13 w14=>
 CallsX P N.f_bn_add #[.slice s12a s12l s12c,.slice (some p13) 1 1] w14 fun v16 w15=>
 vS_ v16 fun s17a s17l s17c=>
 CallsX P N.f_bI_give #[.pointer q0,.bool true,.slice s17a s17l s17c] w15 fun v19 w18=>
 ∃ p20:(OA),v19=(.pointer p20) ∧
 K (.pointer p20) w18)
 (optM q1 fun a21=>
 cS_ w (a21.add 1) fun s22a s22l s22c=>
 CallsX P N.f_bn_right #[.slice s22a s22l s22c,.int .u64 q2] w fun v24 w23=>
 vS_ v24 fun s25a s25l s25c=>
 CallsX P N.f_bI_give #[.pointer q0,.bool false,.slice s25a s25l s25c] w23 fun v27 w26=>
 ∃ p28:(OA),v27=(.pointer p28) ∧
 K (.pointer p28) w26)
def S_p_inertia_rows_pivot (N:Nums) (P:Program) (q0:OA) (q1:Int) (w:World) (K:KV):Prop:=
 CallsX P N.f_p_inertia_rows_find #[.pointer q0,.int .i64 q1] w fun v2 w1=>
 ∃ n3,∃ n4,v2=(.tuple #[.int .i64 n3,.int .i64 n4]) ∧
 cond (decide (n3<0))
 (K (.bool false) w1)
 (cutM (σ:=Unit) (fun J5=>
 cond (n3 != n4)
 (optM q0 fun a8=>
 cS_ w1 a8 fun s9a s9l s9c=>
 cutM (σ:=Unit) (fun J10=>
 loopM (σ:=Int×Unit) (fun s13 X14 w15=>
 cond (decide (s13.1<(s9l:Int)))
 (optM q0 fun a16=>
 cS_ w15 a16 fun s17a s17l s17c=>
 (0:Int)≤n3∧n3<(s17l:Nat) ∧
 optM s17a fun a18=>
 cS_ w15 (a18.add (n3.toNat*1)) fun s19a s19l s19c=>
 (0:Int)≤s13.1∧s13.1<(s19l:Nat) ∧
 optM s19a fun a20=>
 ∃ p21:(OA),w15.cell? (a20.add (s13.1.toNat*1))=some (.pointer p21) ∧
 optM q0 fun a22=>
 cS_ w15 a22 fun s23a s23l s23c=>
 (0:Int)≤n3∧n3<(s23l:Nat) ∧
 optM s23a fun a24=>
 cS_ w15 (a24.add (n3.toNat*1)) fun s25a s25l s25c=>
 (0:Int)≤s13.1∧s13.1<(s25l:Nat) ∧
 optM s25a fun a26=>
 ∃ p27:(OA),w15.cell? (a26.add (s13.1.toNat*1))=some (.pointer p27) ∧
 optM q0 fun a28=>
 cS_ w15 a28 fun s29a s29l s29c=>
 (0:Int)≤n4∧n4<(s29l:Nat) ∧
 optM s29a fun a30=>
 cS_ w15 (a30.add (n4.toNat*1)) fun s31a s31l s31c=>
 (0:Int)≤s13.1∧s13.1<(s31l:Nat) ∧
 optM s31a fun a32=>
 ∃ p33:(OA),w15.cell? (a32.add (s13.1.toNat*1))=some (.pointer p33) ∧
 drM w15 fun w34=>
 CallsX P N.f_bI_Add #[.pointer p21,.pointer p27,.pointer p33] w34 fun v36 w35=>
 ∃ p37:(OA),v36=(.pointer p37) ∧
 drM w35 fun w38=>
 X14 ((i64.wrap (s13.1+1)),()) w38)
 (J10 (()) w15))
 (0,()) w1)
 (fun s11 w12=>
 optM q0 fun a39=>
 cS_ w12 a39 fun s40a s40l s40c=>
 cutM (σ:=Unit) (fun J41=>
 loopM (σ:=Int×Unit) (fun s44 X45 w46=>
 cond (decide (s44.1<(s40l:Int)))
 (optM q0 fun a47=>
 cS_ w46 a47 fun s48a s48l s48c=>
 (0:Int)≤s44.1∧s44.1<(s48l:Nat) ∧
 optM s48a fun a49=>
 cS_ w46 (a49.add (s44.1.toNat*1)) fun s50a s50l s50c=>
 (0:Int)≤n3∧n3<(s50l:Nat) ∧
 optM s50a fun a51=>
 ∃ p52:(OA),w46.cell? (a51.add (n3.toNat*1))=some (.pointer p52) ∧
 optM q0 fun a53=>
 cS_ w46 a53 fun s54a s54l s54c=>
 (0:Int)≤s44.1∧s44.1<(s54l:Nat) ∧
 optM s54a fun a55=>
 cS_ w46 (a55.add (s44.1.toNat*1)) fun s56a s56l s56c=>
 (0:Int)≤n3∧n3<(s56l:Nat) ∧
 optM s56a fun a57=>
 ∃ p58:(OA),w46.cell? (a57.add (n3.toNat*1))=some (.pointer p58) ∧
 optM q0 fun a59=>
 cS_ w46 a59 fun s60a s60l s60c=>
 (0:Int)≤s44.1∧s44.1<(s60l:Nat) ∧
 optM s60a fun a61=>
 cS_ w46 (a61.add (s44.1.toNat*1)) fun s62a s62l s62c=>
 (0:Int)≤n4∧n4<(s62l:Nat) ∧
 optM s62a fun a63=>
 ∃ p64:(OA),w46.cell? (a63.add (n4.toNat*1))=some (.pointer p64) ∧
 drM w46 fun w65=>
 CallsX P N.f_bI_Add #[.pointer p52,.pointer p58,.pointer p64] w65 fun v67 w66=>
 ∃ p68:(OA),v67=(.pointer p68) ∧
 drM w66 fun w69=>
 X45 ((i64.wrap (s44.1+1)),()) w69)
 (J41 (()) w46))
 (0,()) w12)
 (fun s42 w43=>
 J5 (()) w43)))
 (J5 (()) w1))
 (fun s6 w7=>
 optM q0 fun a70=>
 cS_ w7 a70 fun s71a s71l s71c=>
 optM q0 fun a72=>
 cS_ w7 a72 fun s73a s73l s73c=>
 optM q0 fun a74=>
 cS_ w7 a74 fun s75a s75l s75c=>
 (0:Int)≤n3∧n3<(s75l:Nat) ∧
 optM s75a fun a76=>
 cS_ w7 (a76.add (n3.toNat*1)) fun s77a s77l s77c=>
 optM q0 fun a78=>
 cS_ w7 a78 fun s79a s79l s79c=>
 (0:Int)≤q1∧q1<(s79l:Nat) ∧
 optM s79a fun a80=>
 cS_ w7 (a80.add (q1.toNat*1)) fun s81a s81l s81c=>
 (0:Int)≤q1∧q1<(s71l:Nat) ∧
 optM s71a fun a82=>
 drM w7 fun w83=>
 stM (a82.add (q1.toNat*1)) (.slice s77a s77l s77c) w83 fun w84=>
 (0:Int)≤n3∧n3<(s73l:Nat) ∧
 optM s73a fun a85=>
 drM w84 fun w86=>
 stM (a85.add (n3.toNat*1)) (.slice s81a s81l s81c) w86 fun w87=>
 drM w87 fun w88=>
 optM q0 fun a89=>
 cS_ w88 a89 fun s90a s90l s90c=>
 cutM (σ:=Unit) (fun J91=>
 loopM (σ:=Int×Unit) (fun s94 X95 w96=>
 cond (decide (s94.1<(s90l:Int)))
 (optM q0 fun a97=>
 cS_ w96 a97 fun s98a s98l s98c=>
 (0:Int)≤s94.1∧s94.1<(s98l:Nat) ∧
 optM s98a fun a99=>
 cS_ w96 (a99.add (s94.1.toNat*1)) fun s100a s100l s100c=>
 optM q0 fun a101=>
 cS_ w96 a101 fun s102a s102l s102c=>
 (0:Int)≤s94.1∧s94.1<(s102l:Nat) ∧
 optM s102a fun a103=>
 cS_ w96 (a103.add (s94.1.toNat*1)) fun s104a s104l s104c=>
 optM q0 fun a105=>
 cS_ w96 a105 fun s106a s106l s106c=>
 (0:Int)≤s94.1∧s94.1<(s106l:Nat) ∧
 optM s106a fun a107=>
 cS_ w96 (a107.add (s94.1.toNat*1)) fun s108a s108l s108c=>
 (0:Int)≤n3∧n3<(s108l:Nat) ∧
 optM s108a fun a109=>
 ∃ p110:(OA),w96.cell? (a109.add (n3.toNat*1))=some (.pointer p110) ∧
 optM q0 fun a111=>
 cS_ w96 a111 fun s112a s112l s112c=>
 (0:Int)≤s94.1∧s94.1<(s112l:Nat) ∧
 optM s112a fun a113=>
 cS_ w96 (a113.add (s94.1.toNat*1)) fun s114a s114l s114c=>
 (0:Int)≤q1∧q1<(s114l:Nat) ∧
 optM s114a fun a115=>
 ∃ p116:(OA),w96.cell? (a115.add (q1.toNat*1))=some (.pointer p116) ∧
 (0:Int)≤q1∧q1<(s100l:Nat) ∧
 optM s100a fun a117=>
 drM w96 fun w118=>
 stM (a117.add (q1.toNat*1)) (.pointer p110) w118 fun w119=>
 (0:Int)≤n3∧n3<(s104l:Nat) ∧
 optM s104a fun a120=>
 drM w119 fun w121=>
 stM (a120.add (n3.toNat*1)) (.pointer p116) w121 fun w122=>
 drM w122 fun w123=>
 X95 ((i64.wrap (s94.1+1)),()) w123)
 (J91 (()) w96))
 (0,()) w88)
 (fun s92 w93=>
 K (.bool true) w93)))
def S_bI_Mul (N:Nums) (P:Program) (q0:OA) (q1:OA) (q2:OA) (w:World) (K:KV):Prop:=
 optM q1 fun a1=>
 cB_ w a1 fun b2=>
 optM q2 fun a3=>
 cB_ w a3 fun b4=>
 optM q1 fun a5=>
 cS_ w (a5.add 1) fun s6a s6l s6c=>
 optM q2 fun a7=>
 cS_ w (a7.add 1) fun s8a s8l s8c=>
 drM w fun w9=>
 CallsX P N.f_bn_mul #[.slice s6a s6l s6c,.slice s8a s8l s8c] w9 fun v11 w10=>
 vS_ v11 fun s12a s12l s12c=>
 w10.cell? a3=some (.bool b4) ∧
 w10.cell? a1=some (.bool b2) ∧
 drM w10 fun w13=>
 CallsX P N.f_bI_give #[.pointer q0,.bool (!(b2==b4)),.slice s12a s12l s12c] w13 fun v15 w14=>
 ∃ p16:(OA),v15=(.pointer p16) ∧
 drM w14 fun w17=>
 K (.pointer p16) w17
def S_bI_Quo (N:Nums) (P:Program) (q0:OA) (q1:OA) (q2:OA) (w:World) (K:KV):Prop:=
 newM #[.bool false,.slice none 0 0] N.t_bn_Int w fun p1 w2=>
 CallsX P N.f_bI_QuoRem #[.pointer q0,.pointer q1,.pointer q2,.pointer (some p1)] w2 fun v4 w3=>
 ∃ p5:(OA),∃ p6:(OA),v4=(.tuple #[.pointer p5,.pointer p6]) ∧
 K (.pointer q0) w3
def S_bI_Neg (N:Nums) (P:Program) (q0:OA) (q1:OA) (w:World) (K:KV):Prop:=
 optM q1 fun a1=>
 cB_ w a1 fun b2=>
 optM q1 fun a3=>
 cS_ w (a3.add 1) fun s4a s4l s4c=>
 drM w fun w5=>
 CallsX P N.f_bn_twin #[.slice s4a s4l s4c] w5 fun v7 w6=>
 vS_ v7 fun s8a s8l s8c=>
 w6.cell? a1=some (.bool b2) ∧
 drM w6 fun w9=>
 CallsX P N.f_bI_give #[.pointer q0,.bool (!b2),.slice s8a s8l s8c] w9 fun v11 w10=>
 ∃ p12:(OA),v11=(.pointer p12) ∧
 drM w10 fun w13=>
 K (.pointer p12) w13
def S_bI_Abs (N:Nums) (P:Program) (q0:OA) (q1:OA) (w:World) (K:KV):Prop:=
 optM q1 fun a1=>
 cS_ w (a1.add 1) fun s2a s2l s2c=>
 CallsX P N.f_bn_twin #[.slice s2a s2l s2c] w fun v4 w3=>
 vS_ v4 fun s5a s5l s5c=>
 CallsX P N.f_bI_give #[.pointer q0,.bool false,.slice s5a s5l s5c] w3 fun v7 w6=>
 ∃ p8:(OA),v7=(.pointer p8) ∧
 K (.pointer p8) w6
def S_bI_Uint64 (N:Nums) (P:Program) (q0:OA) (w:World) (K:KV):Prop:=
 optM q0 fun a1=>
 cS_ w (a1.add 1) fun s2a s2l s2c=>
 cutM (σ:=Int×Unit) (fun J3=>
 cond (decide ((s2l:Int)>0))
 (optM q0 fun a6=>
 cS_ w (a6.add 1) fun s7a s7l s7c=>
 (0:Int)≤(0:Int)∧(0:Int)<(s7l:Nat) ∧
 optM s7a fun a8=>
 cW_ w (a8.add ((0:Int).toNat*1)) fun n9=>
 J3 ((u64.wrap n9),()) w)
 (J3 (0,()) w))
 (fun s4 w5=>
 optM q0 fun a10=>
 cS_ w5 (a10.add 1) fun s11a s11l s11c=>
 cutM (σ:=Int×Unit) (fun J12=>
 cond (decide ((s11l:Int)>1))
 (optM q0 fun a15=>
 cS_ w5 (a15.add 1) fun s16a s16l s16c=>
 (0:Int)≤(1:Int)∧(1:Int)<(s16l:Nat) ∧
 optM s16a fun a17=>
 cW_ w5 (a17.add ((1:Int).toNat*1)) fun n18=>
 (0:Int)≤32 ∧
 J12 ((u64.wrap (BitVec.ofInt u64.bits s4.1 ||| BitVec.ofInt u64.bits (u64.wrap ((u64.wrap n18)*2^(min (32:Int).toNat u64.bits)))).toNat),()) w5)
 (J12 (s4.1,()) w5))
 (fun s13 w14=>
 K (.int .u64 s13.1) w14))
def S_dyad_Norm (N:Nums) (P:Program) (qe:Bool) (qf:OA) (qb qd:Nat) (qg:Int) (w:World) (K:KV):Prop:=
 newM #[.bool qe,.slice qf qb qd,.int .i64 qg] N.t_Dyad w fun p1 w2=>
 newM #[.bool false,.slice none 0 0,.int .i64 0] N.t_Dyad w2 fun p3 w4=>
 cB_ w4 p1 fun b5=>
 cS_ w4 (p1.add 1) fun s6a s6l s6c=>
 cI_ w4 (p1.add 2) fun n7=>
 cI_ w4 (p1.add 2) fun n8=>
 drM w4 fun w9=>
 CallsX P N.f_dyad_whole #[.agg #[.bool b5,.slice s6a s6l s6c,.int .i64 n7]] w9 fun v11 w10=>
 ∃ p12:(OA),v11=(.pointer p12) ∧
 w10.cell? (p1.add 2)=some (.int .i64 n8) ∧
 drM w10 fun w13=>
 CallsX P N.f_dyad_made #[.pointer p12,.int .i64 n8] w13 fun v15 w14=>
 ∃ b16,∃ s17a s17l s17c,∃ n18,∃ n19,v15=(.tuple #[.agg #[.bool b16,.slice s17a s17l s17c,.int .i64 n18],.int .i64 n19]) ∧
 drM w14 fun w20=>
 stM p3 (.bool b16) w20 fun w21=>
 stM (p3.add 1) (.slice s17a s17l s17c) w21 fun w22=>
 stM (p3.add 2) (.int .i64 n18) w22 fun w23=>
 drM w23 fun w24=>
 cB_ w24 p3 fun b25=>
 cS_ w24 (p3.add 1) fun s26a s26l s26c=>
 cI_ w24 (p3.add 2) fun n27=>
 K (.tuple #[.agg #[.bool b25,.slice s26a s26l s26c,.int .i64 n27],.int .i64 n19]) w24
def S_k_SameLimbs (N:Nums) (P:Program) (q0:OA) (qh qk:Nat) (q1:OA) (qs qx:Nat) (w:World) (K:KV):Prop:=
 cond ((qh:Int) != (qs:Int))
 (K (.bool false) w)
 (cutM (σ:=Unit) (fun J1=>
 loopM (σ:=Int×Unit) (fun s4 X5 w6=>
 cond (decide (s4.1<(qh:Int)))
 ((0:Int)≤s4.1∧s4.1<(qh:Nat) ∧
 optM q0 fun a7=>
 cU_ w6 (a7.add (s4.1.toNat*1)) fun n8=>
 (0:Int)≤s4.1∧s4.1<(qs:Nat) ∧
 optM q1 fun a9=>
 cU_ w6 (a9.add (s4.1.toNat*1)) fun n10=>
 drM w6 fun w11=>
 cond (n8 != n10)
 (K (.bool false) w11)
 (X5 ((i64.wrap (s4.1+1)),()) w11))
 (J1 (()) w6))
 (0,()) w)
 (fun s2 w3=>
 K (.bool true) w3))
def S_r02_Norm (N:Nums) (P:Program) (qe:Bool) (qf:OA) (qb qd:Nat) (qg:Int) (w:World) (K:KV):Prop:=
 newM #[.bool qe,.slice qf qb qd,.int .i64 qg] N.t_Dyad w fun p1 w2=>
 newM #[.bool false,.slice none 0 0,.int .i64 0] N.t_Dyad w2 fun p3 w4=>
 cS_ w4 (p1.add 1) fun s5a s5l s5c=>
 CallsX P N.f_r02_NatTrim #[.slice s5a s5l s5c] w4 fun v7 w6=>
 vS_ v7 fun s8a s8l s8c=>
 cond ((s8l:Int)==0)
 (stM p3 (.bool false) w6 fun w9=>
 stM (p3.add 1) (.slice none 0 0) w9 fun w10=>
 stM (p3.add 2) (.int .i64 0) w10 fun w11=>
 cB_ w11 p3 fun b12=>
 cS_ w11 (p3.add 1) fun s13a s13l s13c=>
 cI_ w11 (p3.add 2) fun n14=>
 K (.tuple #[.agg #[.bool b12,.slice s13a s13l s13c,.int .i64 n14],.int .i64 0]) w11)
 (cutM (σ:=Int×Unit) (fun J15=>
 loopM (σ:=Int×Unit) (fun s18 X19 w20=>
 (64:Int)≠0 ∧
 (0:Int)≤(i64.wrap (s18.1.tdiv 64))∧(i64.wrap (s18.1.tdiv 64))<(s8l:Nat) ∧
 optM s8a fun a21=>
 ∃ n22,w20.cell? (a21.add ((i64.wrap (s18.1.tdiv 64)).toNat*1))=some (.int .u64 n22) ∧
 (64:Int)≠0 ∧
 (0:Int)≤(u64.wrap (s18.1.tmod 64)) ∧
 (2:Int)≠0 ∧
 cond (((n22.fdiv (2^(min (u64.wrap (s18.1.tmod 64)).toNat u64.bits))).tmod 2)==0)
 (X19 ((i64.wrap (s18.1+1)),()) w20)
 (J15 (s18.1,()) w20))
 (0,()) w6)
 (fun s16 w17=>
 CallsX P N.f_r02_NatDown #[.slice s8a s8l s8c,.int .i64 s16.1] w17 fun v24 w23=>
 ∃ s25a s25l s25c,∃ b26,v24=(.tuple #[.slice s25a s25l s25c,.bool b26]) ∧
 cutM (σ:=Bool×Unit) (fun J27=>
 cond (!(decide ((s25l:Int)>256)))
 (cI_ w23 (p1.add 2) fun n30=>
 cond (!(decide (n30>65536)))
 (cI_ w23 (p1.add 2) fun n31=>
 cond (!(decide (n31<(i64.wrap ((-65536)-s16.1)))))
 (cI_ w23 (p1.add 2) fun n32=>
 J27 ((decide ((i64.wrap (n32+s16.1))>65536)),()) w23)
 (J27 (true,()) w23))
 (J27 (true,()) w23))
 (J27 (true,()) w23))
 (fun s28 w29=>
 cond s28.1
 (stM p3 (.bool false) w29 fun w33=>
 stM (p3.add 1) (.slice none 0 0) w33 fun w34=>
 stM (p3.add 2) (.int .i64 0) w34 fun w35=>
 cB_ w35 p3 fun b36=>
 cS_ w35 (p3.add 1) fun s37a s37l s37c=>
 cI_ w35 (p3.add 2) fun n38=>
 K (.tuple #[.agg #[.bool b36,.slice s37a s37l s37c,.int .i64 n38],.int .i64 3]) w35)
 (cB_ w29 p1 fun b39=>
 cI_ w29 (p1.add 2) fun n40=>
 stM p3 (.bool b39) w29 fun w41=>
 stM (p3.add 1) (.slice s25a s25l s25c) w41 fun w42=>
 stM (p3.add 2) (.int .i64 (i64.wrap (n40+s16.1))) w42 fun w43=>
 cB_ w43 p3 fun b44=>
 cS_ w43 (p3.add 1) fun s45a s45l s45c=>
 cI_ w43 (p3.add 2) fun n46=>
 K (.tuple #[.agg #[.bool b44,.slice s45a s45l s45c,.int .i64 n46],.int .i64 0]) w43))))
def S_r02_NatOf (N:Nums) (P:Program) (q0:Int) (w:World) (K:KV):Prop:=
 newM #[.int .u64 q0] N.t_uint64 w fun p1 w2=>
 CallsX P N.f_r02_NatTrim #[.slice (some p1) 1 1] w2 fun v4 w3=>
 vS_ v4 fun s5a s5l s5c=>
 K (.slice s5a s5l s5c) w3
def S_r02_NatTrim (N:Nums) (P:Program) (q0:OA) (qh qk:Nat) (w:World) (K:KV):Prop:=
 cutM (σ:=Int×Unit) (fun J1=>
 loopM (σ:=Int×Unit) (fun s4 X5 w6=>
 cond (decide (s4.1>0))
 ((0:Int)≤(i64.wrap (s4.1-1))∧(i64.wrap (s4.1-1))<(qh:Nat) ∧
 optM q0 fun a7=>
 ∃ n8,w6.cell? (a7.add ((i64.wrap (s4.1-1)).toNat*1))=some (.int .u64 n8) ∧
 cond (n8==0)
 (X5 ((i64.wrap (s4.1-1)),()) w6)
 (J1 (s4.1,()) w6))
 (J1 (s4.1,()) w6))
 ((qh:Int),()) w)
 (fun s2 w3=>
 (0:Int)≤s2.1∧s2.1≤(qk:Nat) ∧
 appM N.t_uint64 1 8 #[.int .u64 0] none 0 0 (slBase q0 0 qk 1) s2.1.toNat w3 fun s9a s9l s9c w10=>
 K (.slice s9a s9l s9c) w10)
def S_dyad_limbs (N:Nums) (P:Program) (q0:OA) (w:World) (K:KV):Prop:=
 newM #[.bool false,.slice none 0 0] N.t_bn_Int w fun p1 w2=>
 CallsX P N.f_bI_Abs #[.pointer (some p1),.pointer q0] w2 fun v4 w3=>
 ∃ p5:(OA),v4=(.pointer p5) ∧
 newM #[.bool false,.slice none 0 0] N.t_bn_Int w3 fun p6 w7=>
 newM #[.bool false,.slice none 0 0] N.t_bn_Int w7 fun p8 w9=>
 CallsX P N.f_bI_SetUint64 #[.pointer (some p8),.int .u64 18446744073709551615] w9 fun v11 w10=>
 ∃ p12:(OA),v11=(.pointer p12) ∧
 cutM (σ:=(OA×Nat×Nat)×Unit) (fun J13=>
 loopM (σ:=(OA×Nat×Nat)×Unit) (fun s16 X17 w18=>
 CallsX P N.f_bI_Sign #[.pointer p5] w18 fun v20 w19=>
 ∃ n21,v20=(.int .i64 n21) ∧
 cond (decide (n21>0))
 (CallsX P N.f_bI_And #[.pointer (some p6),.pointer p5,.pointer p12] w19 fun v23 w22=>
 ∃ p24:(OA),v23=(.pointer p24) ∧
 CallsX P N.f_bI_Uint64 #[.pointer p24] w22 fun v26 w25=>
 ∃ n27,v26=(.int .u64 n27) ∧
 newM #[.int .u64 n27] N.t_uint64 w25 fun p28 w29=>
 appM N.t_uint64 1 8 #[.int .u64 0] s16.1.1 s16.1.2.1 s16.1.2.2 (some p28) 1 w29 fun s30a s30l s30c w31=>
 CallsX P N.f_bI_Rsh #[.pointer p5,.pointer p5,.int .u64 64] w31 fun v33 w32=>
 ∃ p34:(OA),v33=(.pointer p34) ∧
 X17 ((s30a,s30l,s30c),()) w32)
 (J13 ((s16.1.1,s16.1.2.1,s16.1.2.2),()) w19))
 ((none,0,0),()) w10)
 (fun s14 w15=>
 K (.slice s14.1.1 s14.1.2.1 s14.1.2.2) w15)
def S_bI_Or (N:Nums) (P:Program) (q0:OA) (q1:OA) (q2:OA) (w:World) (K:KV):Prop:=
 optM q1 fun a1=>
 cS_ w (a1.add 1) fun s2a s2l s2c=>
 optM q2 fun a3=>
 cS_ w (a3.add 1) fun s4a s4l s4c=>
 drM w fun w5=>
 CallsX P N.f_bI_low #[.pointer q1,.int .i64 (i64.wrap ((if (s4l:Int)>(s2l:Int) then (s4l:Int) else (s2l:Int))+1))] w5 fun v7 w6=>
 vS_ v7 fun s8a s8l s8c=>
 CallsX P N.f_bI_low #[.pointer q2,.int .i64 (i64.wrap ((if (s4l:Int)>(s2l:Int) then (s4l:Int) else (s2l:Int))+1))] w6 fun v10 w9=>
 vS_ v10 fun s11a s11l s11c=>
 cutM (σ:=Unit) (fun J12=>
 loopM (σ:=Int×Unit) (fun s15 X16 w17=>
 cond (decide (s15.1<(i64.wrap ((if (s4l:Int)>(s2l:Int) then (s4l:Int) else (s2l:Int))+1))))
 ((0:Int)≤s15.1∧s15.1<(s8l:Nat) ∧
 optM s8a fun a18=>
 cW_ w17 (a18.add (s15.1.toNat*1)) fun n19=>
 (0:Int)≤s15.1∧s15.1<(s11l:Nat) ∧
 optM s11a fun a20=>
 cW_ w17 (a20.add (s15.1.toNat*1)) fun n21=>
 (0:Int)≤s15.1∧s15.1<(s8l:Nat) ∧
 optM s8a fun a22=>
 drM w17 fun w23=>
 stM (a22.add (s15.1.toNat*1)) (.int .u32 (u32.wrap (BitVec.ofInt u32.bits n19 ||| BitVec.ofInt u32.bits n21).toNat)) w23 fun w24=>
 drM w24 fun w25=>
 X16 ((i64.wrap (s15.1+1)),()) w25)
 (J12 (()) w17))
 (0,()) w9)
 (fun s13 w14=>
 CallsX P N.f_bI_of #[.pointer q0,.slice s8a s8l s8c] w14 fun v27 w26=>
 ∃ p28:(OA),v27=(.pointer p28) ∧
 K (.pointer p28) w26)
def S_bI_SetUint64 (N:Nums) (P:Program) (q0:OA) (q1:Int) (w:World) (K:KV):Prop:=
 CallsX P N.f_bn_words #[.int .u64 q1] w fun v2 w1=>
 vS_ v2 fun s3a s3l s3c=>
 CallsX P N.f_bI_give #[.pointer q0,.bool false,.slice s3a s3l s3c] w1 fun v5 w4=>
 ∃ p6:(OA),v5=(.pointer p6) ∧
 K (.pointer p6) w4
def S_bI_SetInt64 (N:Nums) (P:Program) (q0:OA) (q1:Int) (w:World) (K:KV):Prop:=
 cutM (σ:=Int×Unit) (fun J1=>
 cond (decide (q1<0))
 (J1 ((u64.wrap (0-(u64.wrap q1))),()) w)
 (J1 ((u64.wrap q1),()) w))
 (fun s2 w3=>
 CallsX P N.f_bn_words #[.int .u64 s2.1] w3 fun v5 w4=>
 vS_ v5 fun s6a s6l s6c=>
 CallsX P N.f_bI_give #[.pointer q0,.bool (decide (q1<0)),.slice s6a s6l s6c] w4 fun v8 w7=>
 ∃ p9:(OA),v8=(.pointer p9) ∧
 K (.pointer p9) w7)
def S_inertia_fits (N:Nums) (P:Program) (q0:Int) (w:World) (K:KV):Prop:=
 cond (decide (q0≥0))
 (K (.bool (decide (q0≤48))) w)
 (K (.bool false) w)
def S_slices_ContainsFunc___api_Dyad_api_Dyad (N:Nums) (P:Program) (q0:OA) (qh qk:Nat) (q1:Value) (w:World) (K:KV):Prop:=
 CallsX P N.f_slices_IndexFunc___api_Dyad_api_Dyad #[.slice q0 qh qk,q1] w fun v2 w1=>
 ∃ n3,v2=(.int .i64 n3) ∧
 K (.bool (decide (n3≥0))) w1
def S_inertia_Right_1 (N:Nums) (P:Program) (qe:Bool) (qf:OA) (qb qd:Nat) (qg:Int) (w:World) (K:KV):Prop:=
 newM #[.bool qe,.slice qf qb qd,.int .i64 qg] N.t_Dyad w fun p1 w2=>
 cB_ w2 p1 fun b3=>
 cS_ w2 (p1.add 1) fun s4a s4l s4c=>
 cI_ w2 (p1.add 2) fun n5=>
 CallsX P N.f_dyad_Right #[.agg #[.bool b3,.slice s4a s4l s4c,.int .i64 n5]] w2 fun v7 w6=>
 vB_ v7 fun b8=>
 K (.bool (!b8)) w6
def S_bI_give (N:Nums) (P:Program) (q0:OA) (q1:Bool) (q2:OA) (vj yu:Nat) (w:World) (K:KV):Prop:=
 optM q0 fun a1=>
 stM (a1.add 1) (.slice q2 vj yu) w fun w2=>
 cond q1
 (optM q0 fun a3=>
 stM a3 (.bool (decide ((vj:Int)>0))) w2 fun w4=>
 K (.pointer q0) w4)
 (optM q0 fun a5=>
 stM a5 (.bool false) w2 fun w6=>
 K (.pointer q0) w6)
def S_bn_sum (N:Nums) (P:Program) (q0:Bool) (q1:OA) (qs qx:Nat) (q2:Bool) (q3:OA) (vo vu:Nat) (w:World) (K:KV):Prop:=
 cond (q0==q2)
 (CallsX P N.f_bn_add #[.slice q1 qs qx,.slice q3 vo vu] w fun v2 w1=>
 vS_ v2 fun s3a s3l s3c=>
 K (.tuple #[.bool q0,.slice s3a s3l s3c]) w1)
 (CallsX P N.f_bn_cmp #[.slice q1 qs qx,.slice q3 vo vu] w fun v5 w4=>
 ∃ n6,v5=(.int .i64 n6) ∧
 cond (decide (n6≥0))
 (CallsX P N.f_bn_sub #[.slice q1 qs qx,.slice q3 vo vu] w4 fun v8 w7=>
 vS_ v8 fun s9a s9l s9c=>
 K (.tuple #[.bool q0,.slice s9a s9l s9c]) w7)
 (CallsX P N.f_bn_sub #[.slice q3 vo vu,.slice q1 qs qx] w4 fun v11 w10=>
 vS_ v11 fun s12a s12l s12c=>
 K (.tuple #[.bool q2,.slice s12a s12l s12c]) w10))
def S_bn_left (N:Nums) (P:Program) (q0:OA) (qh qk:Nat) (q1:Int) (w:World) (K:KV):Prop:=
 cond ((qh:Int)==0)
 (K (.slice none 0 0) w)
 ((32:Int)≠0 ∧
 (32:Int)≠0 ∧
 mkM N.t_uint32 1 4 #[.int .u32 0] (i64.wrap ((i64.wrap ((qh:Int)+(i64.wrap (u64.wrap (q1.tdiv 32)))))+1)) (i64.wrap ((i64.wrap ((qh:Int)+(i64.wrap (u64.wrap (q1.tdiv 32)))))+1)) w fun p1 w2=>
 cutM (σ:=Unit) (fun J3=>
 loopM (σ:=Int×Unit) (fun s6 X7 w8=>
 cond (decide (s6.1<(qh:Int)))
 ((0:Int)≤s6.1∧s6.1<(qh:Nat) ∧
 optM q0 fun a9=>
 cW_ w8 (a9.add (s6.1.toNat*1)) fun n10=>
 (0:Int)≤(q1.tmod 32) ∧
 (0:Int)≤(i64.wrap (s6.1+(i64.wrap (u64.wrap (q1.tdiv 32)))))∧(i64.wrap (s6.1+(i64.wrap (u64.wrap (q1.tdiv 32)))))<((i64.wrap ((i64.wrap ((qh:Int)+(i64.wrap (u64.wrap (q1.tdiv 32)))))+1)).toNat:Nat) ∧
 ∃ n11,w8.cell? (p1.add ((i64.wrap (s6.1+(i64.wrap (u64.wrap (q1.tdiv 32))))).toNat*1))=some (.int .u32 n11) ∧
 (0:Int)≤(i64.wrap (s6.1+(i64.wrap (u64.wrap (q1.tdiv 32)))))∧(i64.wrap (s6.1+(i64.wrap (u64.wrap (q1.tdiv 32)))))<((i64.wrap ((i64.wrap ((qh:Int)+(i64.wrap (u64.wrap (q1.tdiv 32)))))+1)).toNat:Nat) ∧
 stM (p1.add ((i64.wrap (s6.1+(i64.wrap (u64.wrap (q1.tdiv 32))))).toNat*1)) (.int .u32 (u32.wrap (BitVec.ofInt u32.bits n11 ||| BitVec.ofInt u32.bits (u32.wrap (u64.wrap ((u64.wrap n10)*2^(min (q1.tmod 32).toNat u64.bits))))).toNat)) w8 fun w12=>
 (0:Int)≤(i64.wrap ((i64.wrap (s6.1+(i64.wrap (u64.wrap (q1.tdiv 32)))))+1))∧(i64.wrap ((i64.wrap (s6.1+(i64.wrap (u64.wrap (q1.tdiv 32)))))+1))<((i64.wrap ((i64.wrap ((qh:Int)+(i64.wrap (u64.wrap (q1.tdiv 32)))))+1)).toNat:Nat) ∧
 ∃ n13,w12.cell? (p1.add ((i64.wrap ((i64.wrap (s6.1+(i64.wrap (u64.wrap (q1.tdiv 32)))))+1)).toNat*1))=some (.int .u32 n13) ∧
 (0:Int)≤32 ∧
 (0:Int)≤(i64.wrap ((i64.wrap (s6.1+(i64.wrap (u64.wrap (q1.tdiv 32)))))+1))∧(i64.wrap ((i64.wrap (s6.1+(i64.wrap (u64.wrap (q1.tdiv 32)))))+1))<((i64.wrap ((i64.wrap ((qh:Int)+(i64.wrap (u64.wrap (q1.tdiv 32)))))+1)).toNat:Nat) ∧
 stM (p1.add ((i64.wrap ((i64.wrap (s6.1+(i64.wrap (u64.wrap (q1.tdiv 32)))))+1)).toNat*1)) (.int .u32 (u32.wrap (BitVec.ofInt u32.bits n13 ||| BitVec.ofInt u32.bits (u32.wrap ((u64.wrap ((u64.wrap n10)*2^(min (q1.tmod 32).toNat u64.bits))).fdiv (2^(min (32:Int).toNat u64.bits))))).toNat)) w12 fun w14=>
 X7 ((i64.wrap (s6.1+1)),()) w14)
 (J3 (()) w8))
 (0,()) w2)
 (fun s4 w5=>
 CallsX P N.f_bn_trim #[.slice (some p1) ((i64.wrap ((i64.wrap ((qh:Int)+(i64.wrap (u64.wrap (q1.tdiv 32)))))+1)).toNat) ((i64.wrap ((i64.wrap ((qh:Int)+(i64.wrap (u64.wrap (q1.tdiv 32)))))+1)).toNat)] w5 fun v16 w15=>
 vS_ v16 fun s17a s17l s17c=>
 K (.slice s17a s17l s17c) w15))
def S_bn_cmp (N:Nums) (P:Program) (q0:OA) (qh qk:Nat) (q1:OA) (qs qx:Nat) (w:World) (K:KV):Prop:=
 cond ((qh:Int) != (qs:Int))
 (cond (decide ((qh:Int)<(qs:Int)))
 (K (.int .i64 (-1)) w)
 (K (.int .i64 1) w))
 (cutM (σ:=Unit) (fun J1=>
 loopM (σ:=Int×Unit) (fun s4 X5 w6=>
 cond (decide (s4.1≥0))
 ((0:Int)≤s4.1∧s4.1<(qh:Nat) ∧
 optM q0 fun a7=>
 cW_ w6 (a7.add (s4.1.toNat*1)) fun n8=>
 (0:Int)≤s4.1∧s4.1<(qs:Nat) ∧
 optM q1 fun a9=>
 cW_ w6 (a9.add (s4.1.toNat*1)) fun n10=>
 drM w6 fun w11=>
 cond (n8 != n10)
 ((0:Int)≤s4.1∧s4.1<(qh:Nat) ∧
 optM q0 fun a12=>
 cW_ w11 (a12.add (s4.1.toNat*1)) fun n13=>
 (0:Int)≤s4.1∧s4.1<(qs:Nat) ∧
 optM q1 fun a14=>
 cW_ w11 (a14.add (s4.1.toNat*1)) fun n15=>
 drM w11 fun w16=>
 cond (decide (n13<n15))
 (K (.int .i64 (-1)) w16)
 (K (.int .i64 1) w16))
 (X5 ((i64.wrap (s4.1-1)),()) w11))
 (J1 (()) w6))
 ((i64.wrap ((qh:Int)-1)),()) w)
 (fun s2 w3=>
 K (.int .i64 0) w3))
def S_bn_bit (N:Nums) (P:Program) (q0:OA) (qh qk:Nat) (q1:Int) (w:World) (K:KV):Prop:=
 cond (!(decide (q1<0)))
 ((32:Int)≠0 ∧
 cond (decide ((i64.wrap (q1.tdiv 32))≥(qh:Int)))
 (K (.int .u64 0) w)
 ((32:Int)≠0 ∧
 (0:Int)≤(i64.wrap (q1.tdiv 32))∧(i64.wrap (q1.tdiv 32))<(qh:Nat) ∧
 optM q0 fun a1=>
 ∃ n2,w.cell? (a1.add ((i64.wrap (q1.tdiv 32)).toNat*1))=some (.int .u32 n2) ∧
 (32:Int)≠0 ∧
 (0:Int)≤((u64.wrap q1).tmod 32) ∧
 K (.int .u64 (u64.wrap (BitVec.ofInt u64.bits (u64.wrap (n2.fdiv (2^(min ((u64.wrap q1).tmod 32).toNat u32.bits)))) &&& BitVec.ofInt u64.bits 1).toNat)) w))
 (K (.int .u64 0) w)
def S_bn_length (N:Nums) (P:Program) (q0:OA) (qh qk:Nat) (w:World) (K:KV):Prop:=
 cond ((qh:Int)==0)
 (K (.int .i64 0) w)
 ((0:Int)≤(i64.wrap ((qh:Int)-1))∧(i64.wrap ((qh:Int)-1))<(qh:Nat) ∧
 optM q0 fun a1=>
 ∃ n2,w.cell? (a1.add ((i64.wrap ((qh:Int)-1)).toNat*1))=some (.int .u32 n2) ∧
 cutM (σ:=Int×Unit) (fun J3=>
 loopM (σ:=Int×Int×Unit) (fun s6 X7 w8=>
 cond (s6.2.1 != 0)
 ((0:Int)≤1 ∧
 X7 ((i64.wrap (s6.1+1)),(s6.2.1.fdiv (2^(min (1:Int).toNat u32.bits))),()) w8)
 (J3 (s6.1,()) w8))
 (0,n2,()) w)
 (fun s4 w5=>
 K (.int .i64 (i64.wrap ((i64.wrap ((i64.wrap ((qh:Int)-1))*32))+s4.1))) w5))
def S_bn_add (N:Nums) (P:Program) (q0:OA) (qh qk:Nat) (q1:OA) (qs qx:Nat) (w:World) (K:KV):Prop:=
 cutM (σ:=(OA×Nat×Nat)×(OA×Nat×Nat)×Unit) (fun J1=>
 cond (decide ((qh:Int)<(qs:Int)))
 (J1 ((q1,qs,qx),(q0,qh,qk),()) w)
 (J1 ((q0,qh,qk),(q1,qs,qx),()) w))
 (fun s2 w3=>
 mkM N.t_uint32 1 4 #[.int .u32 0] (i64.wrap (((s2.1.2.1:Nat):Int)+1)) (i64.wrap (((s2.1.2.1:Nat):Int)+1)) w3 fun p4 w5=>
 cutM (σ:=Int×Unit) (fun J6=>
 loopM (σ:=Int×Int×Unit) (fun s9 X10 w11=>
 cond (decide (s9.2.1<((s2.1.2.1:Nat):Int)))
 ((0:Int)≤s9.2.1∧s9.2.1<(s2.1.2.1:Nat) ∧
 optM s2.1.1 fun a12=>
 cW_ w11 (a12.add (s9.2.1.toNat*1)) fun n13=>
 cutM (σ:=Int×Unit) (fun J14=>
 cond (decide (s9.2.1<((s2.2.1.2.1:Nat):Int)))
 ((0:Int)≤s9.2.1∧s9.2.1<(s2.2.1.2.1:Nat) ∧
 optM s2.2.1.1 fun a17=>
 cW_ w11 (a17.add (s9.2.1.toNat*1)) fun n18=>
 J14 ((u64.wrap ((u64.wrap (s9.1+(u64.wrap n13)))+(u64.wrap n18))),()) w11)
 (J14 ((u64.wrap (s9.1+(u64.wrap n13))),()) w11))
 (fun s15 w16=>
 (0:Int)≤s9.2.1∧s9.2.1<((i64.wrap (((s2.1.2.1:Nat):Int)+1)).toNat:Nat) ∧
 stM (p4.add (s9.2.1.toNat*1)) (.int .u32 (u32.wrap s15.1)) w16 fun w19=>
 (0:Int)≤32 ∧
 X10 ((s15.1.fdiv (2^(min (32:Int).toNat u64.bits))),(i64.wrap (s9.2.1+1)),()) w19))
 (J6 (s9.1,()) w11))
 (0,0,()) w5)
 (fun s7 w8=>
 (0:Int)≤((s2.1.2.1:Nat):Int)∧((s2.1.2.1:Nat):Int)<((i64.wrap (((s2.1.2.1:Nat):Int)+1)).toNat:Nat) ∧
 stM (p4.add (((s2.1.2.1:Nat):Int).toNat*1)) (.int .u32 (u32.wrap s7.1)) w8 fun w20=>
 CallsX P N.f_bn_trim #[.slice (some p4) ((i64.wrap (((s2.1.2.1:Nat):Int)+1)).toNat) ((i64.wrap (((s2.1.2.1:Nat):Int)+1)).toNat)] w20 fun v22 w21=>
 vS_ v22 fun s23a s23l s23c=>
 K (.slice s23a s23l s23c) w21))
def S_bn_right (N:Nums) (P:Program) (q0:OA) (qh qk:Nat) (q1:Int) (w:World) (K:KV):Prop:=
 (32:Int)≠0 ∧
 (32:Int)≠0 ∧
 cond (decide ((i64.wrap (u64.wrap (q1.tdiv 32)))≥(qh:Int)))
 (K (.slice none 0 0) w)
 (mkM N.t_uint32 1 4 #[.int .u32 0] (i64.wrap ((qh:Int)-(i64.wrap (u64.wrap (q1.tdiv 32))))) (i64.wrap ((qh:Int)-(i64.wrap (u64.wrap (q1.tdiv 32))))) w fun p1 w2=>
 cutM (σ:=Unit) (fun J3=>
 loopM (σ:=Int×Unit) (fun s6 X7 w8=>
 cond (decide (s6.1<(((i64.wrap ((qh:Int)-(i64.wrap (u64.wrap (q1.tdiv 32))))).toNat:Nat):Int)))
 ((0:Int)≤(i64.wrap (s6.1+(i64.wrap (u64.wrap (q1.tdiv 32)))))∧(i64.wrap (s6.1+(i64.wrap (u64.wrap (q1.tdiv 32)))))<(qh:Nat) ∧
 optM q0 fun a9=>
 ∃ n10,w8.cell? (a9.add ((i64.wrap (s6.1+(i64.wrap (u64.wrap (q1.tdiv 32))))).toNat*1))=some (.int .u32 n10) ∧
 cutM (σ:=Int×Unit) (fun J11=>
 cond (decide ((i64.wrap ((i64.wrap (s6.1+(i64.wrap (u64.wrap (q1.tdiv 32)))))+1))<(qh:Int)))
 ((0:Int)≤(i64.wrap ((i64.wrap (s6.1+(i64.wrap (u64.wrap (q1.tdiv 32)))))+1))∧(i64.wrap ((i64.wrap (s6.1+(i64.wrap (u64.wrap (q1.tdiv 32)))))+1))<(qh:Nat) ∧
 optM q0 fun a14=>
 ∃ n15,w8.cell? (a14.add ((i64.wrap ((i64.wrap (s6.1+(i64.wrap (u64.wrap (q1.tdiv 32)))))+1)).toNat*1))=some (.int .u32 n15) ∧
 (0:Int)≤32 ∧
 J11 ((u64.wrap (BitVec.ofInt u64.bits (u64.wrap n10) ||| BitVec.ofInt u64.bits (u64.wrap ((u64.wrap n15)*2^(min (32:Int).toNat u64.bits)))).toNat),()) w8)
 (J11 ((u64.wrap n10),()) w8))
 (fun s12 w13=>
 (0:Int)≤(q1.tmod 32) ∧
 (0:Int)≤s6.1∧s6.1<((i64.wrap ((qh:Int)-(i64.wrap (u64.wrap (q1.tdiv 32))))).toNat:Nat) ∧
 stM (p1.add (s6.1.toNat*1)) (.int .u32 (u32.wrap (s12.1.fdiv (2^(min (q1.tmod 32).toNat u64.bits))))) w13 fun w16=>
 X7 ((i64.wrap (s6.1+1)),()) w16))
 (J3 (()) w8))
 (0,()) w2)
 (fun s4 w5=>
 CallsX P N.f_bn_trim #[.slice (some p1) ((i64.wrap ((qh:Int)-(i64.wrap (u64.wrap (q1.tdiv 32))))).toNat) ((i64.wrap ((qh:Int)-(i64.wrap (u64.wrap (q1.tdiv 32))))).toNat)] w5 fun v18 w17=>
 vS_ v18 fun s19a s19l s19c=>
 K (.slice s19a s19l s19c) w17))
def S_bn_sub (N:Nums) (P:Program) (q0:OA) (qh qk:Nat) (q1:OA) (qs qx:Nat) (w:World) (K:KV):Prop:=
 mkM N.t_uint32 1 4 #[.int .u32 0] (qh:Int) (qh:Int) w fun p1 w2=>
 cutM (σ:=Unit) (fun J3=>
 loopM (σ:=Int×Int×Unit) (fun s6 X7 w8=>
 cond (decide (s6.2.1<(qh:Int)))
 ((0:Int)≤s6.2.1∧s6.2.1<(qh:Nat) ∧
 optM q0 fun a9=>
 cW_ w8 (a9.add (s6.2.1.toNat*1)) fun n10=>
 cutM (σ:=Int×Unit) (fun J11=>
 cond (decide (s6.2.1<(qs:Int)))
 ((0:Int)≤s6.2.1∧s6.2.1<(qs:Nat) ∧
 optM q1 fun a14=>
 cW_ w8 (a14.add (s6.2.1.toNat*1)) fun n15=>
 J11 ((u64.wrap ((u64.wrap ((u64.wrap n10)-s6.1))-(u64.wrap n15))),()) w8)
 (J11 ((u64.wrap ((u64.wrap n10)-s6.1)),()) w8))
 (fun s12 w13=>
 (0:Int)≤s6.2.1∧s6.2.1<((qh:Int).toNat:Nat) ∧
 stM (p1.add (s6.2.1.toNat*1)) (.int .u32 (u32.wrap s12.1)) w13 fun w16=>
 (0:Int)≤63 ∧
 X7 ((s12.1.fdiv (2^(min (63:Int).toNat u64.bits))),(i64.wrap (s6.2.1+1)),()) w16))
 (J3 (()) w8))
 (0,0,()) w2)
 (fun s4 w5=>
 CallsX P N.f_bn_trim #[.slice (some p1) ((qh:Int).toNat) ((qh:Int).toNat)] w5 fun v18 w17=>
 vS_ v18 fun s19a s19l s19c=>
 K (.slice s19a s19l s19c) w17)
def S_p_inertia_rows_find (N:Nums) (P:Program) (q0:OA) (q1:Int) (w:World) (K:KV):Prop:=
 cutM (σ:=Int×Int×Unit) (fun J1=>
 loopM (σ:=Int×Int×Int×Unit) (fun s4 X5 w6=>
 optM q0 fun a7=>
 cS_ w6 a7 fun s8a s8l s8c=>
 cond (decide (s4.2.2.1<(s8l:Int)))
 (cutM (σ:=Int×Int×Unit) (fun J9=>
 loopM (σ:=Int×Int×Int×Unit) (fun s12 X13 w14=>
 cond (decide (s12.2.2.1<s4.2.2.1))
 (optM q0 fun a15=>
 cS_ w14 a15 fun s16a s16l s16c=>
 (0:Int)≤s4.2.2.1∧s4.2.2.1<(s16l:Nat) ∧
 optM s16a fun a17=>
 cS_ w14 (a17.add (s4.2.2.1.toNat*1)) fun s18a s18l s18c=>
 (0:Int)≤s12.2.2.1∧s12.2.2.1<(s18l:Nat) ∧
 optM s18a fun a19=>
 ∃ p20:(OA),w14.cell? (a19.add (s12.2.2.1.toNat*1))=some (.pointer p20) ∧
 CallsX P N.f_bI_Sign #[.pointer p20] w14 fun v22 w21=>
 ∃ n23,v22=(.int .i64 n23) ∧
 cond (n23 != 0)
 (J1 (s4.2.2.1,s12.2.2.1,()) w21)
 (X13 (s12.1,s12.2.1,(i64.wrap (s12.2.2.1+1)),()) w21))
 (J9 (s12.1,s12.2.1,()) w14))
 (s4.1,s4.2.1,q1,()) w6)
 (fun s10 w11=>
 X5 (s10.1,s10.2.1,(i64.wrap (s4.2.2.1+1)),()) w11))
 (J1 (s4.1,s4.2.1,()) w6))
 ((-1),(-1),q1,()) w)
 (fun s2 w3=>
 cutM (σ:=Unit) (fun J24=>
 loopM (σ:=Int×Unit) (fun s27 X28 w29=>
 optM q0 fun a30=>
 cS_ w29 a30 fun s31a s31l s31c=>
 cond (decide (s27.1<(s31l:Int)))
 (optM q0 fun a32=>
 cS_ w29 a32 fun s33a s33l s33c=>
 (0:Int)≤s27.1∧s27.1<(s33l:Nat) ∧
 optM s33a fun a34=>
 cS_ w29 (a34.add (s27.1.toNat*1)) fun s35a s35l s35c=>
 (0:Int)≤s27.1∧s27.1<(s35l:Nat) ∧
 optM s35a fun a36=>
 ∃ p37:(OA),w29.cell? (a36.add (s27.1.toNat*1))=some (.pointer p37) ∧
 CallsX P N.f_bI_Sign #[.pointer p37] w29 fun v39 w38=>
 ∃ n40,v39=(.int .i64 n40) ∧
 cond (n40 != 0)
 (K (.tuple #[.int .i64 s27.1,.int .i64 s27.1]) w38)
 (X28 ((i64.wrap (s27.1+1)),()) w38))
 (J24 (()) w29))
 (q1,()) w3)
 (fun s25 w26=>
 K (.tuple #[.int .i64 s2.1,.int .i64 s2.2.1]) w26))
def S_bn_mul (N:Nums) (P:Program) (q0:OA) (qh qk:Nat) (q1:OA) (qs qx:Nat) (w:World) (K:KV):Prop:=
 cutM (σ:=Bool×Unit) (fun J1=>
 cond (!((qh:Int)==0))
 (J1 (((qs:Int)==0),()) w)
 (J1 (true,()) w))
 (fun s2 w3=>
 cond s2.1
 (K (.slice none 0 0) w3)
 (mkM N.t_uint32 1 4 #[.int .u32 0] (i64.wrap ((qh:Int)+(qs:Int))) (i64.wrap ((qh:Int)+(qs:Int))) w3 fun p4 w5=>
 cutM (σ:=Unit) (fun J6=>
 loopM (σ:=Int×Unit) (fun s9 X10 w11=>
 cond (decide (s9.1<(qh:Int)))
 (cutM (σ:=Int×Unit) (fun J12=>
 loopM (σ:=Int×Int×Unit) (fun s15 X16 w17=>
 cond (decide (s15.2.1<(qs:Int)))
 ((0:Int)≤s9.1∧s9.1<(qh:Nat) ∧
 optM q0 fun a18=>
 cW_ w17 (a18.add (s9.1.toNat*1)) fun n19=>
 (0:Int)≤s15.2.1∧s15.2.1<(qs:Nat) ∧
 optM q1 fun a20=>
 cW_ w17 (a20.add (s15.2.1.toNat*1)) fun n21=>
 (0:Int)≤(i64.wrap (s9.1+s15.2.1))∧(i64.wrap (s9.1+s15.2.1))<((i64.wrap ((qh:Int)+(qs:Int))).toNat:Nat) ∧
 ∃ n22,w17.cell? (p4.add ((i64.wrap (s9.1+s15.2.1)).toNat*1))=some (.int .u32 n22) ∧
 drM w17 fun w23=>
 (0:Int)≤(i64.wrap (s9.1+s15.2.1))∧(i64.wrap (s9.1+s15.2.1))<((i64.wrap ((qh:Int)+(qs:Int))).toNat:Nat) ∧
 stM (p4.add ((i64.wrap (s9.1+s15.2.1)).toNat*1)) (.int .u32 (u32.wrap (u64.wrap (s15.1+(u64.wrap ((u64.wrap ((u64.wrap n19)*(u64.wrap n21)))+(u64.wrap n22))))))) w23 fun w24=>
 (0:Int)≤32 ∧
 X16 (((u64.wrap (s15.1+(u64.wrap ((u64.wrap ((u64.wrap n19)*(u64.wrap n21)))+(u64.wrap n22))))).fdiv (2^(min (32:Int).toNat u64.bits))),(i64.wrap (s15.2.1+1)),()) w24)
 (J12 (s15.1,()) w17))
 (0,0,()) w11)
 (fun s13 w14=>
 (0:Int)≤(i64.wrap (s9.1+(qs:Int)))∧(i64.wrap (s9.1+(qs:Int)))<((i64.wrap ((qh:Int)+(qs:Int))).toNat:Nat) ∧
 stM (p4.add ((i64.wrap (s9.1+(qs:Int))).toNat*1)) (.int .u32 (u32.wrap s13.1)) w14 fun w25=>
 X10 ((i64.wrap (s9.1+1)),()) w25))
 (J6 (()) w11))
 (0,()) w5)
 (fun s7 w8=>
 CallsX P N.f_bn_trim #[.slice (some p4) ((i64.wrap ((qh:Int)+(qs:Int))).toNat) ((i64.wrap ((qh:Int)+(qs:Int))).toNat)] w8 fun v27 w26=>
 vS_ v27 fun s28a s28l s28c=>
 K (.slice s28a s28l s28c) w26)))
def S_bI_QuoRem (N:Nums) (P:Program) (q0:OA) (q1:OA) (q2:OA) (q3:OA) (w:World) (K:KV):Prop:=
 optM q1 fun a1=>
 cB_ w a1 fun b2=>
 optM q2 fun a3=>
 cB_ w a3 fun b4=>
 drM w fun w5=>
 optM q1 fun a6=>
 cS_ w5 (a6.add 1) fun s7a s7l s7c=>
 optM q2 fun a8=>
 cS_ w5 (a8.add 1) fun s9a s9l s9c=>
 drM w5 fun w10=>
 CallsX P N.f_bn_div #[.slice s7a s7l s7c,.slice s9a s9l s9c] w10 fun v12 w11=>
 ∃ s13a s13l s13c,∃ s14a s14l s14c,v12=(.tuple #[.slice s13a s13l s13c,.slice s14a s14l s14c]) ∧
 drM w11 fun w15=>
 CallsX P N.f_bI_give #[.pointer q0,.bool (!(b2==b4)),.slice s13a s13l s13c] w15 fun v17 w16=>
 ∃ p18:(OA),v17=(.pointer p18) ∧
 CallsX P N.f_bI_give #[.pointer q3,.bool b2,.slice s14a s14l s14c] w16 fun v20 w19=>
 ∃ p21:(OA),v20=(.pointer p21) ∧
 K (.tuple #[.pointer q0,.pointer q3]) w19
def S_bn_twin (N:Nums) (P:Program) (q0:OA) (qh qk:Nat) (w:World) (K:KV):Prop:=
 appM N.t_uint32 1 4 #[.int .u32 0] none 0 0 q0 qh w fun s1a s1l s1c w2=>
 K (.slice s1a s1l s1c) w2
def S_r02_NatDown (N:Nums) (P:Program) (q0:OA) (qh qk:Nat) (q1:Int) (w:World) (K:KV):Prop:=
 CallsX P N.f_r02_halves #[.slice q0 qh qk] w fun v2 w1=>
 vS_ v2 fun s3a s3l s3c=>
 cutM (σ:=Bool×Unit) (fun J4=>
 loopM (σ:=Bool×Int×Unit) (fun s7 X8 w9=>
 (32:Int)≠0 ∧
 cond (decide (s7.2.1<(i64.wrap (q1.tdiv 32))))
 (cond (decide (s7.2.1<(s3l:Int)))
 (cond (!s7.1)
 ((0:Int)≤s7.2.1∧s7.2.1<(s3l:Nat) ∧
 optM s3a fun a10=>
 cU_ w9 (a10.add (s7.2.1.toNat*1)) fun n11=>
 X8 ((n11 != 0),(i64.wrap (s7.2.1+1)),()) w9)
 (X8 (true,(i64.wrap (s7.2.1+1)),()) w9))
 (J4 (s7.1,()) w9))
 (J4 (s7.1,()) w9))
 (false,0,()) w1)
 (fun s5 w6=>
 (32:Int)≠0 ∧
 cond (decide ((i64.wrap (q1.tdiv 32))≥(s3l:Int)))
 (K (.tuple #[.slice none 0 0,.bool s5.1]) w6)
 (cutM (σ:=Int×Unit) (fun J12=>
 loopM (σ:=Int×Int×Unit) (fun s15 X16 w17=>
 (32:Int)≠0 ∧
 cond (decide (s15.2.1<(q1.tmod 32)))
 (X16 ((u64.wrap (2*s15.1)),(i64.wrap (s15.2.1+1)),()) w17)
 (J12 (s15.1,()) w17))
 (1,0,()) w6)
 (fun s13 w14=>
 (32:Int)≠0 ∧
 (0:Int)≤(i64.wrap (q1.tdiv 32))∧(i64.wrap (q1.tdiv 32))≤(s3l:Nat) ∧
 CallsX P N.f_r02_short #[.slice (slBase s3a ((i64.wrap (q1.tdiv 32)).toNat) s3c 1) (s3l-(i64.wrap (q1.tdiv 32)).toNat) (s3c-(i64.wrap (q1.tdiv 32)).toNat),.int .u64 s13.1] w14 fun v19 w18=>
 ∃ s20a s20l s20c,∃ n21,v19=(.tuple #[.slice s20a s20l s20c,.int .u64 n21]) ∧
 CallsX P N.f_r02_limbs #[.slice s20a s20l s20c] w18 fun v23 w22=>
 vS_ v23 fun s24a s24l s24c=>
 cond (!s5.1)
 (K (.tuple #[.slice s24a s24l s24c,.bool (n21 != 0)]) w22)
 (K (.tuple #[.slice s24a s24l s24c,.bool true]) w22))))
def S_r02_halves (N:Nums) (P:Program) (q0:OA) (qh qk:Nat) (w:World) (K:KV):Prop:=
 cutM (σ:=(OA×Nat×Nat)×Unit) (fun J1=>
 loopM (σ:=(OA×Nat×Nat)×Int×Unit) (fun s4 X5 w6=>
 cond (decide (s4.2.1<(qh:Int)))
 ((0:Int)≤s4.2.1∧s4.2.1<(qh:Nat) ∧
 optM q0 fun a7=>
 cU_ w6 (a7.add (s4.2.1.toNat*1)) fun n8=>
 (4294967296:Int)≠0 ∧
 (0:Int)≤s4.2.1∧s4.2.1<(qh:Nat) ∧
 optM q0 fun a9=>
 cU_ w6 (a9.add (s4.2.1.toNat*1)) fun n10=>
 (4294967296:Int)≠0 ∧
 drM w6 fun w11=>
 newM #[.int .u64 (n8.tmod 4294967296),.int .u64 (u64.wrap (n10.tdiv 4294967296))] N.t_uint64 w11 fun p12 w13=>
 drM w13 fun w14=>
 appM N.t_uint64 1 8 #[.int .u64 0] s4.1.1 s4.1.2.1 s4.1.2.2 (some p12) 2 w14 fun s15a s15l s15c w16=>
 drM w16 fun w17=>
 X5 ((s15a,s15l,s15c),(i64.wrap (s4.2.1+1)),()) w17)
 (J1 ((s4.1.1,s4.1.2.1,s4.1.2.2),()) w6))
 ((none,0,0),0,()) w)
 (fun s2 w3=>
 CallsX P N.f_r02_low #[.slice s2.1.1 s2.1.2.1 s2.1.2.2] w3 fun v19 w18=>
 vS_ v19 fun s20a s20l s20c=>
 K (.slice s20a s20l s20c) w18)
def S_r02_limbs (N:Nums) (P:Program) (q0:OA) (qh qk:Nat) (w:World) (K:KV):Prop:=
 cutM (σ:=(OA×Nat×Nat)×Unit) (fun J1=>
 loopM (σ:=(OA×Nat×Nat)×Int×Unit) (fun s4 X5 w6=>
 cond (decide (s4.2.1<(qh:Int)))
 ((0:Int)≤s4.2.1∧s4.2.1<(qh:Nat) ∧
 optM q0 fun a7=>
 cU_ w6 (a7.add (s4.2.1.toNat*1)) fun n8=>
 cutM (σ:=Int×Unit) (fun J9=>
 cond (decide ((i64.wrap (s4.2.1+1))<(qh:Int)))
 ((0:Int)≤(i64.wrap (s4.2.1+1))∧(i64.wrap (s4.2.1+1))<(qh:Nat) ∧
 optM q0 fun a12=>
 ∃ n13,w6.cell? (a12.add ((i64.wrap (s4.2.1+1)).toNat*1))=some (.int .u64 n13) ∧
 J9 ((u64.wrap (n8+(u64.wrap (4294967296*n13)))),()) w6)
 (J9 (n8,()) w6))
 (fun s10 w11=>
 newM #[.int .u64 s10.1] N.t_uint64 w11 fun p14 w15=>
 appM N.t_uint64 1 8 #[.int .u64 0] s4.1.1 s4.1.2.1 s4.1.2.2 (some p14) 1 w15 fun s16a s16l s16c w17=>
 X5 ((s16a,s16l,s16c),(i64.wrap (s4.2.1+2)),()) w17))
 (J1 ((s4.1.1,s4.1.2.1,s4.1.2.2),()) w6))
 ((none,0,0),0,()) w)
 (fun s2 w3=>
 CallsX P N.f_r02_NatTrim #[.slice s2.1.1 s2.1.2.1 s2.1.2.2] w3 fun v19 w18=>
 vS_ v19 fun s20a s20l s20c=>
 K (.slice s20a s20l s20c) w18)
def S_bI_And (N:Nums) (P:Program) (q0:OA) (q1:OA) (q2:OA) (w:World) (K:KV):Prop:=
 optM q1 fun a1=>
 cS_ w (a1.add 1) fun s2a s2l s2c=>
 optM q2 fun a3=>
 cS_ w (a3.add 1) fun s4a s4l s4c=>
 drM w fun w5=>
 CallsX P N.f_bI_low #[.pointer q1,.int .i64 (i64.wrap ((if (s4l:Int)>(s2l:Int) then (s4l:Int) else (s2l:Int))+1))] w5 fun v7 w6=>
 vS_ v7 fun s8a s8l s8c=>
 CallsX P N.f_bI_low #[.pointer q2,.int .i64 (i64.wrap ((if (s4l:Int)>(s2l:Int) then (s4l:Int) else (s2l:Int))+1))] w6 fun v10 w9=>
 vS_ v10 fun s11a s11l s11c=>
 cutM (σ:=Unit) (fun J12=>
 loopM (σ:=Int×Unit) (fun s15 X16 w17=>
 cond (decide (s15.1<(i64.wrap ((if (s4l:Int)>(s2l:Int) then (s4l:Int) else (s2l:Int))+1))))
 ((0:Int)≤s15.1∧s15.1<(s8l:Nat) ∧
 optM s8a fun a18=>
 cW_ w17 (a18.add (s15.1.toNat*1)) fun n19=>
 (0:Int)≤s15.1∧s15.1<(s11l:Nat) ∧
 optM s11a fun a20=>
 cW_ w17 (a20.add (s15.1.toNat*1)) fun n21=>
 (0:Int)≤s15.1∧s15.1<(s8l:Nat) ∧
 optM s8a fun a22=>
 drM w17 fun w23=>
 stM (a22.add (s15.1.toNat*1)) (.int .u32 (u32.wrap (BitVec.ofInt u32.bits n19 &&& BitVec.ofInt u32.bits n21).toNat)) w23 fun w24=>
 drM w24 fun w25=>
 X16 ((i64.wrap (s15.1+1)),()) w25)
 (J12 (()) w17))
 (0,()) w9)
 (fun s13 w14=>
 CallsX P N.f_bI_of #[.pointer q0,.slice s8a s8l s8c] w14 fun v27 w26=>
 ∃ p28:(OA),v27=(.pointer p28) ∧
 K (.pointer p28) w26)
def S_bI_low (N:Nums) (P:Program) (q0:OA) (q1:Int) (w:World) (K:KV):Prop:=
 mkM N.t_uint32 1 4 #[.int .u32 0] q1 q1 w fun p1 w2=>
 optM q0 fun a3=>
 cS_ w2 (a3.add 1) fun s4a s4l s4c=>
 copM 1 (some p1) q1.toNat s4a s4l w2 fun w5=>
 optM q0 fun a6=>
 cB_ w5 a6 fun b7=>
 cutM (σ:=Unit) (fun J8=>
 cond b7
 (cutM (σ:=Unit) (fun J11=>
 loopM (σ:=Int×Int×Unit) (fun s14 X15 w16=>
 cond (decide (s14.2.1<q1))
 ((0:Int)≤s14.2.1∧s14.2.1<(q1.toNat:Nat) ∧
 cW_ w16 (p1.add (s14.2.1.toNat*1)) fun n17=>
 (0:Int)≤s14.2.1∧s14.2.1<(q1.toNat:Nat) ∧
 stM (p1.add (s14.2.1.toNat*1)) (.int .u32 (u32.wrap (u64.wrap (s14.1+(u64.wrap (u32.wrap (BitVec.ofInt u32.bits (u32.max) ^^^ BitVec.ofInt u32.bits n17).toNat)))))) w16 fun w18=>
 (0:Int)≤32 ∧
 X15 (((u64.wrap (s14.1+(u64.wrap (u32.wrap (BitVec.ofInt u32.bits (u32.max) ^^^ BitVec.ofInt u32.bits n17).toNat)))).fdiv (2^(min (32:Int).toNat u64.bits))),(i64.wrap (s14.2.1+1)),()) w18)
 (J11 (()) w16))
 (1,0,()) w5)
 (fun s12 w13=>
 J8 (()) w13))
 (J8 (()) w5))
 (fun s9 w10=>
 K (.slice (some p1) q1.toNat q1.toNat) w10)
def S_bI_of (N:Nums) (P:Program) (q0:OA) (q1:OA) (qs qx:Nat) (w:World) (K:KV):Prop:=
 cutM (σ:=Bool×Unit) (fun J1=>
 cond (decide ((qs:Int)>0))
 ((0:Int)≤(i64.wrap ((qs:Int)-1))∧(i64.wrap ((qs:Int)-1))<(qs:Nat) ∧
 optM q1 fun a4=>
 ∃ n5,w.cell? (a4.add ((i64.wrap ((qs:Int)-1)).toNat*1))=some (.int .u32 n5) ∧
 (0:Int)≤31 ∧
 J1 (((n5.fdiv (2^(min (31:Int).toNat u32.bits)))==1),()) w)
 (J1 (false,()) w))
 (fun s2 w3=>
 cond s2.1
 (cutM (σ:=Unit) (fun J6=>
 loopM (σ:=Int×Int×Unit) (fun s9 X10 w11=>
 cond (decide (s9.2.1<(qs:Int)))
 ((0:Int)≤s9.2.1∧s9.2.1<(qs:Nat) ∧
 optM q1 fun a12=>
 cW_ w11 (a12.add (s9.2.1.toNat*1)) fun n13=>
 (0:Int)≤s9.2.1∧s9.2.1<(qs:Nat) ∧
 optM q1 fun a14=>
 stM (a14.add (s9.2.1.toNat*1)) (.int .u32 (u32.wrap (u64.wrap (s9.1+(u64.wrap (u32.wrap (BitVec.ofInt u32.bits (u32.max) ^^^ BitVec.ofInt u32.bits n13).toNat)))))) w11 fun w15=>
 (0:Int)≤32 ∧
 X10 (((u64.wrap (s9.1+(u64.wrap (u32.wrap (BitVec.ofInt u32.bits (u32.max) ^^^ BitVec.ofInt u32.bits n13).toNat)))).fdiv (2^(min (32:Int).toNat u64.bits))),(i64.wrap (s9.2.1+1)),()) w15)
 (J6 (()) w11))
 (1,0,()) w3)
 (fun s7 w8=>
 CallsX P N.f_bn_trim #[.slice q1 qs qx] w8 fun v17 w16=>
 vS_ v17 fun s18a s18l s18c=>
 CallsX P N.f_bI_give #[.pointer q0,.bool true,.slice s18a s18l s18c] w16 fun v20 w19=>
 ∃ p21:(OA),v20=(.pointer p21) ∧
 K (.pointer p21) w19))
 (CallsX P N.f_bn_trim #[.slice q1 qs qx] w3 fun v23 w22=>
 vS_ v23 fun s24a s24l s24c=>
 CallsX P N.f_bI_give #[.pointer q0,.bool false,.slice s24a s24l s24c] w22 fun v26 w25=>
 ∃ p27:(OA),v26=(.pointer p27) ∧
 K (.pointer p27) w25))
def S_bn_words (N:Nums) (P:Program) (q0:Int) (w:World) (K:KV):Prop:=
 (0:Int)≤32 ∧
 newM #[.int .u32 (u32.wrap q0),.int .u32 (u32.wrap (q0.fdiv (2^(min (32:Int).toNat u64.bits))))] N.t_uint32 w fun p1 w2=>
 CallsX P N.f_bn_trim #[.slice (some p1) 2 2] w2 fun v4 w3=>
 vS_ v4 fun s5a s5l s5c=>
 K (.slice s5a s5l s5c) w3
def S_slices_IndexFunc___api_Dyad_api_Dyad (N:Nums) (P:Program) (q0:OA) (qh qk:Nat) (q1:Value) (w:World) (K:KV):Prop:=
 cutM (σ:=Unit) (fun J1=>
 loopM (σ:=Int×Unit) (fun s4 X5 w6=>
 cond (decide (s4.1<(qh:Int)))
 ((0:Int)≤s4.1∧s4.1<(qh:Nat) ∧
 optM q0 fun a7=>
 cB_ w6 (a7.add (s4.1.toNat*3)) fun b8=>
 cS_ w6 ((a7.add (s4.1.toNat*3)).add 1) fun s9a s9l s9c=>
 cI_ w6 ((a7.add (s4.1.toNat*3)).add 2) fun n10=>
 fnM q1 fun f13 f13p f13q=>CallsX P f13 (f13p.toList++(([.agg #[.bool b8,.slice s9a s9l s9c,.int .i64 n10]]:List Value)++f13q.toList)).toArray w6 fun v12 w11=>
 vB_ v12 fun b14=>
 cond b14
 (K (.int .i64 s4.1) w11)
 (X5 ((i64.wrap (s4.1+1)),()) w11))
 (J1 (()) w6))
 (0,()) w)
 (fun s2 w3=>
 K (.int .i64 (-1)) w3)
def S_bn_trim (N:Nums) (P:Program) (q0:OA) (qh qk:Nat) (w:World) (K:KV):Prop:=
 cutM (σ:=Int×Unit) (fun J1=>
 loopM (σ:=Int×Unit) (fun s4 X5 w6=>
 cond (decide (s4.1>0))
 ((0:Int)≤(i64.wrap (s4.1-1))∧(i64.wrap (s4.1-1))<(qh:Nat) ∧
 optM q0 fun a7=>
 ∃ n8,w6.cell? (a7.add ((i64.wrap (s4.1-1)).toNat*1))=some (.int .u32 n8) ∧
 cond (n8==0)
 (X5 ((i64.wrap (s4.1-1)),()) w6)
 (J1 (s4.1,()) w6))
 (J1 (s4.1,()) w6))
 ((qh:Int),()) w)
 (fun s2 w3=>
 (0:Int)≤s2.1∧s2.1≤(qk:Nat) ∧
 K (.slice (slBase q0 0 qk 1) s2.1.toNat qk) w3)
end Go.Eng
