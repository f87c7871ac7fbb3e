/-
 Some of the functions as propositions in the manner of a weakest precondition, printed off the structured code by a program of the session. No condition.
-/
import Derived.Test.YtgbilchfljlbeaaGreatDoorTbl
import Derived.Test.YtgbilchfljlbeaaGreatDoorNm
set_option linter.all false
set_option maxRecDepth 100000
namespace Go.Eng
open Go
open Go.IntKind (i64 u64 u32 u8)
def Bm7 (N:Nums) (P:Program) (qb:Int) (qc:Int) (qd:OA) (qa qf:Nat) (yl:Int) (ym:OA) (vo vz:Nat) (yn:OA) (vp ya:Nat) (yo:OA) (yb yc:Nat) (yp:OA) (vq yd:Nat) (q1:Int) (w:World) (K:KV):Prop:=
 Ad1 #[.int .i64 qb,.int .i64 qc,.slice qd qa qf,.int .i64 yl,.slice ym vo vz,.slice yn vp ya,.slice yo yb yc,.slice yp vq yd] N.Ih0 w fun p1 w2=>
 Aa1 P N.Ie4 #[] w2 fun v4 w3=>
 vB_ v4 fun b5=>
 cond (!b5)
 (K (.bool false) w3)
 (Ae8 (σ:=Bool×Unit) (fun J6=>
 cI_ w3 p1 fun n9=>
 cI_ w3 (p1.add 1) fun n10=>
 cS_ w3 (p1.add 2) fun s11a s11l s11c=>
 Aa1 P N.Id6 #[.agg #[.int .i64 n9,.int .i64 n10,.slice s11a s11l s11c]] w3 fun v13 w12=>
 vB_ v13 fun b14=>
 cond (!b14)
 (cS_ w12 (p1.add 7) fun s15a s15l s15c=>
 J6 ((decide ((s15l:Int)>100)),()) w12)
 (J6 (true,()) w12))
 (fun s7 w8=>
 cond s7.1
 (K (.bool true) w8)
 (Ae8 (σ:=(OA)×(OA)×(OA×Nat×Nat)×Unit) (fun J16=>
 cI_ w8 p1 fun n19=>
 cI_ w8 (p1.add 1) fun n20=>
 cS_ w8 (p1.add 2) fun s21a s21l s21c=>
 cI_ w8 (p1.add 3) fun n22=>
 cS_ w8 ((p1.add 3).add 1) fun s23a s23l s23c=>
 cS_ w8 ((p1.add 3).add 2) fun s24a s24l s24c=>
 cS_ w8 (p1.add 7) fun s25a s25l s25c=>
 (drM w8 fun w26=>
 Aa1 P N.Hw1 #[.agg #[.int .i64 n19,.int .i64 n20,.slice s21a s21l s21c]] w26 fun v28 w27=>
 ∃ n29,∃ n30,∃ s31a s31l s31c,v28=(.agg #[.int .i64 n29,.int .i64 n30,.slice s31a s31l s31c]) ∧
 w27.cell? (p1.add 7)=some (.slice s25a s25l s25c) ∧
 w27.cell? (p1.add 3)=some (.int .i64 n22) ∧
 w27.cell? ((p1.add 3).add 1)=some (.slice s23a s23l s23c) ∧
 w27.cell? ((p1.add 3).add 2)=some (.slice s24a s24l s24c) ∧
 (drM w27 fun w32=>
 Aa1 P N.Hv7 #[.agg #[.int .i64 n22,.slice s23a s23l s23c,.slice s24a s24l s24c]] w32 fun v34 w33=>
 ∃ n35,∃ s36a s36l s36c,∃ s37a s37l s37c,v34=(.agg #[.int .i64 n35,.slice s36a s36l s36c,.slice s37a s37l s37c]) ∧
 w33.cell? (p1.add 7)=some (.slice s25a s25l s25c) ∧
 (drM w33 fun w38=>
 Aa1 P N.Hy1 #[.slice s25a s25l s25c] w38 fun v40 w39=>
 vS_ v40 fun s41a s41l s41c=>
 (drM w39 fun w42=>
 Ad1 #[.int .i64 0,.int .i64 0,.slice none 0 0] N.Ik5 w42 fun p43 w44=>
 drM w44 fun w45=>
 Ad1 #[.int .i64 0,.slice none 0 0,.slice none 0 0] N.Ik8 w45 fun p46 w47=>
 drM w47 fun w48=>
 stM p43 (.int .i64 n29) w48 fun w49=>
 stM (p43.add 1) (.int .i64 n30) w49 fun w50=>
 stM (p43.add 2) (.slice s31a s31l s31c) w50 fun w51=>
 drM w51 fun w52=>
 stM p46 (.int .i64 n35) w52 fun w53=>
 stM (p46.add 1) (.slice s36a s36l s36c) w53 fun w54=>
 stM (p46.add 2) (.slice s37a s37l s37c) w54 fun w55=>
 drM w55 fun w56=>
 J16 ((some p43),(some p46),(s41a,s41l,s41c),()) w56) ∧
 (drM w39 fun w57=>
 Ad1 #[.int .i64 0,.slice none 0 0,.slice none 0 0] N.Ik8 w57 fun p58 w59=>
 drM w59 fun w60=>
 Ad1 #[.int .i64 0,.int .i64 0,.slice none 0 0] N.Ik5 w60 fun p61 w62=>
 drM w62 fun w63=>
 stM p61 (.int .i64 n29) w63 fun w64=>
 stM (p61.add 1) (.int .i64 n30) w64 fun w65=>
 stM (p61.add 2) (.slice s31a s31l s31c) w65 fun w66=>
 drM w66 fun w67=>
 stM p58 (.int .i64 n35) w67 fun w68=>
 stM (p58.add 1) (.slice s36a s36l s36c) w68 fun w69=>
 stM (p58.add 2) (.slice s37a s37l s37c) w69 fun w70=>
 drM w70 fun w71=>
 J16 ((some p61),(some p58),(s41a,s41l,s41c),()) w71)) ∧
 (drM w33 fun w72=>
 Ad1 #[.int .i64 0,.int .i64 0,.slice none 0 0] N.Ik5 w72 fun p73 w74=>
 w74.cell? (p1.add 7)=some (.slice s25a s25l s25c) ∧
 (drM w74 fun w75=>
 Aa1 P N.Hy1 #[.slice s25a s25l s25c] w75 fun v77 w76=>
 vS_ v77 fun s78a s78l s78c=>
 drM w76 fun w79=>
 Ad1 #[.int .i64 0,.slice none 0 0,.slice none 0 0] N.Ik8 w79 fun p80 w81=>
 drM w81 fun w82=>
 stM p73 (.int .i64 n29) w82 fun w83=>
 stM (p73.add 1) (.int .i64 n30) w83 fun w84=>
 stM (p73.add 2) (.slice s31a s31l s31c) w84 fun w85=>
 drM w85 fun w86=>
 stM p80 (.int .i64 n35) w86 fun w87=>
 stM (p80.add 1) (.slice s36a s36l s36c) w87 fun w88=>
 stM (p80.add 2) (.slice s37a s37l s37c) w88 fun w89=>
 drM w89 fun w90=>
 J16 ((some p73),(some p80),(s78a,s78l,s78c),()) w90) ∧
 (drM w74 fun w91=>
 Ad1 #[.int .i64 0,.slice none 0 0,.slice none 0 0] N.Ik8 w91 fun p92 w93=>
 w93.cell? (p1.add 7)=some (.slice s25a s25l s25c) ∧
 drM w93 fun w94=>
 Aa1 P N.Hy1 #[.slice s25a s25l s25c] w94 fun v96 w95=>
 vS_ v96 fun s97a s97l s97c=>
 drM w95 fun w98=>
 stM p73 (.int .i64 n29) w98 fun w99=>
 stM (p73.add 1) (.int .i64 n30) w99 fun w100=>
 stM (p73.add 2) (.slice s31a s31l s31c) w100 fun w101=>
 drM w101 fun w102=>
 stM p92 (.int .i64 n35) w102 fun w103=>
 stM (p92.add 1) (.slice s36a s36l s36c) w103 fun w104=>
 stM (p92.add 2) (.slice s37a s37l s37c) w104 fun w105=>
 drM w105 fun w106=>
 J16 ((some p73),(some p92),(s97a,s97l,s97c),()) w106)) ∧
 (drM w33 fun w107=>
 Ad1 #[.int .i64 0,.slice none 0 0,.slice none 0 0] N.Ik8 w107 fun p108 w109=>
 w109.cell? (p1.add 7)=some (.slice s25a s25l s25c) ∧
 (drM w109 fun w110=>
 Aa1 P N.Hy1 #[.slice s25a s25l s25c] w110 fun v112 w111=>
 vS_ v112 fun s113a s113l s113c=>
 drM w111 fun w114=>
 Ad1 #[.int .i64 0,.int .i64 0,.slice none 0 0] N.Ik5 w114 fun p115 w116=>
 drM w116 fun w117=>
 stM p115 (.int .i64 n29) w117 fun w118=>
 stM (p115.add 1) (.int .i64 n30) w118 fun w119=>
 stM (p115.add 2) (.slice s31a s31l s31c) w119 fun w120=>
 drM w120 fun w121=>
 stM p108 (.int .i64 n35) w121 fun w122=>
 stM (p108.add 1) (.slice s36a s36l s36c) w122 fun w123=>
 stM (p108.add 2) (.slice s37a s37l s37c) w123 fun w124=>
 drM w124 fun w125=>
 J16 ((some p115),(some p108),(s113a,s113l,s113c),()) w125) ∧
 (drM w109 fun w126=>
 Ad1 #[.int .i64 0,.int .i64 0,.slice none 0 0] N.Ik5 w126 fun p127 w128=>
 w128.cell? (p1.add 7)=some (.slice s25a s25l s25c) ∧
 drM w128 fun w129=>
 Aa1 P N.Hy1 #[.slice s25a s25l s25c] w129 fun v131 w130=>
 vS_ v131 fun s132a s132l s132c=>
 drM w130 fun w133=>
 stM p127 (.int .i64 n29) w133 fun w134=>
 stM (p127.add 1) (.int .i64 n30) w134 fun w135=>
 stM (p127.add 2) (.slice s31a s31l s31c) w135 fun w136=>
 drM w136 fun w137=>
 stM p108 (.int .i64 n35) w137 fun w138=>
 stM (p108.add 1) (.slice s36a s36l s36c) w138 fun w139=>
 stM (p108.add 2) (.slice s37a s37l s37c) w139 fun w140=>
 drM w140 fun w141=>
 J16 ((some p127),(some p108),(s132a,s132l,s132c),()) w141))) ∧
 (drM w27 fun w142=>
 Ad1 #[.int .i64 0,.int .i64 0,.slice none 0 0] N.Ik5 w142 fun p143 w144=>
 w144.cell? (p1.add 7)=some (.slice s25a s25l s25c) ∧
 w144.cell? (p1.add 3)=some (.int .i64 n22) ∧
 w144.cell? ((p1.add 3).add 1)=some (.slice s23a s23l s23c) ∧
 w144.cell? ((p1.add 3).add 2)=some (.slice s24a s24l s24c) ∧
 (drM w144 fun w145=>
 Aa1 P N.Hv7 #[.agg #[.int .i64 n22,.slice s23a s23l s23c,.slice s24a s24l s24c]] w145 fun v147 w146=>
 ∃ n148,∃ s149a s149l s149c,∃ s150a s150l s150c,v147=(.agg #[.int .i64 n148,.slice s149a s149l s149c,.slice s150a s150l s150c]) ∧
 w146.cell? (p1.add 7)=some (.slice s25a s25l s25c) ∧
 (drM w146 fun w151=>
 Aa1 P N.Hy1 #[.slice s25a s25l s25c] w151 fun v153 w152=>
 vS_ v153 fun s154a s154l s154c=>
 drM w152 fun w155=>
 Ad1 #[.int .i64 0,.slice none 0 0,.slice none 0 0] N.Ik8 w155 fun p156 w157=>
 drM w157 fun w158=>
 stM p143 (.int .i64 n29) w158 fun w159=>
 stM (p143.add 1) (.int .i64 n30) w159 fun w160=>
 stM (p143.add 2) (.slice s31a s31l s31c) w160 fun w161=>
 drM w161 fun w162=>
 stM p156 (.int .i64 n148) w162 fun w163=>
 stM (p156.add 1) (.slice s149a s149l s149c) w163 fun w164=>
 stM (p156.add 2) (.slice s150a s150l s150c) w164 fun w165=>
 drM w165 fun w166=>
 J16 ((some p143),(some p156),(s154a,s154l,s154c),()) w166) ∧
 (drM w146 fun w167=>
 Ad1 #[.int .i64 0,.slice none 0 0,.slice none 0 0] N.Ik8 w167 fun p168 w169=>
 w169.cell? (p1.add 7)=some (.slice s25a s25l s25c) ∧
 drM w169 fun w170=>
 Aa1 P N.Hy1 #[.slice s25a s25l s25c] w170 fun v172 w171=>
 vS_ v172 fun s173a s173l s173c=>
 drM w171 fun w174=>
 stM p143 (.int .i64 n29) w174 fun w175=>
 stM (p143.add 1) (.int .i64 n30) w175 fun w176=>
 stM (p143.add 2) (.slice s31a s31l s31c) w176 fun w177=>
 drM w177 fun w178=>
 stM p168 (.int .i64 n148) w178 fun w179=>
 stM (p168.add 1) (.slice s149a s149l s149c) w179 fun w180=>
 stM (p168.add 2) (.slice s150a s150l s150c) w180 fun w181=>
 drM w181 fun w182=>
 J16 ((some p143),(some p168),(s173a,s173l,s173c),()) w182)) ∧
 (drM w144 fun w183=>
 Ad1 #[.int .i64 0,.slice none 0 0,.slice none 0 0] N.Ik8 w183 fun p184 w185=>
 w185.cell? (p1.add 7)=some (.slice s25a s25l s25c) ∧
 w185.cell? (p1.add 3)=some (.int .i64 n22) ∧
 w185.cell? ((p1.add 3).add 1)=some (.slice s23a s23l s23c) ∧
 w185.cell? ((p1.add 3).add 2)=some (.slice s24a s24l s24c) ∧
 drM w185 fun w186=>
 Aa1 P N.Hv7 #[.agg #[.int .i64 n22,.slice s23a s23l s23c,.slice s24a s24l s24c]] w186 fun v188 w187=>
 ∃ n189,∃ s190a s190l s190c,∃ s191a s191l s191c,v188=(.agg #[.int .i64 n189,.slice s190a s190l s190c,.slice s191a s191l s191c]) ∧
 w187.cell? (p1.add 7)=some (.slice s25a s25l s25c) ∧
 drM w187 fun w192=>
 Aa1 P N.Hy1 #[.slice s25a s25l s25c] w192 fun v194 w193=>
 vS_ v194 fun s195a s195l s195c=>
 drM w193 fun w196=>
 stM p143 (.int .i64 n29) w196 fun w197=>
 stM (p143.add 1) (.int .i64 n30) w197 fun w198=>
 stM (p143.add 2) (.slice s31a s31l s31c) w198 fun w199=>
 drM w199 fun w200=>
 stM p184 (.int .i64 n189) w200 fun w201=>
 stM (p184.add 1) (.slice s190a s190l s190c) w201 fun w202=>
 stM (p184.add 2) (.slice s191a s191l s191c) w202 fun w203=>
 drM w203 fun w204=>
 J16 ((some p143),(some p184),(s195a,s195l,s195c),()) w204)) ∧
 (drM w27 fun w205=>
 Ad1 #[.int .i64 0,.slice none 0 0,.slice none 0 0] N.Ik8 w205 fun p206 w207=>
 w207.cell? (p1.add 7)=some (.slice s25a s25l s25c) ∧
 w207.cell? (p1.add 3)=some (.int .i64 n22) ∧
 w207.cell? ((p1.add 3).add 1)=some (.slice s23a s23l s23c) ∧
 w207.cell? ((p1.add 3).add 2)=some (.slice s24a s24l s24c) ∧
 (drM w207 fun w208=>
 Aa1 P N.Hv7 #[.agg #[.int .i64 n22,.slice s23a s23l s23c,.slice s24a s24l s24c]] w208 fun v210 w209=>
 ∃ n211,∃ s212a s212l s212c,∃ s213a s213l s213c,v210=(.agg #[.int .i64 n211,.slice s212a s212l s212c,.slice s213a s213l s213c]) ∧
 w209.cell? (p1.add 7)=some (.slice s25a s25l s25c) ∧
 (drM w209 fun w214=>
 Aa1 P N.Hy1 #[.slice s25a s25l s25c] w214 fun v216 w215=>
 vS_ v216 fun s217a s217l s217c=>
 drM w215 fun w218=>
 Ad1 #[.int .i64 0,.int .i64 0,.slice none 0 0] N.Ik5 w218 fun p219 w220=>
 drM w220 fun w221=>
 stM p219 (.int .i64 n29) w221 fun w222=>
 stM (p219.add 1) (.int .i64 n30) w222 fun w223=>
 stM (p219.add 2) (.slice s31a s31l s31c) w223 fun w224=>
 drM w224 fun w225=>
 stM p206 (.int .i64 n211) w225 fun w226=>
 stM (p206.add 1) (.slice s212a s212l s212c) w226 fun w227=>
 stM (p206.add 2) (.slice s213a s213l s213c) w227 fun w228=>
 drM w228 fun w229=>
 J16 ((some p219),(some p206),(s217a,s217l,s217c),()) w229) ∧
 (drM w209 fun w230=>
 Ad1 #[.int .i64 0,.int .i64 0,.slice none 0 0] N.Ik5 w230 fun p231 w232=>
 w232.cell? (p1.add 7)=some (.slice s25a s25l s25c) ∧
 drM w232 fun w233=>
 Aa1 P N.Hy1 #[.slice s25a s25l s25c] w233 fun v235 w234=>
 vS_ v235 fun s236a s236l s236c=>
 drM w234 fun w237=>
 stM p231 (.int .i64 n29) w237 fun w238=>
 stM (p231.add 1) (.int .i64 n30) w238 fun w239=>
 stM (p231.add 2) (.slice s31a s31l s31c) w239 fun w240=>
 drM w240 fun w241=>
 stM p206 (.int .i64 n211) w241 fun w242=>
 stM (p206.add 1) (.slice s212a s212l s212c) w242 fun w243=>
 stM (p206.add 2) (.slice s213a s213l s213c) w243 fun w244=>
 drM w244 fun w245=>
 J16 ((some p231),(some p206),(s236a,s236l,s236c),()) w245)) ∧
 (drM w207 fun w246=>
 Ad1 #[.int .i64 0,.int .i64 0,.slice none 0 0] N.Ik5 w246 fun p247 w248=>
 w248.cell? (p1.add 7)=some (.slice s25a s25l s25c) ∧
 w248.cell? (p1.add 3)=some (.int .i64 n22) ∧
 w248.cell? ((p1.add 3).add 1)=some (.slice s23a s23l s23c) ∧
 w248.cell? ((p1.add 3).add 2)=some (.slice s24a s24l s24c) ∧
 drM w248 fun w249=>
 Aa1 P N.Hv7 #[.agg #[.int .i64 n22,.slice s23a s23l s23c,.slice s24a s24l s24c]] w249 fun v251 w250=>
 ∃ n252,∃ s253a s253l s253c,∃ s254a s254l s254c,v251=(.agg #[.int .i64 n252,.slice s253a s253l s253c,.slice s254a s254l s254c]) ∧
 w250.cell? (p1.add 7)=some (.slice s25a s25l s25c) ∧
 drM w250 fun w255=>
 Aa1 P N.Hy1 #[.slice s25a s25l s25c] w255 fun v257 w256=>
 vS_ v257 fun s258a s258l s258c=>
 drM w256 fun w259=>
 stM p247 (.int .i64 n29) w259 fun w260=>
 stM (p247.add 1) (.int .i64 n30) w260 fun w261=>
 stM (p247.add 2) (.slice s31a s31l s31c) w261 fun w262=>
 drM w262 fun w263=>
 stM p206 (.int .i64 n252) w263 fun w264=>
 stM (p206.add 1) (.slice s253a s253l s253c) w264 fun w265=>
 stM (p206.add 2) (.slice s254a s254l s254c) w265 fun w266=>
 drM w266 fun w267=>
 J16 ((some p247),(some p206),(s258a,s258l,s258c),()) w267))) ∧
 (drM w8 fun w268=>
 Ad1 #[.int .i64 0,.int .i64 0,.slice none 0 0] N.Ik5 w268 fun p269 w270=>
 w270.cell? (p1.add 7)=some (.slice s25a s25l s25c) ∧
 w270.cell? (p1.add 3)=some (.int .i64 n22) ∧
 w270.cell? ((p1.add 3).add 1)=some (.slice s23a s23l s23c) ∧
 w270.cell? ((p1.add 3).add 2)=some (.slice s24a s24l s24c) ∧
 w270.cell? p1=some (.int .i64 n19) ∧
 w270.cell? (p1.add 1)=some (.int .i64 n20) ∧
 w270.cell? (p1.add 2)=some (.slice s21a s21l s21c) ∧
 (drM w270 fun w271=>
 Aa1 P N.Hw1 #[.agg #[.int .i64 n19,.int .i64 n20,.slice s21a s21l s21c]] w271 fun v273 w272=>
 ∃ n274,∃ n275,∃ s276a s276l s276c,v273=(.agg #[.int .i64 n274,.int .i64 n275,.slice s276a s276l s276c]) ∧
 w272.cell? (p1.add 7)=some (.slice s25a s25l s25c) ∧
 w272.cell? (p1.add 3)=some (.int .i64 n22) ∧
 w272.cell? ((p1.add 3).add 1)=some (.slice s23a s23l s23c) ∧
 w272.cell? ((p1.add 3).add 2)=some (.slice s24a s24l s24c) ∧
 (drM w272 fun w277=>
 Aa1 P N.Hv7 #[.agg #[.int .i64 n22,.slice s23a s23l s23c,.slice s24a s24l s24c]] w277 fun v279 w278=>
 ∃ n280,∃ s281a s281l s281c,∃ s282a s282l s282c,v279=(.agg #[.int .i64 n280,.slice s281a s281l s281c,.slice s282a s282l s282c]) ∧
 w278.cell? (p1.add 7)=some (.slice s25a s25l s25c) ∧
 (drM w278 fun w283=>
 Aa1 P N.Hy1 #[.slice s25a s25l s25c] w283 fun v285 w284=>
 vS_ v285 fun s286a s286l s286c=>
 drM w284 fun w287=>
 Ad1 #[.int .i64 0,.slice none 0 0,.slice none 0 0] N.Ik8 w287 fun p288 w289=>
 drM w289 fun w290=>
 stM p269 (.int .i64 n274) w290 fun w291=>
 stM (p269.add 1) (.int .i64 n275) w291 fun w292=>
 stM (p269.add 2) (.slice s276a s276l s276c) w292 fun w293=>
 drM w293 fun w294=>
 stM p288 (.int .i64 n280) w294 fun w295=>
 stM (p288.add 1) (.slice s281a s281l s281c) w295 fun w296=>
 stM (p288.add 2) (.slice s282a s282l s282c) w296 fun w297=>
 drM w297 fun w298=>
 J16 ((some p269),(some p288),(s286a,s286l,s286c),()) w298) ∧
 (drM w278 fun w299=>
 Ad1 #[.int .i64 0,.slice none 0 0,.slice none 0 0] N.Ik8 w299 fun p300 w301=>
 w301.cell? (p1.add 7)=some (.slice s25a s25l s25c) ∧
 drM w301 fun w302=>
 Aa1 P N.Hy1 #[.slice s25a s25l s25c] w302 fun v304 w303=>
 vS_ v304 fun s305a s305l s305c=>
 drM w303 fun w306=>
 stM p269 (.int .i64 n274) w306 fun w307=>
 stM (p269.add 1) (.int .i64 n275) w307 fun w308=>
 stM (p269.add 2) (.slice s276a s276l s276c) w308 fun w309=>
 drM w309 fun w310=>
 stM p300 (.int .i64 n280) w310 fun w311=>
 stM (p300.add 1) (.slice s281a s281l s281c) w311 fun w312=>
 stM (p300.add 2) (.slice s282a s282l s282c) w312 fun w313=>
 drM w313 fun w314=>
 J16 ((some p269),(some p300),(s305a,s305l,s305c),()) w314)) ∧
 (drM w272 fun w315=>
 Ad1 #[.int .i64 0,.slice none 0 0,.slice none 0 0] N.Ik8 w315 fun p316 w317=>
 w317.cell? (p1.add 7)=some (.slice s25a s25l s25c) ∧
 w317.cell? (p1.add 3)=some (.int .i64 n22) ∧
 w317.cell? ((p1.add 3).add 1)=some (.slice s23a s23l s23c) ∧
 w317.cell? ((p1.add 3).add 2)=some (.slice s24a s24l s24c) ∧
 drM w317 fun w318=>
 Aa1 P N.Hv7 #[.agg #[.int .i64 n22,.slice s23a s23l s23c,.slice s24a s24l s24c]] w318 fun v320 w319=>
 ∃ n321,∃ s322a s322l s322c,∃ s323a s323l s323c,v320=(.agg #[.int .i64 n321,.slice s322a s322l s322c,.slice s323a s323l s323c]) ∧
 w319.cell? (p1.add 7)=some (.slice s25a s25l s25c) ∧
 drM w319 fun w324=>
 Aa1 P N.Hy1 #[.slice s25a s25l s25c] w324 fun v326 w325=>
 vS_ v326 fun s327a s327l s327c=>
 drM w325 fun w328=>
 stM p269 (.int .i64 n274) w328 fun w329=>
 stM (p269.add 1) (.int .i64 n275) w329 fun w330=>
 stM (p269.add 2) (.slice s276a s276l s276c) w330 fun w331=>
 drM w331 fun w332=>
 stM p316 (.int .i64 n321) w332 fun w333=>
 stM (p316.add 1) (.slice s322a s322l s322c) w333 fun w334=>
 stM (p316.add 2) (.slice s323a s323l s323c) w334 fun w335=>
 drM w335 fun w336=>
 J16 ((some p269),(some p316),(s327a,s327l,s327c),()) w336)) ∧
 (drM w270 fun w337=>
 Ad1 #[.int .i64 0,.slice none 0 0,.slice none 0 0] N.Ik8 w337 fun p338 w339=>
 w339.cell? (p1.add 7)=some (.slice s25a s25l s25c) ∧
 w339.cell? (p1.add 3)=some (.int .i64 n22) ∧
 w339.cell? ((p1.add 3).add 1)=some (.slice s23a s23l s23c) ∧
 w339.cell? ((p1.add 3).add 2)=some (.slice s24a s24l s24c) ∧
 w339.cell? p1=some (.int .i64 n19) ∧
 w339.cell? (p1.add 1)=some (.int .i64 n20) ∧
 w339.cell? (p1.add 2)=some (.slice s21a s21l s21c) ∧
 drM w339 fun w340=>
 Aa1 P N.Hw1 #[.agg #[.int .i64 n19,.int .i64 n20,.slice s21a s21l s21c]] w340 fun v342 w341=>
 ∃ n343,∃ n344,∃ s345a s345l s345c,v342=(.agg #[.int .i64 n343,.int .i64 n344,.slice s345a s345l s345c]) ∧
 w341.cell? (p1.add 7)=some (.slice s25a s25l s25c) ∧
 w341.cell? (p1.add 3)=some (.int .i64 n22) ∧
 w341.cell? ((p1.add 3).add 1)=some (.slice s23a s23l s23c) ∧
 w341.cell? ((p1.add 3).add 2)=some (.slice s24a s24l s24c) ∧
 drM w341 fun w346=>
 Aa1 P N.Hv7 #[.agg #[.int .i64 n22,.slice s23a s23l s23c,.slice s24a s24l s24c]] w346 fun v348 w347=>
 ∃ n349,∃ s350a s350l s350c,∃ s351a s351l s351c,v348=(.agg #[.int .i64 n349,.slice s350a s350l s350c,.slice s351a s351l s351c]) ∧
 w347.cell? (p1.add 7)=some (.slice s25a s25l s25c) ∧
 drM w347 fun w352=>
 Aa1 P N.Hy1 #[.slice s25a s25l s25c] w352 fun v354 w353=>
 vS_ v354 fun s355a s355l s355c=>
 drM w353 fun w356=>
 stM p269 (.int .i64 n343) w356 fun w357=>
 stM (p269.add 1) (.int .i64 n344) w357 fun w358=>
 stM (p269.add 2) (.slice s345a s345l s345c) w358 fun w359=>
 drM w359 fun w360=>
 stM p338 (.int .i64 n349) w360 fun w361=>
 stM (p338.add 1) (.slice s350a s350l s350c) w361 fun w362=>
 stM (p338.add 2) (.slice s351a s351l s351c) w362 fun w363=>
 drM w363 fun w364=>
 J16 ((some p269),(some p338),(s355a,s355l,s355c),()) w364)) ∧
 (drM w8 fun w365=>
 Ad1 #[.int .i64 0,.slice none 0 0,.slice none 0 0] N.Ik8 w365 fun p366 w367=>
 w367.cell? (p1.add 7)=some (.slice s25a s25l s25c) ∧
 w367.cell? (p1.add 3)=some (.int .i64 n22) ∧
 w367.cell? ((p1.add 3).add 1)=some (.slice s23a s23l s23c) ∧
 w367.cell? ((p1.add 3).add 2)=some (.slice s24a s24l s24c) ∧
 w367.cell? p1=some (.int .i64 n19) ∧
 w367.cell? (p1.add 1)=some (.int .i64 n20) ∧
 w367.cell? (p1.add 2)=some (.slice s21a s21l s21c) ∧
 (drM w367 fun w368=>
 Aa1 P N.Hw1 #[.agg #[.int .i64 n19,.int .i64 n20,.slice s21a s21l s21c]] w368 fun v370 w369=>
 ∃ n371,∃ n372,∃ s373a s373l s373c,v370=(.agg #[.int .i64 n371,.int .i64 n372,.slice s373a s373l s373c]) ∧
 w369.cell? (p1.add 7)=some (.slice s25a s25l s25c) ∧
 w369.cell? (p1.add 3)=some (.int .i64 n22) ∧
 w369.cell? ((p1.add 3).add 1)=some (.slice s23a s23l s23c) ∧
 w369.cell? ((p1.add 3).add 2)=some (.slice s24a s24l s24c) ∧
 (drM w369 fun w374=>
 Aa1 P N.Hv7 #[.agg #[.int .i64 n22,.slice s23a s23l s23c,.slice s24a s24l s24c]] w374 fun v376 w375=>
 ∃ n377,∃ s378a s378l s378c,∃ s379a s379l s379c,v376=(.agg #[.int .i64 n377,.slice s378a s378l s378c,.slice s379a s379l s379c]) ∧
 w375.cell? (p1.add 7)=some (.slice s25a s25l s25c) ∧
 (drM w375 fun w380=>
 Aa1 P N.Hy1 #[.slice s25a s25l s25c] w380 fun v382 w381=>
 vS_ v382 fun s383a s383l s383c=>
 drM w381 fun w384=>
 Ad1 #[.int .i64 0,.int .i64 0,.slice none 0 0] N.Ik5 w384 fun p385 w386=>
 drM w386 fun w387=>
 stM p385 (.int .i64 n371) w387 fun w388=>
 stM (p385.add 1) (.int .i64 n372) w388 fun w389=>
 stM (p385.add 2) (.slice s373a s373l s373c) w389 fun w390=>
 drM w390 fun w391=>
 stM p366 (.int .i64 n377) w391 fun w392=>
 stM (p366.add 1) (.slice s378a s378l s378c) w392 fun w393=>
 stM (p366.add 2) (.slice s379a s379l s379c) w393 fun w394=>
 drM w394 fun w395=>
 J16 ((some p385),(some p366),(s383a,s383l,s383c),()) w395) ∧
 (drM w375 fun w396=>
 Ad1 #[.int .i64 0,.int .i64 0,.slice none 0 0] N.Ik5 w396 fun p397 w398=>
 w398.cell? (p1.add 7)=some (.slice s25a s25l s25c) ∧
 drM w398 fun w399=>
 Aa1 P N.Hy1 #[.slice s25a s25l s25c] w399 fun v401 w400=>
 vS_ v401 fun s402a s402l s402c=>
 drM w400 fun w403=>
 stM p397 (.int .i64 n371) w403 fun w404=>
 stM (p397.add 1) (.int .i64 n372) w404 fun w405=>
 stM (p397.add 2) (.slice s373a s373l s373c) w405 fun w406=>
 drM w406 fun w407=>
 stM p366 (.int .i64 n377) w407 fun w408=>
 stM (p366.add 1) (.slice s378a s378l s378c) w408 fun w409=>
 stM (p366.add 2) (.slice s379a s379l s379c) w409 fun w410=>
 drM w410 fun w411=>
 J16 ((some p397),(some p366),(s402a,s402l,s402c),()) w411)) ∧
 (drM w369 fun w412=>
 Ad1 #[.int .i64 0,.int .i64 0,.slice none 0 0] N.Ik5 w412 fun p413 w414=>
 w414.cell? (p1.add 7)=some (.slice s25a s25l s25c) ∧
 w414.cell? (p1.add 3)=some (.int .i64 n22) ∧
 w414.cell? ((p1.add 3).add 1)=some (.slice s23a s23l s23c) ∧
 w414.cell? ((p1.add 3).add 2)=some (.slice s24a s24l s24c) ∧
 drM w414 fun w415=>
 Aa1 P N.Hv7 #[.agg #[.int .i64 n22,.slice s23a s23l s23c,.slice s24a s24l s24c]] w415 fun v417 w416=>
 ∃ n418,∃ s419a s419l s419c,∃ s420a s420l s420c,v417=(.agg #[.int .i64 n418,.slice s419a s419l s419c,.slice s420a s420l s420c]) ∧
 w416.cell? (p1.add 7)=some (.slice s25a s25l s25c) ∧
 drM w416 fun w421=>
 Aa1 P N.Hy1 #[.slice s25a s25l s25c] w421 fun v423 w422=>
 vS_ v423 fun s424a s424l s424c=>
 drM w422 fun w425=>
 stM p413 (.int .i64 n371) w425 fun w426=>
 stM (p413.add 1) (.int .i64 n372) w426 fun w427=>
 stM (p413.add 2) (.slice s373a s373l s373c) w427 fun w428=>
 drM w428 fun w429=>
 stM p366 (.int .i64 n418) w429 fun w430=>
 stM (p366.add 1) (.slice s419a s419l s419c) w430 fun w431=>
 stM (p366.add 2) (.slice s420a s420l s420c) w431 fun w432=>
 drM w432 fun w433=>
 J16 ((some p413),(some p366),(s424a,s424l,s424c),()) w433)) ∧
 (drM w367 fun w434=>
 Ad1 #[.int .i64 0,.int .i64 0,.slice none 0 0] N.Ik5 w434 fun p435 w436=>
 w436.cell? (p1.add 7)=some (.slice s25a s25l s25c) ∧
 w436.cell? (p1.add 3)=some (.int .i64 n22) ∧
 w436.cell? ((p1.add 3).add 1)=some (.slice s23a s23l s23c) ∧
 w436.cell? ((p1.add 3).add 2)=some (.slice s24a s24l s24c) ∧
 w436.cell? p1=some (.int .i64 n19) ∧
 w436.cell? (p1.add 1)=some (.int .i64 n20) ∧
 w436.cell? (p1.add 2)=some (.slice s21a s21l s21c) ∧
 drM w436 fun w437=>
 Aa1 P N.Hw1 #[.agg #[.int .i64 n19,.int .i64 n20,.slice s21a s21l s21c]] w437 fun v439 w438=>
 ∃ n440,∃ n441,∃ s442a s442l s442c,v439=(.agg #[.int .i64 n440,.int .i64 n441,.slice s442a s442l s442c]) ∧
 w438.cell? (p1.add 7)=some (.slice s25a s25l s25c) ∧
 w438.cell? (p1.add 3)=some (.int .i64 n22) ∧
 w438.cell? ((p1.add 3).add 1)=some (.slice s23a s23l s23c) ∧
 w438.cell? ((p1.add 3).add 2)=some (.slice s24a s24l s24c) ∧
 drM w438 fun w443=>
 Aa1 P N.Hv7 #[.agg #[.int .i64 n22,.slice s23a s23l s23c,.slice s24a s24l s24c]] w443 fun v445 w444=>
 ∃ n446,∃ s447a s447l s447c,∃ s448a s448l s448c,v445=(.agg #[.int .i64 n446,.slice s447a s447l s447c,.slice s448a s448l s448c]) ∧
 w444.cell? (p1.add 7)=some (.slice s25a s25l s25c) ∧
 drM w444 fun w449=>
 Aa1 P N.Hy1 #[.slice s25a s25l s25c] w449 fun v451 w450=>
 vS_ v451 fun s452a s452l s452c=>
 drM w450 fun w453=>
 stM p435 (.int .i64 n440) w453 fun w454=>
 stM (p435.add 1) (.int .i64 n441) w454 fun w455=>
 stM (p435.add 2) (.slice s442a s442l s442c) w455 fun w456=>
 drM w456 fun w457=>
 stM p366 (.int .i64 n446) w457 fun w458=>
 stM (p366.add 1) (.slice s447a s447l s447c) w458 fun w459=>
 stM (p366.add 2) (.slice s448a s448l s448c) w459 fun w460=>
 drM w460 fun w461=>
 J16 ((some p435),(some p366),(s452a,s452l,s452c),()) w461)))
 (fun s17 w18=>
 Ae0 s17.1 fun a462=>
 cI_ w18 a462 fun n463=>
 cI_ w18 (a462.add 1) fun n464=>
 cS_ w18 (a462.add 2) fun s465a s465l s465c=>
 Ae0 s17.2.1 fun a466=>
 cI_ w18 a466 fun n467=>
 cS_ w18 (a466.add 1) fun s468a s468l s468c=>
 cS_ w18 (a466.add 2) fun s469a s469l s469c=>
 Aa1 P N.Hw0 #[.agg #[.int .i64 n463,.int .i64 n464,.slice s465a s465l s465c],.agg #[.int .i64 n467,.slice s468a s468l s468c,.slice s469a s469l s469c],.slice s17.2.2.1.1 s17.2.2.1.2.1 s17.2.2.1.2.2,.int .i64 q1] w18 fun v471 w470=>
 ∃ s472a s472l s472c,∃ n473,∃ n474,v471=(.tuple #[.slice s472a s472l s472c,.int .i64 n473,.int .i64 n474]) ∧
 cI_ w470 p1 fun n475=>
 cI_ w470 (p1.add 1) fun n476=>
 cS_ w470 (p1.add 2) fun s477a s477l s477c=>
 cI_ w470 (p1.add 3) fun n478=>
 cS_ w470 ((p1.add 3).add 1) fun s479a s479l s479c=>
 cS_ w470 ((p1.add 3).add 2) fun s480a s480l s480c=>
 cS_ w470 (p1.add 7) fun s481a s481l s481c=>
 Aa1 P N.Ie3 #[.agg #[.int .i64 n475,.int .i64 n476,.slice s477a s477l s477c],.agg #[.int .i64 n478,.slice s479a s479l s479c,.slice s480a s480l s480c],.slice s481a s481l s481c,.int .i64 q1] w470 fun v483 w482=>
 ∃ s484a s484l s484c,∃ n485,∃ n486,v483=(.tuple #[.slice s484a s484l s484c,.int .i64 n485,.int .i64 n486]) ∧
 Ae0 s17.1 fun a487=>
 cI_ w482 a487 fun n488=>
 cI_ w482 (a487.add 1) fun n489=>
 cS_ w482 (a487.add 2) fun s490a s490l s490c=>
 cI_ w482 p1 fun n491=>
 cI_ w482 (p1.add 1) fun n492=>
 cS_ w482 (p1.add 2) fun s493a s493l s493c=>
 Aa1 P N.Hv8 #[.agg #[.int .i64 n488,.int .i64 n489,.slice s490a s490l s490c],.agg #[.int .i64 n491,.int .i64 n492,.slice s493a s493l s493c]] w482 fun v495 w494=>
 vB_ v495 fun b496=>
 cond b496
 (Ae0 s17.2.1 fun a497=>
 cI_ w494 a497 fun n498=>
 cS_ w494 (a497.add 1) fun s499a s499l s499c=>
 cS_ w494 (a497.add 2) fun s500a s500l s500c=>
 cI_ w494 (p1.add 3) fun n501=>
 cS_ w494 ((p1.add 3).add 1) fun s502a s502l s502c=>
 cS_ w494 ((p1.add 3).add 2) fun s503a s503l s503c=>
 Aa1 P N.Hw9 #[.agg #[.int .i64 n498,.slice s499a s499l s499c,.slice s500a s500l s500c],.agg #[.int .i64 n501,.slice s502a s502l s502c,.slice s503a s503l s503c]] w494 fun v505 w504=>
 vB_ v505 fun b506=>
 cond b506
 (cS_ w504 (p1.add 7) fun s507a s507l s507c=>
 Aa1 P N.Hy2 #[.slice s17.2.2.1.1 s17.2.2.1.2.1 s17.2.2.1.2.2,.slice s507a s507l s507c] w504 fun v509 w508=>
 vB_ v509 fun b510=>
 cond b510
 (cond (n474==n486)
 (cond (n473==n485)
 (Aa1 P N.Hy7 #[.slice s472a s472l s472c,.slice s484a s484l s484c] w508 fun v512 w511=>
 vB_ v512 fun b513=>
 K (.bool b513) w511)
 (K (.bool false) w508))
 (K (.bool false) w508))
 (K (.bool false) w508))
 (K (.bool false) w504))
 (K (.bool false) w494)))))
def Cz4 (N:Nums) (P:Program)  (w:World) (K:KV):Prop:=
 Aa1 P N.Ij0 #[] w fun v2 w1=>
 ∃ n3,∃ n4,∃ s5a s5l s5c,∃ n6,∃ s7a s7l s7c,∃ s8a s8l s8c,v2=(.tuple #[.agg #[.int .i64 n3,.int .i64 n4,.slice s5a s5l s5c],.agg #[.int .i64 n6,.slice s7a s7l s7c,.slice s8a s8l s8c]]) ∧
 Ad1 #[.int .i64 0,.int .i64 0,.slice none 0 0] N.Ik5 w1 fun p9 w10=>
 Ad1 #[.int .i64 0,.slice none 0 0,.slice none 0 0] N.Ik8 w10 fun p11 w12=>
 stM p9 (.int .i64 n3) w12 fun w13=>
 stM (p9.add 1) (.int .i64 n4) w13 fun w14=>
 stM (p9.add 2) (.slice s5a s5l s5c) w14 fun w15=>
 stM p11 (.int .i64 n6) w15 fun w16=>
 stM (p11.add 1) (.slice s7a s7l s7c) w16 fun w17=>
 stM (p11.add 2) (.slice s8a s8l s8c) w17 fun w18=>
 cI_ w18 p9 fun n19=>
 cI_ w18 (p9.add 1) fun n20=>
 cS_ w18 (p9.add 2) fun s21a s21l s21c=>
 Ad1 #[.float .f64 4607182418800017408,.float .f64 4607182418800017408] N.Ii0 w18 fun p22 w23=>
 Ad1 #[.float .f64 4618441417868443648,.float .f64 4616189618054758400] N.Ii0 w23 fun p24 w25=>
 Aa1 P N.Hz3 #[.agg #[.int .i64 n19,.int .i64 n20,.slice s21a s21l s21c],.slice (some p22) 2 2,.slice (some p24) 2 2] w25 fun v27 w26=>
 ∃ s28a s28l s28c,∃ n29,v27=(.tuple #[.slice s28a s28l s28c,.int .i64 n29]) ∧
 cI_ w26 p9 fun n30=>
 cI_ w26 (p9.add 1) fun n31=>
 cS_ w26 (p9.add 2) fun s32a s32l s32c=>
 cI_ w26 p11 fun n33=>
 cS_ w26 (p11.add 1) fun s34a s34l s34c=>
 cS_ w26 (p11.add 2) fun s35a s35l s35c=>
 Ad1 #[.float .f64 4617315517961601024,.float .f64 4616189618054758400] N.Ii0 w26 fun p36 w37=>
 Aa1 P N.Hw0 #[.agg #[.int .i64 n30,.int .i64 n31,.slice s32a s32l s32c],.agg #[.int .i64 n33,.slice s34a s34l s34c,.slice s35a s35l s35c],.slice (some p36) 2 2,.int .i64 8] w37 fun v39 w38=>
 ∃ s40a s40l s40c,∃ n41,∃ n42,v39=(.tuple #[.slice s40a s40l s40c,.int .i64 n41,.int .i64 n42]) ∧
 Ad1 #[.float .f64 4607182418800017408,.float .f64 4607182418800017408] N.Ii0 w38 fun p43 w44=>
 Ad1 #[.float .f64 4877398396442247168,.float .f64 4607182418800017408] N.Ii0 w44 fun p45 w46=>
 Ad1 #[.float .f64 4877398396442247168] N.Ii0 w46 fun p47 w48=>
 Aa1 P N.Hz3 #[.agg #[.int .i64 1,.int .i64 2,.slice (some p43) 2 2],.slice (some p45) 2 2,.slice (some p47) 1 1] w48 fun v50 w49=>
 ∃ s51a s51l s51c,∃ n52,v50=(.tuple #[.slice s51a s51l s51c,.int .i64 n52]) ∧
 cond (n29==0)
 (cond (n42==0)
 (cond (n52==0)
 (Ad1 #[.float .f64 4607182418800017408,.float .f64 0] N.Ii0 w49 fun p53 w54=>
 Aa1 P N.Hx5 #[.slice s28a s28l s28c,.slice (some p53) 2 2] w54 fun v56 w55=>
 vB_ v56 fun b57=>
 cond b57
 (cond ((s40l:Int)==2)
 ((0:Int)≤(0:Int)∧(0:Int)<(s40l:Nat) ∧
 Ae0 s40a fun a58=>
 cF_ w55 (a58.add ((0:Int).toNat*1)) fun x59=>
 cond (fgt x59 4607092346807469998)
 ((0:Int)≤(0:Int)∧(0:Int)<(s40l:Nat) ∧
 Ae0 s40a fun a60=>
 cF_ w55 (a60.add ((0:Int).toNat*1)) fun x61=>
 cond (flt x61 4607227454796291113)
 (cond (decide (n41≤8))
 (Ad1 #[.float .f64 13830554455654793216] N.Ii0 w55 fun p62 w63=>
 Aa1 P N.Hx5 #[.slice s51a s51l s51c,.slice (some p62) 1 1] w63 fun v65 w64=>
 vB_ v65 fun b66=>
 K (.bool b66) w64)
 (K (.bool false) w55))
 (K (.bool false) w55))
 (K (.bool false) w55))
 (K (.bool false) w55))
 (K (.bool false) w55))
 (K (.bool false) w49))
 (K (.bool false) w49))
 (K (.bool false) w49)
def Db6 (N:Nums) (P:Program) (qb:Int) (qc:Int) (qd:OA) (qa qf:Nat) (w:World) (K:KV):Prop:=
 Ad1 #[.int .i64 qb,.int .i64 qc,.slice qd qa qf] N.Ik5 w fun p1 w2=>
 cS_ w2 (p1.add 2) fun s3a s3l s3c=>
 K (.bool (decide ((s3l:Int)>100))) w2
def By4 (N:Nums) (P:Program) (qb:Int) (qc:Int) (qd:OA) (qa qf:Nat) (w:World) (K:KV):Prop:=
 Ad1 #[.int .i64 qb,.int .i64 qc,.slice qd qa qf] N.Ik5 w fun p1 w2=>
 Ad1 #[.int .i64 0,.int .i64 0,.slice none 0 0] N.Ik5 w2 fun p3 w4=>
 cS_ w4 (p1.add 2) fun s5a s5l s5c=>
 Aa1 P N.Hy1 #[.slice s5a s5l s5c] w4 fun v7 w6=>
 vS_ v7 fun s8a s8l s8c=>
 stM (p1.add 2) (.slice s8a s8l s8c) w6 fun w9=>
 cI_ w9 p1 fun n10=>
 cI_ w9 (p1.add 1) fun n11=>
 cS_ w9 (p1.add 2) fun s12a s12l s12c=>
 stM p3 (.int .i64 n10) w9 fun w13=>
 stM (p3.add 1) (.int .i64 n11) w13 fun w14=>
 stM (p3.add 2) (.slice s12a s12l s12c) w14 fun w15=>
 cI_ w15 p3 fun n16=>
 cI_ w15 (p3.add 1) fun n17=>
 cS_ w15 (p3.add 2) fun s18a s18l s18c=>
 K (.agg #[.int .i64 n16,.int .i64 n17,.slice s18a s18l s18c]) w15
def Ce9 (N:Nums) (P:Program) (q0:OA) (qj qm:Nat) (w:World) (K:KV):Prop:=
 mkM N.Ii0 1 8 #[.float .f64 0] 0 (i64.wrap ((qj:Int)+12)) w fun p1 w2=>
 Dp0 N.Ii0 1 8 #[.float .f64 0] (some p1) ((0:Int).toNat) ((i64.wrap ((qj:Int)+12)).toNat) q0 qj w2 fun s3a s3l s3c w4=>
 Ae8 (σ:=(OA×Nat×Nat)×Unit) (fun J5=>
 Ae7 (σ:=(OA×Nat×Nat)×Int×Unit) (fun s8 X9 w10=>
 cond (decide (s8.2.1<12))
 (Aa1 P N.Il3 #[.int .i64 1,.int .i64 s8.2.1] w10 fun v12 w11=>
 ∃ n13,v12=(.int .i64 n13) ∧
 Ad1 #[.float .f64 (FloatKind.f64.nearest n13)] N.Ii0 w11 fun p14 w15=>
 Dp0 N.Ii0 1 8 #[.float .f64 0] s8.1.1 s8.1.2.1 s8.1.2.2 (some p14) 1 w15 fun s16a s16l s16c w17=>
 X9 ((s16a,s16l,s16c),(i64.wrap (s8.2.1+1)),()) w17)
 (J5 ((s8.1.1,s8.1.2.1,s8.1.2.2),()) w10))
 ((s3a,s3l,s3c),0,()) w4)
 (fun s6 w7=>
 (0:Int)≤(qj:Int)∧(qj:Int)≤(s6.1.2.2:Nat) ∧
 K (.slice (An7 s6.1.1 0 s6.1.2.2 1) ((qj:Int).toNat) s6.1.2.2) w7)
def Ci3 (N:Nums) (P:Program) (qb:Int) (qc:Int) (qd:OA) (qa qf:Nat) (q1:OA) (qo qu:Nat) (q2:OA) (qy vf:Nat) (w:World) (K:KV):Prop:=
 Ad1 #[.int .i64 qb,.int .i64 qc,.slice qd qa qf] N.Ik5 w fun p1 w2=>
 cI_ w2 p1 fun n3=>
 cI_ w2 (p1.add 1) fun n4=>
 cS_ w2 (p1.add 2) fun s5a s5l s5c=>
 Aa1 P N.Ic2 #[.agg #[.int .i64 n3,.int .i64 n4,.slice s5a s5l s5c],.slice q1 qo qu,.slice q2 qy vf] w2 fun v7 w6=>
 vB_ v7 fun b8=>
 cond (!b8)
 (K (.tuple #[.slice none 0 0,.int .i64 4]) w6)
 (cS_ w6 (p1.add 2) fun s9a s9l s9c=>
 Ad1 #[.slice s9a s9l s9c,.slice q1 qo qu,.slice q2 qy vf] N.Ie1 w6 fun p10 w11=>
 Aa1 P N.Hv3 #[.slice (some p10) 3 3] w11 fun v13 w12=>
 vB_ v13 fun b14=>
 cond (!b14)
 (K (.tuple #[.slice none 0 0,.int .i64 5]) w12)
 (Ad1 #[.float .f64 4607182418800017408] N.Ii0 w12 fun p15 w16=>
 Dp0 N.Ii0 1 8 #[.float .f64 0] (some p15) 1 1 q1 qo w16 fun s17a s17l s17c w18=>
 cI_ w18 p1 fun n19=>
 Ae8 (σ:=(OA×Nat×Nat)×Unit) (fun J20=>
 Ae7 (σ:=(OA×Nat×Nat)×Int×Unit) (fun s23 X24 w25=>
 cond (decide (s23.2.1<n19))
 ((0:Int)≤s23.2.1∧s23.2.1<(qy:Nat) ∧
 Ae0 q2 fun a26=>
 cF_ w25 (a26.add (s23.2.1.toNat*1)) fun x27=>
 Ad1 #[.float .f64 x27] N.Ii0 w25 fun p28 w29=>
 cS_ w29 (p1.add 2) fun s30a s30l s30c=>
 cI_ w29 (p1.add 1) fun n31=>
 cI_ w29 (p1.add 1) fun n32=>
 (0:Int)≤(i64.wrap ((i64.wrap (s23.2.1+1))*n32))∧(i64.wrap ((i64.wrap (s23.2.1+1))*n32))≤(s30c:Nat)∧(0:Int)≤(i64.wrap (s23.2.1*n31))∧(i64.wrap (s23.2.1*n31))≤(i64.wrap ((i64.wrap (s23.2.1+1))*n32)) ∧
 Ae8 (σ:=(OA×Nat×Nat)×Unit) (fun J33=>
 Ae7 (σ:=(OA×Nat×Nat)×Int×Unit) (fun s36 X37 w38=>
 cond (decide (s36.2.1<((((i64.wrap ((i64.wrap (s23.2.1+1))*n32)).toNat-(i64.wrap (s23.2.1*n31)).toNat):Nat):Int)))
 ((0:Int)≤s36.2.1∧s36.2.1<(((i64.wrap ((i64.wrap (s23.2.1+1))*n32)).toNat-(i64.wrap (s23.2.1*n31)).toNat):Nat) ∧
 Ae0 (An7 s30a ((i64.wrap (s23.2.1*n31)).toNat) s30c 1) fun a39=>
 cF_ w38 (a39.add (s36.2.1.toNat*1)) fun x40=>
 Ad1 #[.float .f64 (Bn0 x40)] N.Ii0 w38 fun p41 w42=>
 Dp0 N.Ii0 1 8 #[.float .f64 0] s36.1.1 s36.1.2.1 s36.1.2.2 (some p41) 1 w42 fun s43a s43l s43c w44=>
 X37 ((s43a,s43l,s43c),(i64.wrap (s36.2.1+1)),()) w44)
 (J33 ((s36.1.1,s36.1.2.1,s36.1.2.2),()) w38))
 (((some p28),1,1),0,()) w29)
 (fun s34 w35=>
 Aa1 P N.Hv5 #[.slice s34.1.1 s34.1.2.1 s34.1.2.2,.slice s17a s17l s17c,.int .i8 0] w35 fun v46 w45=>
 ∃ x47,∃ n48,v46=(.tuple #[.float .f64 x47,.int .i64 n48]) ∧
 Ad1 #[.float .f64 x47] N.Ii0 w45 fun p49 w50=>
 Dp0 N.Ii0 1 8 #[.float .f64 0] s23.1.1 s23.1.2.1 s23.1.2.2 (some p49) 1 w50 fun s51a s51l s51c w52=>
 X24 ((s51a,s51l,s51c),(i64.wrap (s23.2.1+1)),()) w52))
 (J20 ((s23.1.1,s23.1.2.1,s23.1.2.2),()) w25))
 ((none,0,0),0,()) w18)
 (fun s21 w22=>
 Ad1 #[.slice s21.1.1 s21.1.2.1 s21.1.2.2] N.Ie1 w22 fun p53 w54=>
 Aa1 P N.Hv3 #[.slice (some p53) 1 1] w54 fun v56 w55=>
 vB_ v56 fun b57=>
 cond (!b57)
 (K (.tuple #[.slice none 0 0,.int .i64 6]) w55)
 (K (.tuple #[.slice s21.1.1 s21.1.2.1 s21.1.2.2,.int .i64 0]) w55))))
def Du6 (N:Nums) (P:Program) (qb:Int) (qc:Int) (qd:OA) (qa qf:Nat) (q1:OA) (qo qu:Nat) (q2:OA) (qy vf:Nat) (w:World) (K:KV):Prop:=
 Ad1 #[.int .i64 qb,.int .i64 qc,.slice qd qa qf] N.Ik5 w fun p1 w2=>
 cI_ w2 p1 fun n3=>
 cI_ w2 (p1.add 1) fun n4=>
 cS_ w2 (p1.add 2) fun s5a s5l s5c=>
 Aa1 P N.Ii7 #[.agg #[.int .i64 n3,.int .i64 n4,.slice s5a s5l s5c],.slice q1 qo qu,.slice q2 qy vf] w2 fun v7 w6=>
 vB_ v7 fun b8=>
 cond (!b8)
 (K (.tuple #[.slice none 0 0,.int .i64 4]) w6)
 (Ae8 (σ:=Bool×Unit) (fun J9=>
 cS_ w6 (p1.add 2) fun s12a s12l s12c=>
 Aa1 P N.Ib9 #[.slice s12a s12l s12c] w6 fun v14 w13=>
 vB_ v14 fun b15=>
 cond (!(!b15))
 (Aa1 P N.Ib9 #[.slice q1 qo qu] w13 fun v17 w16=>
 vB_ v17 fun b18=>
 cond (!(!b18))
 (Aa1 P N.Ib9 #[.slice q2 qy vf] w16 fun v20 w19=>
 vB_ v20 fun b21=>
 J9 ((!b21),()) w19)
 (J9 (true,()) w16))
 (J9 (true,()) w13))
 (fun s10 w11=>
 cond s10.1
 (K (.tuple #[.slice none 0 0,.int .i64 5]) w11)
 (Ae8 (σ:=(OA×Nat×Nat)×Unit) (fun J22=>
 Ae7 (σ:=(OA×Nat×Nat)×Int×Unit) (fun s25 X26 w27=>
 cI_ w27 p1 fun n28=>
 cond (decide (s25.2.1<n28))
 ((0:Int)≤s25.2.1∧s25.2.1<(qy:Nat) ∧
 Ae0 q2 fun a29=>
 cF_ w27 (a29.add (s25.2.1.toNat*1)) fun x30=>
 Aa1 P N.Ic7 #[.float .f64 x30] w27 fun v32 w31=>
 ∃ b33,∃ s34a s34l s34c,∃ n35,v32=(.agg #[.bool b33,.slice s34a s34l s34c,.int .i64 n35]) ∧
 Ad1 #[.bool false,.slice none 0 0,.int .i64 0] N.Ij1 w31 fun p36 w37=>
 stM p36 (.bool b33) w37 fun w38=>
 stM (p36.add 1) (.slice s34a s34l s34c) w38 fun w39=>
 stM (p36.add 2) (.int .i64 n35) w39 fun w40=>
 Ae8 (σ:=Unit) (fun J41=>
 Ae7 (σ:=Int×Unit) (fun s44 X45 w46=>
 cI_ w46 (p1.add 1) fun n47=>
 cond (decide (s44.1<n47))
 (Ae8 (σ:=(OA)×Unit) (fun J48=>
 cS_ w46 (p1.add 2) fun s51a s51l s51c=>
 cI_ w46 (p1.add 1) fun n52=>
 (0:Int)≤(i64.wrap ((i64.wrap (s25.2.1*n52))+s44.1))∧(i64.wrap ((i64.wrap (s25.2.1*n52))+s44.1))<(s51l:Nat) ∧
 Ae0 s51a fun a53=>
 ∃ x54,w46.cell? (a53.add ((i64.wrap ((i64.wrap (s25.2.1*n52))+s44.1)).toNat*1))=some (.float .f64 x54) ∧
 (0:Int)≤s44.1∧s44.1<(qo:Nat) ∧
 Ae0 q1 fun a55=>
 cF_ w46 (a55.add (s44.1.toNat*1)) fun x56=>
 (drM w46 fun w57=>
 Aa1 P N.Ic7 #[.float .f64 x54] w57 fun v59 w58=>
 ∃ b60,∃ s61a s61l s61c,∃ n62,v59=(.agg #[.bool b60,.slice s61a s61l s61c,.int .i64 n62]) ∧
 w58.cell? (a55.add (s44.1.toNat*1))=some (.float .f64 x56) ∧
 (drM w58 fun w63=>
 Aa1 P N.Ic7 #[.float .f64 x56] w63 fun v65 w64=>
 ∃ b66,∃ s67a s67l s67c,∃ n68,v65=(.agg #[.bool b66,.slice s67a s67l s67c,.int .i64 n68]) ∧
 (drM w64 fun w69=>
 Aa1 P N.Id4 #[.agg #[.bool b60,.slice s61a s61l s61c,.int .i64 n62],.agg #[.bool b66,.slice s67a s67l s67c,.int .i64 n68]] w69 fun v71 w70=>
 ∃ b72,∃ s73a s73l s73c,∃ n74,v71=(.agg #[.bool b72,.slice s73a s73l s73c,.int .i64 n74]) ∧
 drM w70 fun w75=>
 Ad1 #[.bool false,.slice none 0 0,.int .i64 0] N.Ij1 w75 fun p76 w77=>
 drM w77 fun w78=>
 stM p76 (.bool b72) w78 fun w79=>
 stM (p76.add 1) (.slice s73a s73l s73c) w79 fun w80=>
 stM (p76.add 2) (.int .i64 n74) w80 fun w81=>
 drM w81 fun w82=>
 J48 ((some p76),()) w82) ∧
 (drM w64 fun w83=>
 Ad1 #[.bool false,.slice none 0 0,.int .i64 0] N.Ij1 w83 fun p84 w85=>
 drM w85 fun w86=>
 Aa1 P N.Id4 #[.agg #[.bool b60,.slice s61a s61l s61c,.int .i64 n62],.agg #[.bool b66,.slice s67a s67l s67c,.int .i64 n68]] w86 fun v88 w87=>
 ∃ b89,∃ s90a s90l s90c,∃ n91,v88=(.agg #[.bool b89,.slice s90a s90l s90c,.int .i64 n91]) ∧
 drM w87 fun w92=>
 stM p84 (.bool b89) w92 fun w93=>
 stM (p84.add 1) (.slice s90a s90l s90c) w93 fun w94=>
 stM (p84.add 2) (.int .i64 n91) w94 fun w95=>
 drM w95 fun w96=>
 J48 ((some p84),()) w96)) ∧
 (drM w58 fun w97=>
 Ad1 #[.bool false,.slice none 0 0,.int .i64 0] N.Ij1 w97 fun p98 w99=>
 w99.cell? (a55.add (s44.1.toNat*1))=some (.float .f64 x56) ∧
 drM w99 fun w100=>
 Aa1 P N.Ic7 #[.float .f64 x56] w100 fun v102 w101=>
 ∃ b103,∃ s104a s104l s104c,∃ n105,v102=(.agg #[.bool b103,.slice s104a s104l s104c,.int .i64 n105]) ∧
 drM w101 fun w106=>
 Aa1 P N.Id4 #[.agg #[.bool b60,.slice s61a s61l s61c,.int .i64 n62],.agg #[.bool b103,.slice s104a s104l s104c,.int .i64 n105]] w106 fun v108 w107=>
 ∃ b109,∃ s110a s110l s110c,∃ n111,v108=(.agg #[.bool b109,.slice s110a s110l s110c,.int .i64 n111]) ∧
 drM w107 fun w112=>
 stM p98 (.bool b109) w112 fun w113=>
 stM (p98.add 1) (.slice s110a s110l s110c) w113 fun w114=>
 stM (p98.add 2) (.int .i64 n111) w114 fun w115=>
 drM w115 fun w116=>
 J48 ((some p98),()) w116)) ∧
 (drM w46 fun w117=>
 Ad1 #[.bool false,.slice none 0 0,.int .i64 0] N.Ij1 w117 fun p118 w119=>
 w119.cell? (a55.add (s44.1.toNat*1))=some (.float .f64 x56) ∧
 w119.cell? (a53.add ((i64.wrap ((i64.wrap (s25.2.1*n52))+s44.1)).toNat*1))=some (.float .f64 x54) ∧
 w119.cell? (p1.add 1)=some (.int .i64 n52) ∧
 w119.cell? (p1.add 2)=some (.slice s51a s51l s51c) ∧
 drM w119 fun w120=>
 Aa1 P N.Ic7 #[.float .f64 x54] w120 fun v122 w121=>
 ∃ b123,∃ s124a s124l s124c,∃ n125,v122=(.agg #[.bool b123,.slice s124a s124l s124c,.int .i64 n125]) ∧
 w121.cell? (a55.add (s44.1.toNat*1))=some (.float .f64 x56) ∧
 drM w121 fun w126=>
 Aa1 P N.Ic7 #[.float .f64 x56] w126 fun v128 w127=>
 ∃ b129,∃ s130a s130l s130c,∃ n131,v128=(.agg #[.bool b129,.slice s130a s130l s130c,.int .i64 n131]) ∧
 drM w127 fun w132=>
 Aa1 P N.Id4 #[.agg #[.bool b123,.slice s124a s124l s124c,.int .i64 n125],.agg #[.bool b129,.slice s130a s130l s130c,.int .i64 n131]] w132 fun v134 w133=>
 ∃ b135,∃ s136a s136l s136c,∃ n137,v134=(.agg #[.bool b135,.slice s136a s136l s136c,.int .i64 n137]) ∧
 drM w133 fun w138=>
 stM p118 (.bool b135) w138 fun w139=>
 stM (p118.add 1) (.slice s136a s136l s136c) w139 fun w140=>
 stM (p118.add 2) (.int .i64 n137) w140 fun w141=>
 drM w141 fun w142=>
 J48 ((some p118),()) w142))
 (fun s49 w50=>
 cB_ w50 p36 fun b143=>
 cS_ w50 (p36.add 1) fun s144a s144l s144c=>
 cI_ w50 (p36.add 2) fun n145=>
 Ae0 s49.1 fun a146=>
 cB_ w50 a146 fun b147=>
 cS_ w50 (a146.add 1) fun s148a s148l s148c=>
 cI_ w50 (a146.add 2) fun n149=>
 drM w50 fun w150=>
 Aa1 P N.Ie9 #[.agg #[.bool b147,.slice s148a s148l s148c,.int .i64 n149]] w150 fun v152 w151=>
 ∃ b153,∃ s154a s154l s154c,∃ n155,v152=(.agg #[.bool b153,.slice s154a s154l s154c,.int .i64 n155]) ∧
 w151.cell? p36=some (.bool b143) ∧
 w151.cell? (p36.add 1)=some (.slice s144a s144l s144c) ∧
 w151.cell? (p36.add 2)=some (.int .i64 n145) ∧
 drM w151 fun w156=>
 Aa1 P N.Ih9 #[.agg #[.bool b143,.slice s144a s144l s144c,.int .i64 n145],.agg #[.bool b153,.slice s154a s154l s154c,.int .i64 n155]] w156 fun v158 w157=>
 ∃ b159,∃ s160a s160l s160c,∃ n161,v158=(.agg #[.bool b159,.slice s160a s160l s160c,.int .i64 n161]) ∧
 drM w157 fun w162=>
 stM p36 (.bool b159) w162 fun w163=>
 stM (p36.add 1) (.slice s160a s160l s160c) w163 fun w164=>
 stM (p36.add 2) (.int .i64 n161) w164 fun w165=>
 drM w165 fun w166=>
 X45 ((i64.wrap (s44.1+1)),()) w166))
 (J41 (()) w46))
 (0,()) w40)
 (fun s42 w43=>
 cB_ w43 p36 fun b167=>
 cS_ w43 (p36.add 1) fun s168a s168l s168c=>
 cI_ w43 (p36.add 2) fun n169=>
 Aa1 P N.Hx9 #[.agg #[.bool b167,.slice s168a s168l s168c,.int .i64 n169],.int .i8 0] w43 fun v171 w170=>
 ∃ x172,v171=(.float .f64 x172) ∧
 Ad1 #[.float .f64 x172] N.Ii0 w170 fun p173 w174=>
 Dp0 N.Ii0 1 8 #[.float .f64 0] s25.1.1 s25.1.2.1 s25.1.2.2 (some p173) 1 w174 fun s175a s175l s175c w176=>
 X26 ((s175a,s175l,s175c),(i64.wrap (s25.2.1+1)),()) w176))
 (J22 ((s25.1.1,s25.1.2.1,s25.1.2.2),()) w27))
 ((none,0,0),0,()) w11)
 (fun s23 w24=>
 Aa1 P N.Ib9 #[.slice s23.1.1 s23.1.2.1 s23.1.2.2] w24 fun v178 w177=>
 vB_ v178 fun b179=>
 cond (!b179)
 (K (.tuple #[.slice none 0 0,.int .i64 6]) w177)
 (K (.tuple #[.slice s23.1.1 s23.1.2.1 s23.1.2.2,.int .i64 0]) w177)))))
def Ci4 (N:Nums) (P:Program) (q0:OA) (qj qm:Nat) (q1:OA) (qo qu:Nat) (w:World) (K:KV):Prop:=
 cond ((qj:Int) != (qo:Int))
 (K (.bool false) w)
 (Ae8 (σ:=Unit) (fun J1=>
 Ae7 (σ:=Int×Unit) (fun s4 X5 w6=>
 cond (decide (s4.1<(qj:Int)))
 ((0:Int)≤s4.1∧s4.1<(qj:Nat) ∧
 Ae0 q0 fun a7=>
 cF_ w6 (a7.add (s4.1.toNat*1)) fun x8=>
 (0:Int)≤s4.1∧s4.1<(qo:Nat) ∧
 Ae0 q1 fun a9=>
 cF_ w6 (a9.add (s4.1.toNat*1)) fun x10=>
 drM w6 fun w11=>
 Aa1 P N.Hx1 #[.float .f64 x8,.float .f64 x10] w11 fun v13 w12=>
 vB_ v13 fun b14=>
 drM w12 fun w15=>
 cond (!b14)
 (K (.bool false) w15)
 (X5 ((i64.wrap (s4.1+1)),()) w15))
 (J1 (()) w6))
 (0,()) w)
 (fun s2 w3=>
 K (.bool true) w3))
def Cc4 (N:Nums) (P:Program) (qb:Int) (qc:Int) (qd:OA) (qa qf:Nat) (ql:Int) (qk:Int) (qq:OA) (qs qt:Nat) (w:World) (K:KV):Prop:=
 Ad1 #[.int .i64 qb,.int .i64 qc,.slice qd qa qf] N.Ik5 w fun p1 w2=>
 Ad1 #[.int .i64 ql,.int .i64 qk,.slice qq qs qt] N.Ik5 w2 fun p3 w4=>
 cI_ w4 p1 fun n5=>
 cI_ w4 (p1.add 1) fun n6=>
 cS_ w4 (p1.add 2) fun s7a s7l s7c=>
 cI_ w4 p3 fun n8=>
 cI_ w4 (p3.add 1) fun n9=>
 cS_ w4 (p3.add 2) fun s10a s10l s10c=>
 Aa1 P N.Hw8 #[.agg #[.int .i64 n5,.int .i64 n6,.slice s7a s7l s7c],.agg #[.int .i64 n8,.int .i64 n9,.slice s10a s10l s10c]] w4 fun v12 w11=>
 vB_ v12 fun b13=>
 cond b13
 (cS_ w11 (p1.add 2) fun s14a s14l s14c=>
 cS_ w11 (p3.add 2) fun s15a s15l s15c=>
 Aa1 P N.Hy2 #[.slice s14a s14l s14c,.slice s15a s15l s15c] w11 fun v17 w16=>
 vB_ v17 fun b18=>
 K (.bool b18) w16)
 (K (.bool false) w11)
def Ch5 (N:Nums) (P:Program) (q0:OA) (qj qm:Nat) (q1:OA) (qo qu:Nat) (w:World) (K:KV):Prop:=
 cond ((qj:Int) != (qo:Int))
 (K (.bool false) w)
 ((0:Int)≤(i64.wrap ((qo:Int)+12))∧(i64.wrap ((qo:Int)+12))≤(qm:Nat) ∧
 Ae8 (σ:=Unit) (fun J1=>
 Ae7 (σ:=Int×Unit) (fun s4 X5 w6=>
 cond (decide (s4.1<(((i64.wrap ((qo:Int)+12)).toNat:Nat):Int)))
 (cond (decide (s4.1<(qo:Int)))
 ((0:Int)≤s4.1∧s4.1<((i64.wrap ((qo:Int)+12)).toNat:Nat) ∧
 Ae0 (An7 q0 0 qm 1) fun a7=>
 cF_ w6 (a7.add (s4.1.toNat*1)) fun x8=>
 (0:Int)≤s4.1∧s4.1<(qo:Nat) ∧
 Ae0 q1 fun a9=>
 cF_ w6 (a9.add (s4.1.toNat*1)) fun x10=>
 drM w6 fun w11=>
 Aa1 P N.Hx1 #[.float .f64 x8,.float .f64 x10] w11 fun v13 w12=>
 vB_ v13 fun b14=>
 cond (!(!b14))
 (cond (decide (s4.1≥(qo:Int)))
 ((0:Int)≤s4.1∧s4.1<((i64.wrap ((qo:Int)+12)).toNat:Nat) ∧
 Ae0 (An7 q0 0 qm 1) fun a15=>
 cF_ w12 (a15.add (s4.1.toNat*1)) fun x16=>
 drM w12 fun w17=>
 Aa1 P N.Il3 #[.int .i64 1,.int .i64 (i64.wrap (s4.1-(qo:Int)))] w17 fun v19 w18=>
 ∃ n20,v19=(.int .i64 n20) ∧
 w18.cell? (a15.add (s4.1.toNat*1))=some (.float .f64 x16) ∧
 drM w18 fun w21=>
 cond (!(feq x16 (FloatKind.f64.nearest n20)))
 (K (.bool false) w21)
 (X5 ((i64.wrap (s4.1+1)),()) w21))
 (drM w12 fun w22=>
 drM w22 fun w23=>
 X5 ((i64.wrap (s4.1+1)),()) w23))
 (drM w12 fun w24=>
 drM w24 fun w25=>
 K (.bool false) w25))
 (drM w6 fun w26=>
 cond (decide (s4.1≥(qo:Int)))
 ((0:Int)≤s4.1∧s4.1<((i64.wrap ((qo:Int)+12)).toNat:Nat) ∧
 Ae0 (An7 q0 0 qm 1) fun a27=>
 cF_ w26 (a27.add (s4.1.toNat*1)) fun x28=>
 drM w26 fun w29=>
 Aa1 P N.Il3 #[.int .i64 1,.int .i64 (i64.wrap (s4.1-(qo:Int)))] w29 fun v31 w30=>
 ∃ n32,v31=(.int .i64 n32) ∧
 w30.cell? (a27.add (s4.1.toNat*1))=some (.float .f64 x28) ∧
 drM w30 fun w33=>
 cond (!(feq x28 (FloatKind.f64.nearest n32)))
 (K (.bool false) w33)
 (X5 ((i64.wrap (s4.1+1)),()) w33))
 (drM w26 fun w34=>
 drM w34 fun w35=>
 X5 ((i64.wrap (s4.1+1)),()) w35)))
 (J1 (()) w6))
 (0,()) w)
 (fun s2 w3=>
 K (.bool true) w3))
def Ca5 (N:Nums) (P:Program) (qb:Int) (qc:OA) (qe qg:Nat) (qd:OA) (qa qf:Nat) (w:World) (K:KV):Prop:=
 Ad1 #[.int .i64 qb,.slice qc qe qg,.slice qd qa qf] N.Ik8 w fun p1 w2=>
 Ad1 #[.int .i64 0,.slice none 0 0,.slice none 0 0] N.Ik8 w2 fun p3 w4=>
 cS_ w4 (p1.add 1) fun s5a s5l s5c=>
 Aa1 P N.Hy1 #[.slice s5a s5l s5c] w4 fun v7 w6=>
 vS_ v7 fun s8a s8l s8c=>
 stM (p1.add 1) (.slice s8a s8l s8c) w6 fun w9=>
 cS_ w9 (p1.add 2) fun s10a s10l s10c=>
 Aa1 P N.Hy1 #[.slice s10a s10l s10c] w9 fun v12 w11=>
 vS_ v12 fun s13a s13l s13c=>
 stM (p1.add 2) (.slice s13a s13l s13c) w11 fun w14=>
 cI_ w14 p1 fun n15=>
 cS_ w14 (p1.add 1) fun s16a s16l s16c=>
 cS_ w14 (p1.add 2) fun s17a s17l s17c=>
 stM p3 (.int .i64 n15) w14 fun w18=>
 stM (p3.add 1) (.slice s16a s16l s16c) w18 fun w19=>
 stM (p3.add 2) (.slice s17a s17l s17c) w19 fun w20=>
 cI_ w20 p3 fun n21=>
 cS_ w20 (p3.add 1) fun s22a s22l s22c=>
 cS_ w20 (p3.add 2) fun s23a s23l s23c=>
 K (.agg #[.int .i64 n21,.slice s22a s22l s22c,.slice s23a s23l s23c]) w20
def Ce1 (N:Nums) (P:Program) (qb:Int) (qc:Int) (qd:OA) (qa qf:Nat) (ql:Int) (qk:OA) (qh qi:Nat) (qq:OA) (qs qt:Nat) (q2:OA) (qy vf:Nat) (q3:OA) (vm ye:Nat) (w:World) (K:KV):Prop:=
 Ad1 #[.int .i64 qb,.int .i64 qc,.slice qd qa qf] N.Ik5 w fun p1 w2=>
 Ad1 #[.int .i64 ql,.slice qk qh qi,.slice qq qs qt] N.Ik8 w2 fun p3 w4=>
 Ae8 (σ:=Bool×Unit) (fun J5=>
 cI_ w4 p1 fun n8=>
 cI_ w4 (p1.add 1) fun n9=>
 cS_ w4 (p1.add 2) fun s10a s10l s10c=>
 Aa1 P N.Ic2 #[.agg #[.int .i64 n8,.int .i64 n9,.slice s10a s10l s10c],.slice q2 qy vf,.slice q3 vm ye] w4 fun v12 w11=>
 vB_ v12 fun b13=>
 cond (!(!b13))
 (cI_ w11 p1 fun n14=>
 cI_ w11 (p1.add 1) fun n15=>
 cS_ w11 (p1.add 2) fun s16a s16l s16c=>
 cI_ w11 p3 fun n17=>
 cS_ w11 (p3.add 1) fun s18a s18l s18c=>
 cS_ w11 (p3.add 2) fun s19a s19l s19c=>
 Aa1 P N.Hz1 #[.agg #[.int .i64 n14,.int .i64 n15,.slice s16a s16l s16c],.agg #[.int .i64 n17,.slice s18a s18l s18c,.slice s19a s19l s19c]] w11 fun v21 w20=>
 vB_ v21 fun b22=>
 J5 ((!b22),()) w20)
 (J5 (true,()) w11))
 (fun s6 w7=>
 cond s6.1
 (K (.tuple #[.slice none 0 0,.int .i64 4]) w7)
 (cI_ w7 p1 fun n23=>
 cI_ w7 (p1.add 1) fun n24=>
 cS_ w7 (p1.add 2) fun s25a s25l s25c=>
 Aa1 P N.Hz3 #[.agg #[.int .i64 n23,.int .i64 n24,.slice s25a s25l s25c],.slice q2 qy vf,.slice q3 vm ye] w7 fun v27 w26=>
 ∃ s28a s28l s28c,∃ n29,v27=(.tuple #[.slice s28a s28l s28c,.int .i64 n29]) ∧
 cond (n29 != 0)
 (K (.tuple #[.slice none 0 0,.int .i64 n29]) w26)
 (cI_ w26 p3 fun n30=>
 cS_ w26 (p3.add 1) fun s31a s31l s31c=>
 cS_ w26 (p3.add 2) fun s32a s32l s32c=>
 Aa1 P N.Hx0 #[.agg #[.int .i64 n30,.slice s31a s31l s31c,.slice s32a s32l s32c],.slice s28a s28l s28c] w26 fun v34 w33=>
 ∃ s35a s35l s35c,∃ n36,v34=(.tuple #[.slice s35a s35l s35c,.int .i64 n36]) ∧
 cond (n36 != 0)
 (K (.tuple #[.slice none 0 0,.int .i64 n36]) w33)
 (Aa1 P N.Hz5 #[.slice q2 qy vf,.slice s35a s35l s35c] w33 fun v38 w37=>
 ∃ s39a s39l s39c,∃ n40,v38=(.tuple #[.slice s39a s39l s39c,.int .i64 n40]) ∧
 Ad1 #[.slice s39a s39l s39c] N.Ie1 w37 fun p41 w42=>
 Aa1 P N.Hv3 #[.slice (some p41) 1 1] w42 fun v44 w43=>
 vB_ v44 fun b45=>
 cond (!b45)
 (K (.tuple #[.slice none 0 0,.int .i64 6]) w43)
 (K (.tuple #[.slice s39a s39l s39c,.int .i64 0]) w43)))))
def Dx3 (N:Nums) (P:Program) (qb:Int) (qc:Int) (qd:OA) (qa qf:Nat) (ql:Int) (qk:OA) (qh qi:Nat) (qq:OA) (qs qt:Nat) (q2:OA) (qy vf:Nat) (q3:OA) (vm ye:Nat) (w:World) (K:KV):Prop:=
 Ad1 #[.int .i64 qb,.int .i64 qc,.slice qd qa qf] N.Ik5 w fun p1 w2=>
 Ad1 #[.int .i64 ql,.slice qk qh qi,.slice qq qs qt] N.Ik8 w2 fun p3 w4=>
 Ae8 (σ:=Bool×Unit) (fun J5=>
 cI_ w4 p1 fun n8=>
 cI_ w4 (p1.add 1) fun n9=>
 cS_ w4 (p1.add 2) fun s10a s10l s10c=>
 Aa1 P N.Ii7 #[.agg #[.int .i64 n8,.int .i64 n9,.slice s10a s10l s10c],.slice q2 qy vf,.slice q3 vm ye] w4 fun v12 w11=>
 vB_ v12 fun b13=>
 cond (!(!b13))
 (cI_ w11 p1 fun n14=>
 cI_ w11 (p1.add 1) fun n15=>
 cS_ w11 (p1.add 2) fun s16a s16l s16c=>
 cI_ w11 p3 fun n17=>
 cS_ w11 (p3.add 1) fun s18a s18l s18c=>
 cS_ w11 (p3.add 2) fun s19a s19l s19c=>
 Aa1 P N.If8 #[.agg #[.int .i64 n14,.int .i64 n15,.slice s16a s16l s16c],.agg #[.int .i64 n17,.slice s18a s18l s18c,.slice s19a s19l s19c]] w11 fun v21 w20=>
 vB_ v21 fun b22=>
 J5 ((!b22),()) w20)
 (J5 (true,()) w11))
 (fun s6 w7=>
 cond s6.1
 (K (.tuple #[.slice none 0 0,.int .i64 4]) w7)
 (cI_ w7 p1 fun n23=>
 cI_ w7 (p1.add 1) fun n24=>
 cS_ w7 (p1.add 2) fun s25a s25l s25c=>
 Aa1 P N.Ig1 #[.agg #[.int .i64 n23,.int .i64 n24,.slice s25a s25l s25c],.slice q2 qy vf,.slice q3 vm ye] w7 fun v27 w26=>
 ∃ s28a s28l s28c,∃ n29,v27=(.tuple #[.slice s28a s28l s28c,.int .i64 n29]) ∧
 cond (n29 != 0)
 (K (.tuple #[.slice none 0 0,.int .i64 n29]) w26)
 (cI_ w26 p3 fun n30=>
 cS_ w26 (p3.add 1) fun s31a s31l s31c=>
 cS_ w26 (p3.add 2) fun s32a s32l s32c=>
 Aa1 P N.Ic9 #[.agg #[.int .i64 n30,.slice s31a s31l s31c,.slice s32a s32l s32c],.slice s28a s28l s28c] w26 fun v34 w33=>
 ∃ s35a s35l s35c,∃ n36,v34=(.tuple #[.slice s35a s35l s35c,.int .i64 n36]) ∧
 cond (n36 != 0)
 (K (.tuple #[.slice none 0 0,.int .i64 n36]) w33)
 (Ae8 (σ:=(OA×Nat×Nat)×Unit) (fun J37=>
 Ae7 (σ:=(OA×Nat×Nat)×Int×Unit) (fun s40 X41 w42=>
 cond (decide (s40.2.1<(qy:Int)))
 ((0:Int)≤s40.2.1∧s40.2.1<(qy:Nat) ∧
 Ae0 q2 fun a43=>
 cF_ w42 (a43.add (s40.2.1.toNat*1)) fun x44=>
 (0:Int)≤s40.2.1∧s40.2.1<(s35l:Nat) ∧
 Ae0 s35a fun a45=>
 cF_ w42 (a45.add (s40.2.1.toNat*1)) fun x46=>
 At5 (As2 x44 x46) w42 fun x47 w48=>
 drM w42 fun w49=>
 Ad1 #[.float .f64 x47] N.Ii0 w49 fun p50 w51=>
 drM w51 fun w52=>
 Dp0 N.Ii0 1 8 #[.float .f64 0] s40.1.1 s40.1.2.1 s40.1.2.2 (some p50) 1 w52 fun s53a s53l s53c w54=>
 drM w54 fun w55=>
 X41 ((s53a,s53l,s53c),(i64.wrap (s40.2.1+1)),()) w55)
 (J37 ((s40.1.1,s40.1.2.1,s40.1.2.2),()) w42))
 ((none,0,0),0,()) w33)
 (fun s38 w39=>
 Aa1 P N.Ib9 #[.slice s38.1.1 s38.1.2.1 s38.1.2.2] w39 fun v57 w56=>
 vB_ v57 fun b58=>
 cond (!b58)
 (K (.tuple #[.slice none 0 0,.int .i64 6]) w56)
 (K (.tuple #[.slice s38.1.1 s38.1.2.1 s38.1.2.2,.int .i64 0]) w56))))))
def Bz8 (N:Nums) (P:Program) (qb:Int) (qc:OA) (qe qg:Nat) (qd:OA) (qa qf:Nat) (ql:Int) (qk:OA) (qh qi:Nat) (qq:OA) (qs qt:Nat) (w:World) (K:KV):Prop:=
 Ad1 #[.int .i64 qb,.slice qc qe qg,.slice qd qa qf] N.Ik8 w fun p1 w2=>
 Ad1 #[.int .i64 ql,.slice qk qh qi,.slice qq qs qt] N.Ik8 w2 fun p3 w4=>
 cI_ w4 p1 fun n5=>
 cS_ w4 (p1.add 1) fun s6a s6l s6c=>
 cS_ w4 (p1.add 2) fun s7a s7l s7c=>
 cI_ w4 p3 fun n8=>
 cS_ w4 (p3.add 1) fun s9a s9l s9c=>
 cS_ w4 (p3.add 2) fun s10a s10l s10c=>
 Aa1 P N.Hv6 #[.agg #[.int .i64 n5,.slice s6a s6l s6c,.slice s7a s7l s7c],.agg #[.int .i64 n8,.slice s9a s9l s9c,.slice s10a s10l s10c]] w4 fun v12 w11=>
 vB_ v12 fun b13=>
 cond b13
 (cS_ w11 (p1.add 1) fun s14a s14l s14c=>
 cS_ w11 (p3.add 1) fun s15a s15l s15c=>
 Aa1 P N.Hy2 #[.slice s14a s14l s14c,.slice s15a s15l s15c] w11 fun v17 w16=>
 vB_ v17 fun b18=>
 cond b18
 (cS_ w16 (p1.add 2) fun s19a s19l s19c=>
 cS_ w16 (p3.add 2) fun s20a s20l s20c=>
 Aa1 P N.Hy2 #[.slice s19a s19l s19c,.slice s20a s20l s20c] w16 fun v22 w21=>
 vB_ v22 fun b23=>
 K (.bool b23) w21)
 (K (.bool false) w16))
 (K (.bool false) w11)
def By7 (N:Nums) (P:Program) (qb:Int) (qc:Int) (qd:OA) (qa qf:Nat) (ql:Int) (qk:OA) (qh qi:Nat) (qq:OA) (qs qt:Nat) (q2:OA) (qy vf:Nat) (q3:Int) (w:World) (K:KV):Prop:=
 Ad1 #[.int .i64 qb,.int .i64 qc,.slice qd qa qf] N.Ik5 w fun p1 w2=>
 Ad1 #[.int .i64 ql,.slice qk qh qi,.slice qq qs qt] N.Ik8 w2 fun p3 w4=>
 Ae8 (σ:=Bool×Unit) (fun J5=>
 cond (!(decide (q3<0)))
 (J5 ((decide (q3>64)),()) w4)
 (J5 (true,()) w4))
 (fun s6 w7=>
 cond s6.1
 (K (.tuple #[.slice none 0 0,.int .i64 0,.int .i64 2]) w7)
 (Ae8 (σ:=Bool×Unit) (fun J8=>
 cI_ w7 p1 fun n11=>
 cI_ w7 (p1.add 1) fun n12=>
 cS_ w7 (p1.add 2) fun s13a s13l s13c=>
 cI_ w7 p3 fun n14=>
 cS_ w7 (p3.add 1) fun s15a s15l s15c=>
 cS_ w7 (p3.add 2) fun s16a s16l s16c=>
 Aa1 P N.Hz1 #[.agg #[.int .i64 n11,.int .i64 n12,.slice s13a s13l s13c],.agg #[.int .i64 n14,.slice s15a s15l s15c,.slice s16a s16l s16c]] w7 fun v18 w17=>
 vB_ v18 fun b19=>
 cond (!(!b19))
 (cI_ w17 p1 fun n20=>
 J8 (((qy:Int) != n20),()) w17)
 (J8 (true,()) w17))
 (fun s9 w10=>
 cond s9.1
 (K (.tuple #[.slice none 0 0,.int .i64 0,.int .i64 4]) w10)
 (cS_ w10 (p1.add 2) fun s21a s21l s21c=>
 Ad1 #[.slice s21a s21l s21c,.slice q2 qy vf] N.Ie1 w10 fun p22 w23=>
 Aa1 P N.Hv3 #[.slice (some p22) 2 2] w23 fun v25 w24=>
 vB_ v25 fun b26=>
 cond (!b26)
 (K (.tuple #[.slice none 0 0,.int .i64 0,.int .i64 5]) w24)
 (cI_ w24 p3 fun n27=>
 cS_ w24 (p3.add 1) fun s28a s28l s28c=>
 cS_ w24 (p3.add 2) fun s29a s29l s29c=>
 Aa1 P N.Hx0 #[.agg #[.int .i64 n27,.slice s28a s28l s28c,.slice s29a s29l s29c],.slice q2 qy vf] w24 fun v31 w30=>
 ∃ s32a s32l s32c,∃ n33,v31=(.tuple #[.slice s32a s32l s32c,.int .i64 n33]) ∧
 cond (n33 != 0)
 (K (.tuple #[.slice none 0 0,.int .i64 0,.int .i64 n33]) w30)
 (Ad1 #[.slice s32a s32l s32c] N.Ie1 w30 fun p34 w35=>
 Aa1 P N.Hv3 #[.slice (some p34) 1 1] w35 fun v37 w36=>
 vB_ v37 fun b38=>
 cond (!b38)
 (K (.tuple #[.slice none 0 0,.int .i64 0,.int .i64 6]) w36)
 (cI_ w36 p1 fun n39=>
 cI_ w36 (p1.add 1) fun n40=>
 cS_ w36 (p1.add 2) fun s41a s41l s41c=>
 Aa1 P N.Hz3 #[.agg #[.int .i64 n39,.int .i64 n40,.slice s41a s41l s41c],.slice s32a s32l s32c,.slice q2 qy vf] w36 fun v43 w42=>
 ∃ s44a s44l s44c,∃ n45,v43=(.tuple #[.slice s44a s44l s44c,.int .i64 n45]) ∧
 cond (n45 != 0)
 (K (.tuple #[.slice none 0 0,.int .i64 0,.int .i64 n45]) w42)
 (Aa1 P N.Hy4 #[.slice s44a s44l s44c] w42 fun v47 w46=>
 ∃ x48,v47=(.float .f64 x48) ∧
 Ae8 (σ:=(OA×Nat×Nat)×Unit) (fun J49=>
 Ae7 (σ:=(OA×Nat×Nat)×Nat×Int×Unit) (fun s52 X53 w54=>
 cond (decide (s52.2.2.1<q3))
 (cI_ w54 p1 fun n55=>
 cI_ w54 (p1.add 1) fun n56=>
 cS_ w54 (p1.add 2) fun s57a s57l s57c=>
 cI_ w54 p3 fun n58=>
 cS_ w54 (p3.add 1) fun s59a s59l s59c=>
 cS_ w54 (p3.add 2) fun s60a s60l s60c=>
 Aa1 P N.Hy0 #[.agg #[.int .i64 n55,.int .i64 n56,.slice s57a s57l s57c],.agg #[.int .i64 n58,.slice s59a s59l s59c,.slice s60a s60l s60c],.slice s52.1.1 s52.1.2.1 s52.1.2.2,.slice q2 qy vf] w54 fun v62 w61=>
 ∃ s63a s63l s63c,∃ n64,v62=(.tuple #[.slice s63a s63l s63c,.int .i64 n64]) ∧
 cond (n64 != 0)
 (K (.tuple #[.slice s52.1.1 s52.1.2.1 s52.1.2.2,.int .i64 s52.2.2.1,.int .i64 0]) w61)
 (cI_ w61 p1 fun n65=>
 cI_ w61 (p1.add 1) fun n66=>
 cS_ w61 (p1.add 2) fun s67a s67l s67c=>
 Aa1 P N.Hz3 #[.agg #[.int .i64 n65,.int .i64 n66,.slice s67a s67l s67c],.slice s63a s63l s63c,.slice q2 qy vf] w61 fun v69 w68=>
 ∃ s70a s70l s70c,∃ n71,v69=(.tuple #[.slice s70a s70l s70c,.int .i64 n71]) ∧
 cond (!(n71 != 0))
 (Aa1 P N.Hy4 #[.slice s70a s70l s70c] w68 fun v73 w72=>
 ∃ x74,v73=(.float .f64 x74) ∧
 cond (fgt x74 s52.2.1||feq x74 s52.2.1)
 (K (.tuple #[.slice s52.1.1 s52.1.2.1 s52.1.2.2,.int .i64 s52.2.2.1,.int .i64 0]) w72)
 (Aa1 P N.Hy4 #[.slice s70a s70l s70c] w72 fun v76 w75=>
 ∃ x77,v76=(.float .f64 x77) ∧
 X53 ((s63a,s63l,s63c),x77,(i64.wrap (s52.2.2.1+1)),()) w75))
 (K (.tuple #[.slice s52.1.1 s52.1.2.1 s52.1.2.2,.int .i64 s52.2.2.1,.int .i64 0]) w68)))
 (J49 ((s52.1.1,s52.1.2.1,s52.1.2.2),()) w54))
 ((s32a,s32l,s32c),x48,0,()) w46)
 (fun s50 w51=>
 K (.tuple #[.slice s50.1.1 s50.1.2.1 s50.1.2.2,.int .i64 q3,.int .i64 0]) w51)))))))))
def Db4 (N:Nums) (P:Program) (qb:Int) (qc:Int) (qd:OA) (qa qf:Nat) (ql:Int) (qk:OA) (qh qi:Nat) (qq:OA) (qs qt:Nat) (q2:OA) (qy vf:Nat) (q3:Int) (w:World) (K:KV):Prop:=
 Ad1 #[.int .i64 qb,.int .i64 qc,.slice qd qa qf] N.Ik5 w fun p1 w2=>
 Ad1 #[.int .i64 ql,.slice qk qh qi,.slice qq qs qt] N.Ik8 w2 fun p3 w4=>
 Ae8 (σ:=Bool×Unit) (fun J5=>
 cond (!(decide (q3<0)))
 (J5 ((decide (q3>64)),()) w4)
 (J5 (true,()) w4))
 (fun s6 w7=>
 cond s6.1
 (K (.tuple #[.slice none 0 0,.int .i64 0,.int .i64 2]) w7)
 (Ae8 (σ:=Bool×Unit) (fun J8=>
 cI_ w7 p1 fun n11=>
 cI_ w7 (p1.add 1) fun n12=>
 cS_ w7 (p1.add 2) fun s13a s13l s13c=>
 cI_ w7 p3 fun n14=>
 cS_ w7 (p3.add 1) fun s15a s15l s15c=>
 cS_ w7 (p3.add 2) fun s16a s16l s16c=>
 Aa1 P N.If8 #[.agg #[.int .i64 n11,.int .i64 n12,.slice s13a s13l s13c],.agg #[.int .i64 n14,.slice s15a s15l s15c,.slice s16a s16l s16c]] w7 fun v18 w17=>
 vB_ v18 fun b19=>
 cond (!(!b19))
 (cI_ w17 p1 fun n20=>
 J8 (((qy:Int) != n20),()) w17)
 (J8 (true,()) w17))
 (fun s9 w10=>
 cond s9.1
 (K (.tuple #[.slice none 0 0,.int .i64 0,.int .i64 4]) w10)
 (Ae8 (σ:=Bool×Unit) (fun J21=>
 cS_ w10 (p1.add 2) fun s24a s24l s24c=>
 Aa1 P N.Ib9 #[.slice s24a s24l s24c] w10 fun v26 w25=>
 vB_ v26 fun b27=>
 cond (!(!b27))
 (Aa1 P N.Ib9 #[.slice q2 qy vf] w25 fun v29 w28=>
 vB_ v29 fun b30=>
 J21 ((!b30),()) w28)
 (J21 (true,()) w25))
 (fun s22 w23=>
 cond s22.1
 (K (.tuple #[.slice none 0 0,.int .i64 0,.int .i64 5]) w23)
 (cI_ w23 p3 fun n31=>
 cS_ w23 (p3.add 1) fun s32a s32l s32c=>
 cS_ w23 (p3.add 2) fun s33a s33l s33c=>
 Aa1 P N.Ic9 #[.agg #[.int .i64 n31,.slice s32a s32l s32c,.slice s33a s33l s33c],.slice q2 qy vf] w23 fun v35 w34=>
 ∃ s36a s36l s36c,∃ n37,v35=(.tuple #[.slice s36a s36l s36c,.int .i64 n37]) ∧
 cond (n37 != 0)
 (K (.tuple #[.slice none 0 0,.int .i64 0,.int .i64 n37]) w34)
 (Aa1 P N.Ib9 #[.slice s36a s36l s36c] w34 fun v39 w38=>
 vB_ v39 fun b40=>
 cond (!b40)
 (K (.tuple #[.slice none 0 0,.int .i64 0,.int .i64 6]) w38)
 (cI_ w38 p1 fun n41=>
 cI_ w38 (p1.add 1) fun n42=>
 cS_ w38 (p1.add 2) fun s43a s43l s43c=>
 Aa1 P N.Ig1 #[.agg #[.int .i64 n41,.int .i64 n42,.slice s43a s43l s43c],.slice s36a s36l s36c,.slice q2 qy vf] w38 fun v45 w44=>
 ∃ s46a s46l s46c,∃ n47,v45=(.tuple #[.slice s46a s46l s46c,.int .i64 n47]) ∧
 cond (n47 != 0)
 (K (.tuple #[.slice none 0 0,.int .i64 0,.int .i64 n47]) w44)
 (Aa1 P N.Ig9 #[.slice s46a s46l s46c] w44 fun v49 w48=>
 ∃ x50,v49=(.float .f64 x50) ∧
 Ae8 (σ:=(OA×Nat×Nat)×Int×Unit) (fun J51=>
 Ae7 (σ:=(OA×Nat×Nat)×Nat×Int×Unit) (fun s54 X55 w56=>
 cond (decide (s54.2.2.1<q3))
 (cI_ w56 p1 fun n57=>
 cI_ w56 (p1.add 1) fun n58=>
 cS_ w56 (p1.add 2) fun s59a s59l s59c=>
 cI_ w56 p3 fun n60=>
 cS_ w56 (p3.add 1) fun s61a s61l s61c=>
 cS_ w56 (p3.add 2) fun s62a s62l s62c=>
 Aa1 P N.Ig6 #[.agg #[.int .i64 n57,.int .i64 n58,.slice s59a s59l s59c],.agg #[.int .i64 n60,.slice s61a s61l s61c,.slice s62a s62l s62c],.slice s54.1.1 s54.1.2.1 s54.1.2.2,.slice q2 qy vf] w56 fun v64 w63=>
 ∃ s65a s65l s65c,∃ n66,v64=(.tuple #[.slice s65a s65l s65c,.int .i64 n66]) ∧
 cond (n66 != 0)
 (J51 ((s54.1.1,s54.1.2.1,s54.1.2.2),s54.2.2.1,()) w63)
 (cI_ w63 p1 fun n67=>
 cI_ w63 (p1.add 1) fun n68=>
 cS_ w63 (p1.add 2) fun s69a s69l s69c=>
 Aa1 P N.Ig1 #[.agg #[.int .i64 n67,.int .i64 n68,.slice s69a s69l s69c],.slice s65a s65l s65c,.slice q2 qy vf] w63 fun v71 w70=>
 ∃ s72a s72l s72c,∃ n73,v71=(.tuple #[.slice s72a s72l s72c,.int .i64 n73]) ∧
 cond (!(n73 != 0))
 (Aa1 P N.Ig9 #[.slice s72a s72l s72c] w70 fun v75 w74=>
 ∃ x76,v75=(.float .f64 x76) ∧
 cond (!(flt x76 s54.2.1))
 (J51 ((s54.1.1,s54.1.2.1,s54.1.2.2),s54.2.2.1,()) w74)
 (Aa1 P N.Ig9 #[.slice s72a s72l s72c] w74 fun v78 w77=>
 ∃ x79,v78=(.float .f64 x79) ∧
 X55 ((s65a,s65l,s65c),x79,(i64.wrap (s54.2.2.1+1)),()) w77))
 (J51 ((s54.1.1,s54.1.2.1,s54.1.2.2),s54.2.2.1,()) w70)))
 (J51 ((s54.1.1,s54.1.2.1,s54.1.2.2),s54.2.2.1,()) w56))
 ((s36a,s36l,s36c),x50,0,()) w48)
 (fun s52 w53=>
 K (.tuple #[.slice s52.1.1 s52.1.2.1 s52.1.2.2,.int .i64 s52.2.1,.int .i64 0]) w53))))))))))
def Ck4 (N:Nums) (P:Program) (qb:Int) (qc:OA) (qe qg:Nat) (qd:OA) (qa qf:Nat) (q1:OA) (qo qu:Nat) (w:World) (K:KV):Prop:=
 Ad1 #[.int .i64 qb,.slice qc qe qg,.slice qd qa qf] N.Ik8 w fun p1 w2=>
 cI_ w2 p1 fun n3=>
 cS_ w2 (p1.add 1) fun s4a s4l s4c=>
 cS_ w2 (p1.add 2) fun s5a s5l s5c=>
 Aa1 P N.Hv2 #[.agg #[.int .i64 n3,.slice s4a s4l s4c,.slice s5a s5l s5c],.slice q1 qo qu] w2 fun v7 w6=>
 ∃ s8a s8l s8c,∃ n9,v7=(.tuple #[.slice s8a s8l s8c,.int .i64 n9]) ∧
 cond (n9 != 0)
 (K (.tuple #[.slice none 0 0,.int .i64 n9]) w6)
 (cI_ w6 p1 fun n10=>
 cS_ w6 (p1.add 1) fun s11a s11l s11c=>
 cS_ w6 (p1.add 2) fun s12a s12l s12c=>
 Aa1 P N.Ic6 #[.agg #[.int .i64 n10,.slice s11a s11l s11c,.slice s12a s12l s12c],.slice s8a s8l s8c] w6 fun v14 w13=>
 ∃ s15a s15l s15c,∃ n16,v14=(.tuple #[.slice s15a s15l s15c,.int .i64 n16]) ∧
 K (.tuple #[.slice s15a s15l s15c,.int .i64 n16]) w13)
def Ce4 (N:Nums) (P:Program) (q0:OA) (qj qm:Nat) (q1:OA) (qo qu:Nat) (w:World) (K:KV):Prop:=
 cond ((qj:Int) != (qo:Int))
 (K (.bool false) w)
 (Ae8 (σ:=Unit) (fun J1=>
 Ae7 (σ:=Int×Unit) (fun s4 X5 w6=>
 cond (decide (s4.1<(qj:Int)))
 ((0:Int)≤s4.1∧s4.1<(qj:Nat) ∧
 Ae0 q0 fun a7=>
 cF_ w6 (a7.add (s4.1.toNat*1)) fun x8=>
 (0:Int)≤s4.1∧s4.1<(qo:Nat) ∧
 Ae0 q1 fun a9=>
 cF_ w6 (a9.add (s4.1.toNat*1)) fun x10=>
 drM w6 fun w11=>
 Aa1 P N.Ik2 #[.float .f64 x8,.float .f64 x10] w11 fun v13 w12=>
 vB_ v13 fun b14=>
 drM w12 fun w15=>
 cond (!b14)
 (K (.bool false) w15)
 (X5 ((i64.wrap (s4.1+1)),()) w15))
 (J1 (()) w6))
 (0,()) w)
 (fun s2 w3=>
 K (.bool true) w3))
def Er6 (N:Nums) (P:Program)  (w:World) (K:KV):Prop:=
 Ad1 #[.int .i64 0,.int .i64 0,.slice none 0 0] N.Ik5 w fun p1 w2=>
 Ad1 #[.int .i64 0,.slice none 0 0,.slice none 0 0] N.Ik8 w2 fun p3 w4=>
 Ad1 #[.float .f64 4616189618054758400,.float .f64 4607182418800017408,.float .f64 4607182418800017408,.float .f64 4613937818241073152] N.Ii0 w4 fun p5 w6=>
 Ad1 #[.float .f64 4598175219545276416] N.Ii0 w6 fun p7 w8=>
 Ad1 #[.float .f64 4616189618054758400,.float .f64 4613374868287651840] N.Ii0 w8 fun p9 w10=>
 stM p1 (.int .i64 2) w10 fun w11=>
 stM (p1.add 1) (.int .i64 2) w11 fun w12=>
 stM (p1.add 2) (.slice (some p5) 4 4) w12 fun w13=>
 stM p3 (.int .i64 2) w13 fun w14=>
 stM (p3.add 1) (.slice (some p7) 1 1) w14 fun w15=>
 stM (p3.add 2) (.slice (some p9) 2 2) w15 fun w16=>
 cI_ w16 p1 fun n17=>
 cI_ w16 (p1.add 1) fun n18=>
 cS_ w16 (p1.add 2) fun s19a s19l s19c=>
 cI_ w16 p3 fun n20=>
 cS_ w16 (p3.add 1) fun s21a s21l s21c=>
 cS_ w16 (p3.add 2) fun s22a s22l s22c=>
 K (.tuple #[.agg #[.int .i64 n17,.int .i64 n18,.slice s19a s19l s19c],.agg #[.int .i64 n20,.slice s21a s21l s21c,.slice s22a s22l s22c]]) w16
def Fk9 (N:Nums) (P:Program) (q0:Int) (q1:Int) (w:World) (K:KV):Prop:=
 K (.int .i64 (i64.wrap ((i64.wrap (1000003*(i64.wrap (q0+7))))+q1))) w
def Cq4 (N:Nums) (P:Program) (qb:Int) (qc:Int) (qd:OA) (qa qf:Nat) (q1:OA) (qo qu:Nat) (q2:OA) (qy vf:Nat) (w:World) (K:KV):Prop:=
 Ad1 #[.int .i64 qb,.int .i64 qc,.slice qd qa qf] N.Ik5 w fun p1 w2=>
 cI_ w2 p1 fun n3=>
 cI_ w2 (p1.add 1) fun n4=>
 cS_ w2 (p1.add 2) fun s5a s5l s5c=>
 Aa1 P N.Hv9 #[.agg #[.int .i64 n3,.int .i64 n4,.slice s5a s5l s5c]] w2 fun v7 w6=>
 vB_ v7 fun b8=>
 cond b8
 (cI_ w6 (p1.add 1) fun n9=>
 cond ((qo:Int)==n9)
 (cI_ w6 p1 fun n10=>
 K (.bool ((qy:Int)==n10)) w6)
 (K (.bool false) w6))
 (K (.bool false) w6)
def Bt6 (N:Nums) (P:Program) (q0:OA) (qj qm:Nat) (w:World) (K:KV):Prop:=
 Ae8 (σ:=Unit) (fun J1=>
 Ae7 (σ:=Int×Unit) (fun s4 X5 w6=>
 cond (decide (s4.1<(qj:Int)))
 ((0:Int)≤s4.1∧s4.1<(qj:Nat) ∧
 Ae0 q0 fun a7=>
 cS_ w6 (a7.add (s4.1.toNat*1)) fun s8a s8l s8c=>
 Ae8 (σ:=Unit) (fun J9=>
 Ae7 (σ:=Int×Unit) (fun s12 X13 w14=>
 cond (decide (s12.1<(s8l:Int)))
 ((0:Int)≤s12.1∧s12.1<(s8l:Nat) ∧
 Ae0 s8a fun a15=>
 cF_ w14 (a15.add (s12.1.toNat*1)) fun x16=>
 At5 (Bn1 x16 x16) w14 fun x17 w18=>
 cond (!feq x17 0)
 (K (.bool false) w18)
 (X13 ((i64.wrap (s12.1+1)),()) w18))
 (J9 (()) w14))
 (0,()) w6)
 (fun s10 w11=>
 X5 ((i64.wrap (s4.1+1)),()) w11))
 (J1 (()) w6))
 (0,()) w)
 (fun s2 w3=>
 K (.bool true) w3)
def Bt3 (N:Nums) (P:Program) (q0:OA) (qj qm:Nat) (q1:OA) (qo qu:Nat) (q2:Int) (w:World) (K:KV):Prop:=
 Ad1 #[.slice q0 qj qm] N.Ie1 w fun p1 w2=>
 Ad1 #[.slice q1 qo qu] N.Ie1 w2 fun p3 w4=>
 cS_ w4 p1 fun s5a s5l s5c=>
 cS_ w4 p3 fun s6a s6l s6c=>
 cond ((s5l:Int) != (s6l:Int))
 (K (.tuple #[.float .f64 0,.int .i64 4]) w4)
 (cS_ w4 p1 fun s7a s7l s7c=>
 Aa1 P N.Hx7 #[.slice s7a s7l s7c] w4 fun v9 w8=>
 vB_ v9 fun b10=>
 cond (!(!b10))
 (cS_ w8 p3 fun s11a s11l s11c=>
 Aa1 P N.Hx7 #[.slice s11a s11l s11c] w8 fun v13 w12=>
 vB_ v13 fun b14=>
 cond (!b14)
 (K (.tuple #[.float .f64 0,.int .i64 5]) w12)
 (cS_ w12 p1 fun s15a s15l s15c=>
 Aa1 P N.Ia3 #[.int .i64 (s15l:Int),.func (.func N.Hu8) #[] #[.pointer (some p1),.pointer (some p3)]] w12 fun v17 w16=>
 ∃ b18,∃ s19a s19l s19c,∃ n20,v17=(.agg #[.bool b18,.slice s19a s19l s19c,.int .i64 n20]) ∧
 Ad1 #[.bool false,.slice none 0 0,.int .i64 0] N.Im3 w16 fun p21 w22=>
 stM p21 (.bool b18) w22 fun w23=>
 stM (p21.add 1) (.slice s19a s19l s19c) w23 fun w24=>
 stM (p21.add 2) (.int .i64 n20) w24 fun w25=>
 cB_ w25 p21 fun b26=>
 cS_ w25 (p21.add 1) fun s27a s27l s27c=>
 cI_ w25 (p21.add 2) fun n28=>
 Aa1 P N.Ic4 #[.agg #[.bool b26,.slice s27a s27l s27c,.int .i64 n28],.int .i8 q2] w25 fun v30 w29=>
 ∃ x31,∃ n32,v30=(.tuple #[.float .f64 x31,.int .i64 n32]) ∧
 K (.tuple #[.float .f64 x31,.int .i64 n32]) w29))
 (K (.tuple #[.float .f64 0,.int .i64 5]) w8))
def En6 (N:Nums) (P:Program) (qb:Int) (qc:Int) (qd:OA) (qa qf:Nat) (q1:OA) (qo qu:Nat) (q2:OA) (qy vf:Nat) (w:World) (K:KV):Prop:=
 Ad1 #[.int .i64 qb,.int .i64 qc,.slice qd qa qf] N.Ik5 w fun p1 w2=>
 cI_ w2 p1 fun n3=>
 cI_ w2 (p1.add 1) fun n4=>
 cS_ w2 (p1.add 2) fun s5a s5l s5c=>
 Aa1 P N.Ic8 #[.agg #[.int .i64 n3,.int .i64 n4,.slice s5a s5l s5c]] w2 fun v7 w6=>
 vB_ v7 fun b8=>
 cond b8
 (cI_ w6 (p1.add 1) fun n9=>
 cond ((qo:Int)==n9)
 (cI_ w6 p1 fun n10=>
 K (.bool ((qy:Int)==n10)) w6)
 (K (.bool false) w6))
 (K (.bool false) w6)
def Ct8 (N:Nums) (P:Program) (q0:OA) (qj qm:Nat) (w:World) (K:KV):Prop:=
 Ae8 (σ:=Unit) (fun J1=>
 Ae7 (σ:=Int×Unit) (fun s4 X5 w6=>
 cond (decide (s4.1<(qj:Int)))
 ((0:Int)≤s4.1∧s4.1<(qj:Nat) ∧
 Ae0 q0 fun a7=>
 cF_ w6 (a7.add (s4.1.toNat*1)) fun x8=>
 (0:Int)≤s4.1∧s4.1<(qj:Nat) ∧
 Ae0 q0 fun a9=>
 cF_ w6 (a9.add (s4.1.toNat*1)) fun x10=>
 At5 (Bn1 x8 x10) w6 fun x11 w12=>
 drM w6 fun w13=>
 cond (!feq x11 0)
 (K (.bool false) w13)
 (X5 ((i64.wrap (s4.1+1)),()) w13))
 (J1 (()) w6))
 (0,()) w)
 (fun s2 w3=>
 K (.bool true) w3)
def Dj1 (N:Nums) (P:Program) (q0:Nat) (w:World) (K:KV):Prop:=
 Ad1 #[.bool false,.slice none 0 0,.int .i64 0] N.Ij1 w fun p1 w2=>
 Aa1 P N.Id7 #[.float .f64 q0] w2 fun v4 w3=>
 ∃ b5,∃ n6,∃ n7,∃ b8,v4=(.tuple #[.agg #[.bool b5,.int .u64 n6,.int .i64 n7],.bool b8]) ∧
 Ad1 #[.bool false,.int .u64 0,.int .i64 0] N.Im2 w3 fun p9 w10=>
 stM p9 (.bool b5) w10 fun w11=>
 stM (p9.add 1) (.int .u64 n6) w11 fun w12=>
 stM (p9.add 2) (.int .i64 n7) w12 fun w13=>
 cB_ w13 p9 fun b14=>
 cU_ w13 (p9.add 1) fun n15=>
 cI_ w13 (p9.add 2) fun n16=>
 drM w13 fun w17=>
 Aa1 P N.Id5 #[.int .u64 n15] w17 fun v19 w18=>
 vS_ v19 fun s20a s20l s20c=>
 w18.cell? (p9.add 2)=some (.int .i64 n16) ∧
 w18.cell? p9=some (.bool b14) ∧
 drM w18 fun w21=>
 stM p1 (.bool b14) w21 fun w22=>
 stM (p1.add 1) (.slice s20a s20l s20c) w22 fun w23=>
 stM (p1.add 2) (.int .i64 n16) w23 fun w24=>
 drM w24 fun w25=>
 cB_ w25 p1 fun b26=>
 cS_ w25 (p1.add 1) fun s27a s27l s27c=>
 cI_ w25 (p1.add 2) fun n28=>
 K (.agg #[.bool b26,.slice s27a s27l s27c,.int .i64 n28]) w25
def Dh5 (N:Nums) (P:Program) (qb:Bool) (qc:OA) (qe qg:Nat) (qd:Int) (ql:Bool) (qk:OA) (qh qi:Nat) (qq:Int) (w:World) (K:KV):Prop:=
 Ad1 #[.bool qb,.slice qc qe qg,.int .i64 qd] N.Ij1 w fun p1 w2=>
 Ad1 #[.bool ql,.slice qk qh qi,.int .i64 qq] N.Ij1 w2 fun p3 w4=>
 Ad1 #[.bool false,.slice none 0 0,.int .i64 0] N.Ij1 w4 fun p5 w6=>
 cB_ w6 p1 fun b7=>
 cB_ w6 p3 fun b8=>
 cS_ w6 (p1.add 1) fun s9a s9l s9c=>
 cS_ w6 (p3.add 1) fun s10a s10l s10c=>
 cI_ w6 (p1.add 2) fun n11=>
 cI_ w6 (p3.add 2) fun n12=>
 drM w6 fun w13=>
 Aa1 P N.Ic5 #[.slice s9a s9l s9c,.slice s10a s10l s10c] w13 fun v15 w14=>
 vS_ v15 fun s16a s16l s16c=>
 w14.cell? (p3.add 2)=some (.int .i64 n12) ∧
 w14.cell? (p1.add 2)=some (.int .i64 n11) ∧
 w14.cell? p3=some (.bool b8) ∧
 w14.cell? p1=some (.bool b7) ∧
 drM w14 fun w17=>
 stM p5 (.bool (!(b7==b8))) w17 fun w18=>
 stM (p5.add 1) (.slice s16a s16l s16c) w18 fun w19=>
 stM (p5.add 2) (.int .i64 (i64.wrap (n11+n12))) w19 fun w20=>
 drM w20 fun w21=>
 cB_ w21 p5 fun b22=>
 cS_ w21 (p5.add 1) fun s23a s23l s23c=>
 cI_ w21 (p5.add 2) fun n24=>
 K (.agg #[.bool b22,.slice s23a s23l s23c,.int .i64 n24]) w21
def Co0 (N:Nums) (P:Program) (qb:Bool) (qc:OA) (qe qg:Nat) (qd:Int) (ql:Bool) (qk:OA) (qh qi:Nat) (qq:Int) (w:World) (K:KV):Prop:=
 Ad1 #[.bool qb,.slice qc qe qg,.int .i64 qd] N.Ij1 w fun p1 w2=>
 Ad1 #[.bool ql,.slice qk qh qi,.int .i64 qq] N.Ij1 w2 fun p3 w4=>
 Ad1 #[.bool false,.slice none 0 0,.int .i64 0] N.Ij1 w4 fun p5 w6=>
 cB_ w6 p1 fun b7=>
 cS_ w6 (p1.add 1) fun s8a s8l s8c=>
 cI_ w6 (p1.add 2) fun n9=>
 Aa1 P N.Hw4 #[.agg #[.bool b7,.slice s8a s8l s8c,.int .i64 n9]] w6 fun v11 w10=>
 vB_ v11 fun b12=>
 cond b12
 (cB_ w10 p3 fun b13=>
 cS_ w10 (p3.add 1) fun s14a s14l s14c=>
 cI_ w10 (p3.add 2) fun n15=>
 stM p5 (.bool b13) w10 fun w16=>
 stM (p5.add 1) (.slice s14a s14l s14c) w16 fun w17=>
 stM (p5.add 2) (.int .i64 n15) w17 fun w18=>
 cB_ w18 p5 fun b19=>
 cS_ w18 (p5.add 1) fun s20a s20l s20c=>
 cI_ w18 (p5.add 2) fun n21=>
 K (.agg #[.bool b19,.slice s20a s20l s20c,.int .i64 n21]) w18)
 (cB_ w10 p3 fun b22=>
 cS_ w10 (p3.add 1) fun s23a s23l s23c=>
 cI_ w10 (p3.add 2) fun n24=>
 Aa1 P N.Hw4 #[.agg #[.bool b22,.slice s23a s23l s23c,.int .i64 n24]] w10 fun v26 w25=>
 vB_ v26 fun b27=>
 cond b27
 (cB_ w25 p1 fun b28=>
 cS_ w25 (p1.add 1) fun s29a s29l s29c=>
 cI_ w25 (p1.add 2) fun n30=>
 stM p5 (.bool b28) w25 fun w31=>
 stM (p5.add 1) (.slice s29a s29l s29c) w31 fun w32=>
 stM (p5.add 2) (.int .i64 n30) w32 fun w33=>
 cB_ w33 p5 fun b34=>
 cS_ w33 (p5.add 1) fun s35a s35l s35c=>
 cI_ w33 (p5.add 2) fun n36=>
 K (.agg #[.bool b34,.slice s35a s35l s35c,.int .i64 n36]) w33)
 (cI_ w25 (p1.add 2) fun n37=>
 cI_ w25 (p3.add 2) fun n38=>
 cond (decide (n37>n38))
 (cB_ w25 p3 fun b39=>
 cS_ w25 (p3.add 1) fun s40a s40l s40c=>
 cI_ w25 (p3.add 2) fun n41=>
 cB_ w25 p1 fun b42=>
 cS_ w25 (p1.add 1) fun s43a s43l s43c=>
 cI_ w25 (p1.add 2) fun n44=>
 Aa1 P N.Ih9 #[.agg #[.bool b39,.slice s40a s40l s40c,.int .i64 n41],.agg #[.bool b42,.slice s43a s43l s43c,.int .i64 n44]] w25 fun v46 w45=>
 ∃ b47,∃ s48a s48l s48c,∃ n49,v46=(.agg #[.bool b47,.slice s48a s48l s48c,.int .i64 n49]) ∧
 stM p5 (.bool b47) w45 fun w50=>
 stM (p5.add 1) (.slice s48a s48l s48c) w50 fun w51=>
 stM (p5.add 2) (.int .i64 n49) w51 fun w52=>
 cB_ w52 p5 fun b53=>
 cS_ w52 (p5.add 1) fun s54a s54l s54c=>
 cI_ w52 (p5.add 2) fun n55=>
 K (.agg #[.bool b53,.slice s54a s54l s54c,.int .i64 n55]) w52)
 (cS_ w25 (p1.add 1) fun s56a s56l s56c=>
 cS_ w25 (p3.add 1) fun s57a s57l s57c=>
 cI_ w25 (p3.add 2) fun n58=>
 cI_ w25 (p1.add 2) fun n59=>
 Aa1 P N.If1 #[.slice s57a s57l s57c,.int .i64 (i64.wrap (n58-n59))] w25 fun v61 w60=>
 vS_ v61 fun s62a s62l s62c=>
 cB_ w60 p1 fun b63=>
 cB_ w60 p3 fun b64=>
 cond (b63==b64)
 (cB_ w60 p1 fun b65=>
 cI_ w60 (p1.add 2) fun n66=>
 drM w60 fun w67=>
 Aa1 P N.Ia1 #[.slice s56a s56l s56c,.slice s62a s62l s62c] w67 fun v69 w68=>
 vS_ v69 fun s70a s70l s70c=>
 w68.cell? (p1.add 2)=some (.int .i64 n66) ∧
 w68.cell? p1=some (.bool b65) ∧
 drM w68 fun w71=>
 stM p5 (.bool b65) w71 fun w72=>
 stM (p5.add 1) (.slice s70a s70l s70c) w72 fun w73=>
 stM (p5.add 2) (.int .i64 n66) w73 fun w74=>
 drM w74 fun w75=>
 cB_ w75 p5 fun b76=>
 cS_ w75 (p5.add 1) fun s77a s77l s77c=>
 cI_ w75 (p5.add 2) fun n78=>
 K (.agg #[.bool b76,.slice s77a s77l s77c,.int .i64 n78]) w75)
 (Aa1 P N.Hz6 #[.slice s56a s56l s56c,.slice s62a s62l s62c] w60 fun v80 w79=>
 ∃ n81,v80=(.int .i64 n81) ∧
 cond (decide (n81≥0))
 (cB_ w79 p1 fun b82=>
 cI_ w79 (p1.add 2) fun n83=>
 drM w79 fun w84=>
 Aa1 P N.Ia7 #[.slice s56a s56l s56c,.slice s62a s62l s62c] w84 fun v86 w85=>
 vS_ v86 fun s87a s87l s87c=>
 w85.cell? (p1.add 2)=some (.int .i64 n83) ∧
 w85.cell? p1=some (.bool b82) ∧
 drM w85 fun w88=>
 stM p5 (.bool b82) w88 fun w89=>
 stM (p5.add 1) (.slice s87a s87l s87c) w89 fun w90=>
 stM (p5.add 2) (.int .i64 n83) w90 fun w91=>
 drM w91 fun w92=>
 cB_ w92 p5 fun b93=>
 cS_ w92 (p5.add 1) fun s94a s94l s94c=>
 cI_ w92 (p5.add 2) fun n95=>
 K (.agg #[.bool b93,.slice s94a s94l s94c,.int .i64 n95]) w92)
 (cB_ w79 p3 fun b96=>
 cI_ w79 (p1.add 2) fun n97=>
 drM w79 fun w98=>
 Aa1 P N.Ia7 #[.slice s62a s62l s62c,.slice s56a s56l s56c] w98 fun v100 w99=>
 vS_ v100 fun s101a s101l s101c=>
 w99.cell? (p1.add 2)=some (.int .i64 n97) ∧
 w99.cell? p3=some (.bool b96) ∧
 drM w99 fun w102=>
 stM p5 (.bool b96) w102 fun w103=>
 stM (p5.add 1) (.slice s101a s101l s101c) w103 fun w104=>
 stM (p5.add 2) (.int .i64 n97) w104 fun w105=>
 drM w105 fun w106=>
 cB_ w106 p5 fun b107=>
 cS_ w106 (p5.add 1) fun s108a s108l s108c=>
 cI_ w106 (p5.add 2) fun n109=>
 K (.agg #[.bool b107,.slice s108a s108l s108c,.int .i64 n109]) w106)))))
def Dh8 (N:Nums) (P:Program) (qb:Bool) (qc:OA) (qe qg:Nat) (qd:Int) (w:World) (K:KV):Prop:=
 Ad1 #[.bool qb,.slice qc qe qg,.int .i64 qd] N.Ij1 w fun p1 w2=>
 Ad1 #[.bool false,.slice none 0 0,.int .i64 0] N.Ij1 w2 fun p3 w4=>
 cB_ w4 p1 fun b5=>
 cS_ w4 (p1.add 1) fun s6a s6l s6c=>
 cI_ w4 (p1.add 2) fun n7=>
 stM p3 (.bool (!b5)) w4 fun w8=>
 stM (p3.add 1) (.slice s6a s6l s6c) w8 fun w9=>
 stM (p3.add 2) (.int .i64 n7) w9 fun w10=>
 cB_ w10 p3 fun b11=>
 cS_ w10 (p3.add 1) fun s12a s12l s12c=>
 cI_ w10 (p3.add 2) fun n13=>
 K (.agg #[.bool b11,.slice s12a s12l s12c,.int .i64 n13]) w10
def Cf7 (N:Nums) (P:Program) (qb:Bool) (qc:OA) (qe qg:Nat) (qd:Int) (q1:Int) (w:World) (K:KV):Prop:=
 Ad1 #[.bool qb,.slice qc qe qg,.int .i64 qd] N.Ij1 w fun p1 w2=>
 cB_ w2 p1 fun b3=>
 cS_ w2 (p1.add 1) fun s4a s4l s4c=>
 cI_ w2 (p1.add 2) fun n5=>
 Aa1 P N.Hw4 #[.agg #[.bool b3,.slice s4a s4l s4c,.int .i64 n5]] w2 fun v7 w6=>
 vB_ v7 fun b8=>
 cond b8
 (K (.float .f64 0) w6)
 (cB_ w6 p1 fun b9=>
 cS_ w6 (p1.add 1) fun s10a s10l s10c=>
 cI_ w6 (p1.add 2) fun n11=>
 Aa1 P N.Hx4 #[.agg #[.bool b9,.slice s10a s10l s10c,.int .i64 n11]] w6 fun v13 w12=>
 ∃ n14,v13=(.int .i64 n14) ∧
 cI_ w12 (p1.add 2) fun n15=>
 Ae8 (σ:=(OA×Nat×Nat)×Unit) (fun J16=>
 cond (decide (n15≥(if (-1074)>(i64.wrap (n14-53)) then (-1074) else (i64.wrap (n14-53)))))
 (cS_ w12 (p1.add 1) fun s19a s19l s19c=>
 cI_ w12 (p1.add 2) fun n20=>
 Aa1 P N.If1 #[.slice s19a s19l s19c,.int .i64 (i64.wrap (n20-(if (-1074)>(i64.wrap (n14-53)) then (-1074) else (i64.wrap (n14-53)))))] w12 fun v22 w21=>
 vS_ v22 fun s23a s23l s23c=>
 J16 ((s23a,s23l,s23c),()) w21)
 (cI_ w12 (p1.add 2) fun n24=>
 cS_ w12 (p1.add 1) fun s25a s25l s25c=>
 Aa1 P N.Hy5 #[.slice s25a s25l s25c,.int .i64 (i64.wrap ((if (-1074)>(i64.wrap (n14-53)) then (-1074) else (i64.wrap (n14-53)))-n24))] w12 fun v27 w26=>
 ∃ s28a s28l s28c,∃ b29,v27=(.tuple #[.slice s28a s28l s28c,.bool b29]) ∧
 Ae8 (σ:=(OA×Nat×Nat)×Unit) (fun J30=>
 cond b29
 (cS_ w26 (p1.add 1) fun s33a s33l s33c=>
 Aa1 P N.Hy5 #[.slice s33a s33l s33c,.int .i64 (i64.wrap ((i64.wrap ((if (-1074)>(i64.wrap (n14-53)) then (-1074) else (i64.wrap (n14-53)))-n24))-1))] w26 fun v35 w34=>
 ∃ s36a s36l s36c,∃ b37,v35=(.tuple #[.slice s36a s36l s36c,.bool b37]) ∧
 Ae8 (σ:=Bool×Unit) (fun J38=>
 cond (decide ((s36l:Int)>0))
 ((0:Int)≤(0:Int)∧(0:Int)<(s36l:Nat) ∧
 Ae0 s36a fun a41=>
 cU_ w34 (a41.add ((0:Int).toNat*1)) fun n42=>
 (2:Int)≠0 ∧
 J38 (((n42.tmod 2)==1),()) w34)
 (J38 (false,()) w34))
 (fun s39 w40=>
 Ae8 (σ:=Int×Unit) (fun J43=>
 cond s39.1
 (Ae8 (σ:=Int×Unit) (fun J46=>
 cond b37
 (J46 (1,()) w40)
 (J46 (0,()) w40))
 (fun s47 w48=>
 J43 (s47.1,()) w48))
 (J43 ((-1),()) w40))
 (fun s44 w45=>
 cB_ w45 p1 fun b49=>
 cond (decide ((s28l:Int)>0))
 ((0:Int)≤(0:Int)∧(0:Int)<(s28l:Nat) ∧
 Ae0 s28a fun a50=>
 cU_ w45 (a50.add ((0:Int).toNat*1)) fun n51=>
 (2:Int)≠0 ∧
 drM w45 fun w52=>
 Aa1 P N.Il5 #[.int .i8 q1,.bool b49,.int .i64 s44.1,.bool ((n51.tmod 2)==1)] w52 fun v54 w53=>
 vB_ v54 fun b55=>
 drM w53 fun w56=>
 Ae8 (σ:=(OA×Nat×Nat)×Unit) (fun J57=>
 cond b55
 (Aa1 P N.Id5 #[.int .u64 1] w56 fun v61 w60=>
 vS_ v61 fun s62a s62l s62c=>
 Aa1 P N.Ia1 #[.slice s28a s28l s28c,.slice s62a s62l s62c] w60 fun v64 w63=>
 vS_ v64 fun s65a s65l s65c=>
 J57 ((s65a,s65l,s65c),()) w63)
 (J57 ((s28a,s28l,s28c),()) w56))
 (fun s58 w59=>
 J30 ((s58.1.1,s58.1.2.1,s58.1.2.2),()) w59))
 (drM w45 fun w66=>
 Aa1 P N.Il5 #[.int .i8 q1,.bool b49,.int .i64 s44.1,.bool false] w66 fun v68 w67=>
 vB_ v68 fun b69=>
 drM w67 fun w70=>
 Ae8 (σ:=(OA×Nat×Nat)×Unit) (fun J71=>
 cond b69
 (Aa1 P N.Id5 #[.int .u64 1] w70 fun v75 w74=>
 vS_ v75 fun s76a s76l s76c=>
 Aa1 P N.Ia1 #[.slice s28a s28l s28c,.slice s76a s76l s76c] w74 fun v78 w77=>
 vS_ v78 fun s79a s79l s79c=>
 J71 ((s79a,s79l,s79c),()) w77)
 (J71 ((s28a,s28l,s28c),()) w70))
 (fun s72 w73=>
 J30 ((s72.1.1,s72.1.2.1,s72.1.2.2),()) w73)))))
 (J30 ((s28a,s28l,s28c),()) w26))
 (fun s31 w32=>
 J16 ((s31.1.1,s31.1.2.1,s31.1.2.2),()) w32)))
 (fun s17 w18=>
 Aa1 P N.Hy9 #[.slice s17.1.1 s17.1.2.1 s17.1.2.2] w18 fun v81 w80=>
 ∃ n82,v81=(.int .i64 n82) ∧
 cond (decide ((i64.wrap (n82+(if (-1074)>(i64.wrap (n14-53)) then (-1074) else (i64.wrap (n14-53)))))>1024))
 (cB_ w80 p1 fun b83=>
 Aa1 P N.If9 #[.int .i8 q1,.bool b83] w80 fun v85 w84=>
 ∃ x86,v85=(.float .f64 x86) ∧
 K (.float .f64 x86) w84)
 (Ae8 (σ:=Int×Unit) (fun J87=>
 cond (decide (((s17.1.2.1:Nat):Int)>0))
 ((0:Int)≤(0:Int)∧(0:Int)<(s17.1.2.1:Nat) ∧
 Ae0 s17.1.1 fun a90=>
 cU_ w80 (a90.add ((0:Int).toNat*1)) fun n91=>
 J87 (n91,()) w80)
 (J87 (0,()) w80))
 (fun s88 w89=>
 cB_ w89 p1 fun b92=>
 Aa1 P N.If0 #[.bool b92,.int .u64 s88.1,.int .i64 (if (-1074)>(i64.wrap (n14-53)) then (-1074) else (i64.wrap (n14-53)))] w89 fun v94 w93=>
 ∃ x95,v94=(.float .f64 x95) ∧
 K (.float .f64 x95) w93))))
def Ch2 (N:Nums) (P:Program) (q0:Nat) (q1:Nat) (w:World) (K:KV):Prop:=
 Aa1 P N.Hu7 #[.float .f64 q0] w fun v2 w1=>
 ∃ n3,v2=(.int .u64 n3) ∧
 Aa1 P N.Hu7 #[.float .f64 q1] w1 fun v5 w4=>
 ∃ n6,v5=(.int .u64 n6) ∧
 cond (!(n3==n6))
 (cond (!feq q0 q0)
 (K (.bool (!feq q1 q1)) w4)
 (K (.bool false) w4))
 (K (.bool true) w4)
def Cb2 (N:Nums) (P:Program) (qb:Int) (qc:Int) (qd:OA) (qa qf:Nat) (ql:Int) (qk:Int) (qq:OA) (qs qt:Nat) (w:World) (K:KV):Prop:=
 Ad1 #[.int .i64 qb,.int .i64 qc,.slice qd qa qf] N.Ik5 w fun p1 w2=>
 Ad1 #[.int .i64 ql,.int .i64 qk,.slice qq qs qt] N.Ik5 w2 fun p3 w4=>
 cI_ w4 p1 fun n5=>
 cI_ w4 p3 fun n6=>
 cond (n5==n6)
 (cI_ w4 (p1.add 1) fun n7=>
 cI_ w4 (p3.add 1) fun n8=>
 cond (n7==n8)
 (cS_ w4 (p1.add 2) fun s9a s9l s9c=>
 cS_ w4 (p3.add 2) fun s10a s10l s10c=>
 Aa1 P N.Hy7 #[.slice s9a s9l s9c,.slice s10a s10l s10c] w4 fun v12 w11=>
 vB_ v12 fun b13=>
 K (.bool b13) w11)
 (K (.bool false) w4))
 (K (.bool false) w4)
def Cl5 (N:Nums) (P:Program) (qb:Int) (qc:Int) (qd:OA) (qa qf:Nat) (ql:Int) (qk:OA) (qh qi:Nat) (qq:OA) (qs qt:Nat) (w:World) (K:KV):Prop:=
 Ad1 #[.int .i64 qb,.int .i64 qc,.slice qd qa qf] N.Ik5 w fun p1 w2=>
 Ad1 #[.int .i64 ql,.slice qk qh qi,.slice qq qs qt] N.Ik8 w2 fun p3 w4=>
 cI_ w4 p1 fun n5=>
 cI_ w4 (p1.add 1) fun n6=>
 cS_ w4 (p1.add 2) fun s7a s7l s7c=>
 Aa1 P N.Hv9 #[.agg #[.int .i64 n5,.int .i64 n6,.slice s7a s7l s7c]] w4 fun v9 w8=>
 vB_ v9 fun b10=>
 cond b10
 (cI_ w8 p3 fun n11=>
 cS_ w8 (p3.add 1) fun s12a s12l s12c=>
 cS_ w8 (p3.add 2) fun s13a s13l s13c=>
 Aa1 P N.Hx6 #[.agg #[.int .i64 n11,.slice s12a s12l s12c,.slice s13a s13l s13c]] w8 fun v15 w14=>
 vB_ v15 fun b16=>
 cond b16
 (cI_ w14 p1 fun n17=>
 cI_ w14 p3 fun n18=>
 cond (n17==n18)
 (cI_ w14 (p1.add 1) fun n19=>
 cI_ w14 p3 fun n20=>
 K (.bool (n19==n20)) w14)
 (K (.bool false) w14))
 (K (.bool false) w14))
 (K (.bool false) w8)
def Cs5 (N:Nums) (P:Program) (q0:OA) (qj qm:Nat) (q1:OA) (qo qu:Nat) (w:World) (K:KV):Prop:=
 Aa1 P N.Hx8 #[.slice q0 qj qm,.slice q1 qo qu,.func (.func N.Hw3) #[] #[]] w fun v2 w1=>
 ∃ s3a s3l s3c,∃ n4,v2=(.tuple #[.slice s3a s3l s3c,.int .i64 n4]) ∧
 K (.tuple #[.slice s3a s3l s3c,.int .i64 n4]) w1
def Ds3 (N:Nums) (P:Program) (qb:Int) (qc:Int) (qd:OA) (qa qf:Nat) (ql:Int) (qk:OA) (qh qi:Nat) (qq:OA) (qs qt:Nat) (w:World) (K:KV):Prop:=
 Ad1 #[.int .i64 qb,.int .i64 qc,.slice qd qa qf] N.Ik5 w fun p1 w2=>
 Ad1 #[.int .i64 ql,.slice qk qh qi,.slice qq qs qt] N.Ik8 w2 fun p3 w4=>
 cI_ w4 p1 fun n5=>
 cI_ w4 (p1.add 1) fun n6=>
 cS_ w4 (p1.add 2) fun s7a s7l s7c=>
 Aa1 P N.Ic8 #[.agg #[.int .i64 n5,.int .i64 n6,.slice s7a s7l s7c]] w4 fun v9 w8=>
 vB_ v9 fun b10=>
 cond b10
 (cI_ w8 p3 fun n11=>
 cS_ w8 (p3.add 1) fun s12a s12l s12c=>
 cS_ w8 (p3.add 2) fun s13a s13l s13c=>
 Aa1 P N.Id8 #[.agg #[.int .i64 n11,.slice s12a s12l s12c,.slice s13a s13l s13c]] w8 fun v15 w14=>
 vB_ v15 fun b16=>
 cond b16
 (cI_ w14 p1 fun n17=>
 cI_ w14 p3 fun n18=>
 cond (n17==n18)
 (cI_ w14 (p1.add 1) fun n19=>
 cI_ w14 p3 fun n20=>
 K (.bool (n19==n20)) w14)
 (K (.bool false) w14))
 (K (.bool false) w14))
 (K (.bool false) w8)
def De5 (N:Nums) (P:Program) (qb:Int) (qc:OA) (qe qg:Nat) (qd:OA) (qa qf:Nat) (q1:OA) (qo qu:Nat) (w:World) (K:KV):Prop:=
 Ad1 #[.int .i64 qb,.slice qc qe qg,.slice qd qa qf] N.Ik8 w fun p1 w2=>
 cI_ w2 p1 fun n3=>
 cS_ w2 (p1.add 1) fun s4a s4l s4c=>
 cS_ w2 (p1.add 2) fun s5a s5l s5c=>
 Aa1 P N.Hx2 #[.agg #[.int .i64 n3,.slice s4a s4l s4c,.slice s5a s5l s5c],.slice q1 qo qu] w2 fun v7 w6=>
 ∃ s8a s8l s8c,∃ n9,v7=(.tuple #[.slice s8a s8l s8c,.int .i64 n9]) ∧
 cond (n9 != 0)
 (K (.tuple #[.slice none 0 0,.int .i64 n9]) w6)
 (cI_ w6 p1 fun n10=>
 cS_ w6 (p1.add 1) fun s11a s11l s11c=>
 cS_ w6 (p1.add 2) fun s12a s12l s12c=>
 Aa1 P N.Ig7 #[.agg #[.int .i64 n10,.slice s11a s11l s11c,.slice s12a s12l s12c],.slice s8a s8l s8c] w6 fun v14 w13=>
 ∃ s15a s15l s15c,∃ n16,v14=(.tuple #[.slice s15a s15l s15c,.int .i64 n16]) ∧
 K (.tuple #[.slice s15a s15l s15c,.int .i64 n16]) w13)
def Cb8 (N:Nums) (P:Program) (qb:Int) (qc:OA) (qe qg:Nat) (qd:OA) (qa qf:Nat) (ql:Int) (qk:OA) (qh qi:Nat) (qq:OA) (qs qt:Nat) (w:World) (K:KV):Prop:=
 Ad1 #[.int .i64 qb,.slice qc qe qg,.slice qd qa qf] N.Ik8 w fun p1 w2=>
 Ad1 #[.int .i64 ql,.slice qk qh qi,.slice qq qs qt] N.Ik8 w2 fun p3 w4=>
 cI_ w4 p1 fun n5=>
 cI_ w4 p3 fun n6=>
 cond (n5==n6)
 (cS_ w4 (p1.add 1) fun s7a s7l s7c=>
 cS_ w4 (p3.add 1) fun s8a s8l s8c=>
 Aa1 P N.Hy7 #[.slice s7a s7l s7c,.slice s8a s8l s8c] w4 fun v10 w9=>
 vB_ v10 fun b11=>
 cond b11
 (cS_ w9 (p1.add 2) fun s12a s12l s12c=>
 cS_ w9 (p3.add 2) fun s13a s13l s13c=>
 Aa1 P N.Hy7 #[.slice s12a s12l s12c,.slice s13a s13l s13c] w9 fun v15 w14=>
 vB_ v15 fun b16=>
 K (.bool b16) w14)
 (K (.bool false) w9))
 (K (.bool false) w4)
def Ck8 (N:Nums) (P:Program) (q0:OA) (qj qm:Nat) (w:World) (K:KV):Prop:=
 Ae8 (σ:=Nat×Unit) (fun J1=>
 Ae7 (σ:=Nat×Int×Unit) (fun s4 X5 w6=>
 cond (decide (s4.2.1<(qj:Int)))
 ((0:Int)≤s4.2.1∧s4.2.1<(qj:Nat) ∧
 Ae0 q0 fun a7=>
 cF_ w6 (a7.add (s4.2.1.toNat*1)) fun x8=>
 Aa1 P N.Ig0 #[.float .f64 x8] w6 fun v10 w9=>
 ∃ x11,v10=(.float .f64 x11) ∧
 Aa1 P N.If5 #[.float .f64 s4.1,.float .f64 x11,.int .i8 2] w9 fun v13 w12=>
 ∃ x14,v13=(.float .f64 x14) ∧
 X5 (x14,(i64.wrap (s4.2.1+1)),()) w12)
 (J1 (s4.1,()) w6))
 (0,0,()) w)
 (fun s2 w3=>
 K (.float .f64 s2.1) w3)
def Du5 (N:Nums) (P:Program) (q0:OA) (qj qm:Nat) (w:World) (K:KV):Prop:=
 Ae8 (σ:=Nat×Unit) (fun J1=>
 Ae7 (σ:=Nat×Int×Unit) (fun s4 X5 w6=>
 cond (decide (s4.2.1<(qj:Int)))
 ((0:Int)≤s4.2.1∧s4.2.1<(qj:Nat) ∧
 Ae0 q0 fun a7=>
 cF_ w6 (a7.add (s4.2.1.toNat*1)) fun x8=>
 Aa1 P N.Ig0 #[.float .f64 x8] w6 fun v10 w9=>
 ∃ x11,v10=(.float .f64 x11) ∧
 Aa1 P N.Ii4 #[.float .f64 s4.1,.float .f64 x11,.int .i8 2] w9 fun v13 w12=>
 ∃ x14,v13=(.float .f64 x14) ∧
 X5 (x14,(i64.wrap (s4.2.1+1)),()) w12)
 (J1 (s4.1,()) w6))
 (0,0,()) w)
 (fun s2 w3=>
 K (.float .f64 s2.1) w3)
def Bv3 (N:Nums) (P:Program) (qb:Int) (qc:OA) (qe qg:Nat) (qd:OA) (qa qf:Nat) (q1:OA) (qo qu:Nat) (w:World) (K:KV):Prop:=
 Ad1 #[.int .i64 qb,.slice qc qe qg,.slice qd qa qf] N.Ik8 w fun p1 w2=>
 cI_ w2 p1 fun n3=>
 cS_ w2 (p1.add 1) fun s4a s4l s4c=>
 cS_ w2 (p1.add 2) fun s5a s5l s5c=>
 Aa1 P N.Ib3 #[.agg #[.int .i64 n3,.slice s4a s4l s4c,.slice s5a s5l s5c],.int .i64 (qo:Int)] w2 fun v7 w6=>
 ∃ n8,v7=(.int .i64 n8) ∧
 cond (n8 != 0)
 (K (.tuple #[.slice none 0 0,.int .i64 n8]) w6)
 (Aa1 P N.Hu2 #[.slice q1 qo qu] w6 fun v10 w9=>
 vS_ v10 fun s11a s11l s11c=>
 Ae8 (σ:=Unit) (fun J12=>
 Ae7 (σ:=Int×Unit) (fun s15 X16 w17=>
 cond (decide (s15.1<(s11l:Int)))
 (Ae8 (σ:=Unit) (fun J18=>
 Ae7 (σ:=Int×Unit) (fun s21 X22 w23=>
 cond (decide (s21.1<s15.1))
 ((0:Int)≤s15.1∧s15.1<(s11l:Nat) ∧
 Ae0 s11a fun a24=>
 cF_ w23 (a24.add (s15.1.toNat*1)) fun x25=>
 cI_ w23 p1 fun n26=>
 cS_ w23 (p1.add 1) fun s27a s27l s27c=>
 cS_ w23 (p1.add 2) fun s28a s28l s28c=>
 (0:Int)≤s21.1∧s21.1<(s11l:Nat) ∧
 Ae0 s11a fun a29=>
 cF_ w23 (a29.add (s21.1.toNat*1)) fun x30=>
 drM w23 fun w31=>
 Aa1 P N.Hz2 #[.agg #[.int .i64 n26,.slice s27a s27l s27c,.slice s28a s28l s28c],.int .i64 s15.1,.int .i64 s21.1] w31 fun v33 w32=>
 ∃ x34,v33=(.float .f64 x34) ∧
 w32.cell? (a29.add (s21.1.toNat*1))=some (.float .f64 x30) ∧
 w32.cell? (a24.add (s15.1.toNat*1))=some (.float .f64 x25) ∧
 At5 (Cq0 x34 x30) w32 fun x35 w36=>
 At5 (Bn1 x25 x35) w32 fun x37 w38=>
 (0:Int)≤s15.1∧s15.1<(s11l:Nat) ∧
 Ae0 s11a fun a39=>
 drM w32 fun w40=>
 stM (a39.add (s15.1.toNat*1)) (.float .f64 x37) w40 fun w41=>
 drM w41 fun w42=>
 X22 ((i64.wrap (s21.1+1)),()) w42)
 (J18 (()) w23))
 (0,()) w17)
 (fun s19 w20=>
 X16 ((i64.wrap (s15.1+1)),()) w20))
 (J12 (()) w17))
 (0,()) w9)
 (fun s13 w14=>
 K (.tuple #[.slice s11a s11l s11c,.int .i64 0]) w14))
def Ct3 (N:Nums) (P:Program) (qb:Int) (qc:OA) (qe qg:Nat) (qd:OA) (qa qf:Nat) (q1:OA) (qo qu:Nat) (w:World) (K:KV):Prop:=
 Ad1 #[.int .i64 qb,.slice qc qe qg,.slice qd qa qf] N.Ik8 w fun p1 w2=>
 cI_ w2 p1 fun n3=>
 cS_ w2 (p1.add 1) fun s4a s4l s4c=>
 cS_ w2 (p1.add 2) fun s5a s5l s5c=>
 Aa1 P N.Ib3 #[.agg #[.int .i64 n3,.slice s4a s4l s4c,.slice s5a s5l s5c],.int .i64 (qo:Int)] w2 fun v7 w6=>
 ∃ n8,v7=(.int .i64 n8) ∧
 cond (n8 != 0)
 (K (.tuple #[.slice none 0 0,.int .i64 n8]) w6)
 (cS_ w6 (p1.add 2) fun s9a s9l s9c=>
 Aa1 P N.Hu1 #[.slice s9a s9l s9c,.float .f64 0] w6 fun v11 w10=>
 vB_ v11 fun b12=>
 cond b12
 (K (.tuple #[.slice none 0 0,.int .i64 7]) w10)
 (Aa1 P N.Hu2 #[.slice q1 qo qu] w10 fun v14 w13=>
 vS_ v14 fun s15a s15l s15c=>
 cS_ w13 (p1.add 2) fun s16a s16l s16c=>
 Ae8 (σ:=Unit) (fun J17=>
 Ae7 (σ:=Int×Unit) (fun s20 X21 w22=>
 cond (decide (s20.1<(s16l:Int)))
 ((0:Int)≤s20.1∧s20.1<(s16l:Nat) ∧
 Ae0 s16a fun a23=>
 cF_ w22 (a23.add (s20.1.toNat*1)) fun x24=>
 (0:Int)≤s20.1∧s20.1<(s15l:Nat) ∧
 Ae0 s15a fun a25=>
 cF_ w22 (a25.add (s20.1.toNat*1)) fun x26=>
 At5 (fdiv x26 x24) w22 fun x27 w28=>
 (0:Int)≤s20.1∧s20.1<(s15l:Nat) ∧
 Ae0 s15a fun a29=>
 stM (a29.add (s20.1.toNat*1)) (.float .f64 x27) w28 fun w30=>
 X21 ((i64.wrap (s20.1+1)),()) w30)
 (J17 (()) w22))
 (0,()) w13)
 (fun s18 w19=>
 Ae8 (σ:=Unit) (fun J31=>
 Ae7 (σ:=Int×Unit) (fun s34 X35 w36=>
 cond (decide (s34.1<(s15l:Int)))
 (Ae8 (σ:=Unit) (fun J37=>
 Ae7 (σ:=Int×Unit) (fun s40 X41 w42=>
 cond (decide (s40.1<(s15l:Int)))
 ((0:Int)≤(i64.wrap ((i64.wrap ((s15l:Int)-1))-s34.1))∧(i64.wrap ((i64.wrap ((s15l:Int)-1))-s34.1))<(s15l:Nat) ∧
 Ae0 s15a fun a43=>
 ∃ x44,w42.cell? (a43.add ((i64.wrap ((i64.wrap ((s15l:Int)-1))-s34.1)).toNat*1))=some (.float .f64 x44) ∧
 cI_ w42 p1 fun n45=>
 cS_ w42 (p1.add 1) fun s46a s46l s46c=>
 cS_ w42 (p1.add 2) fun s47a s47l s47c=>
 (0:Int)≤s40.1∧s40.1<(s15l:Nat) ∧
 Ae0 s15a fun a48=>
 cF_ w42 (a48.add (s40.1.toNat*1)) fun x49=>
 drM w42 fun w50=>
 Aa1 P N.Hz2 #[.agg #[.int .i64 n45,.slice s46a s46l s46c,.slice s47a s47l s47c],.int .i64 s40.1,.int .i64 (i64.wrap ((i64.wrap ((s15l:Int)-1))-s34.1))] w50 fun v52 w51=>
 ∃ x53,v52=(.float .f64 x53) ∧
 w51.cell? (a48.add (s40.1.toNat*1))=some (.float .f64 x49) ∧
 w51.cell? (a43.add ((i64.wrap ((i64.wrap ((s15l:Int)-1))-s34.1)).toNat*1))=some (.float .f64 x44) ∧
 At5 (Cq0 x53 x49) w51 fun x54 w55=>
 At5 (Bn1 x44 x54) w51 fun x56 w57=>
 (0:Int)≤(i64.wrap ((i64.wrap ((s15l:Int)-1))-s34.1))∧(i64.wrap ((i64.wrap ((s15l:Int)-1))-s34.1))<(s15l:Nat) ∧
 Ae0 s15a fun a58=>
 drM w51 fun w59=>
 stM (a58.add ((i64.wrap ((i64.wrap ((s15l:Int)-1))-s34.1)).toNat*1)) (.float .f64 x56) w59 fun w60=>
 drM w60 fun w61=>
 X41 ((i64.wrap (s40.1+1)),()) w61)
 (J37 (()) w42))
 ((i64.wrap ((i64.wrap ((i64.wrap ((s15l:Int)-1))-s34.1))+1)),()) w36)
 (fun s38 w39=>
 X35 ((i64.wrap (s34.1+1)),()) w39))
 (J31 (()) w36))
 (0,()) w19)
 (fun s32 w33=>
 K (.tuple #[.slice s15a s15l s15c,.int .i64 0]) w33))))
def Fh3 (N:Nums) (P:Program) (q0:Nat) (q1:Nat) (w:World) (K:KV):Prop:=
 cond (!(feq q0 q1))
 (cond (!feq q0 q0)
 (K (.bool (!feq q1 q1)) w)
 (K (.bool false) w))
 (K (.bool true) w)
def By2 (N:Nums) (P:Program) (qb:Int) (qc:Int) (qd:OA) (qa qf:Nat) (w:World) (K:KV):Prop:=
 Ad1 #[.int .i64 qb,.int .i64 qc,.slice qd qa qf] N.Ik5 w fun p1 w2=>
 cI_ w2 p1 fun n3=>
 Aa1 P N.Hz0 #[.int .i64 n3] w2 fun v5 w4=>
 vB_ v5 fun b6=>
 cond b6
 (cI_ w4 (p1.add 1) fun n7=>
 Aa1 P N.Hz0 #[.int .i64 n7] w4 fun v9 w8=>
 vB_ v9 fun b10=>
 cond b10
 (cS_ w8 (p1.add 2) fun s11a s11l s11c=>
 cI_ w8 p1 fun n12=>
 cI_ w8 (p1.add 1) fun n13=>
 K (.bool ((s11l:Int)==(i64.wrap (n12*n13)))) w8)
 (K (.bool false) w8))
 (K (.bool false) w4)
def Ch0 (N:Nums) (P:Program) (q0:OA) (qj qm:Nat) (w:World) (K:KV):Prop:=
 Ae8 (σ:=Unit) (fun J1=>
 Ae7 (σ:=Int×Unit) (fun s4 X5 w6=>
 cond (decide (s4.1<(qj:Int)))
 ((0:Int)≤s4.1∧s4.1<(qj:Nat) ∧
 Ae0 q0 fun a7=>
 cF_ w6 (a7.add (s4.1.toNat*1)) fun x8=>
 Aa1 P N.Hz8 #[.float .f64 x8] w6 fun v10 w9=>
 vB_ v10 fun b11=>
 cond (!b11)
 (Aa1 P N.Ia2 #[.float .f64 x8,.int .i64 0] w9 fun v13 w12=>
 vB_ v13 fun b14=>
 cond b14
 (K (.bool false) w12)
 (X5 ((i64.wrap (s4.1+1)),()) w12))
 (K (.bool false) w9))
 (J1 (()) w6))
 (0,()) w)
 (fun s2 w3=>
 K (.bool true) w3)
def Cr1 (N:Nums) (P:Program) (q0:Int) (q1:Value) (w:World) (K:KV):Prop:=
 Ad1 #[.bool false,.slice none 0 0,.int .i64 0] N.Im3 w fun p1 w2=>
 Aa1 P N.Ig5 #[.int .i64 0] w2 fun v4 w3=>
 ∃ b5,∃ s6a s6l s6c,∃ n7,v4=(.agg #[.bool b5,.slice s6a s6l s6c,.int .i64 n7]) ∧
 Ad1 #[.bool false,.slice none 0 0,.int .i64 0] N.Im3 w3 fun p8 w9=>
 stM p8 (.bool b5) w9 fun w10=>
 stM (p8.add 1) (.slice s6a s6l s6c) w10 fun w11=>
 stM (p8.add 2) (.int .i64 n7) w11 fun w12=>
 Ae8 (σ:=Unit) (fun J13=>
 Ae7 (σ:=Int×Unit) (fun s16 X17 w18=>
 cond (decide (s16.1<q0))
 (cB_ w18 p8 fun b19=>
 cS_ w18 (p8.add 1) fun s20a s20l s20c=>
 cI_ w18 (p8.add 2) fun n21=>
 drM w18 fun w22=>
 fnM q1 fun f25 f25p f25q=>Aa1 P f25 (f25p.toList++(([.int .i64 s16.1]:List Value)++f25q.toList)).toArray w22 fun v24 w23=>
 ∃ b26,∃ s27a s27l s27c,∃ n28,v24=(.agg #[.bool b26,.slice s27a s27l s27c,.int .i64 n28]) ∧
 w23.cell? p8=some (.bool b19) ∧
 w23.cell? (p8.add 1)=some (.slice s20a s20l s20c) ∧
 w23.cell? (p8.add 2)=some (.int .i64 n21) ∧
 drM w23 fun w29=>
 Aa1 P N.Ih1 #[.agg #[.bool b19,.slice s20a s20l s20c,.int .i64 n21],.agg #[.bool b26,.slice s27a s27l s27c,.int .i64 n28]] w29 fun v31 w30=>
 ∃ b32,∃ s33a s33l s33c,∃ n34,∃ n35,v31=(.tuple #[.agg #[.bool b32,.slice s33a s33l s33c,.int .i64 n34],.int .i64 n35]) ∧
 drM w30 fun w36=>
 stM p8 (.bool b32) w36 fun w37=>
 stM (p8.add 1) (.slice s33a s33l s33c) w37 fun w38=>
 stM (p8.add 2) (.int .i64 n34) w38 fun w39=>
 drM w39 fun w40=>
 X17 ((i64.wrap (s16.1+1)),()) w40)
 (J13 (()) w18))
 (0,()) w12)
 (fun s14 w15=>
 cB_ w15 p8 fun b41=>
 cS_ w15 (p8.add 1) fun s42a s42l s42c=>
 cI_ w15 (p8.add 2) fun n43=>
 stM p1 (.bool b41) w15 fun w44=>
 stM (p1.add 1) (.slice s42a s42l s42c) w44 fun w45=>
 stM (p1.add 2) (.int .i64 n43) w45 fun w46=>
 cB_ w46 p1 fun b47=>
 cS_ w46 (p1.add 1) fun s48a s48l s48c=>
 cI_ w46 (p1.add 2) fun n49=>
 K (.agg #[.bool b47,.slice s48a s48l s48c,.int .i64 n49]) w46)
def Bk9 (N:Nums) (P:Program) (q0:Int) (q1:OA) (q2:OA) (w:World) (K:KV):Prop:=
 Ad1 #[.bool false,.slice none 0 0,.int .i64 0] N.Im3 w fun p1 w2=>
 Ae0 q1 fun a3=>
 cS_ w2 a3 fun s4a s4l s4c=>
 (0:Int)≤q0∧q0<(s4l:Nat) ∧
 Ae0 s4a fun a5=>
 cF_ w2 (a5.add (q0.toNat*1)) fun x6=>
 Aa1 P N.Ii3 #[.float .f64 x6] w2 fun v8 w7=>
 ∃ b9,∃ s10a s10l s10c,∃ n11,∃ n12,v8=(.tuple #[.agg #[.bool b9,.slice s10a s10l s10c,.int .i64 n11],.int .i64 n12]) ∧
 Ad1 #[.bool false,.slice none 0 0,.int .i64 0] N.Im3 w7 fun p13 w14=>
 stM p13 (.bool b9) w14 fun w15=>
 stM (p13.add 1) (.slice s10a s10l s10c) w15 fun w16=>
 stM (p13.add 2) (.int .i64 n11) w16 fun w17=>
 Ae0 q2 fun a18=>
 cS_ w17 a18 fun s19a s19l s19c=>
 (0:Int)≤q0∧q0<(s19l:Nat) ∧
 Ae0 s19a fun a20=>
 cF_ w17 (a20.add (q0.toNat*1)) fun x21=>
 Aa1 P N.Ii3 #[.float .f64 x21] w17 fun v23 w22=>
 ∃ b24,∃ s25a s25l s25c,∃ n26,∃ n27,v23=(.tuple #[.agg #[.bool b24,.slice s25a s25l s25c,.int .i64 n26],.int .i64 n27]) ∧
 Ad1 #[.bool false,.slice none 0 0,.int .i64 0] N.Im3 w22 fun p28 w29=>
 stM p28 (.bool b24) w29 fun w30=>
 stM (p28.add 1) (.slice s25a s25l s25c) w30 fun w31=>
 stM (p28.add 2) (.int .i64 n26) w31 fun w32=>
 cB_ w32 p13 fun b33=>
 cS_ w32 (p13.add 1) fun s34a s34l s34c=>
 cI_ w32 (p13.add 2) fun n35=>
 cB_ w32 p28 fun b36=>
 cS_ w32 (p28.add 1) fun s37a s37l s37c=>
 cI_ w32 (p28.add 2) fun n38=>
 Aa1 P N.Ih4 #[.agg #[.bool b33,.slice s34a s34l s34c,.int .i64 n35],.agg #[.bool b36,.slice s37a s37l s37c,.int .i64 n38]] w32 fun v40 w39=>
 ∃ b41,∃ s42a s42l s42c,∃ n43,∃ n44,v40=(.tuple #[.agg #[.bool b41,.slice s42a s42l s42c,.int .i64 n43],.int .i64 n44]) ∧
 Ad1 #[.bool false,.slice none 0 0,.int .i64 0] N.Im3 w39 fun p45 w46=>
 stM p45 (.bool b41) w46 fun w47=>
 stM (p45.add 1) (.slice s42a s42l s42c) w47 fun w48=>
 stM (p45.add 2) (.int .i64 n43) w48 fun w49=>
 cB_ w49 p45 fun b50=>
 cS_ w49 (p45.add 1) fun s51a s51l s51c=>
 cI_ w49 (p45.add 2) fun n52=>
 stM p1 (.bool b50) w49 fun w53=>
 stM (p1.add 1) (.slice s51a s51l s51c) w53 fun w54=>
 stM (p1.add 2) (.int .i64 n52) w54 fun w55=>
 cB_ w55 p1 fun b56=>
 cS_ w55 (p1.add 1) fun s57a s57l s57c=>
 cI_ w55 (p1.add 2) fun n58=>
 K (.agg #[.bool b56,.slice s57a s57l s57c,.int .i64 n58]) w55
def Ev6 (N:Nums) (P:Program) (q0:Nat) (w:World) (K:KV):Prop:=
 Ad1 #[.bool false,.slice none 0 0,.int .i64 0] N.Im3 w fun p1 w2=>
 Aa1 P N.Ib0 #[.float .f64 q0] w2 fun v4 w3=>
 ∃ b5,∃ n6,∃ n7,∃ b8,v4=(.tuple #[.agg #[.bool b5,.int .u64 n6,.int .i64 n7],.bool b8]) ∧
 Ad1 #[.bool false,.int .u64 0,.int .i64 0] N.Im2 w3 fun p9 w10=>
 stM p9 (.bool b5) w10 fun w11=>
 stM (p9.add 1) (.int .u64 n6) w11 fun w12=>
 stM (p9.add 2) (.int .i64 n7) w12 fun w13=>
 cond (!b8)
 (stM p1 (.bool false) w13 fun w14=>
 stM (p1.add 1) (.slice none 0 0) w14 fun w15=>
 stM (p1.add 2) (.int .i64 0) w15 fun w16=>
 cB_ w16 p1 fun b17=>
 cS_ w16 (p1.add 1) fun s18a s18l s18c=>
 cI_ w16 (p1.add 2) fun n19=>
 K (.tuple #[.agg #[.bool b17,.slice s18a s18l s18c,.int .i64 n19],.int .i64 5]) w16)
 (cU_ w13 (p9.add 1) fun n20=>
 cond (n20==0)
 (stM p1 (.bool false) w13 fun w21=>
 stM (p1.add 1) (.slice none 0 0) w21 fun w22=>
 stM (p1.add 2) (.int .i64 0) w22 fun w23=>
 cB_ w23 p1 fun b24=>
 cS_ w23 (p1.add 1) fun s25a s25l s25c=>
 cI_ w23 (p1.add 2) fun n26=>
 K (.tuple #[.agg #[.bool b24,.slice s25a s25l s25c,.int .i64 n26],.int .i64 0]) w23)
 (cB_ w13 p9 fun b27=>
 cU_ w13 (p9.add 1) fun n28=>
 Ad1 #[.int .u64 n28] N.Il0 w13 fun p29 w30=>
 cI_ w30 (p9.add 2) fun n31=>
 stM p1 (.bool b27) w30 fun w32=>
 stM (p1.add 1) (.slice (some p29) 1 1) w32 fun w33=>
 stM (p1.add 2) (.int .i64 n31) w33 fun w34=>
 cB_ w34 p1 fun b35=>
 cS_ w34 (p1.add 1) fun s36a s36l s36c=>
 cI_ w34 (p1.add 2) fun n37=>
 K (.tuple #[.agg #[.bool b35,.slice s36a s36l s36c,.int .i64 n37],.int .i64 0]) w34))
def Dr6 (N:Nums) (P:Program) (qb:Bool) (qc:OA) (qe qg:Nat) (qd:Int) (ql:Bool) (qk:OA) (qh qi:Nat) (qq:Int) (w:World) (K:KV):Prop:=
 Ad1 #[.bool qb,.slice qc qe qg,.int .i64 qd] N.Im3 w fun p1 w2=>
 Ad1 #[.bool ql,.slice qk qh qi,.int .i64 qq] N.Im3 w2 fun p3 w4=>
 Ad1 #[.bool false,.slice none 0 0,.int .i64 0] N.Im3 w4 fun p5 w6=>
 cB_ w6 p1 fun b7=>
 cS_ w6 (p1.add 1) fun s8a s8l s8c=>
 cI_ w6 (p1.add 2) fun n9=>
 cB_ w6 p3 fun b10=>
 cS_ w6 (p3.add 1) fun s11a s11l s11c=>
 cI_ w6 (p3.add 2) fun n12=>
 Aa1 P N.Id9 #[.agg #[.bool b7,.slice s8a s8l s8c,.int .i64 n9],.agg #[.bool b10,.slice s11a s11l s11c,.int .i64 n12]] w6 fun v14 w13=>
 vB_ v14 fun b15=>
 cond (!b15)
 (stM p5 (.bool false) w13 fun w16=>
 stM (p5.add 1) (.slice none 0 0) w16 fun w17=>
 stM (p5.add 2) (.int .i64 0) w17 fun w18=>
 cB_ w18 p5 fun b19=>
 cS_ w18 (p5.add 1) fun s20a s20l s20c=>
 cI_ w18 (p5.add 2) fun n21=>
 K (.tuple #[.agg #[.bool b19,.slice s20a s20l s20c,.int .i64 n21],.int .i64 2]) w18)
 (cB_ w13 p1 fun b22=>
 cS_ w13 (p1.add 1) fun s23a s23l s23c=>
 cI_ w13 (p1.add 2) fun n24=>
 Aa1 P N.Ib5 #[.agg #[.bool b22,.slice s23a s23l s23c,.int .i64 n24]] w13 fun v26 w25=>
 ∃ p27:(OA),v26=(.pointer p27) ∧
 cB_ w25 p3 fun b28=>
 cS_ w25 (p3.add 1) fun s29a s29l s29c=>
 cI_ w25 (p3.add 2) fun n30=>
 cI_ w25 (p1.add 2) fun n31=>
 cI_ w25 (p3.add 2) fun n32=>
 drM w25 fun w33=>
 Aa1 P N.Ib5 #[.agg #[.bool b28,.slice s29a s29l s29c,.int .i64 n30]] w33 fun v35 w34=>
 ∃ p36:(OA),v35=(.pointer p36) ∧
 w34.cell? (p3.add 2)=some (.int .i64 n32) ∧
 w34.cell? (p1.add 2)=some (.int .i64 n31) ∧
 drM w34 fun w37=>
 Aa1 P N.Il7 #[.pointer p27,.pointer p27,.pointer p36] w37 fun v39 w38=>
 ∃ p40:(OA),v39=(.pointer p40) ∧
 w38.cell? (p3.add 2)=some (.int .i64 n32) ∧
 w38.cell? (p1.add 2)=some (.int .i64 n31) ∧
 drM w38 fun w41=>
 Aa1 P N.Id1 #[.pointer p40,.int .i64 (i64.wrap (n31+n32))] w41 fun v43 w42=>
 ∃ b44,∃ s45a s45l s45c,∃ n46,∃ n47,v43=(.tuple #[.agg #[.bool b44,.slice s45a s45l s45c,.int .i64 n46],.int .i64 n47]) ∧
 drM w42 fun w48=>
 stM p5 (.bool b44) w48 fun w49=>
 stM (p5.add 1) (.slice s45a s45l s45c) w49 fun w50=>
 stM (p5.add 2) (.int .i64 n46) w50 fun w51=>
 drM w51 fun w52=>
 cB_ w52 p5 fun b53=>
 cS_ w52 (p5.add 1) fun s54a s54l s54c=>
 cI_ w52 (p5.add 2) fun n55=>
 K (.tuple #[.agg #[.bool b53,.slice s54a s54l s54c,.int .i64 n55],.int .i64 n47]) w52)
def Cv6 (N:Nums) (P:Program) (qb:Bool) (qc:OA) (qe qg:Nat) (qd:Int) (q1:Int) (w:World) (K:KV):Prop:=
 Ad1 #[.bool qb,.slice qc qe qg,.int .i64 qd] N.Im3 w fun p1 w2=>
 cB_ w2 p1 fun b3=>
 cS_ w2 (p1.add 1) fun s4a s4l s4c=>
 cI_ w2 (p1.add 2) fun n5=>
 Aa1 P N.Ic1 #[.agg #[.bool b3,.slice s4a s4l s4c,.int .i64 n5]] w2 fun v7 w6=>
 vB_ v7 fun b8=>
 cond (!b8)
 (K (.tuple #[.float .f64 0,.int .i64 2]) w6)
 (cS_ w6 (p1.add 1) fun s9a s9l s9c=>
 cond ((s9l:Int)==0)
 (K (.tuple #[.float .f64 0,.int .i64 0]) w6)
 (cB_ w6 p1 fun b10=>
 cS_ w6 (p1.add 1) fun s11a s11l s11c=>
 cI_ w6 (p1.add 2) fun n12=>
 Aa1 P N.Ib5 #[.agg #[.bool b10,.slice s11a s11l s11c,.int .i64 n12]] w6 fun v14 w13=>
 ∃ p15:(OA),v14=(.pointer p15) ∧
 Aa1 P N.Il2 #[.pointer p15,.pointer p15] w13 fun v17 w16=>
 ∃ p18:(OA),v17=(.pointer p18) ∧
 cB_ w16 p1 fun b19=>
 cS_ w16 (p1.add 1) fun s20a s20l s20c=>
 cI_ w16 (p1.add 2) fun n21=>
 Aa1 P N.Ig8 #[.agg #[.bool b19,.slice s20a s20l s20c,.int .i64 n21]] w16 fun v23 w22=>
 ∃ n24,v23=(.int .i64 n24) ∧
 cI_ w22 (p1.add 2) fun n25=>
 Ae8 (σ:=Int×Unit) (fun J26=>
 cond (decide ((i64.wrap ((if (-1074)>(i64.wrap (n24-53)) then (-1074) else (i64.wrap (n24-53)))-n25))≤0))
 (Ad1 #[.bool false,.slice none 0 0] N.Ik4 w22 fun p29 w30=>
 Aa1 P N.Ik0 #[.pointer (some p29),.pointer p15,.int .u64 (u64.wrap (i64.wrap (0-(i64.wrap ((if (-1074)>(i64.wrap (n24-53)) then (-1074) else (i64.wrap (n24-53)))-n25)))))] w30 fun v32 w31=>
 ∃ p33:(OA),v32=(.pointer p33) ∧
 Aa1 P N.Ie2 #[.pointer p33] w31 fun v35 w34=>
 ∃ n36,v35=(.int .u64 n36) ∧
 J26 (n36,()) w34)
 (Ad1 #[.bool false,.slice none 0 0] N.Ik4 w22 fun p37 w38=>
 Aa1 P N.Il6 #[.pointer (some p37),.pointer p15,.int .u64 (u64.wrap (i64.wrap ((if (-1074)>(i64.wrap (n24-53)) then (-1074) else (i64.wrap (n24-53)))-n25)))] w38 fun v40 w39=>
 ∃ p41:(OA),v40=(.pointer p41) ∧
 Aa1 P N.Ie2 #[.pointer p41] w39 fun v43 w42=>
 ∃ n44,v43=(.int .u64 n44) ∧
 Aa1 P N.Ik0 #[.pointer p41,.pointer p41,.int .u64 (u64.wrap (i64.wrap ((if (-1074)>(i64.wrap (n24-53)) then (-1074) else (i64.wrap (n24-53)))-n25)))] w42 fun v46 w45=>
 ∃ p47:(OA),v46=(.pointer p47) ∧
 Aa1 P N.Il4 #[.pointer p15,.pointer p15,.pointer p47] w45 fun v49 w48=>
 ∃ p50:(OA),v49=(.pointer p50) ∧
 Ad1 #[.bool false,.slice none 0 0] N.Ik4 w48 fun p51 w52=>
 Aa1 P N.If2 #[.int .i64 1] w52 fun v54 w53=>
 ∃ p55:(OA),v54=(.pointer p55) ∧
 Aa1 P N.Ik0 #[.pointer (some p51),.pointer p55,.int .u64 (u64.wrap (i64.wrap ((i64.wrap ((if (-1074)>(i64.wrap (n24-53)) then (-1074) else (i64.wrap (n24-53)))-n25))-1)))] w53 fun v57 w56=>
 ∃ p58:(OA),v57=(.pointer p58) ∧
 Aa1 P N.Ij8 #[.pointer p50,.pointer p58] w56 fun v60 w59=>
 ∃ n61,v60=(.int .i64 n61) ∧
 Aa1 P N.Ii8 #[.pointer p50] w59 fun v63 w62=>
 ∃ n64,v63=(.int .i64 n64) ∧
 cond (decide (n64>0))
 (cB_ w62 p1 fun b65=>
 Aa1 P N.If7 #[.int .i8 q1,.bool b65,.int .i64 n61,.bool ((u64.wrap (BitVec.ofInt u64.bits n44 &&& BitVec.ofInt u64.bits 1).toNat)==1)] w62 fun v67 w66=>
 vB_ v67 fun b68=>
 Ae8 (σ:=Int×Unit) (fun J69=>
 cond b68
 (J69 ((u64.wrap (n44+1)),()) w66)
 (J69 (n44,()) w66))
 (fun s70 w71=>
 J26 (s70.1,()) w71))
 (Ae8 (σ:=Int×Unit) (fun J72=>
 J72 (n44,()) w62)
 (fun s73 w74=>
 J26 (s73.1,()) w74))))
 (fun s27 w28=>
 cB_ w28 p1 fun b75=>
 Aa1 P N.Ib6 #[.bool b75,.int .u64 s27.1,.int .i64 (if (-1074)>(i64.wrap (n24-53)) then (-1074) else (i64.wrap (n24-53))),.int .i8 q1] w28 fun v77 w76=>
 ∃ x78,v77=(.float .f64 x78) ∧
 K (.tuple #[.float .f64 x78,.int .i64 0]) w76)))
def Df7 (N:Nums) (P:Program) (qb:Int) (qc:Int) (qd:OA) (qa qf:Nat) (w:World) (K:KV):Prop:=
 Ad1 #[.int .i64 qb,.int .i64 qc,.slice qd qa qf] N.Ik5 w fun p1 w2=>
 cI_ w2 p1 fun n3=>
 Aa1 P N.Ij3 #[.int .i64 n3] w2 fun v5 w4=>
 vB_ v5 fun b6=>
 cond b6
 (cI_ w4 (p1.add 1) fun n7=>
 Aa1 P N.Ij3 #[.int .i64 n7] w4 fun v9 w8=>
 vB_ v9 fun b10=>
 cond b10
 (cS_ w8 (p1.add 2) fun s11a s11l s11c=>
 cI_ w8 p1 fun n12=>
 cI_ w8 (p1.add 1) fun n13=>
 K (.bool ((s11l:Int)==(i64.wrap (n12*n13)))) w8)
 (K (.bool false) w8))
 (K (.bool false) w4)
def Dc7 (N:Nums) (P:Program) (q0:Nat) (w:World) (K:KV):Prop:=
 Ad1 #[.bool false,.int .u64 0,.int .i64 0] N.Im2 w fun p1 w2=>
 Aa1 P N.Ia5 #[.float .f64 q0] w2 fun v4 w3=>
 vB_ v4 fun b5=>
 cond (!b5)
 (stM p1 (.bool false) w3 fun w6=>
 stM (p1.add 1) (.int .u64 0) w6 fun w7=>
 stM (p1.add 2) (.int .i64 0) w7 fun w8=>
 cB_ w8 p1 fun b9=>
 cU_ w8 (p1.add 1) fun n10=>
 cI_ w8 (p1.add 2) fun n11=>
 K (.tuple #[.agg #[.bool b9,.int .u64 n10,.int .i64 n11],.bool false]) w8)
 (Aa1 P N.Ia0 #[.float .f64 q0] w3 fun v13 w12=>
 ∃ b14,∃ n15,∃ n16,v13=(.tuple #[.bool b14,.int .i64 n15,.int .u64 n16]) ∧
 Ad1 #[.bool false,.int .u64 0,.int .i64 0] N.Im2 w12 fun p17 w18=>
 stM p17 (.bool b14) w18 fun w19=>
 stM (p17.add 1) (.int .u64 n16) w19 fun w20=>
 stM (p17.add 2) (.int .i64 (-1074)) w20 fun w21=>
 Ae8 (σ:=Unit) (fun J22=>
 cond (decide (n15>0))
 (stM (p17.add 1) (.int .u64 (u64.wrap (n16+4503599627370496))) w21 fun w25=>
 stM (p17.add 2) (.int .i64 (i64.wrap (n15-1075))) w25 fun w26=>
 J22 (()) w26)
 (J22 (()) w21))
 (fun s23 w24=>
 cU_ w24 (p17.add 1) fun n27=>
 Ae8 (σ:=Unit) (fun J28=>
 cond (n27==0)
 (stM (p17.add 2) (.int .i64 0) w24 fun w31=>
 J28 (()) w31)
 (J28 (()) w24))
 (fun s29 w30=>
 Ae8 (σ:=Unit) (fun J32=>
 Ae7 (σ:=Unit) (fun s35 X36 w37=>
 cU_ w37 (p17.add 1) fun n38=>
 cond (n38 != 0)
 (cU_ w37 (p17.add 1) fun n39=>
 (2:Int)≠0 ∧
 cond ((n39.tmod 2)==0)
 (cU_ w37 (p17.add 1) fun n40=>
 (2:Int)≠0 ∧
 stM (p17.add 1) (.int .u64 (u64.wrap (n40.tdiv 2))) w37 fun w41=>
 cI_ w41 (p17.add 2) fun n42=>
 stM (p17.add 2) (.int .i64 (i64.wrap (n42+1))) w41 fun w43=>
 X36 (()) w43)
 (J32 (()) w37))
 (J32 (()) w37))
 (()) w30)
 (fun s33 w34=>
 cB_ w34 p17 fun b44=>
 cU_ w34 (p17.add 1) fun n45=>
 cI_ w34 (p17.add 2) fun n46=>
 stM p1 (.bool b44) w34 fun w47=>
 stM (p1.add 1) (.int .u64 n45) w47 fun w48=>
 stM (p1.add 2) (.int .i64 n46) w48 fun w49=>
 cB_ w49 p1 fun b50=>
 cU_ w49 (p1.add 1) fun n51=>
 cI_ w49 (p1.add 2) fun n52=>
 K (.tuple #[.agg #[.bool b50,.int .u64 n51,.int .i64 n52],.bool true]) w49))))
def Dd5 (N:Nums) (P:Program) (q0:Int) (w:World) (K:KV):Prop:=
 Ad1 #[.int .u64 q0] N.Il0 w fun p1 w2=>
 Aa1 P N.Hy3 #[.slice (some p1) 1 1] w2 fun v4 w3=>
 vS_ v4 fun s5a s5l s5c=>
 K (.slice s5a s5l s5c) w3
def Cq7 (N:Nums) (P:Program) (q0:OA) (qj qm:Nat) (q1:OA) (qo qu:Nat) (w:World) (K:KV):Prop:=
 Aa1 P N.Hz4 #[.slice q0 qj qm] w fun v2 w1=>
 vS_ v2 fun s3a s3l s3c=>
 Aa1 P N.Hz4 #[.slice q1 qo qu] w1 fun v5 w4=>
 vS_ v5 fun s6a s6l s6c=>
 Aa1 P N.Hx3 #[.slice s3a s3l s3c,.slice s6a s6l s6c] w4 fun v8 w7=>
 vS_ v8 fun s9a s9l s9c=>
 Aa1 P N.Id2 #[.slice s9a s9l s9c] w7 fun v11 w10=>
 vS_ v11 fun s12a s12l s12c=>
 K (.slice s12a s12l s12c) w10
def Cc6 (N:Nums) (P:Program) (qb:Bool) (qc:OA) (qe qg:Nat) (qd:Int) (w:World) (K:KV):Prop:=
 Ad1 #[.bool qb,.slice qc qe qg,.int .i64 qd] N.Ij1 w fun p1 w2=>
 cS_ w2 (p1.add 1) fun s3a s3l s3c=>
 Aa1 P N.Hy9 #[.slice s3a s3l s3c] w2 fun v5 w4=>
 ∃ n6,v5=(.int .i64 n6) ∧
 K (.bool (n6==0)) w4
def Dk1 (N:Nums) (P:Program) (q0:OA) (qj qm:Nat) (q1:Int) (w:World) (K:KV):Prop:=
 Aa1 P N.Hz4 #[.slice q0 qj qm] w fun v2 w1=>
 vS_ v2 fun s3a s3l s3c=>
 cond ((s3l:Int)==0)
 (K (.slice none 0 0) w1)
 ((32:Int)≠0 ∧
 mkM N.Il0 1 8 #[.int .u64 0] (i64.wrap (q1.tdiv 32)) (i64.wrap (q1.tdiv 32)) w1 fun p4 w5=>
 Ae8 (σ:=Int×Unit) (fun J6=>
 Ae7 (σ:=Int×Int×Unit) (fun s9 X10 w11=>
 (32:Int)≠0 ∧
 cond (decide (s9.2.1<(q1.tmod 32)))
 (X10 ((u64.wrap (2*s9.1)),(i64.wrap (s9.2.1+1)),()) w11)
 (J6 (s9.1,()) w11))
 (1,0,()) w5)
 (fun s7 w8=>
 Ae8 (σ:=(OA×Nat×Nat)×Int×Unit) (fun J12=>
 Ae7 (σ:=(OA×Nat×Nat)×Int×Int×Unit) (fun s15 X16 w17=>
 cond (decide (s15.2.2.1<(s3l:Int)))
 ((0:Int)≤s15.2.2.1∧s15.2.2.1<(s3l:Nat) ∧
 Ae0 s3a fun a18=>
 cU_ w17 (a18.add (s15.2.2.1.toNat*1)) fun n19=>
 (4294967296:Int)≠0 ∧
 Ad1 #[.int .u64 ((u64.wrap ((u64.wrap (n19*s7.1))+s15.2.1)).tmod 4294967296)] N.Il0 w17 fun p20 w21=>
 Dp0 N.Il0 1 8 #[.int .u64 0] s15.1.1 s15.1.2.1 s15.1.2.2 (some p20) 1 w21 fun s22a s22l s22c w23=>
 (4294967296:Int)≠0 ∧
 X16 ((s22a,s22l,s22c),(u64.wrap ((u64.wrap ((u64.wrap (n19*s7.1))+s15.2.1)).tdiv 4294967296)),(i64.wrap (s15.2.2.1+1)),()) w23)
 (J12 ((s15.1.1,s15.1.2.1,s15.1.2.2),s15.2.1,()) w17))
 (((some p4),(i64.wrap (q1.tdiv 32)).toNat,(i64.wrap (q1.tdiv 32)).toNat),0,0,()) w8)
 (fun s13 w14=>
 Ad1 #[.int .u64 s13.2.1] N.Il0 w14 fun p24 w25=>
 Dp0 N.Il0 1 8 #[.int .u64 0] s13.1.1 s13.1.2.1 s13.1.2.2 (some p24) 1 w25 fun s26a s26l s26c w27=>
 Aa1 P N.Id2 #[.slice s26a s26l s26c] w27 fun v29 w28=>
 vS_ v29 fun s30a s30l s30c=>
 K (.slice s30a s30l s30c) w28)))
def Co5 (N:Nums) (P:Program) (q0:OA) (qj qm:Nat) (q1:OA) (qo qu:Nat) (w:World) (K:KV):Prop:=
 Aa1 P N.Hz4 #[.slice q0 qj qm] w fun v2 w1=>
 vS_ v2 fun s3a s3l s3c=>
 Aa1 P N.Hz4 #[.slice q1 qo qu] w1 fun v5 w4=>
 vS_ v5 fun s6a s6l s6c=>
 Ae8 (σ:=(OA×Nat×Nat)×Unit) (fun J7=>
 Ae7 (σ:=(OA×Nat×Nat)×Int×Int×Unit) (fun s10 X11 w12=>
 Ae8 (σ:=Bool×Unit) (fun J13=>
 cond (!(decide (s10.2.2.1<(s3l:Int))))
 (cond (!(decide (s10.2.2.1<(s6l:Int))))
 (J13 ((decide (s10.2.1>0)),()) w12)
 (J13 (true,()) w12))
 (J13 (true,()) w12))
 (fun s14 w15=>
 cond s14.1
 (Aa1 P N.Ie6 #[.slice s3a s3l s3c,.int .i64 s10.2.2.1] w15 fun v17 w16=>
 ∃ n18,v17=(.int .u64 n18) ∧
 Aa1 P N.Ie6 #[.slice s6a s6l s6c,.int .i64 s10.2.2.1] w16 fun v20 w19=>
 ∃ n21,v20=(.int .u64 n21) ∧
 (4294967296:Int)≠0 ∧
 Ad1 #[.int .u64 ((u64.wrap ((u64.wrap (n18+n21))+s10.2.1)).tmod 4294967296)] N.Il0 w19 fun p22 w23=>
 Dp0 N.Il0 1 8 #[.int .u64 0] s10.1.1 s10.1.2.1 s10.1.2.2 (some p22) 1 w23 fun s24a s24l s24c w25=>
 (4294967296:Int)≠0 ∧
 X11 ((s24a,s24l,s24c),(u64.wrap ((u64.wrap ((u64.wrap (n18+n21))+s10.2.1)).tdiv 4294967296)),(i64.wrap (s10.2.2.1+1)),()) w25)
 (J7 ((s10.1.1,s10.1.2.1,s10.1.2.2),()) w15)))
 ((none,0,0),0,0,()) w4)
 (fun s8 w9=>
 Aa1 P N.Id2 #[.slice s8.1.1 s8.1.2.1 s8.1.2.2] w9 fun v27 w26=>
 vS_ v27 fun s28a s28l s28c=>
 K (.slice s28a s28l s28c) w26)
def Ct5 (N:Nums) (P:Program) (q0:OA) (qj qm:Nat) (q1:OA) (qo qu:Nat) (w:World) (K:KV):Prop:=
 Aa1 P N.Hy3 #[.slice q0 qj qm] w fun v2 w1=>
 vS_ v2 fun s3a s3l s3c=>
 Aa1 P N.Hy3 #[.slice q1 qo qu] w1 fun v5 w4=>
 vS_ v5 fun s6a s6l s6c=>
 cond ((s3l:Int) != (s6l:Int))
 (cond (decide ((s3l:Int)<(s6l:Int)))
 (K (.int .i64 (-1)) w4)
 (K (.int .i64 1) w4))
 (Ae8 (σ:=Unit) (fun J7=>
 Ae7 (σ:=Int×Unit) (fun s10 X11 w12=>
 cond (decide (s10.1≥0))
 ((0:Int)≤s10.1∧s10.1<(s3l:Nat) ∧
 Ae0 s3a fun a13=>
 cU_ w12 (a13.add (s10.1.toNat*1)) fun n14=>
 (0:Int)≤s10.1∧s10.1<(s6l:Nat) ∧
 Ae0 s6a fun a15=>
 cU_ w12 (a15.add (s10.1.toNat*1)) fun n16=>
 drM w12 fun w17=>
 cond (decide (n14<n16))
 (K (.int .i64 (-1)) w17)
 ((0:Int)≤s10.1∧s10.1<(s3l:Nat) ∧
 Ae0 s3a fun a18=>
 cU_ w17 (a18.add (s10.1.toNat*1)) fun n19=>
 (0:Int)≤s10.1∧s10.1<(s6l:Nat) ∧
 Ae0 s6a fun a20=>
 cU_ w17 (a20.add (s10.1.toNat*1)) fun n21=>
 drM w17 fun w22=>
 cond (decide (n19>n21))
 (K (.int .i64 1) w22)
 (X11 ((i64.wrap (s10.1-1)),()) w22)))
 (J7 (()) w12))
 ((i64.wrap ((s3l:Int)-1)),()) w4)
 (fun s8 w9=>
 K (.int .i64 0) w9))
def Cu4 (N:Nums) (P:Program) (q0:OA) (qj qm:Nat) (q1:OA) (qo qu:Nat) (w:World) (K:KV):Prop:=
 Aa1 P N.Hz4 #[.slice q0 qj qm] w fun v2 w1=>
 vS_ v2 fun s3a s3l s3c=>
 Aa1 P N.Hz4 #[.slice q1 qo qu] w1 fun v5 w4=>
 vS_ v5 fun s6a s6l s6c=>
 Ae8 (σ:=(OA×Nat×Nat)×Unit) (fun J7=>
 Ae7 (σ:=(OA×Nat×Nat)×Int×Int×Unit) (fun s10 X11 w12=>
 cond (decide (s10.2.2.1<(s3l:Int)))
 ((0:Int)≤s10.2.2.1∧s10.2.2.1<(s3l:Nat) ∧
 Ae0 s3a fun a13=>
 cU_ w12 (a13.add (s10.2.2.1.toNat*1)) fun n14=>
 drM w12 fun w15=>
 Aa1 P N.Ie6 #[.slice s6a s6l s6c,.int .i64 s10.2.2.1] w15 fun v17 w16=>
 ∃ n18,v17=(.int .u64 n18) ∧
 w16.cell? (a13.add (s10.2.2.1.toNat*1))=some (.int .u64 n14) ∧
 drM w16 fun w19=>
 (4294967296:Int)≠0 ∧
 Ad1 #[.int .u64 ((u64.wrap ((u64.wrap ((u64.wrap (4294967296+n14))-n18))-s10.2.1)).tmod 4294967296)] N.Il0 w19 fun p20 w21=>
 Dp0 N.Il0 1 8 #[.int .u64 0] s10.1.1 s10.1.2.1 s10.1.2.2 (some p20) 1 w21 fun s22a s22l s22c w23=>
 (4294967296:Int)≠0 ∧
 X11 ((s22a,s22l,s22c),(u64.wrap (1-(u64.wrap ((u64.wrap ((u64.wrap ((u64.wrap (4294967296+n14))-n18))-s10.2.1)).tdiv 4294967296)))),(i64.wrap (s10.2.2.1+1)),()) w23)
 (J7 ((s10.1.1,s10.1.2.1,s10.1.2.2),()) w12))
 ((none,0,0),0,0,()) w4)
 (fun s8 w9=>
 Aa1 P N.Id2 #[.slice s8.1.1 s8.1.2.1 s8.1.2.2] w9 fun v25 w24=>
 vS_ v25 fun s26a s26l s26c=>
 K (.slice s26a s26l s26c) w24)
def Cg3 (N:Nums) (P:Program) (qb:Bool) (qc:OA) (qe qg:Nat) (qd:Int) (w:World) (K:KV):Prop:=
 Ad1 #[.bool qb,.slice qc qe qg,.int .i64 qd] N.Ij1 w fun p1 w2=>
 cI_ w2 (p1.add 2) fun n3=>
 cS_ w2 (p1.add 1) fun s4a s4l s4c=>
 drM w2 fun w5=>
 Aa1 P N.Hy9 #[.slice s4a s4l s4c] w5 fun v7 w6=>
 ∃ n8,v7=(.int .i64 n8) ∧
 w6.cell? (p1.add 2)=some (.int .i64 n3) ∧
 drM w6 fun w9=>
 K (.int .i64 (i64.wrap (n3+n8))) w9
def Cl7 (N:Nums) (P:Program) (q0:OA) (qj qm:Nat) (q1:Int) (w:World) (K:KV):Prop:=
 Aa1 P N.Hz4 #[.slice q0 qj qm] w fun v2 w1=>
 vS_ v2 fun s3a s3l s3c=>
 Ae8 (σ:=Bool×Unit) (fun J4=>
 Ae7 (σ:=Bool×Int×Unit) (fun s7 X8 w9=>
 (32:Int)≠0 ∧
 cond (decide (s7.2.1<(i64.wrap (q1.tdiv 32))))
 (cond (decide (s7.2.1<(s3l:Int)))
 (cond (!s7.1)
 ((0:Int)≤s7.2.1∧s7.2.1<(s3l:Nat) ∧
 Ae0 s3a fun a10=>
 cU_ w9 (a10.add (s7.2.1.toNat*1)) fun n11=>
 X8 ((n11 != 0),(i64.wrap (s7.2.1+1)),()) w9)
 (X8 (true,(i64.wrap (s7.2.1+1)),()) w9))
 (J4 (s7.1,()) w9))
 (J4 (s7.1,()) w9))
 (false,0,()) w1)
 (fun s5 w6=>
 (32:Int)≠0 ∧
 cond (decide ((i64.wrap (q1.tdiv 32))≥(s3l:Int)))
 (K (.tuple #[.slice none 0 0,.bool s5.1]) w6)
 (Ae8 (σ:=Int×Unit) (fun J12=>
 Ae7 (σ:=Int×Int×Unit) (fun s15 X16 w17=>
 (32:Int)≠0 ∧
 cond (decide (s15.2.1<(q1.tmod 32)))
 (X16 ((u64.wrap (2*s15.1)),(i64.wrap (s15.2.1+1)),()) w17)
 (J12 (s15.1,()) w17))
 (1,0,()) w6)
 (fun s13 w14=>
 (32:Int)≠0 ∧
 (0:Int)≤(i64.wrap (q1.tdiv 32))∧(i64.wrap (q1.tdiv 32))≤(s3l:Nat) ∧
 Aa1 P N.Id0 #[.slice (An7 s3a ((i64.wrap (q1.tdiv 32)).toNat) s3c 1) (s3l-(i64.wrap (q1.tdiv 32)).toNat) (s3c-(i64.wrap (q1.tdiv 32)).toNat),.int .u64 s13.1] w14 fun v19 w18=>
 ∃ s20a s20l s20c,∃ n21,v19=(.tuple #[.slice s20a s20l s20c,.int .u64 n21]) ∧
 Aa1 P N.Id2 #[.slice s20a s20l s20c] w18 fun v23 w22=>
 vS_ v23 fun s24a s24l s24c=>
 cond (!s5.1)
 (K (.tuple #[.slice s24a s24l s24c,.bool (n21 != 0)]) w22)
 (K (.tuple #[.slice s24a s24l s24c,.bool true]) w22))))
def Fe6 (N:Nums) (P:Program) (q0:Int) (q1:Bool) (q2:Int) (q3:Bool) (w:World) (K:KV):Prop:=
 cond (q0==1)
 (K (.bool q1) w)
 (cond (q0==2)
 (K (.bool (!q1)) w)
 (cond (q0==3)
 (K (.bool false) w)
 (cond (!(decide (q2>0)))
 (cond (q2==0)
 (K (.bool q3) w)
 (K (.bool false) w))
 (K (.bool true) w))))
def Ce8 (N:Nums) (P:Program) (q0:OA) (qj qm:Nat) (w:World) (K:KV):Prop:=
 Aa1 P N.Hy3 #[.slice q0 qj qm] w fun v2 w1=>
 vS_ v2 fun s3a s3l s3c=>
 cond ((s3l:Int)==0)
 (K (.int .i64 0) w1)
 ((0:Int)≤(i64.wrap ((s3l:Int)-1))∧(i64.wrap ((s3l:Int)-1))<(s3l:Nat) ∧
 Ae0 s3a fun a4=>
 ∃ n5,w1.cell? (a4.add ((i64.wrap ((s3l:Int)-1)).toNat*1))=some (.int .u64 n5) ∧
 Ae8 (σ:=Int×Unit) (fun J6=>
 Ae7 (σ:=Int×Int×Unit) (fun s9 X10 w11=>
 cond (decide (s9.2.1>0))
 ((2:Int)≠0 ∧
 X10 ((i64.wrap (s9.1+1)),(u64.wrap (s9.2.1.tdiv 2)),()) w11)
 (J6 (s9.1,()) w11))
 ((i64.wrap (64*(i64.wrap ((s3l:Int)-1)))),n5,()) w1)
 (fun s7 w8=>
 K (.int .i64 s7.1) w8))
def Dq8 (N:Nums) (P:Program) (q0:Int) (q1:Bool) (w:World) (K:KV):Prop:=
 Aa1 P N.Ih5 #[.agg #[.bool q1,.int .u64 9007199254740991,.int .i64 971]] w fun v2 w1=>
 ∃ x3,∃ b4,v2=(.tuple #[.float .f64 x3,.bool b4]) ∧
 Ae8 (σ:=Nat×Unit) (fun J5=>
 cond q1
 (J5 (13830554455654793216,()) w1)
 (J5 (4607182418800017408,()) w1))
 (fun s6 w7=>
 cond (!(q0==3))
 (cond (q0==1)
 (cond (!(!q1))
 (cond (q0==2)
 (cond q1
 (K (.float .f64 x3) w7)
 (At5 (fdiv s6.1 0) w7 fun x8 w9=>
 K (.float .f64 x8) w9))
 (At5 (fdiv s6.1 0) w7 fun x10 w11=>
 K (.float .f64 x10) w11))
 (K (.float .f64 x3) w7))
 (cond (q0==2)
 (cond q1
 (K (.float .f64 x3) w7)
 (At5 (fdiv s6.1 0) w7 fun x12 w13=>
 K (.float .f64 x12) w13))
 (At5 (fdiv s6.1 0) w7 fun x14 w15=>
 K (.float .f64 x14) w15)))
 (K (.float .f64 x3) w7))
def Da9 (N:Nums) (P:Program) (q0:Bool) (q1:Int) (q2:Int) (w:World) (K:KV):Prop:=
 Ae8 (σ:=Int×Unit) (fun J1=>
 cond (q1==0)
 (J1 (0,()) w)
 (J1 (q2,()) w))
 (fun s2 w3=>
 Ae8 (σ:=Int×Int×Unit) (fun J4=>
 Ae7 (σ:=Int×Int×Unit) (fun s7 X8 w9=>
 cond (decide (s7.1>0))
 ((2:Int)≠0 ∧
 cond ((s7.1.tmod 2)==0)
 ((2:Int)≠0 ∧
 X8 ((u64.wrap (s7.1.tdiv 2)),(i64.wrap (s7.2.1+1)),()) w9)
 (J4 (s7.1,s7.2.1,()) w9))
 (J4 (s7.1,s7.2.1,()) w9))
 (q1,s2.1,()) w3)
 (fun s5 w6=>
 Aa1 P N.Ih5 #[.agg #[.bool q0,.int .u64 s5.1,.int .i64 s5.2.1]] w6 fun v11 w10=>
 ∃ x12,∃ b13,v11=(.tuple #[.float .f64 x12,.bool b13]) ∧
 K (.float .f64 x12) w10))
def Cg0 (N:Nums) (P:Program) (qb:Int) (qc:OA) (qe qg:Nat) (qd:OA) (qa qf:Nat) (w:World) (K:KV):Prop:=
 Ad1 #[.int .i64 qb,.slice qc qe qg,.slice qd qa qf] N.Ik8 w fun p1 w2=>
 cI_ w2 p1 fun n3=>
 cond (decide (n3≥0))
 (cI_ w2 p1 fun n4=>
 cond (decide (n4≤48))
 (cS_ w2 (p1.add 1) fun s5a s5l s5c=>
 cI_ w2 p1 fun n6=>
 cI_ w2 p1 fun n7=>
 (2:Int)≠0 ∧
 cond ((s5l:Int)==(i64.wrap ((i64.wrap (n6*(i64.wrap (n7-1)))).tdiv 2)))
 (cS_ w2 (p1.add 2) fun s8a s8l s8c=>
 cI_ w2 p1 fun n9=>
 K (.bool ((s8l:Int)==n9)) w2)
 (K (.bool false) w2))
 (K (.bool false) w2))
 (K (.bool false) w2)
def Ch7 (N:Nums) (P:Program) (q0:OA) (qj qm:Nat) (q1:OA) (qo qu:Nat) (q2:Value) (w:World) (K:KV):Prop:=
 Aa1 P N.Ib8 #[.slice q0 qj qm,.slice q1 qo qu] w fun v2 w1=>
 ∃ n3,v2=(.int .i64 n3) ∧
 cond (n3 != 0)
 (K (.tuple #[.slice none 0 0,.int .i64 n3]) w1)
 (mkM N.Ii0 1 8 #[.float .f64 0] (qj:Int) (qj:Int) w1 fun p4 w5=>
 Ae8 (σ:=Unit) (fun J6=>
 Ae7 (σ:=Int×Unit) (fun s9 X10 w11=>
 cond (decide (s9.1<(qj:Int)))
 ((0:Int)≤s9.1∧s9.1<(qj:Nat) ∧
 Ae0 q0 fun a12=>
 cF_ w11 (a12.add (s9.1.toNat*1)) fun x13=>
 (0:Int)≤s9.1∧s9.1<(qo:Nat) ∧
 Ae0 q1 fun a14=>
 cF_ w11 (a14.add (s9.1.toNat*1)) fun x15=>
 drM w11 fun w16=>
 fnM q2 fun f19 f19p f19q=>Aa1 P f19 (f19p.toList++(([.float .f64 x13,.float .f64 x15]:List Value)++f19q.toList)).toArray w16 fun v18 w17=>
 ∃ x20,v18=(.float .f64 x20) ∧
 (0:Int)≤s9.1∧s9.1<((qj:Int).toNat:Nat) ∧
 drM w17 fun w21=>
 stM (p4.add (s9.1.toNat*1)) (.float .f64 x20) w21 fun w22=>
 drM w22 fun w23=>
 X10 ((i64.wrap (s9.1+1)),()) w23)
 (J6 (()) w11))
 (0,()) w5)
 (fun s7 w8=>
 K (.tuple #[.slice (some p4) ((qj:Int).toNat) ((qj:Int).toNat),.int .i64 0]) w8))
def Bz5 (N:Nums) (P:Program) (q0:Nat) (q1:Nat) (w:World) (K:KV):Prop:=
 At5 (As2 q0 q1) w fun x1 w2=>
 K (.float .f64 x1) w2
def Dh4 (N:Nums) (P:Program) (qb:Int) (qc:OA) (qe qg:Nat) (qd:OA) (qa qf:Nat) (w:World) (K:KV):Prop:=
 Ad1 #[.int .i64 qb,.slice qc qe qg,.slice qd qa qf] N.Ik8 w fun p1 w2=>
 cI_ w2 p1 fun n3=>
 cond (decide (n3≥0))
 (cI_ w2 p1 fun n4=>
 cond (decide (n4≤48))
 (cS_ w2 (p1.add 1) fun s5a s5l s5c=>
 cI_ w2 p1 fun n6=>
 cI_ w2 p1 fun n7=>
 (2:Int)≠0 ∧
 cond ((s5l:Int)==(i64.wrap ((i64.wrap (n6*(i64.wrap (n7-1)))).tdiv 2)))
 (cS_ w2 (p1.add 2) fun s8a s8l s8c=>
 cI_ w2 p1 fun n9=>
 K (.bool ((s8l:Int)==n9)) w2)
 (K (.bool false) w2))
 (K (.bool false) w2))
 (K (.bool false) w2)
def Cj5 (N:Nums) (P:Program) (qb:Int) (qc:OA) (qe qg:Nat) (qd:OA) (qa qf:Nat) (q1:OA) (qo qu:Nat) (w:World) (K:KV):Prop:=
 Ad1 #[.int .i64 qb,.slice qc qe qg,.slice qd qa qf] N.Ik8 w fun p1 w2=>
 Ae8 (σ:=Bool×Unit) (fun J3=>
 cI_ w2 p1 fun n6=>
 cS_ w2 (p1.add 1) fun s7a s7l s7c=>
 cS_ w2 (p1.add 2) fun s8a s8l s8c=>
 Aa1 P N.Id3 #[.agg #[.int .i64 n6,.slice s7a s7l s7c,.slice s8a s8l s8c]] w2 fun v10 w9=>
 vB_ v10 fun b11=>
 cond (!(!b11))
 (cI_ w9 p1 fun n12=>
 J3 (((qo:Int) != n12),()) w9)
 (J3 (true,()) w9))
 (fun s4 w5=>
 cond s4.1
 (K (.tuple #[.slice none 0 0,.int .i64 4]) w5)
 (cI_ w5 p1 fun n13=>
 mkM N.Ii0 1 8 #[.float .f64 0] n13 n13 w5 fun p14 w15=>
 Ae8 (σ:=Unit) (fun J16=>
 Ae7 (σ:=Int×Unit) (fun s19 X20 w21=>
 cI_ w21 p1 fun n22=>
 cond (decide (s19.1<n22))
 ((0:Int)≤s19.1∧s19.1<(qo:Nat) ∧
 Ae0 q1 fun a23=>
 cF_ w21 (a23.add (s19.1.toNat*1)) fun x24=>
 Ae8 (σ:=Nat×Unit) (fun J25=>
 Ae7 (σ:=Nat×Int×Unit) (fun s28 X29 w30=>
 cond (decide (s28.2.1<s19.1))
 (cI_ w30 p1 fun n31=>
 cS_ w30 (p1.add 1) fun s32a s32l s32c=>
 cS_ w30 (p1.add 2) fun s33a s33l s33c=>
 (0:Int)≤s28.2.1∧s28.2.1<(n13.toNat:Nat) ∧
 cF_ w30 (p14.add (s28.2.1.toNat*1)) fun x34=>
 drM w30 fun w35=>
 Aa1 P N.Ij5 #[.agg #[.int .i64 n31,.slice s32a s32l s32c,.slice s33a s33l s33c],.int .i64 s19.1,.int .i64 s28.2.1] w35 fun v37 w36=>
 ∃ x38,v37=(.float .f64 x38) ∧
 w36.cell? (p14.add (s28.2.1.toNat*1))=some (.float .f64 x34) ∧
 At5 (Cq0 x38 x34) w36 fun x39 w40=>
 drM w36 fun w41=>
 At5 (Bn1 s28.1 x39) w41 fun x42 w43=>
 X29 (x42,(i64.wrap (s28.2.1+1)),()) w43)
 (J25 (s28.1,()) w30))
 (x24,0,()) w21)
 (fun s26 w27=>
 (0:Int)≤s19.1∧s19.1<(n13.toNat:Nat) ∧
 stM (p14.add (s19.1.toNat*1)) (.float .f64 s26.1) w27 fun w44=>
 X20 ((i64.wrap (s19.1+1)),()) w44))
 (J16 (()) w21))
 (0,()) w15)
 (fun s17 w18=>
 K (.tuple #[.slice (some p14) n13.toNat n13.toNat,.int .i64 0]) w18)))
end Go.Eng
