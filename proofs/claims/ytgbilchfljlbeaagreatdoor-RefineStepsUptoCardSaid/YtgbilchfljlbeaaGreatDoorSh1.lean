/-
 Some of the functions as propositions in the manner of a weakest precondition, printed off the structured code by a program of the session. No condition.
-/
import Derived.Test.YtgbilchfljlbeaaGreatDoorTbl
import Derived.Test.YtgbilchfljlbeaaGreatDoorNm
set_option linter.all false
set_option maxRecDepth 100000
namespace Go.Eng
open Go
open Go.IntKind (i64 u64 u32 u8)
def S_w14_RefineSteps (N:Nums) (P:Program) (qa:Int) (qc:Int) (qe:OA) (qb qg:Nat) (ym:Int) (yn:OA) (vp yb:Nat) (yo:OA) (vq yc:Nat) (yp:OA) (vr yd:Nat) (yq:OA) (vt ye:Nat) (w:World) (K:KV):Prop:=
 newM #[.int .i64 qa,.int .i64 qc,.slice qe qb qg,.int .i64 ym,.slice yn vp yb,.slice yo vq yc,.slice yp vr yd,.slice yq vt ye] N.t_w14_Case w fun p1 w2=>
 CallsX P N.f_w14_awake #[] w2 fun v4 w3=>
 vB_ v4 fun b5=>
 cond (!b5)
 (K (.bool false) w3)
 (cutM (σ:=Bool×Unit) (fun J6=>
 cI_ w3 p1 fun n9=>
 cI_ w3 (p1.add 1) fun n10=>
 cS_ w3 (p1.add 2) fun s11a s11l s11c=>
 CallsX P N.f_w14_great #[.agg #[.int .i64 n9,.int .i64 n10,.slice s11a s11l s11c]] w3 fun v13 w12=>
 vB_ v13 fun b14=>
 cond (!b14)
 (cS_ w12 (p1.add 6) fun s15a s15l s15c=>
 cond (!(decide ((s15l:Int)>100)))
 (cS_ w12 (p1.add 7) fun s16a s16l s16c=>
 J6 ((decide ((s16l:Int)>100)),()) w12)
 (J6 (true,()) w12))
 (J6 (true,()) w12))
 (fun s7 w8=>
 cond s7.1
 (K (.bool true) w8)
 (cutM (σ:=(OA)×(OA)×(OA×Nat×Nat)×(OA×Nat×Nat)×Unit) (fun J17=>
 cI_ w8 p1 fun n20=>
 cI_ w8 (p1.add 1) fun n21=>
 cS_ w8 (p1.add 2) fun s22a s22l s22c=>
 cI_ w8 (p1.add 3) fun n23=>
 cS_ w8 ((p1.add 3).add 1) fun s24a s24l s24c=>
 cS_ w8 ((p1.add 3).add 2) fun s25a s25l s25c=>
 cS_ w8 (p1.add 6) fun s26a s26l s26c=>
 cS_ w8 (p1.add 7) fun s27a s27l s27c=>
 (drM w8 fun w28=>
 CallsX P N.f_k_LentMatrix #[.agg #[.int .i64 n20,.int .i64 n21,.slice s22a s22l s22c]] w28 fun v30 w29=>
 ∃ n31,∃ n32,∃ s33a s33l s33c,v30=(.agg #[.int .i64 n31,.int .i64 n32,.slice s33a s33l s33c]) ∧
 w29.cell? (p1.add 7)=some (.slice s27a s27l s27c) ∧
 w29.cell? (p1.add 6)=some (.slice s26a s26l s26c) ∧
 w29.cell? (p1.add 3)=some (.int .i64 n23) ∧
 w29.cell? ((p1.add 3).add 1)=some (.slice s24a s24l s24c) ∧
 w29.cell? ((p1.add 3).add 2)=some (.slice s25a s25l s25c) ∧
 (drM w29 fun w34=>
 CallsX P N.f_k_LentFactor #[.agg #[.int .i64 n23,.slice s24a s24l s24c,.slice s25a s25l s25c]] w34 fun v36 w35=>
 ∃ n37,∃ s38a s38l s38c,∃ s39a s39l s39c,v36=(.agg #[.int .i64 n37,.slice s38a s38l s38c,.slice s39a s39l s39c]) ∧
 w35.cell? (p1.add 7)=some (.slice s27a s27l s27c) ∧
 w35.cell? (p1.add 6)=some (.slice s26a s26l s26c) ∧
 (drM w35 fun w40=>
 CallsX P N.f_k_LentReals #[.slice s26a s26l s26c] w40 fun v42 w41=>
 vS_ v42 fun s43a s43l s43c=>
 w41.cell? (p1.add 7)=some (.slice s27a s27l s27c) ∧
 (drM w41 fun w44=>
 CallsX P N.f_k_LentReals #[.slice s27a s27l s27c] w44 fun v46 w45=>
 vS_ v46 fun s47a s47l s47c=>
 (drM w45 fun w48=>
 newM #[.int .i64 0,.int .i64 0,.slice none 0 0] N.t_Matrix w48 fun p49 w50=>
 drM w50 fun w51=>
 newM #[.int .i64 0,.slice none 0 0,.slice none 0 0] N.t_Factor w51 fun p52 w53=>
 drM w53 fun w54=>
 stM p49 (.int .i64 n31) w54 fun w55=>
 stM (p49.add 1) (.int .i64 n32) w55 fun w56=>
 stM (p49.add 2) (.slice s33a s33l s33c) w56 fun w57=>
 drM w57 fun w58=>
 stM p52 (.int .i64 n37) w58 fun w59=>
 stM (p52.add 1) (.slice s38a s38l s38c) w59 fun w60=>
 stM (p52.add 2) (.slice s39a s39l s39c) w60 fun w61=>
 drM w61 fun w62=>
 J17 ((some p49),(some p52),(s43a,s43l,s43c),(s47a,s47l,s47c),()) w62) ∧
 (drM w45 fun w63=>
 newM #[.int .i64 0,.slice none 0 0,.slice none 0 0] N.t_Factor w63 fun p64 w65=>
 drM w65 fun w66=>
 newM #[.int .i64 0,.int .i64 0,.slice none 0 0] N.t_Matrix w66 fun p67 w68=>
 drM w68 fun w69=>
 stM p67 (.int .i64 n31) w69 fun w70=>
 stM (p67.add 1) (.int .i64 n32) w70 fun w71=>
 stM (p67.add 2) (.slice s33a s33l s33c) w71 fun w72=>
 drM w72 fun w73=>
 stM p64 (.int .i64 n37) w73 fun w74=>
 stM (p64.add 1) (.slice s38a s38l s38c) w74 fun w75=>
 stM (p64.add 2) (.slice s39a s39l s39c) w75 fun w76=>
 drM w76 fun w77=>
 J17 ((some p67),(some p64),(s43a,s43l,s43c),(s47a,s47l,s47c),()) w77)) ∧
 (drM w41 fun w78=>
 newM #[.int .i64 0,.int .i64 0,.slice none 0 0] N.t_Matrix w78 fun p79 w80=>
 w80.cell? (p1.add 7)=some (.slice s27a s27l s27c) ∧
 (drM w80 fun w81=>
 CallsX P N.f_k_LentReals #[.slice s27a s27l s27c] w81 fun v83 w82=>
 vS_ v83 fun s84a s84l s84c=>
 drM w82 fun w85=>
 newM #[.int .i64 0,.slice none 0 0,.slice none 0 0] N.t_Factor w85 fun p86 w87=>
 drM w87 fun w88=>
 stM p79 (.int .i64 n31) w88 fun w89=>
 stM (p79.add 1) (.int .i64 n32) w89 fun w90=>
 stM (p79.add 2) (.slice s33a s33l s33c) w90 fun w91=>
 drM w91 fun w92=>
 stM p86 (.int .i64 n37) w92 fun w93=>
 stM (p86.add 1) (.slice s38a s38l s38c) w93 fun w94=>
 stM (p86.add 2) (.slice s39a s39l s39c) w94 fun w95=>
 drM w95 fun w96=>
 J17 ((some p79),(some p86),(s43a,s43l,s43c),(s84a,s84l,s84c),()) w96) ∧
 (drM w80 fun w97=>
 newM #[.int .i64 0,.slice none 0 0,.slice none 0 0] N.t_Factor w97 fun p98 w99=>
 w99.cell? (p1.add 7)=some (.slice s27a s27l s27c) ∧
 drM w99 fun w100=>
 CallsX P N.f_k_LentReals #[.slice s27a s27l s27c] w100 fun v102 w101=>
 vS_ v102 fun s103a s103l s103c=>
 drM w101 fun w104=>
 stM p79 (.int .i64 n31) w104 fun w105=>
 stM (p79.add 1) (.int .i64 n32) w105 fun w106=>
 stM (p79.add 2) (.slice s33a s33l s33c) w106 fun w107=>
 drM w107 fun w108=>
 stM p98 (.int .i64 n37) w108 fun w109=>
 stM (p98.add 1) (.slice s38a s38l s38c) w109 fun w110=>
 stM (p98.add 2) (.slice s39a s39l s39c) w110 fun w111=>
 drM w111 fun w112=>
 J17 ((some p79),(some p98),(s43a,s43l,s43c),(s103a,s103l,s103c),()) w112)) ∧
 (drM w41 fun w113=>
 newM #[.int .i64 0,.slice none 0 0,.slice none 0 0] N.t_Factor w113 fun p114 w115=>
 w115.cell? (p1.add 7)=some (.slice s27a s27l s27c) ∧
 (drM w115 fun w116=>
 CallsX P N.f_k_LentReals #[.slice s27a s27l s27c] w116 fun v118 w117=>
 vS_ v118 fun s119a s119l s119c=>
 drM w117 fun w120=>
 newM #[.int .i64 0,.int .i64 0,.slice none 0 0] N.t_Matrix w120 fun p121 w122=>
 drM w122 fun w123=>
 stM p121 (.int .i64 n31) w123 fun w124=>
 stM (p121.add 1) (.int .i64 n32) w124 fun w125=>
 stM (p121.add 2) (.slice s33a s33l s33c) w125 fun w126=>
 drM w126 fun w127=>
 stM p114 (.int .i64 n37) w127 fun w128=>
 stM (p114.add 1) (.slice s38a s38l s38c) w128 fun w129=>
 stM (p114.add 2) (.slice s39a s39l s39c) w129 fun w130=>
 drM w130 fun w131=>
 J17 ((some p121),(some p114),(s43a,s43l,s43c),(s119a,s119l,s119c),()) w131) ∧
 (drM w115 fun w132=>
 newM #[.int .i64 0,.int .i64 0,.slice none 0 0] N.t_Matrix w132 fun p133 w134=>
 w134.cell? (p1.add 7)=some (.slice s27a s27l s27c) ∧
 drM w134 fun w135=>
 CallsX P N.f_k_LentReals #[.slice s27a s27l s27c] w135 fun v137 w136=>
 vS_ v137 fun s138a s138l s138c=>
 drM w136 fun w139=>
 stM p133 (.int .i64 n31) w139 fun w140=>
 stM (p133.add 1) (.int .i64 n32) w140 fun w141=>
 stM (p133.add 2) (.slice s33a s33l s33c) w141 fun w142=>
 drM w142 fun w143=>
 stM p114 (.int .i64 n37) w143 fun w144=>
 stM (p114.add 1) (.slice s38a s38l s38c) w144 fun w145=>
 stM (p114.add 2) (.slice s39a s39l s39c) w145 fun w146=>
 drM w146 fun w147=>
 J17 ((some p133),(some p114),(s43a,s43l,s43c),(s138a,s138l,s138c),()) w147))) ∧
 (drM w35 fun w148=>
 newM #[.int .i64 0,.int .i64 0,.slice none 0 0] N.t_Matrix w148 fun p149 w150=>
 w150.cell? (p1.add 7)=some (.slice s27a s27l s27c) ∧
 w150.cell? (p1.add 6)=some (.slice s26a s26l s26c) ∧
 (drM w150 fun w151=>
 CallsX P N.f_k_LentReals #[.slice s26a s26l s26c] w151 fun v153 w152=>
 vS_ v153 fun s154a s154l s154c=>
 w152.cell? (p1.add 7)=some (.slice s27a s27l s27c) ∧
 (drM w152 fun w155=>
 CallsX P N.f_k_LentReals #[.slice s27a s27l s27c] w155 fun v157 w156=>
 vS_ v157 fun s158a s158l s158c=>
 drM w156 fun w159=>
 newM #[.int .i64 0,.slice none 0 0,.slice none 0 0] N.t_Factor w159 fun p160 w161=>
 drM w161 fun w162=>
 stM p149 (.int .i64 n31) w162 fun w163=>
 stM (p149.add 1) (.int .i64 n32) w163 fun w164=>
 stM (p149.add 2) (.slice s33a s33l s33c) w164 fun w165=>
 drM w165 fun w166=>
 stM p160 (.int .i64 n37) w166 fun w167=>
 stM (p160.add 1) (.slice s38a s38l s38c) w167 fun w168=>
 stM (p160.add 2) (.slice s39a s39l s39c) w168 fun w169=>
 drM w169 fun w170=>
 J17 ((some p149),(some p160),(s154a,s154l,s154c),(s158a,s158l,s158c),()) w170) ∧
 (drM w152 fun w171=>
 newM #[.int .i64 0,.slice none 0 0,.slice none 0 0] N.t_Factor w171 fun p172 w173=>
 w173.cell? (p1.add 7)=some (.slice s27a s27l s27c) ∧
 drM w173 fun w174=>
 CallsX P N.f_k_LentReals #[.slice s27a s27l s27c] w174 fun v176 w175=>
 vS_ v176 fun s177a s177l s177c=>
 drM w175 fun w178=>
 stM p149 (.int .i64 n31) w178 fun w179=>
 stM (p149.add 1) (.int .i64 n32) w179 fun w180=>
 stM (p149.add 2) (.slice s33a s33l s33c) w180 fun w181=>
 drM w181 fun w182=>
 stM p172 (.int .i64 n37) w182 fun w183=>
 stM (p172.add 1) (.slice s38a s38l s38c) w183 fun w184=>
 stM (p172.add 2) (.slice s39a s39l s39c) w184 fun w185=>
 drM w185 fun w186=>
 J17 ((some p149),(some p172),(s154a,s154l,s154c),(s177a,s177l,s177c),()) w186)) ∧
 (drM w150 fun w187=>
 newM #[.int .i64 0,.slice none 0 0,.slice none 0 0] N.t_Factor w187 fun p188 w189=>
 w189.cell? (p1.add 7)=some (.slice s27a s27l s27c) ∧
 w189.cell? (p1.add 6)=some (.slice s26a s26l s26c) ∧
 drM w189 fun w190=>
 CallsX P N.f_k_LentReals #[.slice s26a s26l s26c] w190 fun v192 w191=>
 vS_ v192 fun s193a s193l s193c=>
 w191.cell? (p1.add 7)=some (.slice s27a s27l s27c) ∧
 drM w191 fun w194=>
 CallsX P N.f_k_LentReals #[.slice s27a s27l s27c] w194 fun v196 w195=>
 vS_ v196 fun s197a s197l s197c=>
 drM w195 fun w198=>
 stM p149 (.int .i64 n31) w198 fun w199=>
 stM (p149.add 1) (.int .i64 n32) w199 fun w200=>
 stM (p149.add 2) (.slice s33a s33l s33c) w200 fun w201=>
 drM w201 fun w202=>
 stM p188 (.int .i64 n37) w202 fun w203=>
 stM (p188.add 1) (.slice s38a s38l s38c) w203 fun w204=>
 stM (p188.add 2) (.slice s39a s39l s39c) w204 fun w205=>
 drM w205 fun w206=>
 J17 ((some p149),(some p188),(s193a,s193l,s193c),(s197a,s197l,s197c),()) w206)) ∧
 (drM w35 fun w207=>
 newM #[.int .i64 0,.slice none 0 0,.slice none 0 0] N.t_Factor w207 fun p208 w209=>
 w209.cell? (p1.add 7)=some (.slice s27a s27l s27c) ∧
 w209.cell? (p1.add 6)=some (.slice s26a s26l s26c) ∧
 (drM w209 fun w210=>
 CallsX P N.f_k_LentReals #[.slice s26a s26l s26c] w210 fun v212 w211=>
 vS_ v212 fun s213a s213l s213c=>
 w211.cell? (p1.add 7)=some (.slice s27a s27l s27c) ∧
 (drM w211 fun w214=>
 CallsX P N.f_k_LentReals #[.slice s27a s27l s27c] w214 fun v216 w215=>
 vS_ v216 fun s217a s217l s217c=>
 drM w215 fun w218=>
 newM #[.int .i64 0,.int .i64 0,.slice none 0 0] N.t_Matrix w218 fun p219 w220=>
 drM w220 fun w221=>
 stM p219 (.int .i64 n31) w221 fun w222=>
 stM (p219.add 1) (.int .i64 n32) w222 fun w223=>
 stM (p219.add 2) (.slice s33a s33l s33c) w223 fun w224=>
 drM w224 fun w225=>
 stM p208 (.int .i64 n37) w225 fun w226=>
 stM (p208.add 1) (.slice s38a s38l s38c) w226 fun w227=>
 stM (p208.add 2) (.slice s39a s39l s39c) w227 fun w228=>
 drM w228 fun w229=>
 J17 ((some p219),(some p208),(s213a,s213l,s213c),(s217a,s217l,s217c),()) w229) ∧
 (drM w211 fun w230=>
 newM #[.int .i64 0,.int .i64 0,.slice none 0 0] N.t_Matrix w230 fun p231 w232=>
 w232.cell? (p1.add 7)=some (.slice s27a s27l s27c) ∧
 drM w232 fun w233=>
 CallsX P N.f_k_LentReals #[.slice s27a s27l s27c] w233 fun v235 w234=>
 vS_ v235 fun s236a s236l s236c=>
 drM w234 fun w237=>
 stM p231 (.int .i64 n31) w237 fun w238=>
 stM (p231.add 1) (.int .i64 n32) w238 fun w239=>
 stM (p231.add 2) (.slice s33a s33l s33c) w239 fun w240=>
 drM w240 fun w241=>
 stM p208 (.int .i64 n37) w241 fun w242=>
 stM (p208.add 1) (.slice s38a s38l s38c) w242 fun w243=>
 stM (p208.add 2) (.slice s39a s39l s39c) w243 fun w244=>
 drM w244 fun w245=>
 J17 ((some p231),(some p208),(s213a,s213l,s213c),(s236a,s236l,s236c),()) w245)) ∧
 (drM w209 fun w246=>
 newM #[.int .i64 0,.int .i64 0,.slice none 0 0] N.t_Matrix w246 fun p247 w248=>
 w248.cell? (p1.add 7)=some (.slice s27a s27l s27c) ∧
 w248.cell? (p1.add 6)=some (.slice s26a s26l s26c) ∧
 drM w248 fun w249=>
 CallsX P N.f_k_LentReals #[.slice s26a s26l s26c] w249 fun v251 w250=>
 vS_ v251 fun s252a s252l s252c=>
 w250.cell? (p1.add 7)=some (.slice s27a s27l s27c) ∧
 drM w250 fun w253=>
 CallsX P N.f_k_LentReals #[.slice s27a s27l s27c] w253 fun v255 w254=>
 vS_ v255 fun s256a s256l s256c=>
 drM w254 fun w257=>
 stM p247 (.int .i64 n31) w257 fun w258=>
 stM (p247.add 1) (.int .i64 n32) w258 fun w259=>
 stM (p247.add 2) (.slice s33a s33l s33c) w259 fun w260=>
 drM w260 fun w261=>
 stM p208 (.int .i64 n37) w261 fun w262=>
 stM (p208.add 1) (.slice s38a s38l s38c) w262 fun w263=>
 stM (p208.add 2) (.slice s39a s39l s39c) w263 fun w264=>
 drM w264 fun w265=>
 J17 ((some p247),(some p208),(s252a,s252l,s252c),(s256a,s256l,s256c),()) w265))) ∧
 (drM w29 fun w266=>
 newM #[.int .i64 0,.int .i64 0,.slice none 0 0] N.t_Matrix w266 fun p267 w268=>
 w268.cell? (p1.add 7)=some (.slice s27a s27l s27c) ∧
 w268.cell? (p1.add 6)=some (.slice s26a s26l s26c) ∧
 w268.cell? (p1.add 3)=some (.int .i64 n23) ∧
 w268.cell? ((p1.add 3).add 1)=some (.slice s24a s24l s24c) ∧
 w268.cell? ((p1.add 3).add 2)=some (.slice s25a s25l s25c) ∧
 (drM w268 fun w269=>
 CallsX P N.f_k_LentFactor #[.agg #[.int .i64 n23,.slice s24a s24l s24c,.slice s25a s25l s25c]] w269 fun v271 w270=>
 ∃ n272,∃ s273a s273l s273c,∃ s274a s274l s274c,v271=(.agg #[.int .i64 n272,.slice s273a s273l s273c,.slice s274a s274l s274c]) ∧
 w270.cell? (p1.add 7)=some (.slice s27a s27l s27c) ∧
 w270.cell? (p1.add 6)=some (.slice s26a s26l s26c) ∧
 (drM w270 fun w275=>
 CallsX P N.f_k_LentReals #[.slice s26a s26l s26c] w275 fun v277 w276=>
 vS_ v277 fun s278a s278l s278c=>
 w276.cell? (p1.add 7)=some (.slice s27a s27l s27c) ∧
 (drM w276 fun w279=>
 CallsX P N.f_k_LentReals #[.slice s27a s27l s27c] w279 fun v281 w280=>
 vS_ v281 fun s282a s282l s282c=>
 drM w280 fun w283=>
 newM #[.int .i64 0,.slice none 0 0,.slice none 0 0] N.t_Factor w283 fun p284 w285=>
 drM w285 fun w286=>
 stM p267 (.int .i64 n31) w286 fun w287=>
 stM (p267.add 1) (.int .i64 n32) w287 fun w288=>
 stM (p267.add 2) (.slice s33a s33l s33c) w288 fun w289=>
 drM w289 fun w290=>
 stM p284 (.int .i64 n272) w290 fun w291=>
 stM (p284.add 1) (.slice s273a s273l s273c) w291 fun w292=>
 stM (p284.add 2) (.slice s274a s274l s274c) w292 fun w293=>
 drM w293 fun w294=>
 J17 ((some p267),(some p284),(s278a,s278l,s278c),(s282a,s282l,s282c),()) w294) ∧
 (drM w276 fun w295=>
 newM #[.int .i64 0,.slice none 0 0,.slice none 0 0] N.t_Factor w295 fun p296 w297=>
 w297.cell? (p1.add 7)=some (.slice s27a s27l s27c) ∧
 drM w297 fun w298=>
 CallsX P N.f_k_LentReals #[.slice s27a s27l s27c] w298 fun v300 w299=>
 vS_ v300 fun s301a s301l s301c=>
 drM w299 fun w302=>
 stM p267 (.int .i64 n31) w302 fun w303=>
 stM (p267.add 1) (.int .i64 n32) w303 fun w304=>
 stM (p267.add 2) (.slice s33a s33l s33c) w304 fun w305=>
 drM w305 fun w306=>
 stM p296 (.int .i64 n272) w306 fun w307=>
 stM (p296.add 1) (.slice s273a s273l s273c) w307 fun w308=>
 stM (p296.add 2) (.slice s274a s274l s274c) w308 fun w309=>
 drM w309 fun w310=>
 J17 ((some p267),(some p296),(s278a,s278l,s278c),(s301a,s301l,s301c),()) w310)) ∧
 (drM w270 fun w311=>
 newM #[.int .i64 0,.slice none 0 0,.slice none 0 0] N.t_Factor w311 fun p312 w313=>
 w313.cell? (p1.add 7)=some (.slice s27a s27l s27c) ∧
 w313.cell? (p1.add 6)=some (.slice s26a s26l s26c) ∧
 drM w313 fun w314=>
 CallsX P N.f_k_LentReals #[.slice s26a s26l s26c] w314 fun v316 w315=>
 vS_ v316 fun s317a s317l s317c=>
 w315.cell? (p1.add 7)=some (.slice s27a s27l s27c) ∧
 drM w315 fun w318=>
 CallsX P N.f_k_LentReals #[.slice s27a s27l s27c] w318 fun v320 w319=>
 vS_ v320 fun s321a s321l s321c=>
 drM w319 fun w322=>
 stM p267 (.int .i64 n31) w322 fun w323=>
 stM (p267.add 1) (.int .i64 n32) w323 fun w324=>
 stM (p267.add 2) (.slice s33a s33l s33c) w324 fun w325=>
 drM w325 fun w326=>
 stM p312 (.int .i64 n272) w326 fun w327=>
 stM (p312.add 1) (.slice s273a s273l s273c) w327 fun w328=>
 stM (p312.add 2) (.slice s274a s274l s274c) w328 fun w329=>
 drM w329 fun w330=>
 J17 ((some p267),(some p312),(s317a,s317l,s317c),(s321a,s321l,s321c),()) w330)) ∧
 (drM w268 fun w331=>
 newM #[.int .i64 0,.slice none 0 0,.slice none 0 0] N.t_Factor w331 fun p332 w333=>
 w333.cell? (p1.add 7)=some (.slice s27a s27l s27c) ∧
 w333.cell? (p1.add 6)=some (.slice s26a s26l s26c) ∧
 w333.cell? (p1.add 3)=some (.int .i64 n23) ∧
 w333.cell? ((p1.add 3).add 1)=some (.slice s24a s24l s24c) ∧
 w333.cell? ((p1.add 3).add 2)=some (.slice s25a s25l s25c) ∧
 drM w333 fun w334=>
 CallsX P N.f_k_LentFactor #[.agg #[.int .i64 n23,.slice s24a s24l s24c,.slice s25a s25l s25c]] w334 fun v336 w335=>
 ∃ n337,∃ s338a s338l s338c,∃ s339a s339l s339c,v336=(.agg #[.int .i64 n337,.slice s338a s338l s338c,.slice s339a s339l s339c]) ∧
 w335.cell? (p1.add 7)=some (.slice s27a s27l s27c) ∧
 w335.cell? (p1.add 6)=some (.slice s26a s26l s26c) ∧
 drM w335 fun w340=>
 CallsX P N.f_k_LentReals #[.slice s26a s26l s26c] w340 fun v342 w341=>
 vS_ v342 fun s343a s343l s343c=>
 w341.cell? (p1.add 7)=some (.slice s27a s27l s27c) ∧
 drM w341 fun w344=>
 CallsX P N.f_k_LentReals #[.slice s27a s27l s27c] w344 fun v346 w345=>
 vS_ v346 fun s347a s347l s347c=>
 drM w345 fun w348=>
 stM p267 (.int .i64 n31) w348 fun w349=>
 stM (p267.add 1) (.int .i64 n32) w349 fun w350=>
 stM (p267.add 2) (.slice s33a s33l s33c) w350 fun w351=>
 drM w351 fun w352=>
 stM p332 (.int .i64 n337) w352 fun w353=>
 stM (p332.add 1) (.slice s338a s338l s338c) w353 fun w354=>
 stM (p332.add 2) (.slice s339a s339l s339c) w354 fun w355=>
 drM w355 fun w356=>
 J17 ((some p267),(some p332),(s343a,s343l,s343c),(s347a,s347l,s347c),()) w356)) ∧
 (drM w29 fun w357=>
 newM #[.int .i64 0,.slice none 0 0,.slice none 0 0] N.t_Factor w357 fun p358 w359=>
 w359.cell? (p1.add 7)=some (.slice s27a s27l s27c) ∧
 w359.cell? (p1.add 6)=some (.slice s26a s26l s26c) ∧
 w359.cell? (p1.add 3)=some (.int .i64 n23) ∧
 w359.cell? ((p1.add 3).add 1)=some (.slice s24a s24l s24c) ∧
 w359.cell? ((p1.add 3).add 2)=some (.slice s25a s25l s25c) ∧
 (drM w359 fun w360=>
 CallsX P N.f_k_LentFactor #[.agg #[.int .i64 n23,.slice s24a s24l s24c,.slice s25a s25l s25c]] w360 fun v362 w361=>
 ∃ n363,∃ s364a s364l s364c,∃ s365a s365l s365c,v362=(.agg #[.int .i64 n363,.slice s364a s364l s364c,.slice s365a s365l s365c]) ∧
 w361.cell? (p1.add 7)=some (.slice s27a s27l s27c) ∧
 w361.cell? (p1.add 6)=some (.slice s26a s26l s26c) ∧
 (drM w361 fun w366=>
 CallsX P N.f_k_LentReals #[.slice s26a s26l s26c] w366 fun v368 w367=>
 vS_ v368 fun s369a s369l s369c=>
 w367.cell? (p1.add 7)=some (.slice s27a s27l s27c) ∧
 (drM w367 fun w370=>
 CallsX P N.f_k_LentReals #[.slice s27a s27l s27c] w370 fun v372 w371=>
 vS_ v372 fun s373a s373l s373c=>
 drM w371 fun w374=>
 newM #[.int .i64 0,.int .i64 0,.slice none 0 0] N.t_Matrix w374 fun p375 w376=>
 drM w376 fun w377=>
 stM p375 (.int .i64 n31) w377 fun w378=>
 stM (p375.add 1) (.int .i64 n32) w378 fun w379=>
 stM (p375.add 2) (.slice s33a s33l s33c) w379 fun w380=>
 drM w380 fun w381=>
 stM p358 (.int .i64 n363) w381 fun w382=>
 stM (p358.add 1) (.slice s364a s364l s364c) w382 fun w383=>
 stM (p358.add 2) (.slice s365a s365l s365c) w383 fun w384=>
 drM w384 fun w385=>
 J17 ((some p375),(some p358),(s369a,s369l,s369c),(s373a,s373l,s373c),()) w385) ∧
 (drM w367 fun w386=>
 newM #[.int .i64 0,.int .i64 0,.slice none 0 0] N.t_Matrix w386 fun p387 w388=>
 w388.cell? (p1.add 7)=some (.slice s27a s27l s27c) ∧
 drM w388 fun w389=>
 CallsX P N.f_k_LentReals #[.slice s27a s27l s27c] w389 fun v391 w390=>
 vS_ v391 fun s392a s392l s392c=>
 drM w390 fun w393=>
 stM p387 (.int .i64 n31) w393 fun w394=>
 stM (p387.add 1) (.int .i64 n32) w394 fun w395=>
 stM (p387.add 2) (.slice s33a s33l s33c) w395 fun w396=>
 drM w396 fun w397=>
 stM p358 (.int .i64 n363) w397 fun w398=>
 stM (p358.add 1) (.slice s364a s364l s364c) w398 fun w399=>
 stM (p358.add 2) (.slice s365a s365l s365c) w399 fun w400=>
 drM w400 fun w401=>
 J17 ((some p387),(some p358),(s369a,s369l,s369c),(s392a,s392l,s392c),()) w401)) ∧
 (drM w361 fun w402=>
 newM #[.int .i64 0,.int .i64 0,.slice none 0 0] N.t_Matrix w402 fun p403 w404=>
 w404.cell? (p1.add 7)=some (.slice s27a s27l s27c) ∧
 w404.cell? (p1.add 6)=some (.slice s26a s26l s26c) ∧
 drM w404 fun w405=>
 CallsX P N.f_k_LentReals #[.slice s26a s26l s26c] w405 fun v407 w406=>
 vS_ v407 fun s408a s408l s408c=>
 w406.cell? (p1.add 7)=some (.slice s27a s27l s27c) ∧
 drM w406 fun w409=>
 CallsX P N.f_k_LentReals #[.slice s27a s27l s27c] w409 fun v411 w410=>
 vS_ v411 fun s412a s412l s412c=>
 drM w410 fun w413=>
 stM p403 (.int .i64 n31) w413 fun w414=>
 stM (p403.add 1) (.int .i64 n32) w414 fun w415=>
 stM (p403.add 2) (.slice s33a s33l s33c) w415 fun w416=>
 drM w416 fun w417=>
 stM p358 (.int .i64 n363) w417 fun w418=>
 stM (p358.add 1) (.slice s364a s364l s364c) w418 fun w419=>
 stM (p358.add 2) (.slice s365a s365l s365c) w419 fun w420=>
 drM w420 fun w421=>
 J17 ((some p403),(some p358),(s408a,s408l,s408c),(s412a,s412l,s412c),()) w421)) ∧
 (drM w359 fun w422=>
 newM #[.int .i64 0,.int .i64 0,.slice none 0 0] N.t_Matrix w422 fun p423 w424=>
 w424.cell? (p1.add 7)=some (.slice s27a s27l s27c) ∧
 w424.cell? (p1.add 6)=some (.slice s26a s26l s26c) ∧
 w424.cell? (p1.add 3)=some (.int .i64 n23) ∧
 w424.cell? ((p1.add 3).add 1)=some (.slice s24a s24l s24c) ∧
 w424.cell? ((p1.add 3).add 2)=some (.slice s25a s25l s25c) ∧
 drM w424 fun w425=>
 CallsX P N.f_k_LentFactor #[.agg #[.int .i64 n23,.slice s24a s24l s24c,.slice s25a s25l s25c]] w425 fun v427 w426=>
 ∃ n428,∃ s429a s429l s429c,∃ s430a s430l s430c,v427=(.agg #[.int .i64 n428,.slice s429a s429l s429c,.slice s430a s430l s430c]) ∧
 w426.cell? (p1.add 7)=some (.slice s27a s27l s27c) ∧
 w426.cell? (p1.add 6)=some (.slice s26a s26l s26c) ∧
 drM w426 fun w431=>
 CallsX P N.f_k_LentReals #[.slice s26a s26l s26c] w431 fun v433 w432=>
 vS_ v433 fun s434a s434l s434c=>
 w432.cell? (p1.add 7)=some (.slice s27a s27l s27c) ∧
 drM w432 fun w435=>
 CallsX P N.f_k_LentReals #[.slice s27a s27l s27c] w435 fun v437 w436=>
 vS_ v437 fun s438a s438l s438c=>
 drM w436 fun w439=>
 stM p423 (.int .i64 n31) w439 fun w440=>
 stM (p423.add 1) (.int .i64 n32) w440 fun w441=>
 stM (p423.add 2) (.slice s33a s33l s33c) w441 fun w442=>
 drM w442 fun w443=>
 stM p358 (.int .i64 n428) w443 fun w444=>
 stM (p358.add 1) (.slice s429a s429l s429c) w444 fun w445=>
 stM (p358.add 2) (.slice s430a s430l s430c) w445 fun w446=>
 drM w446 fun w447=>
 J17 ((some p423),(some p358),(s434a,s434l,s434c),(s438a,s438l,s438c),()) w447))) ∧
 (drM w8 fun w448=>
 newM #[.int .i64 0,.int .i64 0,.slice none 0 0] N.t_Matrix w448 fun p449 w450=>
 w450.cell? (p1.add 7)=some (.slice s27a s27l s27c) ∧
 w450.cell? (p1.add 6)=some (.slice s26a s26l s26c) ∧
 w450.cell? (p1.add 3)=some (.int .i64 n23) ∧
 w450.cell? ((p1.add 3).add 1)=some (.slice s24a s24l s24c) ∧
 w450.cell? ((p1.add 3).add 2)=some (.slice s25a s25l s25c) ∧
 w450.cell? p1=some (.int .i64 n20) ∧
 w450.cell? (p1.add 1)=some (.int .i64 n21) ∧
 w450.cell? (p1.add 2)=some (.slice s22a s22l s22c) ∧
 (drM w450 fun w451=>
 CallsX P N.f_k_LentMatrix #[.agg #[.int .i64 n20,.int .i64 n21,.slice s22a s22l s22c]] w451 fun v453 w452=>
 ∃ n454,∃ n455,∃ s456a s456l s456c,v453=(.agg #[.int .i64 n454,.int .i64 n455,.slice s456a s456l s456c]) ∧
 w452.cell? (p1.add 7)=some (.slice s27a s27l s27c) ∧
 w452.cell? (p1.add 6)=some (.slice s26a s26l s26c) ∧
 w452.cell? (p1.add 3)=some (.int .i64 n23) ∧
 w452.cell? ((p1.add 3).add 1)=some (.slice s24a s24l s24c) ∧
 w452.cell? ((p1.add 3).add 2)=some (.slice s25a s25l s25c) ∧
 (drM w452 fun w457=>
 CallsX P N.f_k_LentFactor #[.agg #[.int .i64 n23,.slice s24a s24l s24c,.slice s25a s25l s25c]] w457 fun v459 w458=>
 ∃ n460,∃ s461a s461l s461c,∃ s462a s462l s462c,v459=(.agg #[.int .i64 n460,.slice s461a s461l s461c,.slice s462a s462l s462c]) ∧
 w458.cell? (p1.add 7)=some (.slice s27a s27l s27c) ∧
 w458.cell? (p1.add 6)=some (.slice s26a s26l s26c) ∧
 (drM w458 fun w463=>
 CallsX P N.f_k_LentReals #[.slice s26a s26l s26c] w463 fun v465 w464=>
 vS_ v465 fun s466a s466l s466c=>
 w464.cell? (p1.add 7)=some (.slice s27a s27l s27c) ∧
 (drM w464 fun w467=>
 CallsX P N.f_k_LentReals #[.slice s27a s27l s27c] w467 fun v469 w468=>
 vS_ v469 fun s470a s470l s470c=>
 drM w468 fun w471=>
 newM #[.int .i64 0,.slice none 0 0,.slice none 0 0] N.t_Factor w471 fun p472 w473=>
 drM w473 fun w474=>
 stM p449 (.int .i64 n454) w474 fun w475=>
 stM (p449.add 1) (.int .i64 n455) w475 fun w476=>
 stM (p449.add 2) (.slice s456a s456l s456c) w476 fun w477=>
 drM w477 fun w478=>
 stM p472 (.int .i64 n460) w478 fun w479=>
 stM (p472.add 1) (.slice s461a s461l s461c) w479 fun w480=>
 stM (p472.add 2) (.slice s462a s462l s462c) w480 fun w481=>
 drM w481 fun w482=>
 J17 ((some p449),(some p472),(s466a,s466l,s466c),(s470a,s470l,s470c),()) w482) ∧
 (drM w464 fun w483=>
 newM #[.int .i64 0,.slice none 0 0,.slice none 0 0] N.t_Factor w483 fun p484 w485=>
 w485.cell? (p1.add 7)=some (.slice s27a s27l s27c) ∧
 drM w485 fun w486=>
 CallsX P N.f_k_LentReals #[.slice s27a s27l s27c] w486 fun v488 w487=>
 vS_ v488 fun s489a s489l s489c=>
 drM w487 fun w490=>
 stM p449 (.int .i64 n454) w490 fun w491=>
 stM (p449.add 1) (.int .i64 n455) w491 fun w492=>
 stM (p449.add 2) (.slice s456a s456l s456c) w492 fun w493=>
 drM w493 fun w494=>
 stM p484 (.int .i64 n460) w494 fun w495=>
 stM (p484.add 1) (.slice s461a s461l s461c) w495 fun w496=>
 stM (p484.add 2) (.slice s462a s462l s462c) w496 fun w497=>
 drM w497 fun w498=>
 J17 ((some p449),(some p484),(s466a,s466l,s466c),(s489a,s489l,s489c),()) w498)) ∧
 (drM w458 fun w499=>
 newM #[.int .i64 0,.slice none 0 0,.slice none 0 0] N.t_Factor w499 fun p500 w501=>
 w501.cell? (p1.add 7)=some (.slice s27a s27l s27c) ∧
 w501.cell? (p1.add 6)=some (.slice s26a s26l s26c) ∧
 drM w501 fun w502=>
 CallsX P N.f_k_LentReals #[.slice s26a s26l s26c] w502 fun v504 w503=>
 vS_ v504 fun s505a s505l s505c=>
 w503.cell? (p1.add 7)=some (.slice s27a s27l s27c) ∧
 drM w503 fun w506=>
 CallsX P N.f_k_LentReals #[.slice s27a s27l s27c] w506 fun v508 w507=>
 vS_ v508 fun s509a s509l s509c=>
 drM w507 fun w510=>
 stM p449 (.int .i64 n454) w510 fun w511=>
 stM (p449.add 1) (.int .i64 n455) w511 fun w512=>
 stM (p449.add 2) (.slice s456a s456l s456c) w512 fun w513=>
 drM w513 fun w514=>
 stM p500 (.int .i64 n460) w514 fun w515=>
 stM (p500.add 1) (.slice s461a s461l s461c) w515 fun w516=>
 stM (p500.add 2) (.slice s462a s462l s462c) w516 fun w517=>
 drM w517 fun w518=>
 J17 ((some p449),(some p500),(s505a,s505l,s505c),(s509a,s509l,s509c),()) w518)) ∧
 (drM w452 fun w519=>
 newM #[.int .i64 0,.slice none 0 0,.slice none 0 0] N.t_Factor w519 fun p520 w521=>
 w521.cell? (p1.add 7)=some (.slice s27a s27l s27c) ∧
 w521.cell? (p1.add 6)=some (.slice s26a s26l s26c) ∧
 w521.cell? (p1.add 3)=some (.int .i64 n23) ∧
 w521.cell? ((p1.add 3).add 1)=some (.slice s24a s24l s24c) ∧
 w521.cell? ((p1.add 3).add 2)=some (.slice s25a s25l s25c) ∧
 drM w521 fun w522=>
 CallsX P N.f_k_LentFactor #[.agg #[.int .i64 n23,.slice s24a s24l s24c,.slice s25a s25l s25c]] w522 fun v524 w523=>
 ∃ n525,∃ s526a s526l s526c,∃ s527a s527l s527c,v524=(.agg #[.int .i64 n525,.slice s526a s526l s526c,.slice s527a s527l s527c]) ∧
 w523.cell? (p1.add 7)=some (.slice s27a s27l s27c) ∧
 w523.cell? (p1.add 6)=some (.slice s26a s26l s26c) ∧
 drM w523 fun w528=>
 CallsX P N.f_k_LentReals #[.slice s26a s26l s26c] w528 fun v530 w529=>
 vS_ v530 fun s531a s531l s531c=>
 w529.cell? (p1.add 7)=some (.slice s27a s27l s27c) ∧
 drM w529 fun w532=>
 CallsX P N.f_k_LentReals #[.slice s27a s27l s27c] w532 fun v534 w533=>
 vS_ v534 fun s535a s535l s535c=>
 drM w533 fun w536=>
 stM p449 (.int .i64 n454) w536 fun w537=>
 stM (p449.add 1) (.int .i64 n455) w537 fun w538=>
 stM (p449.add 2) (.slice s456a s456l s456c) w538 fun w539=>
 drM w539 fun w540=>
 stM p520 (.int .i64 n525) w540 fun w541=>
 stM (p520.add 1) (.slice s526a s526l s526c) w541 fun w542=>
 stM (p520.add 2) (.slice s527a s527l s527c) w542 fun w543=>
 drM w543 fun w544=>
 J17 ((some p449),(some p520),(s531a,s531l,s531c),(s535a,s535l,s535c),()) w544)) ∧
 (drM w450 fun w545=>
 newM #[.int .i64 0,.slice none 0 0,.slice none 0 0] N.t_Factor w545 fun p546 w547=>
 w547.cell? (p1.add 7)=some (.slice s27a s27l s27c) ∧
 w547.cell? (p1.add 6)=some (.slice s26a s26l s26c) ∧
 w547.cell? (p1.add 3)=some (.int .i64 n23) ∧
 w547.cell? ((p1.add 3).add 1)=some (.slice s24a s24l s24c) ∧
 w547.cell? ((p1.add 3).add 2)=some (.slice s25a s25l s25c) ∧
 w547.cell? p1=some (.int .i64 n20) ∧
 w547.cell? (p1.add 1)=some (.int .i64 n21) ∧
 w547.cell? (p1.add 2)=some (.slice s22a s22l s22c) ∧
 drM w547 fun w548=>
 CallsX P N.f_k_LentMatrix #[.agg #[.int .i64 n20,.int .i64 n21,.slice s22a s22l s22c]] w548 fun v550 w549=>
 ∃ n551,∃ n552,∃ s553a s553l s553c,v550=(.agg #[.int .i64 n551,.int .i64 n552,.slice s553a s553l s553c]) ∧
 w549.cell? (p1.add 7)=some (.slice s27a s27l s27c) ∧
 w549.cell? (p1.add 6)=some (.slice s26a s26l s26c) ∧
 w549.cell? (p1.add 3)=some (.int .i64 n23) ∧
 w549.cell? ((p1.add 3).add 1)=some (.slice s24a s24l s24c) ∧
 w549.cell? ((p1.add 3).add 2)=some (.slice s25a s25l s25c) ∧
 drM w549 fun w554=>
 CallsX P N.f_k_LentFactor #[.agg #[.int .i64 n23,.slice s24a s24l s24c,.slice s25a s25l s25c]] w554 fun v556 w555=>
 ∃ n557,∃ s558a s558l s558c,∃ s559a s559l s559c,v556=(.agg #[.int .i64 n557,.slice s558a s558l s558c,.slice s559a s559l s559c]) ∧
 w555.cell? (p1.add 7)=some (.slice s27a s27l s27c) ∧
 w555.cell? (p1.add 6)=some (.slice s26a s26l s26c) ∧
 drM w555 fun w560=>
 CallsX P N.f_k_LentReals #[.slice s26a s26l s26c] w560 fun v562 w561=>
 vS_ v562 fun s563a s563l s563c=>
 w561.cell? (p1.add 7)=some (.slice s27a s27l s27c) ∧
 drM w561 fun w564=>
 CallsX P N.f_k_LentReals #[.slice s27a s27l s27c] w564 fun v566 w565=>
 vS_ v566 fun s567a s567l s567c=>
 drM w565 fun w568=>
 stM p449 (.int .i64 n551) w568 fun w569=>
 stM (p449.add 1) (.int .i64 n552) w569 fun w570=>
 stM (p449.add 2) (.slice s553a s553l s553c) w570 fun w571=>
 drM w571 fun w572=>
 stM p546 (.int .i64 n557) w572 fun w573=>
 stM (p546.add 1) (.slice s558a s558l s558c) w573 fun w574=>
 stM (p546.add 2) (.slice s559a s559l s559c) w574 fun w575=>
 drM w575 fun w576=>
 J17 ((some p449),(some p546),(s563a,s563l,s563c),(s567a,s567l,s567c),()) w576)) ∧
 (drM w8 fun w577=>
 newM #[.int .i64 0,.slice none 0 0,.slice none 0 0] N.t_Factor w577 fun p578 w579=>
 w579.cell? (p1.add 7)=some (.slice s27a s27l s27c) ∧
 w579.cell? (p1.add 6)=some (.slice s26a s26l s26c) ∧
 w579.cell? (p1.add 3)=some (.int .i64 n23) ∧
 w579.cell? ((p1.add 3).add 1)=some (.slice s24a s24l s24c) ∧
 w579.cell? ((p1.add 3).add 2)=some (.slice s25a s25l s25c) ∧
 w579.cell? p1=some (.int .i64 n20) ∧
 w579.cell? (p1.add 1)=some (.int .i64 n21) ∧
 w579.cell? (p1.add 2)=some (.slice s22a s22l s22c) ∧
 (drM w579 fun w580=>
 CallsX P N.f_k_LentMatrix #[.agg #[.int .i64 n20,.int .i64 n21,.slice s22a s22l s22c]] w580 fun v582 w581=>
 ∃ n583,∃ n584,∃ s585a s585l s585c,v582=(.agg #[.int .i64 n583,.int .i64 n584,.slice s585a s585l s585c]) ∧
 w581.cell? (p1.add 7)=some (.slice s27a s27l s27c) ∧
 w581.cell? (p1.add 6)=some (.slice s26a s26l s26c) ∧
 w581.cell? (p1.add 3)=some (.int .i64 n23) ∧
 w581.cell? ((p1.add 3).add 1)=some (.slice s24a s24l s24c) ∧
 w581.cell? ((p1.add 3).add 2)=some (.slice s25a s25l s25c) ∧
 (drM w581 fun w586=>
 CallsX P N.f_k_LentFactor #[.agg #[.int .i64 n23,.slice s24a s24l s24c,.slice s25a s25l s25c]] w586 fun v588 w587=>
 ∃ n589,∃ s590a s590l s590c,∃ s591a s591l s591c,v588=(.agg #[.int .i64 n589,.slice s590a s590l s590c,.slice s591a s591l s591c]) ∧
 w587.cell? (p1.add 7)=some (.slice s27a s27l s27c) ∧
 w587.cell? (p1.add 6)=some (.slice s26a s26l s26c) ∧
 (drM w587 fun w592=>
 CallsX P N.f_k_LentReals #[.slice s26a s26l s26c] w592 fun v594 w593=>
 vS_ v594 fun s595a s595l s595c=>
 w593.cell? (p1.add 7)=some (.slice s27a s27l s27c) ∧
 (drM w593 fun w596=>
 CallsX P N.f_k_LentReals #[.slice s27a s27l s27c] w596 fun v598 w597=>
 vS_ v598 fun s599a s599l s599c=>
 drM w597 fun w600=>
 newM #[.int .i64 0,.int .i64 0,.slice none 0 0] N.t_Matrix w600 fun p601 w602=>
 drM w602 fun w603=>
 stM p601 (.int .i64 n583) w603 fun w604=>
 stM (p601.add 1) (.int .i64 n584) w604 fun w605=>
 stM (p601.add 2) (.slice s585a s585l s585c) w605 fun w606=>
 drM w606 fun w607=>
 stM p578 (.int .i64 n589) w607 fun w608=>
 stM (p578.add 1) (.slice s590a s590l s590c) w608 fun w609=>
 stM (p578.add 2) (.slice s591a s591l s591c) w609 fun w610=>
 drM w610 fun w611=>
 J17 ((some p601),(some p578),(s595a,s595l,s595c),(s599a,s599l,s599c),()) w611) ∧
 (drM w593 fun w612=>
 newM #[.int .i64 0,.int .i64 0,.slice none 0 0] N.t_Matrix w612 fun p613 w614=>
 w614.cell? (p1.add 7)=some (.slice s27a s27l s27c) ∧
 drM w614 fun w615=>
 CallsX P N.f_k_LentReals #[.slice s27a s27l s27c] w615 fun v617 w616=>
 vS_ v617 fun s618a s618l s618c=>
 drM w616 fun w619=>
 stM p613 (.int .i64 n583) w619 fun w620=>
 stM (p613.add 1) (.int .i64 n584) w620 fun w621=>
 stM (p613.add 2) (.slice s585a s585l s585c) w621 fun w622=>
 drM w622 fun w623=>
 stM p578 (.int .i64 n589) w623 fun w624=>
 stM (p578.add 1) (.slice s590a s590l s590c) w624 fun w625=>
 stM (p578.add 2) (.slice s591a s591l s591c) w625 fun w626=>
 drM w626 fun w627=>
 J17 ((some p613),(some p578),(s595a,s595l,s595c),(s618a,s618l,s618c),()) w627)) ∧
 (drM w587 fun w628=>
 newM #[.int .i64 0,.int .i64 0,.slice none 0 0] N.t_Matrix w628 fun p629 w630=>
 w630.cell? (p1.add 7)=some (.slice s27a s27l s27c) ∧
 w630.cell? (p1.add 6)=some (.slice s26a s26l s26c) ∧
 drM w630 fun w631=>
 CallsX P N.f_k_LentReals #[.slice s26a s26l s26c] w631 fun v633 w632=>
 vS_ v633 fun s634a s634l s634c=>
 w632.cell? (p1.add 7)=some (.slice s27a s27l s27c) ∧
 drM w632 fun w635=>
 CallsX P N.f_k_LentReals #[.slice s27a s27l s27c] w635 fun v637 w636=>
 vS_ v637 fun s638a s638l s638c=>
 drM w636 fun w639=>
 stM p629 (.int .i64 n583) w639 fun w640=>
 stM (p629.add 1) (.int .i64 n584) w640 fun w641=>
 stM (p629.add 2) (.slice s585a s585l s585c) w641 fun w642=>
 drM w642 fun w643=>
 stM p578 (.int .i64 n589) w643 fun w644=>
 stM (p578.add 1) (.slice s590a s590l s590c) w644 fun w645=>
 stM (p578.add 2) (.slice s591a s591l s591c) w645 fun w646=>
 drM w646 fun w647=>
 J17 ((some p629),(some p578),(s634a,s634l,s634c),(s638a,s638l,s638c),()) w647)) ∧
 (drM w581 fun w648=>
 newM #[.int .i64 0,.int .i64 0,.slice none 0 0] N.t_Matrix w648 fun p649 w650=>
 w650.cell? (p1.add 7)=some (.slice s27a s27l s27c) ∧
 w650.cell? (p1.add 6)=some (.slice s26a s26l s26c) ∧
 w650.cell? (p1.add 3)=some (.int .i64 n23) ∧
 w650.cell? ((p1.add 3).add 1)=some (.slice s24a s24l s24c) ∧
 w650.cell? ((p1.add 3).add 2)=some (.slice s25a s25l s25c) ∧
 drM w650 fun w651=>
 CallsX P N.f_k_LentFactor #[.agg #[.int .i64 n23,.slice s24a s24l s24c,.slice s25a s25l s25c]] w651 fun v653 w652=>
 ∃ n654,∃ s655a s655l s655c,∃ s656a s656l s656c,v653=(.agg #[.int .i64 n654,.slice s655a s655l s655c,.slice s656a s656l s656c]) ∧
 w652.cell? (p1.add 7)=some (.slice s27a s27l s27c) ∧
 w652.cell? (p1.add 6)=some (.slice s26a s26l s26c) ∧
 drM w652 fun w657=>
 CallsX P N.f_k_LentReals #[.slice s26a s26l s26c] w657 fun v659 w658=>
 vS_ v659 fun s660a s660l s660c=>
 w658.cell? (p1.add 7)=some (.slice s27a s27l s27c) ∧
 drM w658 fun w661=>
 CallsX P N.f_k_LentReals #[.slice s27a s27l s27c] w661 fun v663 w662=>
 vS_ v663 fun s664a s664l s664c=>
 drM w662 fun w665=>
 stM p649 (.int .i64 n583) w665 fun w666=>
 stM (p649.add 1) (.int .i64 n584) w666 fun w667=>
 stM (p649.add 2) (.slice s585a s585l s585c) w667 fun w668=>
 drM w668 fun w669=>
 stM p578 (.int .i64 n654) w669 fun w670=>
 stM (p578.add 1) (.slice s655a s655l s655c) w670 fun w671=>
 stM (p578.add 2) (.slice s656a s656l s656c) w671 fun w672=>
 drM w672 fun w673=>
 J17 ((some p649),(some p578),(s660a,s660l,s660c),(s664a,s664l,s664c),()) w673)) ∧
 (drM w579 fun w674=>
 newM #[.int .i64 0,.int .i64 0,.slice none 0 0] N.t_Matrix w674 fun p675 w676=>
 w676.cell? (p1.add 7)=some (.slice s27a s27l s27c) ∧
 w676.cell? (p1.add 6)=some (.slice s26a s26l s26c) ∧
 w676.cell? (p1.add 3)=some (.int .i64 n23) ∧
 w676.cell? ((p1.add 3).add 1)=some (.slice s24a s24l s24c) ∧
 w676.cell? ((p1.add 3).add 2)=some (.slice s25a s25l s25c) ∧
 w676.cell? p1=some (.int .i64 n20) ∧
 w676.cell? (p1.add 1)=some (.int .i64 n21) ∧
 w676.cell? (p1.add 2)=some (.slice s22a s22l s22c) ∧
 drM w676 fun w677=>
 CallsX P N.f_k_LentMatrix #[.agg #[.int .i64 n20,.int .i64 n21,.slice s22a s22l s22c]] w677 fun v679 w678=>
 ∃ n680,∃ n681,∃ s682a s682l s682c,v679=(.agg #[.int .i64 n680,.int .i64 n681,.slice s682a s682l s682c]) ∧
 w678.cell? (p1.add 7)=some (.slice s27a s27l s27c) ∧
 w678.cell? (p1.add 6)=some (.slice s26a s26l s26c) ∧
 w678.cell? (p1.add 3)=some (.int .i64 n23) ∧
 w678.cell? ((p1.add 3).add 1)=some (.slice s24a s24l s24c) ∧
 w678.cell? ((p1.add 3).add 2)=some (.slice s25a s25l s25c) ∧
 drM w678 fun w683=>
 CallsX P N.f_k_LentFactor #[.agg #[.int .i64 n23,.slice s24a s24l s24c,.slice s25a s25l s25c]] w683 fun v685 w684=>
 ∃ n686,∃ s687a s687l s687c,∃ s688a s688l s688c,v685=(.agg #[.int .i64 n686,.slice s687a s687l s687c,.slice s688a s688l s688c]) ∧
 w684.cell? (p1.add 7)=some (.slice s27a s27l s27c) ∧
 w684.cell? (p1.add 6)=some (.slice s26a s26l s26c) ∧
 drM w684 fun w689=>
 CallsX P N.f_k_LentReals #[.slice s26a s26l s26c] w689 fun v691 w690=>
 vS_ v691 fun s692a s692l s692c=>
 w690.cell? (p1.add 7)=some (.slice s27a s27l s27c) ∧
 drM w690 fun w693=>
 CallsX P N.f_k_LentReals #[.slice s27a s27l s27c] w693 fun v695 w694=>
 vS_ v695 fun s696a s696l s696c=>
 drM w694 fun w697=>
 stM p675 (.int .i64 n680) w697 fun w698=>
 stM (p675.add 1) (.int .i64 n681) w698 fun w699=>
 stM (p675.add 2) (.slice s682a s682l s682c) w699 fun w700=>
 drM w700 fun w701=>
 stM p578 (.int .i64 n686) w701 fun w702=>
 stM (p578.add 1) (.slice s687a s687l s687c) w702 fun w703=>
 stM (p578.add 2) (.slice s688a s688l s688c) w703 fun w704=>
 drM w704 fun w705=>
 J17 ((some p675),(some p578),(s692a,s692l,s692c),(s696a,s696l,s696c),()) w705)))
 (fun s18 w19=>
 optM s18.1 fun a706=>
 cI_ w19 a706 fun n707=>
 cI_ w19 (a706.add 1) fun n708=>
 cS_ w19 (a706.add 2) fun s709a s709l s709c=>
 optM s18.2.1 fun a710=>
 cI_ w19 a710 fun n711=>
 cS_ w19 (a710.add 1) fun s712a s712l s712c=>
 cS_ w19 (a710.add 2) fun s713a s713l s713c=>
 CallsX P N.f_refine_Step #[.agg #[.int .i64 n707,.int .i64 n708,.slice s709a s709l s709c],.agg #[.int .i64 n711,.slice s712a s712l s712c,.slice s713a s713l s713c],.slice s18.2.2.1.1 s18.2.2.1.2.1 s18.2.2.1.2.2,.slice s18.2.2.2.1.1 s18.2.2.2.1.2.1 s18.2.2.2.1.2.2] w19 fun v715 w714=>
 ∃ s716a s716l s716c,∃ n717,v715=(.tuple #[.slice s716a s716l s716c,.int .i64 n717]) ∧
 cI_ w714 p1 fun n718=>
 cI_ w714 (p1.add 1) fun n719=>
 cS_ w714 (p1.add 2) fun s720a s720l s720c=>
 cI_ w714 (p1.add 3) fun n721=>
 cS_ w714 ((p1.add 3).add 1) fun s722a s722l s722c=>
 cS_ w714 ((p1.add 3).add 2) fun s723a s723l s723c=>
 cS_ w714 (p1.add 6) fun s724a s724l s724c=>
 cS_ w714 (p1.add 7) fun s725a s725l s725c=>
 CallsX P N.f_r14_Step #[.agg #[.int .i64 n718,.int .i64 n719,.slice s720a s720l s720c],.agg #[.int .i64 n721,.slice s722a s722l s722c,.slice s723a s723l s723c],.slice s724a s724l s724c,.slice s725a s725l s725c] w714 fun v727 w726=>
 ∃ s728a s728l s728c,∃ n729,v727=(.tuple #[.slice s728a s728l s728c,.int .i64 n729]) ∧
 optM s18.1 fun a730=>
 cI_ w726 a730 fun n731=>
 cI_ w726 (a730.add 1) fun n732=>
 cS_ w726 (a730.add 2) fun s733a s733l s733c=>
 cI_ w726 p1 fun n734=>
 cI_ w726 (p1.add 1) fun n735=>
 cS_ w726 (p1.add 2) fun s736a s736l s736c=>
 CallsX P N.f_k_KeptMatrix #[.agg #[.int .i64 n731,.int .i64 n732,.slice s733a s733l s733c],.agg #[.int .i64 n734,.int .i64 n735,.slice s736a s736l s736c]] w726 fun v738 w737=>
 vB_ v738 fun b739=>
 cond b739
 (optM s18.2.1 fun a740=>
 cI_ w737 a740 fun n741=>
 cS_ w737 (a740.add 1) fun s742a s742l s742c=>
 cS_ w737 (a740.add 2) fun s743a s743l s743c=>
 cI_ w737 (p1.add 3) fun n744=>
 cS_ w737 ((p1.add 3).add 1) fun s745a s745l s745c=>
 cS_ w737 ((p1.add 3).add 2) fun s746a s746l s746c=>
 CallsX P N.f_k_KeptFactor #[.agg #[.int .i64 n741,.slice s742a s742l s742c,.slice s743a s743l s743c],.agg #[.int .i64 n744,.slice s745a s745l s745c,.slice s746a s746l s746c]] w737 fun v748 w747=>
 vB_ v748 fun b749=>
 cond b749
 (cS_ w747 (p1.add 6) fun s750a s750l s750c=>
 CallsX P N.f_k_KeptReals #[.slice s18.2.2.1.1 s18.2.2.1.2.1 s18.2.2.1.2.2,.slice s750a s750l s750c] w747 fun v752 w751=>
 vB_ v752 fun b753=>
 cond b753
 (cS_ w751 (p1.add 7) fun s754a s754l s754c=>
 CallsX P N.f_k_KeptReals #[.slice s18.2.2.2.1.1 s18.2.2.2.1.2.1 s18.2.2.2.1.2.2,.slice s754a s754l s754c] w751 fun v756 w755=>
 vB_ v756 fun b757=>
 cond b757
 (cond (n717==n729)
 (CallsX P N.f_k_SameReals #[.slice s716a s716l s716c,.slice s728a s728l s728c] w755 fun v759 w758=>
 vB_ v759 fun b760=>
 K (.bool b760) w758)
 (K (.bool false) w755))
 (K (.bool false) w755))
 (K (.bool false) w751))
 (K (.bool false) w747))
 (K (.bool false) w737)))))
def S_w14_awake (N:Nums) (P:Program)  (w:World) (K:KV):Prop:=
 CallsX P N.f_w14_two #[] w fun v2 w1=>
 ∃ n3,∃ n4,∃ s5a s5l s5c,∃ n6,∃ s7a s7l s7c,∃ s8a s8l s8c,v2=(.tuple #[.agg #[.int .i64 n3,.int .i64 n4,.slice s5a s5l s5c],.agg #[.int .i64 n6,.slice s7a s7l s7c,.slice s8a s8l s8c]]) ∧
 newM #[.int .i64 0,.int .i64 0,.slice none 0 0] N.t_Matrix w1 fun p9 w10=>
 newM #[.int .i64 0,.slice none 0 0,.slice none 0 0] N.t_Factor w10 fun p11 w12=>
 stM p9 (.int .i64 n3) w12 fun w13=>
 stM (p9.add 1) (.int .i64 n4) w13 fun w14=>
 stM (p9.add 2) (.slice s5a s5l s5c) w14 fun w15=>
 stM p11 (.int .i64 n6) w15 fun w16=>
 stM (p11.add 1) (.slice s7a s7l s7c) w16 fun w17=>
 stM (p11.add 2) (.slice s8a s8l s8c) w17 fun w18=>
 cI_ w18 p9 fun n19=>
 cI_ w18 (p9.add 1) fun n20=>
 cS_ w18 (p9.add 2) fun s21a s21l s21c=>
 newM #[.float .f64 4607182418800017408,.float .f64 4607182418800017408] N.t_float64 w18 fun p22 w23=>
 newM #[.float .f64 4618441417868443648,.float .f64 4616189618054758400] N.t_float64 w23 fun p24 w25=>
 CallsX P N.f_refine_Left #[.agg #[.int .i64 n19,.int .i64 n20,.slice s21a s21l s21c],.slice (some p22) 2 2,.slice (some p24) 2 2] w25 fun v27 w26=>
 ∃ s28a s28l s28c,∃ n29,v27=(.tuple #[.slice s28a s28l s28c,.int .i64 n29]) ∧
 cI_ w26 p9 fun n30=>
 cI_ w26 (p9.add 1) fun n31=>
 cS_ w26 (p9.add 2) fun s32a s32l s32c=>
 cI_ w26 p11 fun n33=>
 cS_ w26 (p11.add 1) fun s34a s34l s34c=>
 cS_ w26 (p11.add 2) fun s35a s35l s35c=>
 newM #[.float .f64 4617315517961601024,.float .f64 4616189618054758400] N.t_float64 w26 fun p36 w37=>
 CallsX P N.f_refine_Until #[.agg #[.int .i64 n30,.int .i64 n31,.slice s32a s32l s32c],.agg #[.int .i64 n33,.slice s34a s34l s34c,.slice s35a s35l s35c],.slice (some p36) 2 2,.int .i64 8] w37 fun v39 w38=>
 ∃ s40a s40l s40c,∃ n41,∃ n42,v39=(.tuple #[.slice s40a s40l s40c,.int .i64 n41,.int .i64 n42]) ∧
 newM #[.float .f64 4607182418800017408,.float .f64 4607182418800017408] N.t_float64 w38 fun p43 w44=>
 newM #[.float .f64 4877398396442247168,.float .f64 4607182418800017408] N.t_float64 w44 fun p45 w46=>
 newM #[.float .f64 4877398396442247168] N.t_float64 w46 fun p47 w48=>
 CallsX P N.f_refine_Left #[.agg #[.int .i64 1,.int .i64 2,.slice (some p43) 2 2],.slice (some p45) 2 2,.slice (some p47) 1 1] w48 fun v50 w49=>
 ∃ s51a s51l s51c,∃ n52,v50=(.tuple #[.slice s51a s51l s51c,.int .i64 n52]) ∧
 cond (n29==0)
 (cond (n42==0)
 (cond (n52==0)
 (newM #[.float .f64 4607182418800017408,.float .f64 0] N.t_float64 w49 fun p53 w54=>
 CallsX P N.f_k_LikeReals #[.slice s28a s28l s28c,.slice (some p53) 2 2] w54 fun v56 w55=>
 vB_ v56 fun b57=>
 cond b57
 (cond ((s40l:Int)==2)
 ((0:Int)≤(0:Int)∧(0:Int)<(s40l:Nat) ∧
 optM s40a fun a58=>
 cF_ w55 (a58.add ((0:Int).toNat*1)) fun x59=>
 cond (fgt x59 4607092346807469998)
 ((0:Int)≤(0:Int)∧(0:Int)<(s40l:Nat) ∧
 optM s40a fun a60=>
 cF_ w55 (a60.add ((0:Int).toNat*1)) fun x61=>
 cond (flt x61 4607227454796291113)
 (cond (decide (n41≤8))
 (newM #[.float .f64 13830554455654793216] N.t_float64 w55 fun p62 w63=>
 CallsX P N.f_k_LikeReals #[.slice s51a s51l s51c,.slice (some p62) 1 1] w63 fun v65 w64=>
 vB_ v65 fun b66=>
 K (.bool b66) w64)
 (K (.bool false) w55))
 (K (.bool false) w55))
 (K (.bool false) w55))
 (K (.bool false) w55))
 (K (.bool false) w55))
 (K (.bool false) w49))
 (K (.bool false) w49))
 (K (.bool false) w49)
def S_w14_great (N:Nums) (P:Program) (qa:Int) (qc:Int) (qe:OA) (qb qg:Nat) (w:World) (K:KV):Prop:=
 newM #[.int .i64 qa,.int .i64 qc,.slice qe qb qg] N.t_Matrix w fun p1 w2=>
 cS_ w2 (p1.add 2) fun s3a s3l s3c=>
 K (.bool (decide ((s3l:Int)>100))) w2
def S_k_LentMatrix (N:Nums) (P:Program) (qa:Int) (qc:Int) (qe:OA) (qb qg:Nat) (w:World) (K:KV):Prop:=
 newM #[.int .i64 qa,.int .i64 qc,.slice qe qb qg] N.t_Matrix w fun p1 w2=>
 newM #[.int .i64 0,.int .i64 0,.slice none 0 0] N.t_Matrix w2 fun p3 w4=>
 cS_ w4 (p1.add 2) fun s5a s5l s5c=>
 CallsX P N.f_k_LentReals #[.slice s5a s5l s5c] w4 fun v7 w6=>
 vS_ v7 fun s8a s8l s8c=>
 stM (p1.add 2) (.slice s8a s8l s8c) w6 fun w9=>
 cI_ w9 p1 fun n10=>
 cI_ w9 (p1.add 1) fun n11=>
 cS_ w9 (p1.add 2) fun s12a s12l s12c=>
 stM p3 (.int .i64 n10) w9 fun w13=>
 stM (p3.add 1) (.int .i64 n11) w13 fun w14=>
 stM (p3.add 2) (.slice s12a s12l s12c) w14 fun w15=>
 cI_ w15 p3 fun n16=>
 cI_ w15 (p3.add 1) fun n17=>
 cS_ w15 (p3.add 2) fun s18a s18l s18c=>
 K (.agg #[.int .i64 n16,.int .i64 n17,.slice s18a s18l s18c]) w15
def S_k_LentReals (N:Nums) (P:Program) (q0:OA) (qh qn:Nat) (w:World) (K:KV):Prop:=
 mkM N.t_float64 1 8 #[.float .f64 0] 0 (i64.wrap ((qh:Int)+12)) w fun p1 w2=>
 appM N.t_float64 1 8 #[.float .f64 0] (some p1) ((0:Int).toNat) ((i64.wrap ((qh:Int)+12)).toNat) q0 qh w2 fun s3a s3l s3c w4=>
 cutM (σ:=(OA×Nat×Nat)×Unit) (fun J5=>
 loopM (σ:=(OA×Nat×Nat)×Int×Unit) (fun s8 X9 w10=>
 cond (decide (s8.2.1<12))
 (CallsX P N.f_k_mark #[.int .i64 1,.int .i64 s8.2.1] w10 fun v12 w11=>
 ∃ n13,v12=(.int .i64 n13) ∧
 newM #[.float .f64 (FloatKind.f64.nearest n13)] N.t_float64 w11 fun p14 w15=>
 appM N.t_float64 1 8 #[.float .f64 0] s8.1.1 s8.1.2.1 s8.1.2.2 (some p14) 1 w15 fun s16a s16l s16c w17=>
 X9 ((s16a,s16l,s16c),(i64.wrap (s8.2.1+1)),()) w17)
 (J5 ((s8.1.1,s8.1.2.1,s8.1.2.2),()) w10))
 ((s3a,s3l,s3c),0,()) w4)
 (fun s6 w7=>
 (0:Int)≤(qh:Int)∧(qh:Int)≤(s6.1.2.2:Nat) ∧
 K (.slice (slBase s6.1.1 0 s6.1.2.2 1) ((qh:Int).toNat) s6.1.2.2) w7)
def S_refine_Left (N:Nums) (P:Program) (qa:Int) (qc:Int) (qe:OA) (qb qg:Nat) (q1:OA) (qo qu:Nat) (q2:OA) (qy vg:Nat) (w:World) (K:KV):Prop:=
 newM #[.int .i64 qa,.int .i64 qc,.slice qe qb qg] N.t_Matrix w fun p1 w2=>
 cI_ w2 p1 fun n3=>
 cI_ w2 (p1.add 1) fun n4=>
 cS_ w2 (p1.add 2) fun s5a s5l s5c=>
 CallsX P N.f_refine_fit #[.agg #[.int .i64 n3,.int .i64 n4,.slice s5a s5l s5c],.slice q1 qo qu,.slice q2 qy vg] w2 fun v7 w6=>
 vB_ v7 fun b8=>
 cond (!b8)
 (K (.tuple #[.slice none 0 0,.int .i64 4]) w6)
 (cS_ w6 (p1.add 2) fun s9a s9l s9c=>
 newM #[.slice s9a s9l s9c,.slice q1 qo qu,.slice q2 qy vg] N.t_L_float64 w6 fun p10 w11=>
 CallsX P N.f_refine_finite #[.slice (some p10) 3 3] w11 fun v13 w12=>
 vB_ v13 fun b14=>
 cond (!b14)
 (K (.tuple #[.slice none 0 0,.int .i64 5]) w12)
 (newM #[.float .f64 4607182418800017408] N.t_float64 w12 fun p15 w16=>
 appM N.t_float64 1 8 #[.float .f64 0] (some p15) 1 1 q1 qo w16 fun s17a s17l s17c w18=>
 cI_ w18 p1 fun n19=>
 cutM (σ:=(OA×Nat×Nat)×Unit) (fun J20=>
 loopM (σ:=(OA×Nat×Nat)×Int×Unit) (fun s23 X24 w25=>
 cond (decide (s23.2.1<n19))
 ((0:Int)≤s23.2.1∧s23.2.1<(qy:Nat) ∧
 optM q2 fun a26=>
 cF_ w25 (a26.add (s23.2.1.toNat*1)) fun x27=>
 newM #[.float .f64 x27] N.t_float64 w25 fun p28 w29=>
 cS_ w29 (p1.add 2) fun s30a s30l s30c=>
 cI_ w29 (p1.add 1) fun n31=>
 cI_ w29 (p1.add 1) fun n32=>
 (0:Int)≤(i64.wrap ((i64.wrap (s23.2.1+1))*n32))∧(i64.wrap ((i64.wrap (s23.2.1+1))*n32))≤(s30c:Nat)∧(0:Int)≤(i64.wrap (s23.2.1*n31))∧(i64.wrap (s23.2.1*n31))≤(i64.wrap ((i64.wrap (s23.2.1+1))*n32)) ∧
 cutM (σ:=(OA×Nat×Nat)×Unit) (fun J33=>
 loopM (σ:=(OA×Nat×Nat)×Int×Unit) (fun s36 X37 w38=>
 cond (decide (s36.2.1<((((i64.wrap ((i64.wrap (s23.2.1+1))*n32)).toNat-(i64.wrap (s23.2.1*n31)).toNat):Nat):Int)))
 ((0:Int)≤s36.2.1∧s36.2.1<(((i64.wrap ((i64.wrap (s23.2.1+1))*n32)).toNat-(i64.wrap (s23.2.1*n31)).toNat):Nat) ∧
 optM (slBase s30a ((i64.wrap (s23.2.1*n31)).toNat) s30c 1) fun a39=>
 cF_ w38 (a39.add (s36.2.1.toNat*1)) fun x40=>
 newM #[.float .f64 (fneg x40)] N.t_float64 w38 fun p41 w42=>
 appM N.t_float64 1 8 #[.float .f64 0] s36.1.1 s36.1.2.1 s36.1.2.2 (some p41) 1 w42 fun s43a s43l s43c w44=>
 X37 ((s43a,s43l,s43c),(i64.wrap (s36.2.1+1)),()) w44)
 (J33 ((s36.1.1,s36.1.2.1,s36.1.2.2),()) w38))
 (((some p28),1,1),0,()) w29)
 (fun s34 w35=>
 CallsX P N.f_sums_DotExact #[.slice s34.1.1 s34.1.2.1 s34.1.2.2,.slice s17a s17l s17c,.int .i8 0] w35 fun v46 w45=>
 ∃ x47,∃ n48,v46=(.tuple #[.float .f64 x47,.int .i64 n48]) ∧
 newM #[.float .f64 x47] N.t_float64 w45 fun p49 w50=>
 appM N.t_float64 1 8 #[.float .f64 0] s23.1.1 s23.1.2.1 s23.1.2.2 (some p49) 1 w50 fun s51a s51l s51c w52=>
 X24 ((s51a,s51l,s51c),(i64.wrap (s23.2.1+1)),()) w52))
 (J20 ((s23.1.1,s23.1.2.1,s23.1.2.2),()) w25))
 ((none,0,0),0,()) w18)
 (fun s21 w22=>
 newM #[.slice s21.1.1 s21.1.2.1 s21.1.2.2] N.t_L_float64 w22 fun p53 w54=>
 CallsX P N.f_refine_finite #[.slice (some p53) 1 1] w54 fun v56 w55=>
 vB_ v56 fun b57=>
 cond (!b57)
 (K (.tuple #[.slice none 0 0,.int .i64 6]) w55)
 (K (.tuple #[.slice s21.1.1 s21.1.2.1 s21.1.2.2,.int .i64 0]) w55))))
def S_r14_Left (N:Nums) (P:Program) (qa:Int) (qc:Int) (qe:OA) (qb qg:Nat) (q1:OA) (qo qu:Nat) (q2:OA) (qy vg:Nat) (w:World) (K:KV):Prop:=
 newM #[.int .i64 qa,.int .i64 qc,.slice qe qb qg] N.t_Matrix w fun p1 w2=>
 cI_ w2 p1 fun n3=>
 cI_ w2 (p1.add 1) fun n4=>
 cS_ w2 (p1.add 2) fun s5a s5l s5c=>
 CallsX P N.f_r14_fit #[.agg #[.int .i64 n3,.int .i64 n4,.slice s5a s5l s5c],.slice q1 qo qu,.slice q2 qy vg] w2 fun v7 w6=>
 vB_ v7 fun b8=>
 cond (!b8)
 (K (.tuple #[.slice none 0 0,.int .i64 4]) w6)
 (cutM (σ:=Bool×Unit) (fun J9=>
 cS_ w6 (p1.add 2) fun s12a s12l s12c=>
 CallsX P N.f_r14_finite #[.slice s12a s12l s12c] w6 fun v14 w13=>
 vB_ v14 fun b15=>
 cond (!(!b15))
 (CallsX P N.f_r14_finite #[.slice q1 qo qu] w13 fun v17 w16=>
 vB_ v17 fun b18=>
 cond (!(!b18))
 (CallsX P N.f_r14_finite #[.slice q2 qy vg] w16 fun v20 w19=>
 vB_ v20 fun b21=>
 J9 ((!b21),()) w19)
 (J9 (true,()) w16))
 (J9 (true,()) w13))
 (fun s10 w11=>
 cond s10.1
 (K (.tuple #[.slice none 0 0,.int .i64 5]) w11)
 (cutM (σ:=(OA×Nat×Nat)×Unit) (fun J22=>
 loopM (σ:=(OA×Nat×Nat)×Int×Unit) (fun s25 X26 w27=>
 cI_ w27 p1 fun n28=>
 cond (decide (s25.2.1<n28))
 ((0:Int)≤s25.2.1∧s25.2.1<(qy:Nat) ∧
 optM q2 fun a29=>
 cF_ w27 (a29.add (s25.2.1.toNat*1)) fun x30=>
 CallsX P N.f_r02_Float #[.float .f64 x30] w27 fun v32 w31=>
 ∃ b33,∃ s34a s34l s34c,∃ n35,v32=(.agg #[.bool b33,.slice s34a s34l s34c,.int .i64 n35]) ∧
 newM #[.bool false,.slice none 0 0,.int .i64 0] N.t_r02_Num w31 fun p36 w37=>
 stM p36 (.bool b33) w37 fun w38=>
 stM (p36.add 1) (.slice s34a s34l s34c) w38 fun w39=>
 stM (p36.add 2) (.int .i64 n35) w39 fun w40=>
 cutM (σ:=Unit) (fun J41=>
 loopM (σ:=Int×Unit) (fun s44 X45 w46=>
 cI_ w46 (p1.add 1) fun n47=>
 cond (decide (s44.1<n47))
 (cutM (σ:=(OA)×Unit) (fun J48=>
 cS_ w46 (p1.add 2) fun s51a s51l s51c=>
 cI_ w46 (p1.add 1) fun n52=>
 (0:Int)≤(i64.wrap ((i64.wrap (s25.2.1*n52))+s44.1))∧(i64.wrap ((i64.wrap (s25.2.1*n52))+s44.1))<(s51l:Nat) ∧
 optM s51a fun a53=>
 ∃ x54,w46.cell? (a53.add ((i64.wrap ((i64.wrap (s25.2.1*n52))+s44.1)).toNat*1))=some (.float .f64 x54) ∧
 (0:Int)≤s44.1∧s44.1<(qo:Nat) ∧
 optM q1 fun a55=>
 cF_ w46 (a55.add (s44.1.toNat*1)) fun x56=>
 (drM w46 fun w57=>
 CallsX P N.f_r02_Float #[.float .f64 x54] w57 fun v59 w58=>
 ∃ b60,∃ s61a s61l s61c,∃ n62,v59=(.agg #[.bool b60,.slice s61a s61l s61c,.int .i64 n62]) ∧
 w58.cell? (a55.add (s44.1.toNat*1))=some (.float .f64 x56) ∧
 (drM w58 fun w63=>
 CallsX P N.f_r02_Float #[.float .f64 x56] w63 fun v65 w64=>
 ∃ b66,∃ s67a s67l s67c,∃ n68,v65=(.agg #[.bool b66,.slice s67a s67l s67c,.int .i64 n68]) ∧
 (drM w64 fun w69=>
 CallsX P N.f_r02_Times #[.agg #[.bool b60,.slice s61a s61l s61c,.int .i64 n62],.agg #[.bool b66,.slice s67a s67l s67c,.int .i64 n68]] w69 fun v71 w70=>
 ∃ b72,∃ s73a s73l s73c,∃ n74,v71=(.agg #[.bool b72,.slice s73a s73l s73c,.int .i64 n74]) ∧
 drM w70 fun w75=>
 newM #[.bool false,.slice none 0 0,.int .i64 0] N.t_r02_Num w75 fun p76 w77=>
 drM w77 fun w78=>
 stM p76 (.bool b72) w78 fun w79=>
 stM (p76.add 1) (.slice s73a s73l s73c) w79 fun w80=>
 stM (p76.add 2) (.int .i64 n74) w80 fun w81=>
 drM w81 fun w82=>
 J48 ((some p76),()) w82) ∧
 (drM w64 fun w83=>
 newM #[.bool false,.slice none 0 0,.int .i64 0] N.t_r02_Num w83 fun p84 w85=>
 drM w85 fun w86=>
 CallsX P N.f_r02_Times #[.agg #[.bool b60,.slice s61a s61l s61c,.int .i64 n62],.agg #[.bool b66,.slice s67a s67l s67c,.int .i64 n68]] w86 fun v88 w87=>
 ∃ b89,∃ s90a s90l s90c,∃ n91,v88=(.agg #[.bool b89,.slice s90a s90l s90c,.int .i64 n91]) ∧
 drM w87 fun w92=>
 stM p84 (.bool b89) w92 fun w93=>
 stM (p84.add 1) (.slice s90a s90l s90c) w93 fun w94=>
 stM (p84.add 2) (.int .i64 n91) w94 fun w95=>
 drM w95 fun w96=>
 J48 ((some p84),()) w96)) ∧
 (drM w58 fun w97=>
 newM #[.bool false,.slice none 0 0,.int .i64 0] N.t_r02_Num w97 fun p98 w99=>
 w99.cell? (a55.add (s44.1.toNat*1))=some (.float .f64 x56) ∧
 drM w99 fun w100=>
 CallsX P N.f_r02_Float #[.float .f64 x56] w100 fun v102 w101=>
 ∃ b103,∃ s104a s104l s104c,∃ n105,v102=(.agg #[.bool b103,.slice s104a s104l s104c,.int .i64 n105]) ∧
 drM w101 fun w106=>
 CallsX P N.f_r02_Times #[.agg #[.bool b60,.slice s61a s61l s61c,.int .i64 n62],.agg #[.bool b103,.slice s104a s104l s104c,.int .i64 n105]] w106 fun v108 w107=>
 ∃ b109,∃ s110a s110l s110c,∃ n111,v108=(.agg #[.bool b109,.slice s110a s110l s110c,.int .i64 n111]) ∧
 drM w107 fun w112=>
 stM p98 (.bool b109) w112 fun w113=>
 stM (p98.add 1) (.slice s110a s110l s110c) w113 fun w114=>
 stM (p98.add 2) (.int .i64 n111) w114 fun w115=>
 drM w115 fun w116=>
 J48 ((some p98),()) w116)) ∧
 (drM w46 fun w117=>
 newM #[.bool false,.slice none 0 0,.int .i64 0] N.t_r02_Num w117 fun p118 w119=>
 w119.cell? (a55.add (s44.1.toNat*1))=some (.float .f64 x56) ∧
 w119.cell? (a53.add ((i64.wrap ((i64.wrap (s25.2.1*n52))+s44.1)).toNat*1))=some (.float .f64 x54) ∧
 w119.cell? (p1.add 1)=some (.int .i64 n52) ∧
 w119.cell? (p1.add 2)=some (.slice s51a s51l s51c) ∧
 drM w119 fun w120=>
 CallsX P N.f_r02_Float #[.float .f64 x54] w120 fun v122 w121=>
 ∃ b123,∃ s124a s124l s124c,∃ n125,v122=(.agg #[.bool b123,.slice s124a s124l s124c,.int .i64 n125]) ∧
 w121.cell? (a55.add (s44.1.toNat*1))=some (.float .f64 x56) ∧
 drM w121 fun w126=>
 CallsX P N.f_r02_Float #[.float .f64 x56] w126 fun v128 w127=>
 ∃ b129,∃ s130a s130l s130c,∃ n131,v128=(.agg #[.bool b129,.slice s130a s130l s130c,.int .i64 n131]) ∧
 drM w127 fun w132=>
 CallsX P N.f_r02_Times #[.agg #[.bool b123,.slice s124a s124l s124c,.int .i64 n125],.agg #[.bool b129,.slice s130a s130l s130c,.int .i64 n131]] w132 fun v134 w133=>
 ∃ b135,∃ s136a s136l s136c,∃ n137,v134=(.agg #[.bool b135,.slice s136a s136l s136c,.int .i64 n137]) ∧
 drM w133 fun w138=>
 stM p118 (.bool b135) w138 fun w139=>
 stM (p118.add 1) (.slice s136a s136l s136c) w139 fun w140=>
 stM (p118.add 2) (.int .i64 n137) w140 fun w141=>
 drM w141 fun w142=>
 J48 ((some p118),()) w142))
 (fun s49 w50=>
 cB_ w50 p36 fun b143=>
 cS_ w50 (p36.add 1) fun s144a s144l s144c=>
 cI_ w50 (p36.add 2) fun n145=>
 optM s49.1 fun a146=>
 cB_ w50 a146 fun b147=>
 cS_ w50 (a146.add 1) fun s148a s148l s148c=>
 cI_ w50 (a146.add 2) fun n149=>
 drM w50 fun w150=>
 CallsX P N.f_r02_Minus #[.agg #[.bool b147,.slice s148a s148l s148c,.int .i64 n149]] w150 fun v152 w151=>
 ∃ b153,∃ s154a s154l s154c,∃ n155,v152=(.agg #[.bool b153,.slice s154a s154l s154c,.int .i64 n155]) ∧
 w151.cell? p36=some (.bool b143) ∧
 w151.cell? (p36.add 1)=some (.slice s144a s144l s144c) ∧
 w151.cell? (p36.add 2)=some (.int .i64 n145) ∧
 drM w151 fun w156=>
 CallsX P N.f_r02_Plus #[.agg #[.bool b143,.slice s144a s144l s144c,.int .i64 n145],.agg #[.bool b153,.slice s154a s154l s154c,.int .i64 n155]] w156 fun v158 w157=>
 ∃ b159,∃ s160a s160l s160c,∃ n161,v158=(.agg #[.bool b159,.slice s160a s160l s160c,.int .i64 n161]) ∧
 drM w157 fun w162=>
 stM p36 (.bool b159) w162 fun w163=>
 stM (p36.add 1) (.slice s160a s160l s160c) w163 fun w164=>
 stM (p36.add 2) (.int .i64 n161) w164 fun w165=>
 drM w165 fun w166=>
 X45 ((i64.wrap (s44.1+1)),()) w166))
 (J41 (()) w46))
 (0,()) w40)
 (fun s42 w43=>
 cB_ w43 p36 fun b167=>
 cS_ w43 (p36.add 1) fun s168a s168l s168c=>
 cI_ w43 (p36.add 2) fun n169=>
 CallsX P N.f_r02_Rounded #[.agg #[.bool b167,.slice s168a s168l s168c,.int .i64 n169],.int .i8 0] w43 fun v171 w170=>
 ∃ x172,v171=(.float .f64 x172) ∧
 newM #[.float .f64 x172] N.t_float64 w170 fun p173 w174=>
 appM N.t_float64 1 8 #[.float .f64 0] s25.1.1 s25.1.2.1 s25.1.2.2 (some p173) 1 w174 fun s175a s175l s175c w176=>
 X26 ((s175a,s175l,s175c),(i64.wrap (s25.2.1+1)),()) w176))
 (J22 ((s25.1.1,s25.1.2.1,s25.1.2.2),()) w27))
 ((none,0,0),0,()) w11)
 (fun s23 w24=>
 CallsX P N.f_r14_finite #[.slice s23.1.1 s23.1.2.1 s23.1.2.2] w24 fun v178 w177=>
 vB_ v178 fun b179=>
 cond (!b179)
 (K (.tuple #[.slice none 0 0,.int .i64 6]) w177)
 (K (.tuple #[.slice s23.1.1 s23.1.2.1 s23.1.2.2,.int .i64 0]) w177)))))
def S_k_SameReals (N:Nums) (P:Program) (q0:OA) (qh qn:Nat) (q1:OA) (qo qu:Nat) (w:World) (K:KV):Prop:=
 cond ((qh:Int) != (qo:Int))
 (K (.bool false) w)
 (cutM (σ:=Unit) (fun J1=>
 loopM (σ:=Int×Unit) (fun s4 X5 w6=>
 cond (decide (s4.1<(qh:Int)))
 ((0:Int)≤s4.1∧s4.1<(qh:Nat) ∧
 optM q0 fun a7=>
 cF_ w6 (a7.add (s4.1.toNat*1)) fun x8=>
 (0:Int)≤s4.1∧s4.1<(qo:Nat) ∧
 optM q1 fun a9=>
 cF_ w6 (a9.add (s4.1.toNat*1)) fun x10=>
 drM w6 fun w11=>
 CallsX P N.f_k_SameFloat #[.float .f64 x8,.float .f64 x10] w11 fun v13 w12=>
 vB_ v13 fun b14=>
 drM w12 fun w15=>
 cond (!b14)
 (K (.bool false) w15)
 (X5 ((i64.wrap (s4.1+1)),()) w15))
 (J1 (()) w6))
 (0,()) w)
 (fun s2 w3=>
 K (.bool true) w3))
def S_k_KeptMatrix (N:Nums) (P:Program) (qa:Int) (qc:Int) (qe:OA) (qb qg:Nat) (ql:Int) (qk:Int) (qr:OA) (qs qt:Nat) (w:World) (K:KV):Prop:=
 newM #[.int .i64 qa,.int .i64 qc,.slice qe qb qg] N.t_Matrix w fun p1 w2=>
 newM #[.int .i64 ql,.int .i64 qk,.slice qr qs qt] N.t_Matrix w2 fun p3 w4=>
 cI_ w4 p1 fun n5=>
 cI_ w4 (p1.add 1) fun n6=>
 cS_ w4 (p1.add 2) fun s7a s7l s7c=>
 cI_ w4 p3 fun n8=>
 cI_ w4 (p3.add 1) fun n9=>
 cS_ w4 (p3.add 2) fun s10a s10l s10c=>
 CallsX P N.f_k_SameMatrix #[.agg #[.int .i64 n5,.int .i64 n6,.slice s7a s7l s7c],.agg #[.int .i64 n8,.int .i64 n9,.slice s10a s10l s10c]] w4 fun v12 w11=>
 vB_ v12 fun b13=>
 cond b13
 (cS_ w11 (p1.add 2) fun s14a s14l s14c=>
 cS_ w11 (p3.add 2) fun s15a s15l s15c=>
 CallsX P N.f_k_KeptReals #[.slice s14a s14l s14c,.slice s15a s15l s15c] w11 fun v17 w16=>
 vB_ v17 fun b18=>
 K (.bool b18) w16)
 (K (.bool false) w11)
def S_k_KeptReals (N:Nums) (P:Program) (q0:OA) (qh qn:Nat) (q1:OA) (qo qu:Nat) (w:World) (K:KV):Prop:=
 cond ((qh:Int) != (qo:Int))
 (K (.bool false) w)
 ((0:Int)≤(i64.wrap ((qo:Int)+12))∧(i64.wrap ((qo:Int)+12))≤(qn:Nat) ∧
 cutM (σ:=Unit) (fun J1=>
 loopM (σ:=Int×Unit) (fun s4 X5 w6=>
 cond (decide (s4.1<(((i64.wrap ((qo:Int)+12)).toNat:Nat):Int)))
 (cond (decide (s4.1<(qo:Int)))
 ((0:Int)≤s4.1∧s4.1<((i64.wrap ((qo:Int)+12)).toNat:Nat) ∧
 optM (slBase q0 0 qn 1) fun a7=>
 cF_ w6 (a7.add (s4.1.toNat*1)) fun x8=>
 (0:Int)≤s4.1∧s4.1<(qo:Nat) ∧
 optM q1 fun a9=>
 cF_ w6 (a9.add (s4.1.toNat*1)) fun x10=>
 drM w6 fun w11=>
 CallsX P N.f_k_SameFloat #[.float .f64 x8,.float .f64 x10] w11 fun v13 w12=>
 vB_ v13 fun b14=>
 cond (!(!b14))
 (cond (decide (s4.1≥(qo:Int)))
 ((0:Int)≤s4.1∧s4.1<((i64.wrap ((qo:Int)+12)).toNat:Nat) ∧
 optM (slBase q0 0 qn 1) fun a15=>
 cF_ w12 (a15.add (s4.1.toNat*1)) fun x16=>
 drM w12 fun w17=>
 CallsX P N.f_k_mark #[.int .i64 1,.int .i64 (i64.wrap (s4.1-(qo:Int)))] w17 fun v19 w18=>
 ∃ n20,v19=(.int .i64 n20) ∧
 w18.cell? (a15.add (s4.1.toNat*1))=some (.float .f64 x16) ∧
 drM w18 fun w21=>
 cond (!(feq x16 (FloatKind.f64.nearest n20)))
 (K (.bool false) w21)
 (X5 ((i64.wrap (s4.1+1)),()) w21))
 (drM w12 fun w22=>
 drM w22 fun w23=>
 X5 ((i64.wrap (s4.1+1)),()) w23))
 (drM w12 fun w24=>
 drM w24 fun w25=>
 K (.bool false) w25))
 (drM w6 fun w26=>
 cond (decide (s4.1≥(qo:Int)))
 ((0:Int)≤s4.1∧s4.1<((i64.wrap ((qo:Int)+12)).toNat:Nat) ∧
 optM (slBase q0 0 qn 1) fun a27=>
 cF_ w26 (a27.add (s4.1.toNat*1)) fun x28=>
 drM w26 fun w29=>
 CallsX P N.f_k_mark #[.int .i64 1,.int .i64 (i64.wrap (s4.1-(qo:Int)))] w29 fun v31 w30=>
 ∃ n32,v31=(.int .i64 n32) ∧
 w30.cell? (a27.add (s4.1.toNat*1))=some (.float .f64 x28) ∧
 drM w30 fun w33=>
 cond (!(feq x28 (FloatKind.f64.nearest n32)))
 (K (.bool false) w33)
 (X5 ((i64.wrap (s4.1+1)),()) w33))
 (drM w26 fun w34=>
 drM w34 fun w35=>
 X5 ((i64.wrap (s4.1+1)),()) w35)))
 (J1 (()) w6))
 (0,()) w)
 (fun s2 w3=>
 K (.bool true) w3))
def S_k_LentFactor (N:Nums) (P:Program) (qa:Int) (qc:OA) (qd qf:Nat) (qe:OA) (qb qg:Nat) (w:World) (K:KV):Prop:=
 newM #[.int .i64 qa,.slice qc qd qf,.slice qe qb qg] N.t_Factor w fun p1 w2=>
 newM #[.int .i64 0,.slice none 0 0,.slice none 0 0] N.t_Factor w2 fun p3 w4=>
 cS_ w4 (p1.add 1) fun s5a s5l s5c=>
 CallsX P N.f_k_LentReals #[.slice s5a s5l s5c] w4 fun v7 w6=>
 vS_ v7 fun s8a s8l s8c=>
 stM (p1.add 1) (.slice s8a s8l s8c) w6 fun w9=>
 cS_ w9 (p1.add 2) fun s10a s10l s10c=>
 CallsX P N.f_k_LentReals #[.slice s10a s10l s10c] w9 fun v12 w11=>
 vS_ v12 fun s13a s13l s13c=>
 stM (p1.add 2) (.slice s13a s13l s13c) w11 fun w14=>
 cI_ w14 p1 fun n15=>
 cS_ w14 (p1.add 1) fun s16a s16l s16c=>
 cS_ w14 (p1.add 2) fun s17a s17l s17c=>
 stM p3 (.int .i64 n15) w14 fun w18=>
 stM (p3.add 1) (.slice s16a s16l s16c) w18 fun w19=>
 stM (p3.add 2) (.slice s17a s17l s17c) w19 fun w20=>
 cI_ w20 p3 fun n21=>
 cS_ w20 (p3.add 1) fun s22a s22l s22c=>
 cS_ w20 (p3.add 2) fun s23a s23l s23c=>
 K (.agg #[.int .i64 n21,.slice s22a s22l s22c,.slice s23a s23l s23c]) w20
def S_refine_Step (N:Nums) (P:Program) (qa:Int) (qc:Int) (qe:OA) (qb qg:Nat) (ql:Int) (qk:OA) (qi qj:Nat) (qr:OA) (qs qt:Nat) (q2:OA) (qy vg:Nat) (q3:OA) (vn yf:Nat) (w:World) (K:KV):Prop:=
 newM #[.int .i64 qa,.int .i64 qc,.slice qe qb qg] N.t_Matrix w fun p1 w2=>
 newM #[.int .i64 ql,.slice qk qi qj,.slice qr qs qt] N.t_Factor w2 fun p3 w4=>
 cutM (σ:=Bool×Unit) (fun J5=>
 cI_ w4 p1 fun n8=>
 cI_ w4 (p1.add 1) fun n9=>
 cS_ w4 (p1.add 2) fun s10a s10l s10c=>
 CallsX P N.f_refine_fit #[.agg #[.int .i64 n8,.int .i64 n9,.slice s10a s10l s10c],.slice q2 qy vg,.slice q3 vn yf] w4 fun v12 w11=>
 vB_ v12 fun b13=>
 cond (!(!b13))
 (cI_ w11 p1 fun n14=>
 cI_ w11 (p1.add 1) fun n15=>
 cS_ w11 (p1.add 2) fun s16a s16l s16c=>
 cI_ w11 p3 fun n17=>
 cS_ w11 (p3.add 1) fun s18a s18l s18c=>
 cS_ w11 (p3.add 2) fun s19a s19l s19c=>
 CallsX P N.f_refine_fits #[.agg #[.int .i64 n14,.int .i64 n15,.slice s16a s16l s16c],.agg #[.int .i64 n17,.slice s18a s18l s18c,.slice s19a s19l s19c]] w11 fun v21 w20=>
 vB_ v21 fun b22=>
 J5 ((!b22),()) w20)
 (J5 (true,()) w11))
 (fun s6 w7=>
 cond s6.1
 (K (.tuple #[.slice none 0 0,.int .i64 4]) w7)
 (cI_ w7 p1 fun n23=>
 cI_ w7 (p1.add 1) fun n24=>
 cS_ w7 (p1.add 2) fun s25a s25l s25c=>
 CallsX P N.f_refine_Left #[.agg #[.int .i64 n23,.int .i64 n24,.slice s25a s25l s25c],.slice q2 qy vg,.slice q3 vn yf] w7 fun v27 w26=>
 ∃ s28a s28l s28c,∃ n29,v27=(.tuple #[.slice s28a s28l s28c,.int .i64 n29]) ∧
 cond (n29 != 0)
 (K (.tuple #[.slice none 0 0,.int .i64 n29]) w26)
 (cI_ w26 p3 fun n30=>
 cS_ w26 (p3.add 1) fun s31a s31l s31c=>
 cS_ w26 (p3.add 2) fun s32a s32l s32c=>
 CallsX P N.f_solve_Solve #[.agg #[.int .i64 n30,.slice s31a s31l s31c,.slice s32a s32l s32c],.slice s28a s28l s28c] w26 fun v34 w33=>
 ∃ s35a s35l s35c,∃ n36,v34=(.tuple #[.slice s35a s35l s35c,.int .i64 n36]) ∧
 cond (n36 != 0)
 (K (.tuple #[.slice none 0 0,.int .i64 n36]) w33)
 (CallsX P N.f_vector_Add #[.slice q2 qy vg,.slice s35a s35l s35c] w33 fun v38 w37=>
 ∃ s39a s39l s39c,∃ n40,v38=(.tuple #[.slice s39a s39l s39c,.int .i64 n40]) ∧
 newM #[.slice s39a s39l s39c] N.t_L_float64 w37 fun p41 w42=>
 CallsX P N.f_refine_finite #[.slice (some p41) 1 1] w42 fun v44 w43=>
 vB_ v44 fun b45=>
 cond (!b45)
 (K (.tuple #[.slice none 0 0,.int .i64 6]) w43)
 (K (.tuple #[.slice s39a s39l s39c,.int .i64 0]) w43)))))
def S_r14_Step (N:Nums) (P:Program) (qa:Int) (qc:Int) (qe:OA) (qb qg:Nat) (ql:Int) (qk:OA) (qi qj:Nat) (qr:OA) (qs qt:Nat) (q2:OA) (qy vg:Nat) (q3:OA) (vn yf:Nat) (w:World) (K:KV):Prop:=
 newM #[.int .i64 qa,.int .i64 qc,.slice qe qb qg] N.t_Matrix w fun p1 w2=>
 newM #[.int .i64 ql,.slice qk qi qj,.slice qr qs qt] N.t_Factor w2 fun p3 w4=>
 cutM (σ:=Bool×Unit) (fun J5=>
 cI_ w4 p1 fun n8=>
 cI_ w4 (p1.add 1) fun n9=>
 cS_ w4 (p1.add 2) fun s10a s10l s10c=>
 CallsX P N.f_r14_fit #[.agg #[.int .i64 n8,.int .i64 n9,.slice s10a s10l s10c],.slice q2 qy vg,.slice q3 vn yf] w4 fun v12 w11=>
 vB_ v12 fun b13=>
 cond (!(!b13))
 (cI_ w11 p1 fun n14=>
 cI_ w11 (p1.add 1) fun n15=>
 cS_ w11 (p1.add 2) fun s16a s16l s16c=>
 cI_ w11 p3 fun n17=>
 cS_ w11 (p3.add 1) fun s18a s18l s18c=>
 cS_ w11 (p3.add 2) fun s19a s19l s19c=>
 CallsX P N.f_r14_fits #[.agg #[.int .i64 n14,.int .i64 n15,.slice s16a s16l s16c],.agg #[.int .i64 n17,.slice s18a s18l s18c,.slice s19a s19l s19c]] w11 fun v21 w20=>
 vB_ v21 fun b22=>
 J5 ((!b22),()) w20)
 (J5 (true,()) w11))
 (fun s6 w7=>
 cond s6.1
 (K (.tuple #[.slice none 0 0,.int .i64 4]) w7)
 (cI_ w7 p1 fun n23=>
 cI_ w7 (p1.add 1) fun n24=>
 cS_ w7 (p1.add 2) fun s25a s25l s25c=>
 CallsX P N.f_r14_Left #[.agg #[.int .i64 n23,.int .i64 n24,.slice s25a s25l s25c],.slice q2 qy vg,.slice q3 vn yf] w7 fun v27 w26=>
 ∃ s28a s28l s28c,∃ n29,v27=(.tuple #[.slice s28a s28l s28c,.int .i64 n29]) ∧
 cond (n29 != 0)
 (K (.tuple #[.slice none 0 0,.int .i64 n29]) w26)
 (cI_ w26 p3 fun n30=>
 cS_ w26 (p3.add 1) fun s31a s31l s31c=>
 cS_ w26 (p3.add 2) fun s32a s32l s32c=>
 CallsX P N.f_r13_Solve #[.agg #[.int .i64 n30,.slice s31a s31l s31c,.slice s32a s32l s32c],.slice s28a s28l s28c] w26 fun v34 w33=>
 ∃ s35a s35l s35c,∃ n36,v34=(.tuple #[.slice s35a s35l s35c,.int .i64 n36]) ∧
 cond (n36 != 0)
 (K (.tuple #[.slice none 0 0,.int .i64 n36]) w33)
 (cutM (σ:=(OA×Nat×Nat)×Unit) (fun J37=>
 loopM (σ:=(OA×Nat×Nat)×Int×Unit) (fun s40 X41 w42=>
 cond (decide (s40.2.1<(qy:Int)))
 ((0:Int)≤s40.2.1∧s40.2.1<(qy:Nat) ∧
 optM q2 fun a43=>
 cF_ w42 (a43.add (s40.2.1.toNat*1)) fun x44=>
 (0:Int)≤s40.2.1∧s40.2.1<(s35l:Nat) ∧
 optM s35a fun a45=>
 cF_ w42 (a45.add (s40.2.1.toNat*1)) fun x46=>
 fresM (fadd x44 x46) w42 fun x47 w48=>
 drM w42 fun w49=>
 newM #[.float .f64 x47] N.t_float64 w49 fun p50 w51=>
 drM w51 fun w52=>
 appM N.t_float64 1 8 #[.float .f64 0] s40.1.1 s40.1.2.1 s40.1.2.2 (some p50) 1 w52 fun s53a s53l s53c w54=>
 drM w54 fun w55=>
 X41 ((s53a,s53l,s53c),(i64.wrap (s40.2.1+1)),()) w55)
 (J37 ((s40.1.1,s40.1.2.1,s40.1.2.2),()) w42))
 ((none,0,0),0,()) w33)
 (fun s38 w39=>
 CallsX P N.f_r14_finite #[.slice s38.1.1 s38.1.2.1 s38.1.2.2] w39 fun v57 w56=>
 vB_ v57 fun b58=>
 cond (!b58)
 (K (.tuple #[.slice none 0 0,.int .i64 6]) w56)
 (K (.tuple #[.slice s38.1.1 s38.1.2.1 s38.1.2.2,.int .i64 0]) w56))))))
def S_k_KeptFactor (N:Nums) (P:Program) (qa:Int) (qc:OA) (qd qf:Nat) (qe:OA) (qb qg:Nat) (ql:Int) (qk:OA) (qi qj:Nat) (qr:OA) (qs qt:Nat) (w:World) (K:KV):Prop:=
 newM #[.int .i64 qa,.slice qc qd qf,.slice qe qb qg] N.t_Factor w fun p1 w2=>
 newM #[.int .i64 ql,.slice qk qi qj,.slice qr qs qt] N.t_Factor w2 fun p3 w4=>
 cI_ w4 p1 fun n5=>
 cS_ w4 (p1.add 1) fun s6a s6l s6c=>
 cS_ w4 (p1.add 2) fun s7a s7l s7c=>
 cI_ w4 p3 fun n8=>
 cS_ w4 (p3.add 1) fun s9a s9l s9c=>
 cS_ w4 (p3.add 2) fun s10a s10l s10c=>
 CallsX P N.f_k_SameFactor #[.agg #[.int .i64 n5,.slice s6a s6l s6c,.slice s7a s7l s7c],.agg #[.int .i64 n8,.slice s9a s9l s9c,.slice s10a s10l s10c]] w4 fun v12 w11=>
 vB_ v12 fun b13=>
 cond b13
 (cS_ w11 (p1.add 1) fun s14a s14l s14c=>
 cS_ w11 (p3.add 1) fun s15a s15l s15c=>
 CallsX P N.f_k_KeptReals #[.slice s14a s14l s14c,.slice s15a s15l s15c] w11 fun v17 w16=>
 vB_ v17 fun b18=>
 cond b18
 (cS_ w16 (p1.add 2) fun s19a s19l s19c=>
 cS_ w16 (p3.add 2) fun s20a s20l s20c=>
 CallsX P N.f_k_KeptReals #[.slice s19a s19l s19c,.slice s20a s20l s20c] w16 fun v22 w21=>
 vB_ v22 fun b23=>
 K (.bool b23) w21)
 (K (.bool false) w16))
 (K (.bool false) w11)
def S_refine_Until (N:Nums) (P:Program) (qa:Int) (qc:Int) (qe:OA) (qb qg:Nat) (ql:Int) (qk:OA) (qi qj:Nat) (qr:OA) (qs qt:Nat) (q2:OA) (qy vg:Nat) (q3:Int) (w:World) (K:KV):Prop:=
 newM #[.int .i64 qa,.int .i64 qc,.slice qe qb qg] N.t_Matrix w fun p1 w2=>
 newM #[.int .i64 ql,.slice qk qi qj,.slice qr qs qt] N.t_Factor w2 fun p3 w4=>
 cutM (σ:=Bool×Unit) (fun J5=>
 cond (!(decide (q3<0)))
 (J5 ((decide (q3>64)),()) w4)
 (J5 (true,()) w4))
 (fun s6 w7=>
 cond s6.1
 (K (.tuple #[.slice none 0 0,.int .i64 0,.int .i64 2]) w7)
 (cutM (σ:=Bool×Unit) (fun J8=>
 cI_ w7 p1 fun n11=>
 cI_ w7 (p1.add 1) fun n12=>
 cS_ w7 (p1.add 2) fun s13a s13l s13c=>
 cI_ w7 p3 fun n14=>
 cS_ w7 (p3.add 1) fun s15a s15l s15c=>
 cS_ w7 (p3.add 2) fun s16a s16l s16c=>
 CallsX P N.f_refine_fits #[.agg #[.int .i64 n11,.int .i64 n12,.slice s13a s13l s13c],.agg #[.int .i64 n14,.slice s15a s15l s15c,.slice s16a s16l s16c]] w7 fun v18 w17=>
 vB_ v18 fun b19=>
 cond (!(!b19))
 (cI_ w17 p1 fun n20=>
 J8 (((qy:Int) != n20),()) w17)
 (J8 (true,()) w17))
 (fun s9 w10=>
 cond s9.1
 (K (.tuple #[.slice none 0 0,.int .i64 0,.int .i64 4]) w10)
 (cS_ w10 (p1.add 2) fun s21a s21l s21c=>
 newM #[.slice s21a s21l s21c,.slice q2 qy vg] N.t_L_float64 w10 fun p22 w23=>
 CallsX P N.f_refine_finite #[.slice (some p22) 2 2] w23 fun v25 w24=>
 vB_ v25 fun b26=>
 cond (!b26)
 (K (.tuple #[.slice none 0 0,.int .i64 0,.int .i64 5]) w24)
 (cI_ w24 p3 fun n27=>
 cS_ w24 (p3.add 1) fun s28a s28l s28c=>
 cS_ w24 (p3.add 2) fun s29a s29l s29c=>
 CallsX P N.f_solve_Solve #[.agg #[.int .i64 n27,.slice s28a s28l s28c,.slice s29a s29l s29c],.slice q2 qy vg] w24 fun v31 w30=>
 ∃ s32a s32l s32c,∃ n33,v31=(.tuple #[.slice s32a s32l s32c,.int .i64 n33]) ∧
 cond (n33 != 0)
 (K (.tuple #[.slice none 0 0,.int .i64 0,.int .i64 n33]) w30)
 (newM #[.slice s32a s32l s32c] N.t_L_float64 w30 fun p34 w35=>
 CallsX P N.f_refine_finite #[.slice (some p34) 1 1] w35 fun v37 w36=>
 vB_ v37 fun b38=>
 cond (!b38)
 (K (.tuple #[.slice none 0 0,.int .i64 0,.int .i64 6]) w36)
 (cI_ w36 p1 fun n39=>
 cI_ w36 (p1.add 1) fun n40=>
 cS_ w36 (p1.add 2) fun s41a s41l s41c=>
 CallsX P N.f_refine_Left #[.agg #[.int .i64 n39,.int .i64 n40,.slice s41a s41l s41c],.slice s32a s32l s32c,.slice q2 qy vg] w36 fun v43 w42=>
 ∃ s44a s44l s44c,∃ n45,v43=(.tuple #[.slice s44a s44l s44c,.int .i64 n45]) ∧
 cond (n45 != 0)
 (K (.tuple #[.slice none 0 0,.int .i64 0,.int .i64 n45]) w42)
 (CallsX P N.f_vector_Norm #[.slice s44a s44l s44c] w42 fun v47 w46=>
 ∃ x48,v47=(.float .f64 x48) ∧
 cutM (σ:=(OA×Nat×Nat)×Unit) (fun J49=>
 loopM (σ:=(OA×Nat×Nat)×Nat×Int×Unit) (fun s52 X53 w54=>
 cond (decide (s52.2.2.1<q3))
 (cI_ w54 p1 fun n55=>
 cI_ w54 (p1.add 1) fun n56=>
 cS_ w54 (p1.add 2) fun s57a s57l s57c=>
 cI_ w54 p3 fun n58=>
 cS_ w54 (p3.add 1) fun s59a s59l s59c=>
 cS_ w54 (p3.add 2) fun s60a s60l s60c=>
 CallsX P N.f_refine_Step #[.agg #[.int .i64 n55,.int .i64 n56,.slice s57a s57l s57c],.agg #[.int .i64 n58,.slice s59a s59l s59c,.slice s60a s60l s60c],.slice s52.1.1 s52.1.2.1 s52.1.2.2,.slice q2 qy vg] w54 fun v62 w61=>
 ∃ s63a s63l s63c,∃ n64,v62=(.tuple #[.slice s63a s63l s63c,.int .i64 n64]) ∧
 cond (n64 != 0)
 (K (.tuple #[.slice s52.1.1 s52.1.2.1 s52.1.2.2,.int .i64 s52.2.2.1,.int .i64 0]) w61)
 (cI_ w61 p1 fun n65=>
 cI_ w61 (p1.add 1) fun n66=>
 cS_ w61 (p1.add 2) fun s67a s67l s67c=>
 CallsX P N.f_refine_Left #[.agg #[.int .i64 n65,.int .i64 n66,.slice s67a s67l s67c],.slice s63a s63l s63c,.slice q2 qy vg] w61 fun v69 w68=>
 ∃ s70a s70l s70c,∃ n71,v69=(.tuple #[.slice s70a s70l s70c,.int .i64 n71]) ∧
 cond (!(n71 != 0))
 (CallsX P N.f_vector_Norm #[.slice s70a s70l s70c] w68 fun v73 w72=>
 ∃ x74,v73=(.float .f64 x74) ∧
 cond (fgt x74 s52.2.1||feq x74 s52.2.1)
 (K (.tuple #[.slice s52.1.1 s52.1.2.1 s52.1.2.2,.int .i64 s52.2.2.1,.int .i64 0]) w72)
 (CallsX P N.f_vector_Norm #[.slice s70a s70l s70c] w72 fun v76 w75=>
 ∃ x77,v76=(.float .f64 x77) ∧
 X53 ((s63a,s63l,s63c),x77,(i64.wrap (s52.2.2.1+1)),()) w75))
 (K (.tuple #[.slice s52.1.1 s52.1.2.1 s52.1.2.2,.int .i64 s52.2.2.1,.int .i64 0]) w68)))
 (J49 ((s52.1.1,s52.1.2.1,s52.1.2.2),()) w54))
 ((s32a,s32l,s32c),x48,0,()) w46)
 (fun s50 w51=>
 K (.tuple #[.slice s50.1.1 s50.1.2.1 s50.1.2.2,.int .i64 q3,.int .i64 0]) w51)))))))))
def S_solve_Solve (N:Nums) (P:Program) (qa:Int) (qc:OA) (qd qf:Nat) (qe:OA) (qb qg:Nat) (q1:OA) (qo qu:Nat) (w:World) (K:KV):Prop:=
 newM #[.int .i64 qa,.slice qc qd qf,.slice qe qb qg] N.t_Factor w fun p1 w2=>
 cI_ w2 p1 fun n3=>
 cS_ w2 (p1.add 1) fun s4a s4l s4c=>
 cS_ w2 (p1.add 2) fun s5a s5l s5c=>
 CallsX P N.f_solve_Forward #[.agg #[.int .i64 n3,.slice s4a s4l s4c,.slice s5a s5l s5c],.slice q1 qo qu] w2 fun v7 w6=>
 ∃ s8a s8l s8c,∃ n9,v7=(.tuple #[.slice s8a s8l s8c,.int .i64 n9]) ∧
 cond (n9 != 0)
 (K (.tuple #[.slice none 0 0,.int .i64 n9]) w6)
 (cI_ w6 p1 fun n10=>
 cS_ w6 (p1.add 1) fun s11a s11l s11c=>
 cS_ w6 (p1.add 2) fun s12a s12l s12c=>
 CallsX P N.f_solve_Back #[.agg #[.int .i64 n10,.slice s11a s11l s11c,.slice s12a s12l s12c],.slice s8a s8l s8c] w6 fun v14 w13=>
 ∃ s15a s15l s15c,∃ n16,v14=(.tuple #[.slice s15a s15l s15c,.int .i64 n16]) ∧
 K (.tuple #[.slice s15a s15l s15c,.int .i64 n16]) w13)
def S_k_LikeReals (N:Nums) (P:Program) (q0:OA) (qh qn:Nat) (q1:OA) (qo qu:Nat) (w:World) (K:KV):Prop:=
 cond ((qh:Int) != (qo:Int))
 (K (.bool false) w)
 (cutM (σ:=Unit) (fun J1=>
 loopM (σ:=Int×Unit) (fun s4 X5 w6=>
 cond (decide (s4.1<(qh:Int)))
 ((0:Int)≤s4.1∧s4.1<(qh:Nat) ∧
 optM q0 fun a7=>
 cF_ w6 (a7.add (s4.1.toNat*1)) fun x8=>
 (0:Int)≤s4.1∧s4.1<(qo:Nat) ∧
 optM q1 fun a9=>
 cF_ w6 (a9.add (s4.1.toNat*1)) fun x10=>
 drM w6 fun w11=>
 CallsX P N.f_k_Like #[.float .f64 x8,.float .f64 x10] w11 fun v13 w12=>
 vB_ v13 fun b14=>
 drM w12 fun w15=>
 cond (!b14)
 (K (.bool false) w15)
 (X5 ((i64.wrap (s4.1+1)),()) w15))
 (J1 (()) w6))
 (0,()) w)
 (fun s2 w3=>
 K (.bool true) w3))
def S_w14_two (N:Nums) (P:Program)  (w:World) (K:KV):Prop:=
 newM #[.int .i64 0,.int .i64 0,.slice none 0 0] N.t_Matrix w fun p1 w2=>
 newM #[.int .i64 0,.slice none 0 0,.slice none 0 0] N.t_Factor w2 fun p3 w4=>
 newM #[.float .f64 4616189618054758400,.float .f64 4607182418800017408,.float .f64 4607182418800017408,.float .f64 4613937818241073152] N.t_float64 w4 fun p5 w6=>
 newM #[.float .f64 4598175219545276416] N.t_float64 w6 fun p7 w8=>
 newM #[.float .f64 4616189618054758400,.float .f64 4613374868287651840] N.t_float64 w8 fun p9 w10=>
 stM p1 (.int .i64 2) w10 fun w11=>
 stM (p1.add 1) (.int .i64 2) w11 fun w12=>
 stM (p1.add 2) (.slice (some p5) 4 4) w12 fun w13=>
 stM p3 (.int .i64 2) w13 fun w14=>
 stM (p3.add 1) (.slice (some p7) 1 1) w14 fun w15=>
 stM (p3.add 2) (.slice (some p9) 2 2) w15 fun w16=>
 cI_ w16 p1 fun n17=>
 cI_ w16 (p1.add 1) fun n18=>
 cS_ w16 (p1.add 2) fun s19a s19l s19c=>
 cI_ w16 p3 fun n20=>
 cS_ w16 (p3.add 1) fun s21a s21l s21c=>
 cS_ w16 (p3.add 2) fun s22a s22l s22c=>
 K (.tuple #[.agg #[.int .i64 n17,.int .i64 n18,.slice s19a s19l s19c],.agg #[.int .i64 n20,.slice s21a s21l s21c,.slice s22a s22l s22c]]) w16
def S_k_mark (N:Nums) (P:Program) (q0:Int) (q1:Int) (w:World) (K:KV):Prop:=
 K (.int .i64 (i64.wrap ((i64.wrap (1000003*(i64.wrap (q0+7))))+q1))) w
def S_refine_fit (N:Nums) (P:Program) (qa:Int) (qc:Int) (qe:OA) (qb qg:Nat) (q1:OA) (qo qu:Nat) (q2:OA) (qy vg:Nat) (w:World) (K:KV):Prop:=
 newM #[.int .i64 qa,.int .i64 qc,.slice qe qb qg] N.t_Matrix w fun p1 w2=>
 cI_ w2 p1 fun n3=>
 cI_ w2 (p1.add 1) fun n4=>
 cS_ w2 (p1.add 2) fun s5a s5l s5c=>
 CallsX P N.f_matrix_Right #[.agg #[.int .i64 n3,.int .i64 n4,.slice s5a s5l s5c]] w2 fun v7 w6=>
 vB_ v7 fun b8=>
 cond b8
 (cI_ w6 (p1.add 1) fun n9=>
 cond ((qo:Int)==n9)
 (cI_ w6 p1 fun n10=>
 K (.bool ((qy:Int)==n10)) w6)
 (K (.bool false) w6))
 (K (.bool false) w6)
def S_refine_finite (N:Nums) (P:Program) (q0:OA) (qh qn:Nat) (w:World) (K:KV):Prop:=
 cutM (σ:=Unit) (fun J1=>
 loopM (σ:=Int×Unit) (fun s4 X5 w6=>
 cond (decide (s4.1<(qh:Int)))
 ((0:Int)≤s4.1∧s4.1<(qh:Nat) ∧
 optM q0 fun a7=>
 cS_ w6 (a7.add (s4.1.toNat*1)) fun s8a s8l s8c=>
 cutM (σ:=Unit) (fun J9=>
 loopM (σ:=Int×Unit) (fun s12 X13 w14=>
 cond (decide (s12.1<(s8l:Int)))
 ((0:Int)≤s12.1∧s12.1<(s8l:Nat) ∧
 optM s8a fun a15=>
 cF_ w14 (a15.add (s12.1.toNat*1)) fun x16=>
 fresM (fsub x16 x16) w14 fun x17 w18=>
 cond (!feq x17 0)
 (K (.bool false) w18)
 (X13 ((i64.wrap (s12.1+1)),()) w18))
 (J9 (()) w14))
 (0,()) w6)
 (fun s10 w11=>
 X5 ((i64.wrap (s4.1+1)),()) w11))
 (J1 (()) w6))
 (0,()) w)
 (fun s2 w3=>
 K (.bool true) w3)
def S_sums_DotExact (N:Nums) (P:Program) (q0:OA) (qh qn:Nat) (q1:OA) (qo qu:Nat) (q2:Int) (w:World) (K:KV):Prop:=
 newM #[.slice q0 qh qn] N.t_L_float64 w fun p1 w2=>
 newM #[.slice q1 qo qu] N.t_L_float64 w2 fun p3 w4=>
 cS_ w4 p1 fun s5a s5l s5c=>
 cS_ w4 p3 fun s6a s6l s6c=>
 cond ((s5l:Int) != (s6l:Int))
 (K (.tuple #[.float .f64 0,.int .i64 4]) w4)
 (cS_ w4 p1 fun s7a s7l s7c=>
 CallsX P N.f_sums_finite #[.slice s7a s7l s7c] w4 fun v9 w8=>
 vB_ v9 fun b10=>
 cond (!(!b10))
 (cS_ w8 p3 fun s11a s11l s11c=>
 CallsX P N.f_sums_finite #[.slice s11a s11l s11c] w8 fun v13 w12=>
 vB_ v13 fun b14=>
 cond (!b14)
 (K (.tuple #[.float .f64 0,.int .i64 5]) w12)
 (cS_ w12 p1 fun s15a s15l s15c=>
 CallsX P N.f_sums_total #[.int .i64 (s15l:Int),.func (.func N.f_sums_DotExact_1) #[] #[.pointer (some p1),.pointer (some p3)]] w12 fun v17 w16=>
 ∃ b18,∃ s19a s19l s19c,∃ n20,v17=(.agg #[.bool b18,.slice s19a s19l s19c,.int .i64 n20]) ∧
 newM #[.bool false,.slice none 0 0,.int .i64 0] N.t_Dyad w16 fun p21 w22=>
 stM p21 (.bool b18) w22 fun w23=>
 stM (p21.add 1) (.slice s19a s19l s19c) w23 fun w24=>
 stM (p21.add 2) (.int .i64 n20) w24 fun w25=>
 cB_ w25 p21 fun b26=>
 cS_ w25 (p21.add 1) fun s27a s27l s27c=>
 cI_ w25 (p21.add 2) fun n28=>
 CallsX P N.f_dyad_Round #[.agg #[.bool b26,.slice s27a s27l s27c,.int .i64 n28],.int .i8 q2] w25 fun v30 w29=>
 ∃ x31,∃ n32,v30=(.tuple #[.float .f64 x31,.int .i64 n32]) ∧
 K (.tuple #[.float .f64 x31,.int .i64 n32]) w29))
 (K (.tuple #[.float .f64 0,.int .i64 5]) w8))
def S_r14_fit (N:Nums) (P:Program) (qa:Int) (qc:Int) (qe:OA) (qb qg:Nat) (q1:OA) (qo qu:Nat) (q2:OA) (qy vg:Nat) (w:World) (K:KV):Prop:=
 newM #[.int .i64 qa,.int .i64 qc,.slice qe qb qg] N.t_Matrix w fun p1 w2=>
 cI_ w2 p1 fun n3=>
 cI_ w2 (p1.add 1) fun n4=>
 cS_ w2 (p1.add 2) fun s5a s5l s5c=>
 CallsX P N.f_r10_Right #[.agg #[.int .i64 n3,.int .i64 n4,.slice s5a s5l s5c]] w2 fun v7 w6=>
 vB_ v7 fun b8=>
 cond b8
 (cI_ w6 (p1.add 1) fun n9=>
 cond ((qo:Int)==n9)
 (cI_ w6 p1 fun n10=>
 K (.bool ((qy:Int)==n10)) w6)
 (K (.bool false) w6))
 (K (.bool false) w6)
def S_r14_finite (N:Nums) (P:Program) (q0:OA) (qh qn:Nat) (w:World) (K:KV):Prop:=
 cutM (σ:=Unit) (fun J1=>
 loopM (σ:=Int×Unit) (fun s4 X5 w6=>
 cond (decide (s4.1<(qh:Int)))
 ((0:Int)≤s4.1∧s4.1<(qh:Nat) ∧
 optM q0 fun a7=>
 cF_ w6 (a7.add (s4.1.toNat*1)) fun x8=>
 (0:Int)≤s4.1∧s4.1<(qh:Nat) ∧
 optM q0 fun a9=>
 cF_ w6 (a9.add (s4.1.toNat*1)) fun x10=>
 fresM (fsub x8 x10) w6 fun x11 w12=>
 drM w6 fun w13=>
 cond (!feq x11 0)
 (K (.bool false) w13)
 (X5 ((i64.wrap (s4.1+1)),()) w13))
 (J1 (()) w6))
 (0,()) w)
 (fun s2 w3=>
 K (.bool true) w3)
def S_r02_Float (N:Nums) (P:Program) (q0:Nat) (w:World) (K:KV):Prop:=
 newM #[.bool false,.slice none 0 0,.int .i64 0] N.t_r02_Num w fun p1 w2=>
 CallsX P N.f_r01_Split #[.float .f64 q0] w2 fun v4 w3=>
 ∃ b5,∃ n6,∃ n7,∃ b8,v4=(.tuple #[.agg #[.bool b5,.int .u64 n6,.int .i64 n7],.bool b8]) ∧
 newM #[.bool false,.int .u64 0,.int .i64 0] N.t_Parts w3 fun p9 w10=>
 stM p9 (.bool b5) w10 fun w11=>
 stM (p9.add 1) (.int .u64 n6) w11 fun w12=>
 stM (p9.add 2) (.int .i64 n7) w12 fun w13=>
 cB_ w13 p9 fun b14=>
 cU_ w13 (p9.add 1) fun n15=>
 cI_ w13 (p9.add 2) fun n16=>
 drM w13 fun w17=>
 CallsX P N.f_r02_NatOf #[.int .u64 n15] w17 fun v19 w18=>
 vS_ v19 fun s20a s20l s20c=>
 w18.cell? (p9.add 2)=some (.int .i64 n16) ∧
 w18.cell? p9=some (.bool b14) ∧
 drM w18 fun w21=>
 stM p1 (.bool b14) w21 fun w22=>
 stM (p1.add 1) (.slice s20a s20l s20c) w22 fun w23=>
 stM (p1.add 2) (.int .i64 n16) w23 fun w24=>
 drM w24 fun w25=>
 cB_ w25 p1 fun b26=>
 cS_ w25 (p1.add 1) fun s27a s27l s27c=>
 cI_ w25 (p1.add 2) fun n28=>
 K (.agg #[.bool b26,.slice s27a s27l s27c,.int .i64 n28]) w25
def S_r02_Times (N:Nums) (P:Program) (qa:Bool) (qc:OA) (qd qf:Nat) (qe:Int) (ql:Bool) (qk:OA) (qi qj:Nat) (qr:Int) (w:World) (K:KV):Prop:=
 newM #[.bool qa,.slice qc qd qf,.int .i64 qe] N.t_r02_Num w fun p1 w2=>
 newM #[.bool ql,.slice qk qi qj,.int .i64 qr] N.t_r02_Num w2 fun p3 w4=>
 newM #[.bool false,.slice none 0 0,.int .i64 0] N.t_r02_Num w4 fun p5 w6=>
 cB_ w6 p1 fun b7=>
 cB_ w6 p3 fun b8=>
 cS_ w6 (p1.add 1) fun s9a s9l s9c=>
 cS_ w6 (p3.add 1) fun s10a s10l s10c=>
 cI_ w6 (p1.add 2) fun n11=>
 cI_ w6 (p3.add 2) fun n12=>
 drM w6 fun w13=>
 CallsX P N.f_r02_NatMul #[.slice s9a s9l s9c,.slice s10a s10l s10c] w13 fun v15 w14=>
 vS_ v15 fun s16a s16l s16c=>
 w14.cell? (p3.add 2)=some (.int .i64 n12) ∧
 w14.cell? (p1.add 2)=some (.int .i64 n11) ∧
 w14.cell? p3=some (.bool b8) ∧
 w14.cell? p1=some (.bool b7) ∧
 drM w14 fun w17=>
 stM p5 (.bool (!(b7==b8))) w17 fun w18=>
 stM (p5.add 1) (.slice s16a s16l s16c) w18 fun w19=>
 stM (p5.add 2) (.int .i64 (i64.wrap (n11+n12))) w19 fun w20=>
 drM w20 fun w21=>
 cB_ w21 p5 fun b22=>
 cS_ w21 (p5.add 1) fun s23a s23l s23c=>
 cI_ w21 (p5.add 2) fun n24=>
 K (.agg #[.bool b22,.slice s23a s23l s23c,.int .i64 n24]) w21
def S_r02_Plus (N:Nums) (P:Program) (qa:Bool) (qc:OA) (qd qf:Nat) (qe:Int) (ql:Bool) (qk:OA) (qi qj:Nat) (qr:Int) (w:World) (K:KV):Prop:=
 newM #[.bool qa,.slice qc qd qf,.int .i64 qe] N.t_r02_Num w fun p1 w2=>
 newM #[.bool ql,.slice qk qi qj,.int .i64 qr] N.t_r02_Num w2 fun p3 w4=>
 newM #[.bool false,.slice none 0 0,.int .i64 0] N.t_r02_Num w4 fun p5 w6=>
 cB_ w6 p1 fun b7=>
 cS_ w6 (p1.add 1) fun s8a s8l s8c=>
 cI_ w6 (p1.add 2) fun n9=>
 CallsX P N.f_r02_Num_Zero #[.agg #[.bool b7,.slice s8a s8l s8c,.int .i64 n9]] w6 fun v11 w10=>
 vB_ v11 fun b12=>
 cond b12
 (cB_ w10 p3 fun b13=>
 cS_ w10 (p3.add 1) fun s14a s14l s14c=>
 cI_ w10 (p3.add 2) fun n15=>
 stM p5 (.bool b13) w10 fun w16=>
 stM (p5.add 1) (.slice s14a s14l s14c) w16 fun w17=>
 stM (p5.add 2) (.int .i64 n15) w17 fun w18=>
 cB_ w18 p5 fun b19=>
 cS_ w18 (p5.add 1) fun s20a s20l s20c=>
 cI_ w18 (p5.add 2) fun n21=>
 K (.agg #[.bool b19,.slice s20a s20l s20c,.int .i64 n21]) w18)
 (cB_ w10 p3 fun b22=>
 cS_ w10 (p3.add 1) fun s23a s23l s23c=>
 cI_ w10 (p3.add 2) fun n24=>
 CallsX P N.f_r02_Num_Zero #[.agg #[.bool b22,.slice s23a s23l s23c,.int .i64 n24]] w10 fun v26 w25=>
 vB_ v26 fun b27=>
 cond b27
 (cB_ w25 p1 fun b28=>
 cS_ w25 (p1.add 1) fun s29a s29l s29c=>
 cI_ w25 (p1.add 2) fun n30=>
 stM p5 (.bool b28) w25 fun w31=>
 stM (p5.add 1) (.slice s29a s29l s29c) w31 fun w32=>
 stM (p5.add 2) (.int .i64 n30) w32 fun w33=>
 cB_ w33 p5 fun b34=>
 cS_ w33 (p5.add 1) fun s35a s35l s35c=>
 cI_ w33 (p5.add 2) fun n36=>
 K (.agg #[.bool b34,.slice s35a s35l s35c,.int .i64 n36]) w33)
 (cI_ w25 (p1.add 2) fun n37=>
 cI_ w25 (p3.add 2) fun n38=>
 cond (decide (n37>n38))
 (cB_ w25 p3 fun b39=>
 cS_ w25 (p3.add 1) fun s40a s40l s40c=>
 cI_ w25 (p3.add 2) fun n41=>
 cB_ w25 p1 fun b42=>
 cS_ w25 (p1.add 1) fun s43a s43l s43c=>
 cI_ w25 (p1.add 2) fun n44=>
 CallsX P N.f_r02_Plus #[.agg #[.bool b39,.slice s40a s40l s40c,.int .i64 n41],.agg #[.bool b42,.slice s43a s43l s43c,.int .i64 n44]] w25 fun v46 w45=>
 ∃ b47,∃ s48a s48l s48c,∃ n49,v46=(.agg #[.bool b47,.slice s48a s48l s48c,.int .i64 n49]) ∧
 stM p5 (.bool b47) w45 fun w50=>
 stM (p5.add 1) (.slice s48a s48l s48c) w50 fun w51=>
 stM (p5.add 2) (.int .i64 n49) w51 fun w52=>
 cB_ w52 p5 fun b53=>
 cS_ w52 (p5.add 1) fun s54a s54l s54c=>
 cI_ w52 (p5.add 2) fun n55=>
 K (.agg #[.bool b53,.slice s54a s54l s54c,.int .i64 n55]) w52)
 (cS_ w25 (p1.add 1) fun s56a s56l s56c=>
 cS_ w25 (p3.add 1) fun s57a s57l s57c=>
 cI_ w25 (p3.add 2) fun n58=>
 cI_ w25 (p1.add 2) fun n59=>
 CallsX P N.f_r02_NatUp #[.slice s57a s57l s57c,.int .i64 (i64.wrap (n58-n59))] w25 fun v61 w60=>
 vS_ v61 fun s62a s62l s62c=>
 cB_ w60 p1 fun b63=>
 cB_ w60 p3 fun b64=>
 cond (b63==b64)
 (cB_ w60 p1 fun b65=>
 cI_ w60 (p1.add 2) fun n66=>
 drM w60 fun w67=>
 CallsX P N.f_r02_NatAdd #[.slice s56a s56l s56c,.slice s62a s62l s62c] w67 fun v69 w68=>
 vS_ v69 fun s70a s70l s70c=>
 w68.cell? (p1.add 2)=some (.int .i64 n66) ∧
 w68.cell? p1=some (.bool b65) ∧
 drM w68 fun w71=>
 stM p5 (.bool b65) w71 fun w72=>
 stM (p5.add 1) (.slice s70a s70l s70c) w72 fun w73=>
 stM (p5.add 2) (.int .i64 n66) w73 fun w74=>
 drM w74 fun w75=>
 cB_ w75 p5 fun b76=>
 cS_ w75 (p5.add 1) fun s77a s77l s77c=>
 cI_ w75 (p5.add 2) fun n78=>
 K (.agg #[.bool b76,.slice s77a s77l s77c,.int .i64 n78]) w75)
 (CallsX P N.f_r02_NatCmp #[.slice s56a s56l s56c,.slice s62a s62l s62c] w60 fun v80 w79=>
 ∃ n81,v80=(.int .i64 n81) ∧
 cond (decide (n81≥0))
 (cB_ w79 p1 fun b82=>
 cI_ w79 (p1.add 2) fun n83=>
 drM w79 fun w84=>
 CallsX P N.f_r02_NatSub #[.slice s56a s56l s56c,.slice s62a s62l s62c] w84 fun v86 w85=>
 vS_ v86 fun s87a s87l s87c=>
 w85.cell? (p1.add 2)=some (.int .i64 n83) ∧
 w85.cell? p1=some (.bool b82) ∧
 drM w85 fun w88=>
 stM p5 (.bool b82) w88 fun w89=>
 stM (p5.add 1) (.slice s87a s87l s87c) w89 fun w90=>
 stM (p5.add 2) (.int .i64 n83) w90 fun w91=>
 drM w91 fun w92=>
 cB_ w92 p5 fun b93=>
 cS_ w92 (p5.add 1) fun s94a s94l s94c=>
 cI_ w92 (p5.add 2) fun n95=>
 K (.agg #[.bool b93,.slice s94a s94l s94c,.int .i64 n95]) w92)
 (cB_ w79 p3 fun b96=>
 cI_ w79 (p1.add 2) fun n97=>
 drM w79 fun w98=>
 CallsX P N.f_r02_NatSub #[.slice s62a s62l s62c,.slice s56a s56l s56c] w98 fun v100 w99=>
 vS_ v100 fun s101a s101l s101c=>
 w99.cell? (p1.add 2)=some (.int .i64 n97) ∧
 w99.cell? p3=some (.bool b96) ∧
 drM w99 fun w102=>
 stM p5 (.bool b96) w102 fun w103=>
 stM (p5.add 1) (.slice s101a s101l s101c) w103 fun w104=>
 stM (p5.add 2) (.int .i64 n97) w104 fun w105=>
 drM w105 fun w106=>
 cB_ w106 p5 fun b107=>
 cS_ w106 (p5.add 1) fun s108a s108l s108c=>
 cI_ w106 (p5.add 2) fun n109=>
 K (.agg #[.bool b107,.slice s108a s108l s108c,.int .i64 n109]) w106)))))
def S_r02_Minus (N:Nums) (P:Program) (qa:Bool) (qc:OA) (qd qf:Nat) (qe:Int) (w:World) (K:KV):Prop:=
 newM #[.bool qa,.slice qc qd qf,.int .i64 qe] N.t_r02_Num w fun p1 w2=>
 newM #[.bool false,.slice none 0 0,.int .i64 0] N.t_r02_Num w2 fun p3 w4=>
 cB_ w4 p1 fun b5=>
 cS_ w4 (p1.add 1) fun s6a s6l s6c=>
 cI_ w4 (p1.add 2) fun n7=>
 stM p3 (.bool (!b5)) w4 fun w8=>
 stM (p3.add 1) (.slice s6a s6l s6c) w8 fun w9=>
 stM (p3.add 2) (.int .i64 n7) w9 fun w10=>
 cB_ w10 p3 fun b11=>
 cS_ w10 (p3.add 1) fun s12a s12l s12c=>
 cI_ w10 (p3.add 2) fun n13=>
 K (.agg #[.bool b11,.slice s12a s12l s12c,.int .i64 n13]) w10
def S_r02_Rounded (N:Nums) (P:Program) (qa:Bool) (qc:OA) (qd qf:Nat) (qe:Int) (q1:Int) (w:World) (K:KV):Prop:=
 newM #[.bool qa,.slice qc qd qf,.int .i64 qe] N.t_r02_Num w fun p1 w2=>
 cB_ w2 p1 fun b3=>
 cS_ w2 (p1.add 1) fun s4a s4l s4c=>
 cI_ w2 (p1.add 2) fun n5=>
 CallsX P N.f_r02_Num_Zero #[.agg #[.bool b3,.slice s4a s4l s4c,.int .i64 n5]] w2 fun v7 w6=>
 vB_ v7 fun b8=>
 cond b8
 (K (.float .f64 0) w6)
 (cB_ w6 p1 fun b9=>
 cS_ w6 (p1.add 1) fun s10a s10l s10c=>
 cI_ w6 (p1.add 2) fun n11=>
 CallsX P N.f_r02_Num_top #[.agg #[.bool b9,.slice s10a s10l s10c,.int .i64 n11]] w6 fun v13 w12=>
 ∃ n14,v13=(.int .i64 n14) ∧
 cI_ w12 (p1.add 2) fun n15=>
 cutM (σ:=(OA×Nat×Nat)×Unit) (fun J16=>
 cond (decide (n15≥(if (-1074)>(i64.wrap (n14-53)) then (-1074) else (i64.wrap (n14-53)))))
 (cS_ w12 (p1.add 1) fun s19a s19l s19c=>
 cI_ w12 (p1.add 2) fun n20=>
 CallsX P N.f_r02_NatUp #[.slice s19a s19l s19c,.int .i64 (i64.wrap (n20-(if (-1074)>(i64.wrap (n14-53)) then (-1074) else (i64.wrap (n14-53)))))] w12 fun v22 w21=>
 vS_ v22 fun s23a s23l s23c=>
 J16 ((s23a,s23l,s23c),()) w21)
 (cI_ w12 (p1.add 2) fun n24=>
 cS_ w12 (p1.add 1) fun s25a s25l s25c=>
 CallsX P N.f_r02_NatDown #[.slice s25a s25l s25c,.int .i64 (i64.wrap ((if (-1074)>(i64.wrap (n14-53)) then (-1074) else (i64.wrap (n14-53)))-n24))] w12 fun v27 w26=>
 ∃ s28a s28l s28c,∃ b29,v27=(.tuple #[.slice s28a s28l s28c,.bool b29]) ∧
 cutM (σ:=(OA×Nat×Nat)×Unit) (fun J30=>
 cond b29
 (cS_ w26 (p1.add 1) fun s33a s33l s33c=>
 CallsX P N.f_r02_NatDown #[.slice s33a s33l s33c,.int .i64 (i64.wrap ((i64.wrap ((if (-1074)>(i64.wrap (n14-53)) then (-1074) else (i64.wrap (n14-53)))-n24))-1))] w26 fun v35 w34=>
 ∃ s36a s36l s36c,∃ b37,v35=(.tuple #[.slice s36a s36l s36c,.bool b37]) ∧
 cutM (σ:=Bool×Unit) (fun J38=>
 cond (decide ((s36l:Int)>0))
 ((0:Int)≤(0:Int)∧(0:Int)<(s36l:Nat) ∧
 optM s36a fun a41=>
 cU_ w34 (a41.add ((0:Int).toNat*1)) fun n42=>
 (2:Int)≠0 ∧
 J38 (((n42.tmod 2)==1),()) w34)
 (J38 (false,()) w34))
 (fun s39 w40=>
 cutM (σ:=Int×Unit) (fun J43=>
 cond s39.1
 (cutM (σ:=Int×Unit) (fun J46=>
 cond b37
 (J46 (1,()) w40)
 (J46 (0,()) w40))
 (fun s47 w48=>
 J43 (s47.1,()) w48))
 (J43 ((-1),()) w40))
 (fun s44 w45=>
 cB_ w45 p1 fun b49=>
 cond (decide ((s28l:Int)>0))
 ((0:Int)≤(0:Int)∧(0:Int)<(s28l:Nat) ∧
 optM s28a fun a50=>
 cU_ w45 (a50.add ((0:Int).toNat*1)) fun n51=>
 (2:Int)≠0 ∧
 drM w45 fun w52=>
 CallsX P N.f_r02_up #[.int .i8 q1,.bool b49,.int .i64 s44.1,.bool ((n51.tmod 2)==1)] w52 fun v54 w53=>
 vB_ v54 fun b55=>
 drM w53 fun w56=>
 cutM (σ:=(OA×Nat×Nat)×Unit) (fun J57=>
 cond b55
 (CallsX P N.f_r02_NatOf #[.int .u64 1] w56 fun v61 w60=>
 vS_ v61 fun s62a s62l s62c=>
 CallsX P N.f_r02_NatAdd #[.slice s28a s28l s28c,.slice s62a s62l s62c] w60 fun v64 w63=>
 vS_ v64 fun s65a s65l s65c=>
 J57 ((s65a,s65l,s65c),()) w63)
 (J57 ((s28a,s28l,s28c),()) w56))
 (fun s58 w59=>
 J30 ((s58.1.1,s58.1.2.1,s58.1.2.2),()) w59))
 (drM w45 fun w66=>
 CallsX P N.f_r02_up #[.int .i8 q1,.bool b49,.int .i64 s44.1,.bool false] w66 fun v68 w67=>
 vB_ v68 fun b69=>
 drM w67 fun w70=>
 cutM (σ:=(OA×Nat×Nat)×Unit) (fun J71=>
 cond b69
 (CallsX P N.f_r02_NatOf #[.int .u64 1] w70 fun v75 w74=>
 vS_ v75 fun s76a s76l s76c=>
 CallsX P N.f_r02_NatAdd #[.slice s28a s28l s28c,.slice s76a s76l s76c] w74 fun v78 w77=>
 vS_ v78 fun s79a s79l s79c=>
 J71 ((s79a,s79l,s79c),()) w77)
 (J71 ((s28a,s28l,s28c),()) w70))
 (fun s72 w73=>
 J30 ((s72.1.1,s72.1.2.1,s72.1.2.2),()) w73)))))
 (J30 ((s28a,s28l,s28c),()) w26))
 (fun s31 w32=>
 J16 ((s31.1.1,s31.1.2.1,s31.1.2.2),()) w32)))
 (fun s17 w18=>
 CallsX P N.f_r02_NatBits #[.slice s17.1.1 s17.1.2.1 s17.1.2.2] w18 fun v81 w80=>
 ∃ n82,v81=(.int .i64 n82) ∧
 cond (decide ((i64.wrap (n82+(if (-1074)>(i64.wrap (n14-53)) then (-1074) else (i64.wrap (n14-53)))))>1024))
 (cB_ w80 p1 fun b83=>
 CallsX P N.f_r02_huge #[.int .i8 q1,.bool b83] w80 fun v85 w84=>
 ∃ x86,v85=(.float .f64 x86) ∧
 K (.float .f64 x86) w84)
 (cutM (σ:=Int×Unit) (fun J87=>
 cond (decide (((s17.1.2.1:Nat):Int)>0))
 ((0:Int)≤(0:Int)∧(0:Int)<(s17.1.2.1:Nat) ∧
 optM s17.1.1 fun a90=>
 cU_ w80 (a90.add ((0:Int).toNat*1)) fun n91=>
 J87 (n91,()) w80)
 (J87 (0,()) w80))
 (fun s88 w89=>
 cB_ w89 p1 fun b92=>
 CallsX P N.f_r02_float #[.bool b92,.int .u64 s88.1,.int .i64 (if (-1074)>(i64.wrap (n14-53)) then (-1074) else (i64.wrap (n14-53)))] w89 fun v94 w93=>
 ∃ x95,v94=(.float .f64 x95) ∧
 K (.float .f64 x95) w93))))
def S_k_SameFloat (N:Nums) (P:Program) (q0:Nat) (q1:Nat) (w:World) (K:KV):Prop:=
 CallsX P N.f_math_Float64bits #[.float .f64 q0] w fun v2 w1=>
 ∃ n3,v2=(.int .u64 n3) ∧
 CallsX P N.f_math_Float64bits #[.float .f64 q1] w1 fun v5 w4=>
 ∃ n6,v5=(.int .u64 n6) ∧
 cond (!(n3==n6))
 (cond (!feq q0 q0)
 (K (.bool (!feq q1 q1)) w4)
 (K (.bool false) w4))
 (K (.bool true) w4)
def S_k_SameMatrix (N:Nums) (P:Program) (qa:Int) (qc:Int) (qe:OA) (qb qg:Nat) (ql:Int) (qk:Int) (qr:OA) (qs qt:Nat) (w:World) (K:KV):Prop:=
 newM #[.int .i64 qa,.int .i64 qc,.slice qe qb qg] N.t_Matrix w fun p1 w2=>
 newM #[.int .i64 ql,.int .i64 qk,.slice qr qs qt] N.t_Matrix w2 fun p3 w4=>
 cI_ w4 p1 fun n5=>
 cI_ w4 p3 fun n6=>
 cond (n5==n6)
 (cI_ w4 (p1.add 1) fun n7=>
 cI_ w4 (p3.add 1) fun n8=>
 cond (n7==n8)
 (cS_ w4 (p1.add 2) fun s9a s9l s9c=>
 cS_ w4 (p3.add 2) fun s10a s10l s10c=>
 CallsX P N.f_k_SameReals #[.slice s9a s9l s9c,.slice s10a s10l s10c] w4 fun v12 w11=>
 vB_ v12 fun b13=>
 K (.bool b13) w11)
 (K (.bool false) w4))
 (K (.bool false) w4)
def S_refine_fits (N:Nums) (P:Program) (qa:Int) (qc:Int) (qe:OA) (qb qg:Nat) (ql:Int) (qk:OA) (qi qj:Nat) (qr:OA) (qs qt:Nat) (w:World) (K:KV):Prop:=
 newM #[.int .i64 qa,.int .i64 qc,.slice qe qb qg] N.t_Matrix w fun p1 w2=>
 newM #[.int .i64 ql,.slice qk qi qj,.slice qr qs qt] N.t_Factor w2 fun p3 w4=>
 cI_ w4 p1 fun n5=>
 cI_ w4 (p1.add 1) fun n6=>
 cS_ w4 (p1.add 2) fun s7a s7l s7c=>
 CallsX P N.f_matrix_Right #[.agg #[.int .i64 n5,.int .i64 n6,.slice s7a s7l s7c]] w4 fun v9 w8=>
 vB_ v9 fun b10=>
 cond b10
 (cI_ w8 p3 fun n11=>
 cS_ w8 (p3.add 1) fun s12a s12l s12c=>
 cS_ w8 (p3.add 2) fun s13a s13l s13c=>
 CallsX P N.f_lower_Right #[.agg #[.int .i64 n11,.slice s12a s12l s12c,.slice s13a s13l s13c]] w8 fun v15 w14=>
 vB_ v15 fun b16=>
 cond b16
 (cI_ w14 p1 fun n17=>
 cI_ w14 p3 fun n18=>
 cond (n17==n18)
 (cI_ w14 (p1.add 1) fun n19=>
 cI_ w14 p3 fun n20=>
 K (.bool (n19==n20)) w14)
 (K (.bool false) w14))
 (K (.bool false) w14))
 (K (.bool false) w8)
def S_vector_Add (N:Nums) (P:Program) (q0:OA) (qh qn:Nat) (q1:OA) (qo qu:Nat) (w:World) (K:KV):Prop:=
 CallsX P N.f_vector_each #[.slice q0 qh qn,.slice q1 qo qu,.func (.func N.f_vector_Add_1) #[] #[]] w fun v2 w1=>
 ∃ s3a s3l s3c,∃ n4,v2=(.tuple #[.slice s3a s3l s3c,.int .i64 n4]) ∧
 K (.tuple #[.slice s3a s3l s3c,.int .i64 n4]) w1
def S_r14_fits (N:Nums) (P:Program) (qa:Int) (qc:Int) (qe:OA) (qb qg:Nat) (ql:Int) (qk:OA) (qi qj:Nat) (qr:OA) (qs qt:Nat) (w:World) (K:KV):Prop:=
 newM #[.int .i64 qa,.int .i64 qc,.slice qe qb qg] N.t_Matrix w fun p1 w2=>
 newM #[.int .i64 ql,.slice qk qi qj,.slice qr qs qt] N.t_Factor w2 fun p3 w4=>
 cI_ w4 p1 fun n5=>
 cI_ w4 (p1.add 1) fun n6=>
 cS_ w4 (p1.add 2) fun s7a s7l s7c=>
 CallsX P N.f_r10_Right #[.agg #[.int .i64 n5,.int .i64 n6,.slice s7a s7l s7c]] w4 fun v9 w8=>
 vB_ v9 fun b10=>
 cond b10
 (cI_ w8 p3 fun n11=>
 cS_ w8 (p3.add 1) fun s12a s12l s12c=>
 cS_ w8 (p3.add 2) fun s13a s13l s13c=>
 CallsX P N.f_r12_Right #[.agg #[.int .i64 n11,.slice s12a s12l s12c,.slice s13a s13l s13c]] w8 fun v15 w14=>
 vB_ v15 fun b16=>
 cond b16
 (cI_ w14 p1 fun n17=>
 cI_ w14 p3 fun n18=>
 cond (n17==n18)
 (cI_ w14 (p1.add 1) fun n19=>
 cI_ w14 p3 fun n20=>
 K (.bool (n19==n20)) w14)
 (K (.bool false) w14))
 (K (.bool false) w14))
 (K (.bool false) w8)
def S_r13_Solve (N:Nums) (P:Program) (qa:Int) (qc:OA) (qd qf:Nat) (qe:OA) (qb qg:Nat) (q1:OA) (qo qu:Nat) (w:World) (K:KV):Prop:=
 newM #[.int .i64 qa,.slice qc qd qf,.slice qe qb qg] N.t_Factor w fun p1 w2=>
 cI_ w2 p1 fun n3=>
 cS_ w2 (p1.add 1) fun s4a s4l s4c=>
 cS_ w2 (p1.add 2) fun s5a s5l s5c=>
 CallsX P N.f_r13_Forward #[.agg #[.int .i64 n3,.slice s4a s4l s4c,.slice s5a s5l s5c],.slice q1 qo qu] w2 fun v7 w6=>
 ∃ s8a s8l s8c,∃ n9,v7=(.tuple #[.slice s8a s8l s8c,.int .i64 n9]) ∧
 cond (n9 != 0)
 (K (.tuple #[.slice none 0 0,.int .i64 n9]) w6)
 (cI_ w6 p1 fun n10=>
 cS_ w6 (p1.add 1) fun s11a s11l s11c=>
 cS_ w6 (p1.add 2) fun s12a s12l s12c=>
 CallsX P N.f_r13_Back #[.agg #[.int .i64 n10,.slice s11a s11l s11c,.slice s12a s12l s12c],.slice s8a s8l s8c] w6 fun v14 w13=>
 ∃ s15a s15l s15c,∃ n16,v14=(.tuple #[.slice s15a s15l s15c,.int .i64 n16]) ∧
 K (.tuple #[.slice s15a s15l s15c,.int .i64 n16]) w13)
def S_k_SameFactor (N:Nums) (P:Program) (qa:Int) (qc:OA) (qd qf:Nat) (qe:OA) (qb qg:Nat) (ql:Int) (qk:OA) (qi qj:Nat) (qr:OA) (qs qt:Nat) (w:World) (K:KV):Prop:=
 newM #[.int .i64 qa,.slice qc qd qf,.slice qe qb qg] N.t_Factor w fun p1 w2=>
 newM #[.int .i64 ql,.slice qk qi qj,.slice qr qs qt] N.t_Factor w2 fun p3 w4=>
 cI_ w4 p1 fun n5=>
 cI_ w4 p3 fun n6=>
 cond (n5==n6)
 (cS_ w4 (p1.add 1) fun s7a s7l s7c=>
 cS_ w4 (p3.add 1) fun s8a s8l s8c=>
 CallsX P N.f_k_SameReals #[.slice s7a s7l s7c,.slice s8a s8l s8c] w4 fun v10 w9=>
 vB_ v10 fun b11=>
 cond b11
 (cS_ w9 (p1.add 2) fun s12a s12l s12c=>
 cS_ w9 (p3.add 2) fun s13a s13l s13c=>
 CallsX P N.f_k_SameReals #[.slice s12a s12l s12c,.slice s13a s13l s13c] w9 fun v15 w14=>
 vB_ v15 fun b16=>
 K (.bool b16) w14)
 (K (.bool false) w9))
 (K (.bool false) w4)
def S_vector_Norm (N:Nums) (P:Program) (q0:OA) (qh qn:Nat) (w:World) (K:KV):Prop:=
 cutM (σ:=Nat×Unit) (fun J1=>
 loopM (σ:=Nat×Int×Unit) (fun s4 X5 w6=>
 cond (decide (s4.2.1<(qh:Int)))
 ((0:Int)≤s4.2.1∧s4.2.1<(qh:Nat) ∧
 optM q0 fun a7=>
 cF_ w6 (a7.add (s4.2.1.toNat*1)) fun x8=>
 CallsX P N.f_math_Abs #[.float .f64 x8] w6 fun v10 w9=>
 ∃ x11,v10=(.float .f64 x11) ∧
 CallsX P N.f_round_Add #[.float .f64 s4.1,.float .f64 x11,.int .i8 2] w9 fun v13 w12=>
 ∃ x14,v13=(.float .f64 x14) ∧
 X5 (x14,(i64.wrap (s4.2.1+1)),()) w12)
 (J1 (s4.1,()) w6))
 (0,0,()) w)
 (fun s2 w3=>
 K (.float .f64 s2.1) w3)
def S_solve_Forward (N:Nums) (P:Program) (qa:Int) (qc:OA) (qd qf:Nat) (qe:OA) (qb qg:Nat) (q1:OA) (qo qu:Nat) (w:World) (K:KV):Prop:=
 newM #[.int .i64 qa,.slice qc qd qf,.slice qe qb qg] N.t_Factor w fun p1 w2=>
 cI_ w2 p1 fun n3=>
 cS_ w2 (p1.add 1) fun s4a s4l s4c=>
 cS_ w2 (p1.add 2) fun s5a s5l s5c=>
 CallsX P N.f_solve_fits #[.agg #[.int .i64 n3,.slice s4a s4l s4c,.slice s5a s5l s5c],.int .i64 (qo:Int)] w2 fun v7 w6=>
 ∃ n8,v7=(.int .i64 n8) ∧
 cond (n8 != 0)
 (K (.tuple #[.slice none 0 0,.int .i64 n8]) w6)
 (CallsX P N.f_slices_Clone___float64_float64 #[.slice q1 qo qu] w6 fun v10 w9=>
 vS_ v10 fun s11a s11l s11c=>
 cutM (σ:=Unit) (fun J12=>
 loopM (σ:=Int×Unit) (fun s15 X16 w17=>
 cond (decide (s15.1<(s11l:Int)))
 (cutM (σ:=Unit) (fun J18=>
 loopM (σ:=Int×Unit) (fun s21 X22 w23=>
 cond (decide (s21.1<s15.1))
 ((0:Int)≤s15.1∧s15.1<(s11l:Nat) ∧
 optM s11a fun a24=>
 cF_ w23 (a24.add (s15.1.toNat*1)) fun x25=>
 cI_ w23 p1 fun n26=>
 cS_ w23 (p1.add 1) fun s27a s27l s27c=>
 cS_ w23 (p1.add 2) fun s28a s28l s28c=>
 (0:Int)≤s21.1∧s21.1<(s11l:Nat) ∧
 optM s11a fun a29=>
 cF_ w23 (a29.add (s21.1.toNat*1)) fun x30=>
 drM w23 fun w31=>
 CallsX P N.f_solve_below #[.agg #[.int .i64 n26,.slice s27a s27l s27c,.slice s28a s28l s28c],.int .i64 s15.1,.int .i64 s21.1] w31 fun v33 w32=>
 ∃ x34,v33=(.float .f64 x34) ∧
 w32.cell? (a29.add (s21.1.toNat*1))=some (.float .f64 x30) ∧
 w32.cell? (a24.add (s15.1.toNat*1))=some (.float .f64 x25) ∧
 fresM (fmul x34 x30) w32 fun x35 w36=>
 fresM (fsub x25 x35) w32 fun x37 w38=>
 (0:Int)≤s15.1∧s15.1<(s11l:Nat) ∧
 optM s11a fun a39=>
 drM w32 fun w40=>
 stM (a39.add (s15.1.toNat*1)) (.float .f64 x37) w40 fun w41=>
 drM w41 fun w42=>
 X22 ((i64.wrap (s21.1+1)),()) w42)
 (J18 (()) w23))
 (0,()) w17)
 (fun s19 w20=>
 X16 ((i64.wrap (s15.1+1)),()) w20))
 (J12 (()) w17))
 (0,()) w9)
 (fun s13 w14=>
 K (.tuple #[.slice s11a s11l s11c,.int .i64 0]) w14))
def S_solve_Back (N:Nums) (P:Program) (qa:Int) (qc:OA) (qd qf:Nat) (qe:OA) (qb qg:Nat) (q1:OA) (qo qu:Nat) (w:World) (K:KV):Prop:=
 newM #[.int .i64 qa,.slice qc qd qf,.slice qe qb qg] N.t_Factor w fun p1 w2=>
 cI_ w2 p1 fun n3=>
 cS_ w2 (p1.add 1) fun s4a s4l s4c=>
 cS_ w2 (p1.add 2) fun s5a s5l s5c=>
 CallsX P N.f_solve_fits #[.agg #[.int .i64 n3,.slice s4a s4l s4c,.slice s5a s5l s5c],.int .i64 (qo:Int)] w2 fun v7 w6=>
 ∃ n8,v7=(.int .i64 n8) ∧
 cond (n8 != 0)
 (K (.tuple #[.slice none 0 0,.int .i64 n8]) w6)
 (cS_ w6 (p1.add 2) fun s9a s9l s9c=>
 CallsX P N.f_slices_Contains___float64_float64 #[.slice s9a s9l s9c,.float .f64 0] w6 fun v11 w10=>
 vB_ v11 fun b12=>
 cond b12
 (K (.tuple #[.slice none 0 0,.int .i64 7]) w10)
 (CallsX P N.f_slices_Clone___float64_float64 #[.slice q1 qo qu] w10 fun v14 w13=>
 vS_ v14 fun s15a s15l s15c=>
 cS_ w13 (p1.add 2) fun s16a s16l s16c=>
 cutM (σ:=Unit) (fun J17=>
 loopM (σ:=Int×Unit) (fun s20 X21 w22=>
 cond (decide (s20.1<(s16l:Int)))
 ((0:Int)≤s20.1∧s20.1<(s16l:Nat) ∧
 optM s16a fun a23=>
 cF_ w22 (a23.add (s20.1.toNat*1)) fun x24=>
 (0:Int)≤s20.1∧s20.1<(s15l:Nat) ∧
 optM s15a fun a25=>
 cF_ w22 (a25.add (s20.1.toNat*1)) fun x26=>
 fresM (fdiv x26 x24) w22 fun x27 w28=>
 (0:Int)≤s20.1∧s20.1<(s15l:Nat) ∧
 optM s15a fun a29=>
 stM (a29.add (s20.1.toNat*1)) (.float .f64 x27) w28 fun w30=>
 X21 ((i64.wrap (s20.1+1)),()) w30)
 (J17 (()) w22))
 (0,()) w13)
 (fun s18 w19=>
 cutM (σ:=Unit) (fun J31=>
 loopM (σ:=Int×Unit) (fun s34 X35 w36=>
 cond (decide (s34.1<(s15l:Int)))
 (cutM (σ:=Unit) (fun J37=>
 loopM (σ:=Int×Unit) (fun s40 X41 w42=>
 cond (decide (s40.1<(s15l:Int)))
 ((0:Int)≤(i64.wrap ((i64.wrap ((s15l:Int)-1))-s34.1))∧(i64.wrap ((i64.wrap ((s15l:Int)-1))-s34.1))<(s15l:Nat) ∧
 optM s15a fun a43=>
 ∃ x44,w42.cell? (a43.add ((i64.wrap ((i64.wrap ((s15l:Int)-1))-s34.1)).toNat*1))=some (.float .f64 x44) ∧
 cI_ w42 p1 fun n45=>
 cS_ w42 (p1.add 1) fun s46a s46l s46c=>
 cS_ w42 (p1.add 2) fun s47a s47l s47c=>
 (0:Int)≤s40.1∧s40.1<(s15l:Nat) ∧
 optM s15a fun a48=>
 cF_ w42 (a48.add (s40.1.toNat*1)) fun x49=>
 drM w42 fun w50=>
 CallsX P N.f_solve_below #[.agg #[.int .i64 n45,.slice s46a s46l s46c,.slice s47a s47l s47c],.int .i64 s40.1,.int .i64 (i64.wrap ((i64.wrap ((s15l:Int)-1))-s34.1))] w50 fun v52 w51=>
 ∃ x53,v52=(.float .f64 x53) ∧
 w51.cell? (a48.add (s40.1.toNat*1))=some (.float .f64 x49) ∧
 w51.cell? (a43.add ((i64.wrap ((i64.wrap ((s15l:Int)-1))-s34.1)).toNat*1))=some (.float .f64 x44) ∧
 fresM (fmul x53 x49) w51 fun x54 w55=>
 fresM (fsub x44 x54) w51 fun x56 w57=>
 (0:Int)≤(i64.wrap ((i64.wrap ((s15l:Int)-1))-s34.1))∧(i64.wrap ((i64.wrap ((s15l:Int)-1))-s34.1))<(s15l:Nat) ∧
 optM s15a fun a58=>
 drM w51 fun w59=>
 stM (a58.add ((i64.wrap ((i64.wrap ((s15l:Int)-1))-s34.1)).toNat*1)) (.float .f64 x56) w59 fun w60=>
 drM w60 fun w61=>
 X41 ((i64.wrap (s40.1+1)),()) w61)
 (J37 (()) w42))
 ((i64.wrap ((i64.wrap ((i64.wrap ((s15l:Int)-1))-s34.1))+1)),()) w36)
 (fun s38 w39=>
 X35 ((i64.wrap (s34.1+1)),()) w39))
 (J31 (()) w36))
 (0,()) w19)
 (fun s32 w33=>
 K (.tuple #[.slice s15a s15l s15c,.int .i64 0]) w33))))
def S_k_Like (N:Nums) (P:Program) (q0:Nat) (q1:Nat) (w:World) (K:KV):Prop:=
 cond (!(feq q0 q1))
 (cond (!feq q0 q0)
 (K (.bool (!feq q1 q1)) w)
 (K (.bool false) w))
 (K (.bool true) w)
def S_matrix_Right (N:Nums) (P:Program) (qa:Int) (qc:Int) (qe:OA) (qb qg:Nat) (w:World) (K:KV):Prop:=
 newM #[.int .i64 qa,.int .i64 qc,.slice qe qb qg] N.t_Matrix w fun p1 w2=>
 cI_ w2 p1 fun n3=>
 CallsX P N.f_matrix_fits #[.int .i64 n3] w2 fun v5 w4=>
 vB_ v5 fun b6=>
 cond b6
 (cI_ w4 (p1.add 1) fun n7=>
 CallsX P N.f_matrix_fits #[.int .i64 n7] w4 fun v9 w8=>
 vB_ v9 fun b10=>
 cond b10
 (cS_ w8 (p1.add 2) fun s11a s11l s11c=>
 cI_ w8 p1 fun n12=>
 cI_ w8 (p1.add 1) fun n13=>
 K (.bool ((s11l:Int)==(i64.wrap (n12*n13)))) w8)
 (K (.bool false) w8))
 (K (.bool false) w4)
def S_sums_finite (N:Nums) (P:Program) (q0:OA) (qh qn:Nat) (w:World) (K:KV):Prop:=
 cutM (σ:=Unit) (fun J1=>
 loopM (σ:=Int×Unit) (fun s4 X5 w6=>
 cond (decide (s4.1<(qh:Int)))
 ((0:Int)≤s4.1∧s4.1<(qh:Nat) ∧
 optM q0 fun a7=>
 cF_ w6 (a7.add (s4.1.toNat*1)) fun x8=>
 CallsX P N.f_math_IsNaN #[.float .f64 x8] w6 fun v10 w9=>
 vB_ v10 fun b11=>
 cond (!b11)
 (CallsX P N.f_math_IsInf #[.float .f64 x8,.int .i64 0] w9 fun v13 w12=>
 vB_ v13 fun b14=>
 cond b14
 (K (.bool false) w12)
 (X5 ((i64.wrap (s4.1+1)),()) w12))
 (K (.bool false) w9))
 (J1 (()) w6))
 (0,()) w)
 (fun s2 w3=>
 K (.bool true) w3)
def S_sums_total (N:Nums) (P:Program) (q0:Int) (q1:Value) (w:World) (K:KV):Prop:=
 newM #[.bool false,.slice none 0 0,.int .i64 0] N.t_Dyad w fun p1 w2=>
 CallsX P N.f_dyad_Int #[.int .i64 0] w2 fun v4 w3=>
 ∃ b5,∃ s6a s6l s6c,∃ n7,v4=(.agg #[.bool b5,.slice s6a s6l s6c,.int .i64 n7]) ∧
 newM #[.bool false,.slice none 0 0,.int .i64 0] N.t_Dyad w3 fun p8 w9=>
 stM p8 (.bool b5) w9 fun w10=>
 stM (p8.add 1) (.slice s6a s6l s6c) w10 fun w11=>
 stM (p8.add 2) (.int .i64 n7) w11 fun w12=>
 cutM (σ:=Unit) (fun J13=>
 loopM (σ:=Int×Unit) (fun s16 X17 w18=>
 cond (decide (s16.1<q0))
 (cB_ w18 p8 fun b19=>
 cS_ w18 (p8.add 1) fun s20a s20l s20c=>
 cI_ w18 (p8.add 2) fun n21=>
 drM w18 fun w22=>
 fnM q1 fun f25 f25p f25q=>CallsX P f25 (f25p.toList++(([.int .i64 s16.1]:List Value)++f25q.toList)).toArray w22 fun v24 w23=>
 ∃ b26,∃ s27a s27l s27c,∃ n28,v24=(.agg #[.bool b26,.slice s27a s27l s27c,.int .i64 n28]) ∧
 w23.cell? p8=some (.bool b19) ∧
 w23.cell? (p8.add 1)=some (.slice s20a s20l s20c) ∧
 w23.cell? (p8.add 2)=some (.int .i64 n21) ∧
 drM w23 fun w29=>
 CallsX P N.f_dyad_Add #[.agg #[.bool b19,.slice s20a s20l s20c,.int .i64 n21],.agg #[.bool b26,.slice s27a s27l s27c,.int .i64 n28]] w29 fun v31 w30=>
 ∃ b32,∃ s33a s33l s33c,∃ n34,∃ n35,v31=(.tuple #[.agg #[.bool b32,.slice s33a s33l s33c,.int .i64 n34],.int .i64 n35]) ∧
 drM w30 fun w36=>
 stM p8 (.bool b32) w36 fun w37=>
 stM (p8.add 1) (.slice s33a s33l s33c) w37 fun w38=>
 stM (p8.add 2) (.int .i64 n34) w38 fun w39=>
 drM w39 fun w40=>
 X17 ((i64.wrap (s16.1+1)),()) w40)
 (J13 (()) w18))
 (0,()) w12)
 (fun s14 w15=>
 cB_ w15 p8 fun b41=>
 cS_ w15 (p8.add 1) fun s42a s42l s42c=>
 cI_ w15 (p8.add 2) fun n43=>
 stM p1 (.bool b41) w15 fun w44=>
 stM (p1.add 1) (.slice s42a s42l s42c) w44 fun w45=>
 stM (p1.add 2) (.int .i64 n43) w45 fun w46=>
 cB_ w46 p1 fun b47=>
 cS_ w46 (p1.add 1) fun s48a s48l s48c=>
 cI_ w46 (p1.add 2) fun n49=>
 K (.agg #[.bool b47,.slice s48a s48l s48c,.int .i64 n49]) w46)
def S_sums_DotExact_1 (N:Nums) (P:Program) (q0:Int) (q1:OA) (q2:OA) (w:World) (K:KV):Prop:=
 newM #[.bool false,.slice none 0 0,.int .i64 0] N.t_Dyad w fun p1 w2=>
 optM q1 fun a3=>
 cS_ w2 a3 fun s4a s4l s4c=>
 (0:Int)≤q0∧q0<(s4l:Nat) ∧
 optM s4a fun a5=>
 cF_ w2 (a5.add (q0.toNat*1)) fun x6=>
 CallsX P N.f_dyad_Of #[.float .f64 x6] w2 fun v8 w7=>
 ∃ b9,∃ s10a s10l s10c,∃ n11,∃ n12,v8=(.tuple #[.agg #[.bool b9,.slice s10a s10l s10c,.int .i64 n11],.int .i64 n12]) ∧
 newM #[.bool false,.slice none 0 0,.int .i64 0] N.t_Dyad w7 fun p13 w14=>
 stM p13 (.bool b9) w14 fun w15=>
 stM (p13.add 1) (.slice s10a s10l s10c) w15 fun w16=>
 stM (p13.add 2) (.int .i64 n11) w16 fun w17=>
 optM q2 fun a18=>
 cS_ w17 a18 fun s19a s19l s19c=>
 (0:Int)≤q0∧q0<(s19l:Nat) ∧
 optM s19a fun a20=>
 cF_ w17 (a20.add (q0.toNat*1)) fun x21=>
 CallsX P N.f_dyad_Of #[.float .f64 x21] w17 fun v23 w22=>
 ∃ b24,∃ s25a s25l s25c,∃ n26,∃ n27,v23=(.tuple #[.agg #[.bool b24,.slice s25a s25l s25c,.int .i64 n26],.int .i64 n27]) ∧
 newM #[.bool false,.slice none 0 0,.int .i64 0] N.t_Dyad w22 fun p28 w29=>
 stM p28 (.bool b24) w29 fun w30=>
 stM (p28.add 1) (.slice s25a s25l s25c) w30 fun w31=>
 stM (p28.add 2) (.int .i64 n26) w31 fun w32=>
 cB_ w32 p13 fun b33=>
 cS_ w32 (p13.add 1) fun s34a s34l s34c=>
 cI_ w32 (p13.add 2) fun n35=>
 cB_ w32 p28 fun b36=>
 cS_ w32 (p28.add 1) fun s37a s37l s37c=>
 cI_ w32 (p28.add 2) fun n38=>
 CallsX P N.f_dyad_Mul #[.agg #[.bool b33,.slice s34a s34l s34c,.int .i64 n35],.agg #[.bool b36,.slice s37a s37l s37c,.int .i64 n38]] w32 fun v40 w39=>
 ∃ b41,∃ s42a s42l s42c,∃ n43,∃ n44,v40=(.tuple #[.agg #[.bool b41,.slice s42a s42l s42c,.int .i64 n43],.int .i64 n44]) ∧
 newM #[.bool false,.slice none 0 0,.int .i64 0] N.t_Dyad w39 fun p45 w46=>
 stM p45 (.bool b41) w46 fun w47=>
 stM (p45.add 1) (.slice s42a s42l s42c) w47 fun w48=>
 stM (p45.add 2) (.int .i64 n43) w48 fun w49=>
 cB_ w49 p45 fun b50=>
 cS_ w49 (p45.add 1) fun s51a s51l s51c=>
 cI_ w49 (p45.add 2) fun n52=>
 stM p1 (.bool b50) w49 fun w53=>
 stM (p1.add 1) (.slice s51a s51l s51c) w53 fun w54=>
 stM (p1.add 2) (.int .i64 n52) w54 fun w55=>
 cB_ w55 p1 fun b56=>
 cS_ w55 (p1.add 1) fun s57a s57l s57c=>
 cI_ w55 (p1.add 2) fun n58=>
 K (.agg #[.bool b56,.slice s57a s57l s57c,.int .i64 n58]) w55
def S_dyad_Of (N:Nums) (P:Program) (q0:Nat) (w:World) (K:KV):Prop:=
 newM #[.bool false,.slice none 0 0,.int .i64 0] N.t_Dyad w fun p1 w2=>
 CallsX P N.f_bits_Split #[.float .f64 q0] w2 fun v4 w3=>
 ∃ b5,∃ n6,∃ n7,∃ b8,v4=(.tuple #[.agg #[.bool b5,.int .u64 n6,.int .i64 n7],.bool b8]) ∧
 newM #[.bool false,.int .u64 0,.int .i64 0] N.t_Parts w3 fun p9 w10=>
 stM p9 (.bool b5) w10 fun w11=>
 stM (p9.add 1) (.int .u64 n6) w11 fun w12=>
 stM (p9.add 2) (.int .i64 n7) w12 fun w13=>
 cond (!b8)
 (stM p1 (.bool false) w13 fun w14=>
 stM (p1.add 1) (.slice none 0 0) w14 fun w15=>
 stM (p1.add 2) (.int .i64 0) w15 fun w16=>
 cB_ w16 p1 fun b17=>
 cS_ w16 (p1.add 1) fun s18a s18l s18c=>
 cI_ w16 (p1.add 2) fun n19=>
 K (.tuple #[.agg #[.bool b17,.slice s18a s18l s18c,.int .i64 n19],.int .i64 5]) w16)
 (cU_ w13 (p9.add 1) fun n20=>
 cond (n20==0)
 (stM p1 (.bool false) w13 fun w21=>
 stM (p1.add 1) (.slice none 0 0) w21 fun w22=>
 stM (p1.add 2) (.int .i64 0) w22 fun w23=>
 cB_ w23 p1 fun b24=>
 cS_ w23 (p1.add 1) fun s25a s25l s25c=>
 cI_ w23 (p1.add 2) fun n26=>
 K (.tuple #[.agg #[.bool b24,.slice s25a s25l s25c,.int .i64 n26],.int .i64 0]) w23)
 (cB_ w13 p9 fun b27=>
 cU_ w13 (p9.add 1) fun n28=>
 newM #[.int .u64 n28] N.t_uint64 w13 fun p29 w30=>
 cI_ w30 (p9.add 2) fun n31=>
 stM p1 (.bool b27) w30 fun w32=>
 stM (p1.add 1) (.slice (some p29) 1 1) w32 fun w33=>
 stM (p1.add 2) (.int .i64 n31) w33 fun w34=>
 cB_ w34 p1 fun b35=>
 cS_ w34 (p1.add 1) fun s36a s36l s36c=>
 cI_ w34 (p1.add 2) fun n37=>
 K (.tuple #[.agg #[.bool b35,.slice s36a s36l s36c,.int .i64 n37],.int .i64 0]) w34))
def S_dyad_Mul (N:Nums) (P:Program) (qa:Bool) (qc:OA) (qd qf:Nat) (qe:Int) (ql:Bool) (qk:OA) (qi qj:Nat) (qr:Int) (w:World) (K:KV):Prop:=
 newM #[.bool qa,.slice qc qd qf,.int .i64 qe] N.t_Dyad w fun p1 w2=>
 newM #[.bool ql,.slice qk qi qj,.int .i64 qr] N.t_Dyad w2 fun p3 w4=>
 newM #[.bool false,.slice none 0 0,.int .i64 0] N.t_Dyad w4 fun p5 w6=>
 cB_ w6 p1 fun b7=>
 cS_ w6 (p1.add 1) fun s8a s8l s8c=>
 cI_ w6 (p1.add 2) fun n9=>
 cB_ w6 p3 fun b10=>
 cS_ w6 (p3.add 1) fun s11a s11l s11c=>
 cI_ w6 (p3.add 2) fun n12=>
 CallsX P N.f_dyad_both #[.agg #[.bool b7,.slice s8a s8l s8c,.int .i64 n9],.agg #[.bool b10,.slice s11a s11l s11c,.int .i64 n12]] w6 fun v14 w13=>
 vB_ v14 fun b15=>
 cond (!b15)
 (stM p5 (.bool false) w13 fun w16=>
 stM (p5.add 1) (.slice none 0 0) w16 fun w17=>
 stM (p5.add 2) (.int .i64 0) w17 fun w18=>
 cB_ w18 p5 fun b19=>
 cS_ w18 (p5.add 1) fun s20a s20l s20c=>
 cI_ w18 (p5.add 2) fun n21=>
 K (.tuple #[.agg #[.bool b19,.slice s20a s20l s20c,.int .i64 n21],.int .i64 2]) w18)
 (cB_ w13 p1 fun b22=>
 cS_ w13 (p1.add 1) fun s23a s23l s23c=>
 cI_ w13 (p1.add 2) fun n24=>
 CallsX P N.f_dyad_whole #[.agg #[.bool b22,.slice s23a s23l s23c,.int .i64 n24]] w13 fun v26 w25=>
 ∃ p27:(OA),v26=(.pointer p27) ∧
 cB_ w25 p3 fun b28=>
 cS_ w25 (p3.add 1) fun s29a s29l s29c=>
 cI_ w25 (p3.add 2) fun n30=>
 cI_ w25 (p1.add 2) fun n31=>
 cI_ w25 (p3.add 2) fun n32=>
 drM w25 fun w33=>
 CallsX P N.f_dyad_whole #[.agg #[.bool b28,.slice s29a s29l s29c,.int .i64 n30]] w33 fun v35 w34=>
 ∃ p36:(OA),v35=(.pointer p36) ∧
 w34.cell? (p3.add 2)=some (.int .i64 n32) ∧
 w34.cell? (p1.add 2)=some (.int .i64 n31) ∧
 drM w34 fun w37=>
 CallsX P N.f_bI_Mul #[.pointer p27,.pointer p27,.pointer p36] w37 fun v39 w38=>
 ∃ p40:(OA),v39=(.pointer p40) ∧
 w38.cell? (p3.add 2)=some (.int .i64 n32) ∧
 w38.cell? (p1.add 2)=some (.int .i64 n31) ∧
 drM w38 fun w41=>
 CallsX P N.f_dyad_made #[.pointer p40,.int .i64 (i64.wrap (n31+n32))] w41 fun v43 w42=>
 ∃ b44,∃ s45a s45l s45c,∃ n46,∃ n47,v43=(.tuple #[.agg #[.bool b44,.slice s45a s45l s45c,.int .i64 n46],.int .i64 n47]) ∧
 drM w42 fun w48=>
 stM p5 (.bool b44) w48 fun w49=>
 stM (p5.add 1) (.slice s45a s45l s45c) w49 fun w50=>
 stM (p5.add 2) (.int .i64 n46) w50 fun w51=>
 drM w51 fun w52=>
 cB_ w52 p5 fun b53=>
 cS_ w52 (p5.add 1) fun s54a s54l s54c=>
 cI_ w52 (p5.add 2) fun n55=>
 K (.tuple #[.agg #[.bool b53,.slice s54a s54l s54c,.int .i64 n55],.int .i64 n47]) w52)
def S_dyad_Round (N:Nums) (P:Program) (qa:Bool) (qc:OA) (qd qf:Nat) (qe:Int) (q1:Int) (w:World) (K:KV):Prop:=
 newM #[.bool qa,.slice qc qd qf,.int .i64 qe] N.t_Dyad w fun p1 w2=>
 cB_ w2 p1 fun b3=>
 cS_ w2 (p1.add 1) fun s4a s4l s4c=>
 cI_ w2 (p1.add 2) fun n5=>
 CallsX P N.f_dyad_Right #[.agg #[.bool b3,.slice s4a s4l s4c,.int .i64 n5]] w2 fun v7 w6=>
 vB_ v7 fun b8=>
 cond (!b8)
 (K (.tuple #[.float .f64 0,.int .i64 2]) w6)
 (cS_ w6 (p1.add 1) fun s9a s9l s9c=>
 cond ((s9l:Int)==0)
 (K (.tuple #[.float .f64 0,.int .i64 0]) w6)
 (cB_ w6 p1 fun b10=>
 cS_ w6 (p1.add 1) fun s11a s11l s11c=>
 cI_ w6 (p1.add 2) fun n12=>
 CallsX P N.f_dyad_whole #[.agg #[.bool b10,.slice s11a s11l s11c,.int .i64 n12]] w6 fun v14 w13=>
 ∃ p15:(OA),v14=(.pointer p15) ∧
 CallsX P N.f_bI_Abs #[.pointer p15,.pointer p15] w13 fun v17 w16=>
 ∃ p18:(OA),v17=(.pointer p18) ∧
 cB_ w16 p1 fun b19=>
 cS_ w16 (p1.add 1) fun s20a s20l s20c=>
 cI_ w16 (p1.add 2) fun n21=>
 CallsX P N.f_dyad_top #[.agg #[.bool b19,.slice s20a s20l s20c,.int .i64 n21]] w16 fun v23 w22=>
 ∃ n24,v23=(.int .i64 n24) ∧
 cI_ w22 (p1.add 2) fun n25=>
 cutM (σ:=Int×Unit) (fun J26=>
 cond (decide ((i64.wrap ((if (-1074)>(i64.wrap (n24-53)) then (-1074) else (i64.wrap (n24-53)))-n25))≤0))
 (newM #[.bool false,.slice none 0 0] N.t_bn_Int w22 fun p29 w30=>
 CallsX P N.f_bI_Lsh #[.pointer (some p29),.pointer p15,.int .u64 (u64.wrap (i64.wrap (0-(i64.wrap ((if (-1074)>(i64.wrap (n24-53)) then (-1074) else (i64.wrap (n24-53)))-n25)))))] w30 fun v32 w31=>
 ∃ p33:(OA),v32=(.pointer p33) ∧
 CallsX P N.f_bI_Uint64 #[.pointer p33] w31 fun v35 w34=>
 ∃ n36,v35=(.int .u64 n36) ∧
 J26 (n36,()) w34)
 (newM #[.bool false,.slice none 0 0] N.t_bn_Int w22 fun p37 w38=>
 CallsX P N.f_bI_Rsh #[.pointer (some p37),.pointer p15,.int .u64 (u64.wrap (i64.wrap ((if (-1074)>(i64.wrap (n24-53)) then (-1074) else (i64.wrap (n24-53)))-n25)))] w38 fun v40 w39=>
 ∃ p41:(OA),v40=(.pointer p41) ∧
 CallsX P N.f_bI_Uint64 #[.pointer p41] w39 fun v43 w42=>
 ∃ n44,v43=(.int .u64 n44) ∧
 CallsX P N.f_bI_Lsh #[.pointer p41,.pointer p41,.int .u64 (u64.wrap (i64.wrap ((if (-1074)>(i64.wrap (n24-53)) then (-1074) else (i64.wrap (n24-53)))-n25)))] w42 fun v46 w45=>
 ∃ p47:(OA),v46=(.pointer p47) ∧
 CallsX P N.f_bI_Sub #[.pointer p15,.pointer p15,.pointer p47] w45 fun v49 w48=>
 ∃ p50:(OA),v49=(.pointer p50) ∧
 newM #[.bool false,.slice none 0 0] N.t_bn_Int w48 fun p51 w52=>
 CallsX P N.f_bn_NewInt #[.int .i64 1] w52 fun v54 w53=>
 ∃ p55:(OA),v54=(.pointer p55) ∧
 CallsX P N.f_bI_Lsh #[.pointer (some p51),.pointer p55,.int .u64 (u64.wrap (i64.wrap ((i64.wrap ((if (-1074)>(i64.wrap (n24-53)) then (-1074) else (i64.wrap (n24-53)))-n25))-1)))] w53 fun v57 w56=>
 ∃ p58:(OA),v57=(.pointer p58) ∧
 CallsX P N.f_bI_Cmp #[.pointer p50,.pointer p58] w56 fun v60 w59=>
 ∃ n61,v60=(.int .i64 n61) ∧
 CallsX P N.f_bI_Sign #[.pointer p50] w59 fun v63 w62=>
 ∃ n64,v63=(.int .i64 n64) ∧
 cond (decide (n64>0))
 (cB_ w62 p1 fun b65=>
 CallsX P N.f_dyad_away #[.int .i8 q1,.bool b65,.int .i64 n61,.bool ((u64.wrap (BitVec.ofInt u64.bits n44 &&& BitVec.ofInt u64.bits 1).toNat)==1)] w62 fun v67 w66=>
 vB_ v67 fun b68=>
 cutM (σ:=Int×Unit) (fun J69=>
 cond b68
 (J69 ((u64.wrap (n44+1)),()) w66)
 (J69 (n44,()) w66))
 (fun s70 w71=>
 J26 (s70.1,()) w71))
 (cutM (σ:=Int×Unit) (fun J72=>
 J72 (n44,()) w62)
 (fun s73 w74=>
 J26 (s73.1,()) w74))))
 (fun s27 w28=>
 cB_ w28 p1 fun b75=>
 CallsX P N.f_dyad_float #[.bool b75,.int .u64 s27.1,.int .i64 (if (-1074)>(i64.wrap (n24-53)) then (-1074) else (i64.wrap (n24-53))),.int .i8 q1] w28 fun v77 w76=>
 ∃ x78,v77=(.float .f64 x78) ∧
 K (.tuple #[.float .f64 x78,.int .i64 0]) w76)))
def S_r10_Right (N:Nums) (P:Program) (qa:Int) (qc:Int) (qe:OA) (qb qg:Nat) (w:World) (K:KV):Prop:=
 newM #[.int .i64 qa,.int .i64 qc,.slice qe qb qg] N.t_Matrix w fun p1 w2=>
 cI_ w2 p1 fun n3=>
 CallsX P N.f_r10_may #[.int .i64 n3] w2 fun v5 w4=>
 vB_ v5 fun b6=>
 cond b6
 (cI_ w4 (p1.add 1) fun n7=>
 CallsX P N.f_r10_may #[.int .i64 n7] w4 fun v9 w8=>
 vB_ v9 fun b10=>
 cond b10
 (cS_ w8 (p1.add 2) fun s11a s11l s11c=>
 cI_ w8 p1 fun n12=>
 cI_ w8 (p1.add 1) fun n13=>
 K (.bool ((s11l:Int)==(i64.wrap (n12*n13)))) w8)
 (K (.bool false) w8))
 (K (.bool false) w4)
def S_r01_Split (N:Nums) (P:Program) (q0:Nat) (w:World) (K:KV):Prop:=
 newM #[.bool false,.int .u64 0,.int .i64 0] N.t_Parts w fun p1 w2=>
 CallsX P N.f_r01_Finite #[.float .f64 q0] w2 fun v4 w3=>
 vB_ v4 fun b5=>
 cond (!b5)
 (stM p1 (.bool false) w3 fun w6=>
 stM (p1.add 1) (.int .u64 0) w6 fun w7=>
 stM (p1.add 2) (.int .i64 0) w7 fun w8=>
 cB_ w8 p1 fun b9=>
 cU_ w8 (p1.add 1) fun n10=>
 cI_ w8 (p1.add 2) fun n11=>
 K (.tuple #[.agg #[.bool b9,.int .u64 n10,.int .i64 n11],.bool false]) w8)
 (CallsX P N.f_r01_fields #[.float .f64 q0] w3 fun v13 w12=>
 ∃ b14,∃ n15,∃ n16,v13=(.tuple #[.bool b14,.int .i64 n15,.int .u64 n16]) ∧
 newM #[.bool false,.int .u64 0,.int .i64 0] N.t_Parts w12 fun p17 w18=>
 stM p17 (.bool b14) w18 fun w19=>
 stM (p17.add 1) (.int .u64 n16) w19 fun w20=>
 stM (p17.add 2) (.int .i64 (-1074)) w20 fun w21=>
 cutM (σ:=Unit) (fun J22=>
 cond (decide (n15>0))
 (stM (p17.add 1) (.int .u64 (u64.wrap (n16+4503599627370496))) w21 fun w25=>
 stM (p17.add 2) (.int .i64 (i64.wrap (n15-1075))) w25 fun w26=>
 J22 (()) w26)
 (J22 (()) w21))
 (fun s23 w24=>
 cU_ w24 (p17.add 1) fun n27=>
 cutM (σ:=Unit) (fun J28=>
 cond (n27==0)
 (stM (p17.add 2) (.int .i64 0) w24 fun w31=>
 J28 (()) w31)
 (J28 (()) w24))
 (fun s29 w30=>
 cutM (σ:=Unit) (fun J32=>
 loopM (σ:=Unit) (fun s35 X36 w37=>
 cU_ w37 (p17.add 1) fun n38=>
 cond (n38 != 0)
 (cU_ w37 (p17.add 1) fun n39=>
 (2:Int)≠0 ∧
 cond ((n39.tmod 2)==0)
 (cU_ w37 (p17.add 1) fun n40=>
 (2:Int)≠0 ∧
 stM (p17.add 1) (.int .u64 (u64.wrap (n40.tdiv 2))) w37 fun w41=>
 cI_ w41 (p17.add 2) fun n42=>
 stM (p17.add 2) (.int .i64 (i64.wrap (n42+1))) w41 fun w43=>
 X36 (()) w43)
 (J32 (()) w37))
 (J32 (()) w37))
 (()) w30)
 (fun s33 w34=>
 cB_ w34 p17 fun b44=>
 cU_ w34 (p17.add 1) fun n45=>
 cI_ w34 (p17.add 2) fun n46=>
 stM p1 (.bool b44) w34 fun w47=>
 stM (p1.add 1) (.int .u64 n45) w47 fun w48=>
 stM (p1.add 2) (.int .i64 n46) w48 fun w49=>
 cB_ w49 p1 fun b50=>
 cU_ w49 (p1.add 1) fun n51=>
 cI_ w49 (p1.add 2) fun n52=>
 K (.tuple #[.agg #[.bool b50,.int .u64 n51,.int .i64 n52],.bool true]) w49))))
def S_r02_NatOf (N:Nums) (P:Program) (q0:Int) (w:World) (K:KV):Prop:=
 newM #[.int .u64 q0] N.t_uint64 w fun p1 w2=>
 CallsX P N.f_r02_NatTrim #[.slice (some p1) 1 1] w2 fun v4 w3=>
 vS_ v4 fun s5a s5l s5c=>
 K (.slice s5a s5l s5c) w3
def S_r02_NatMul (N:Nums) (P:Program) (q0:OA) (qh qn:Nat) (q1:OA) (qo qu:Nat) (w:World) (K:KV):Prop:=
 CallsX P N.f_r02_halves #[.slice q0 qh qn] w fun v2 w1=>
 vS_ v2 fun s3a s3l s3c=>
 CallsX P N.f_r02_halves #[.slice q1 qo qu] w1 fun v5 w4=>
 vS_ v5 fun s6a s6l s6c=>
 CallsX P N.f_r02_product #[.slice s3a s3l s3c,.slice s6a s6l s6c] w4 fun v8 w7=>
 vS_ v8 fun s9a s9l s9c=>
 CallsX P N.f_r02_limbs #[.slice s9a s9l s9c] w7 fun v11 w10=>
 vS_ v11 fun s12a s12l s12c=>
 K (.slice s12a s12l s12c) w10
def S_r02_Num_Zero (N:Nums) (P:Program) (qa:Bool) (qc:OA) (qd qf:Nat) (qe:Int) (w:World) (K:KV):Prop:=
 newM #[.bool qa,.slice qc qd qf,.int .i64 qe] N.t_r02_Num w fun p1 w2=>
 cS_ w2 (p1.add 1) fun s3a s3l s3c=>
 CallsX P N.f_r02_NatBits #[.slice s3a s3l s3c] w2 fun v5 w4=>
 ∃ n6,v5=(.int .i64 n6) ∧
 K (.bool (n6==0)) w4
def S_r02_NatUp (N:Nums) (P:Program) (q0:OA) (qh qn:Nat) (q1:Int) (w:World) (K:KV):Prop:=
 CallsX P N.f_r02_halves #[.slice q0 qh qn] w fun v2 w1=>
 vS_ v2 fun s3a s3l s3c=>
 cond ((s3l:Int)==0)
 (K (.slice none 0 0) w1)
 ((32:Int)≠0 ∧
 mkM N.t_uint64 1 8 #[.int .u64 0] (i64.wrap (q1.tdiv 32)) (i64.wrap (q1.tdiv 32)) w1 fun p4 w5=>
 cutM (σ:=Int×Unit) (fun J6=>
 loopM (σ:=Int×Int×Unit) (fun s9 X10 w11=>
 (32:Int)≠0 ∧
 cond (decide (s9.2.1<(q1.tmod 32)))
 (X10 ((u64.wrap (2*s9.1)),(i64.wrap (s9.2.1+1)),()) w11)
 (J6 (s9.1,()) w11))
 (1,0,()) w5)
 (fun s7 w8=>
 cutM (σ:=(OA×Nat×Nat)×Int×Unit) (fun J12=>
 loopM (σ:=(OA×Nat×Nat)×Int×Int×Unit) (fun s15 X16 w17=>
 cond (decide (s15.2.2.1<(s3l:Int)))
 ((0:Int)≤s15.2.2.1∧s15.2.2.1<(s3l:Nat) ∧
 optM s3a fun a18=>
 cU_ w17 (a18.add (s15.2.2.1.toNat*1)) fun n19=>
 (4294967296:Int)≠0 ∧
 newM #[.int .u64 ((u64.wrap ((u64.wrap (n19*s7.1))+s15.2.1)).tmod 4294967296)] N.t_uint64 w17 fun p20 w21=>
 appM N.t_uint64 1 8 #[.int .u64 0] s15.1.1 s15.1.2.1 s15.1.2.2 (some p20) 1 w21 fun s22a s22l s22c w23=>
 (4294967296:Int)≠0 ∧
 X16 ((s22a,s22l,s22c),(u64.wrap ((u64.wrap ((u64.wrap (n19*s7.1))+s15.2.1)).tdiv 4294967296)),(i64.wrap (s15.2.2.1+1)),()) w23)
 (J12 ((s15.1.1,s15.1.2.1,s15.1.2.2),s15.2.1,()) w17))
 (((some p4),(i64.wrap (q1.tdiv 32)).toNat,(i64.wrap (q1.tdiv 32)).toNat),0,0,()) w8)
 (fun s13 w14=>
 newM #[.int .u64 s13.2.1] N.t_uint64 w14 fun p24 w25=>
 appM N.t_uint64 1 8 #[.int .u64 0] s13.1.1 s13.1.2.1 s13.1.2.2 (some p24) 1 w25 fun s26a s26l s26c w27=>
 CallsX P N.f_r02_limbs #[.slice s26a s26l s26c] w27 fun v29 w28=>
 vS_ v29 fun s30a s30l s30c=>
 K (.slice s30a s30l s30c) w28)))
def S_r02_NatAdd (N:Nums) (P:Program) (q0:OA) (qh qn:Nat) (q1:OA) (qo qu:Nat) (w:World) (K:KV):Prop:=
 CallsX P N.f_r02_halves #[.slice q0 qh qn] w fun v2 w1=>
 vS_ v2 fun s3a s3l s3c=>
 CallsX P N.f_r02_halves #[.slice q1 qo qu] w1 fun v5 w4=>
 vS_ v5 fun s6a s6l s6c=>
 cutM (σ:=(OA×Nat×Nat)×Unit) (fun J7=>
 loopM (σ:=(OA×Nat×Nat)×Int×Int×Unit) (fun s10 X11 w12=>
 cutM (σ:=Bool×Unit) (fun J13=>
 cond (!(decide (s10.2.2.1<(s3l:Int))))
 (cond (!(decide (s10.2.2.1<(s6l:Int))))
 (J13 ((decide (s10.2.1>0)),()) w12)
 (J13 (true,()) w12))
 (J13 (true,()) w12))
 (fun s14 w15=>
 cond s14.1
 (CallsX P N.f_r02_digit #[.slice s3a s3l s3c,.int .i64 s10.2.2.1] w15 fun v17 w16=>
 ∃ n18,v17=(.int .u64 n18) ∧
 CallsX P N.f_r02_digit #[.slice s6a s6l s6c,.int .i64 s10.2.2.1] w16 fun v20 w19=>
 ∃ n21,v20=(.int .u64 n21) ∧
 (4294967296:Int)≠0 ∧
 newM #[.int .u64 ((u64.wrap ((u64.wrap (n18+n21))+s10.2.1)).tmod 4294967296)] N.t_uint64 w19 fun p22 w23=>
 appM N.t_uint64 1 8 #[.int .u64 0] s10.1.1 s10.1.2.1 s10.1.2.2 (some p22) 1 w23 fun s24a s24l s24c w25=>
 (4294967296:Int)≠0 ∧
 X11 ((s24a,s24l,s24c),(u64.wrap ((u64.wrap ((u64.wrap (n18+n21))+s10.2.1)).tdiv 4294967296)),(i64.wrap (s10.2.2.1+1)),()) w25)
 (J7 ((s10.1.1,s10.1.2.1,s10.1.2.2),()) w15)))
 ((none,0,0),0,0,()) w4)
 (fun s8 w9=>
 CallsX P N.f_r02_limbs #[.slice s8.1.1 s8.1.2.1 s8.1.2.2] w9 fun v27 w26=>
 vS_ v27 fun s28a s28l s28c=>
 K (.slice s28a s28l s28c) w26)
def S_r02_NatCmp (N:Nums) (P:Program) (q0:OA) (qh qn:Nat) (q1:OA) (qo qu:Nat) (w:World) (K:KV):Prop:=
 CallsX P N.f_r02_NatTrim #[.slice q0 qh qn] w fun v2 w1=>
 vS_ v2 fun s3a s3l s3c=>
 CallsX P N.f_r02_NatTrim #[.slice q1 qo qu] w1 fun v5 w4=>
 vS_ v5 fun s6a s6l s6c=>
 cond ((s3l:Int) != (s6l:Int))
 (cond (decide ((s3l:Int)<(s6l:Int)))
 (K (.int .i64 (-1)) w4)
 (K (.int .i64 1) w4))
 (cutM (σ:=Unit) (fun J7=>
 loopM (σ:=Int×Unit) (fun s10 X11 w12=>
 cond (decide (s10.1≥0))
 ((0:Int)≤s10.1∧s10.1<(s3l:Nat) ∧
 optM s3a fun a13=>
 cU_ w12 (a13.add (s10.1.toNat*1)) fun n14=>
 (0:Int)≤s10.1∧s10.1<(s6l:Nat) ∧
 optM s6a fun a15=>
 cU_ w12 (a15.add (s10.1.toNat*1)) fun n16=>
 drM w12 fun w17=>
 cond (decide (n14<n16))
 (K (.int .i64 (-1)) w17)
 ((0:Int)≤s10.1∧s10.1<(s3l:Nat) ∧
 optM s3a fun a18=>
 cU_ w17 (a18.add (s10.1.toNat*1)) fun n19=>
 (0:Int)≤s10.1∧s10.1<(s6l:Nat) ∧
 optM s6a fun a20=>
 cU_ w17 (a20.add (s10.1.toNat*1)) fun n21=>
 drM w17 fun w22=>
 cond (decide (n19>n21))
 (K (.int .i64 1) w22)
 (X11 ((i64.wrap (s10.1-1)),()) w22)))
 (J7 (()) w12))
 ((i64.wrap ((s3l:Int)-1)),()) w4)
 (fun s8 w9=>
 K (.int .i64 0) w9))
def S_r02_NatSub (N:Nums) (P:Program) (q0:OA) (qh qn:Nat) (q1:OA) (qo qu:Nat) (w:World) (K:KV):Prop:=
 CallsX P N.f_r02_halves #[.slice q0 qh qn] w fun v2 w1=>
 vS_ v2 fun s3a s3l s3c=>
 CallsX P N.f_r02_halves #[.slice q1 qo qu] w1 fun v5 w4=>
 vS_ v5 fun s6a s6l s6c=>
 cutM (σ:=(OA×Nat×Nat)×Unit) (fun J7=>
 loopM (σ:=(OA×Nat×Nat)×Int×Int×Unit) (fun s10 X11 w12=>
 cond (decide (s10.2.2.1<(s3l:Int)))
 ((0:Int)≤s10.2.2.1∧s10.2.2.1<(s3l:Nat) ∧
 optM s3a fun a13=>
 cU_ w12 (a13.add (s10.2.2.1.toNat*1)) fun n14=>
 drM w12 fun w15=>
 CallsX P N.f_r02_digit #[.slice s6a s6l s6c,.int .i64 s10.2.2.1] w15 fun v17 w16=>
 ∃ n18,v17=(.int .u64 n18) ∧
 w16.cell? (a13.add (s10.2.2.1.toNat*1))=some (.int .u64 n14) ∧
 drM w16 fun w19=>
 (4294967296:Int)≠0 ∧
 newM #[.int .u64 ((u64.wrap ((u64.wrap ((u64.wrap (4294967296+n14))-n18))-s10.2.1)).tmod 4294967296)] N.t_uint64 w19 fun p20 w21=>
 appM N.t_uint64 1 8 #[.int .u64 0] s10.1.1 s10.1.2.1 s10.1.2.2 (some p20) 1 w21 fun s22a s22l s22c w23=>
 (4294967296:Int)≠0 ∧
 X11 ((s22a,s22l,s22c),(u64.wrap (1-(u64.wrap ((u64.wrap ((u64.wrap ((u64.wrap (4294967296+n14))-n18))-s10.2.1)).tdiv 4294967296)))),(i64.wrap (s10.2.2.1+1)),()) w23)
 (J7 ((s10.1.1,s10.1.2.1,s10.1.2.2),()) w12))
 ((none,0,0),0,0,()) w4)
 (fun s8 w9=>
 CallsX P N.f_r02_limbs #[.slice s8.1.1 s8.1.2.1 s8.1.2.2] w9 fun v25 w24=>
 vS_ v25 fun s26a s26l s26c=>
 K (.slice s26a s26l s26c) w24)
def S_r02_Num_top (N:Nums) (P:Program) (qa:Bool) (qc:OA) (qd qf:Nat) (qe:Int) (w:World) (K:KV):Prop:=
 newM #[.bool qa,.slice qc qd qf,.int .i64 qe] N.t_r02_Num w fun p1 w2=>
 cI_ w2 (p1.add 2) fun n3=>
 cS_ w2 (p1.add 1) fun s4a s4l s4c=>
 drM w2 fun w5=>
 CallsX P N.f_r02_NatBits #[.slice s4a s4l s4c] w5 fun v7 w6=>
 ∃ n8,v7=(.int .i64 n8) ∧
 w6.cell? (p1.add 2)=some (.int .i64 n3) ∧
 drM w6 fun w9=>
 K (.int .i64 (i64.wrap (n3+n8))) w9
def S_r02_NatDown (N:Nums) (P:Program) (q0:OA) (qh qn:Nat) (q1:Int) (w:World) (K:KV):Prop:=
 CallsX P N.f_r02_halves #[.slice q0 qh qn] w fun v2 w1=>
 vS_ v2 fun s3a s3l s3c=>
 cutM (σ:=Bool×Unit) (fun J4=>
 loopM (σ:=Bool×Int×Unit) (fun s7 X8 w9=>
 (32:Int)≠0 ∧
 cond (decide (s7.2.1<(i64.wrap (q1.tdiv 32))))
 (cond (decide (s7.2.1<(s3l:Int)))
 (cond (!s7.1)
 ((0:Int)≤s7.2.1∧s7.2.1<(s3l:Nat) ∧
 optM s3a fun a10=>
 cU_ w9 (a10.add (s7.2.1.toNat*1)) fun n11=>
 X8 ((n11 != 0),(i64.wrap (s7.2.1+1)),()) w9)
 (X8 (true,(i64.wrap (s7.2.1+1)),()) w9))
 (J4 (s7.1,()) w9))
 (J4 (s7.1,()) w9))
 (false,0,()) w1)
 (fun s5 w6=>
 (32:Int)≠0 ∧
 cond (decide ((i64.wrap (q1.tdiv 32))≥(s3l:Int)))
 (K (.tuple #[.slice none 0 0,.bool s5.1]) w6)
 (cutM (σ:=Int×Unit) (fun J12=>
 loopM (σ:=Int×Int×Unit) (fun s15 X16 w17=>
 (32:Int)≠0 ∧
 cond (decide (s15.2.1<(q1.tmod 32)))
 (X16 ((u64.wrap (2*s15.1)),(i64.wrap (s15.2.1+1)),()) w17)
 (J12 (s15.1,()) w17))
 (1,0,()) w6)
 (fun s13 w14=>
 (32:Int)≠0 ∧
 (0:Int)≤(i64.wrap (q1.tdiv 32))∧(i64.wrap (q1.tdiv 32))≤(s3l:Nat) ∧
 CallsX P N.f_r02_short #[.slice (slBase s3a ((i64.wrap (q1.tdiv 32)).toNat) s3c 1) (s3l-(i64.wrap (q1.tdiv 32)).toNat) (s3c-(i64.wrap (q1.tdiv 32)).toNat),.int .u64 s13.1] w14 fun v19 w18=>
 ∃ s20a s20l s20c,∃ n21,v19=(.tuple #[.slice s20a s20l s20c,.int .u64 n21]) ∧
 CallsX P N.f_r02_limbs #[.slice s20a s20l s20c] w18 fun v23 w22=>
 vS_ v23 fun s24a s24l s24c=>
 cond (!s5.1)
 (K (.tuple #[.slice s24a s24l s24c,.bool (n21 != 0)]) w22)
 (K (.tuple #[.slice s24a s24l s24c,.bool true]) w22))))
def S_r02_up (N:Nums) (P:Program) (q0:Int) (q1:Bool) (q2:Int) (q3:Bool) (w:World) (K:KV):Prop:=
 cond (q0==1)
 (K (.bool q1) w)
 (cond (q0==2)
 (K (.bool (!q1)) w)
 (cond (q0==3)
 (K (.bool false) w)
 (cond (!(decide (q2>0)))
 (cond (q2==0)
 (K (.bool q3) w)
 (K (.bool false) w))
 (K (.bool true) w))))
def S_r02_NatBits (N:Nums) (P:Program) (q0:OA) (qh qn:Nat) (w:World) (K:KV):Prop:=
 CallsX P N.f_r02_NatTrim #[.slice q0 qh qn] w fun v2 w1=>
 vS_ v2 fun s3a s3l s3c=>
 cond ((s3l:Int)==0)
 (K (.int .i64 0) w1)
 ((0:Int)≤(i64.wrap ((s3l:Int)-1))∧(i64.wrap ((s3l:Int)-1))<(s3l:Nat) ∧
 optM s3a fun a4=>
 ∃ n5,w1.cell? (a4.add ((i64.wrap ((s3l:Int)-1)).toNat*1))=some (.int .u64 n5) ∧
 cutM (σ:=Int×Unit) (fun J6=>
 loopM (σ:=Int×Int×Unit) (fun s9 X10 w11=>
 cond (decide (s9.2.1>0))
 ((2:Int)≠0 ∧
 X10 ((i64.wrap (s9.1+1)),(u64.wrap (s9.2.1.tdiv 2)),()) w11)
 (J6 (s9.1,()) w11))
 ((i64.wrap (64*(i64.wrap ((s3l:Int)-1)))),n5,()) w1)
 (fun s7 w8=>
 K (.int .i64 s7.1) w8))
end Go.Eng
