/-
 Some of the functions as propositions in the manner of a weakest precondition, printed off the structured code by a program of the session. No condition.
-/
import Derived.Test.YtlnelldekejadaaTbl
import Derived.Test.YtlnelldekejadaaNm
set_option linter.all false
set_option maxRecDepth 100000
namespace Go.Eng
open Go
open Go.IntKind (i64 u64 u32 u8)
def S_w16_InertiaNumbers (N:Nums) (P:Program)  (w:World) (K:KV):Prop:=
 newM #[.int .i64 0,.int .i64 1,.int .i64 1,.int .i64 0] N.t_int64 w fun p1 w2=>
 CallsX P N.f_w16_of #[.int .i64 2,.slice (some p1) 4 4] w2 fun v4 w3=>
 ∃ n5,∃ n6,∃ s7a s7l s7c,v4=(.agg #[.int .i64 n5,.int .i64 n6,.slice s7a s7l s7c]) ∧
 CallsX P N.f_inertia_Signs #[.agg #[.int .i64 n5,.int .i64 n6,.slice s7a s7l s7c]] w3 fun v9 w8=>
 ∃ n10,∃ n11,∃ n12,∃ n13,v9=(.tuple #[.agg #[.int .i64 n10,.int .i64 n11,.int .i64 n12],.int .i64 n13]) ∧
 newM #[.int .i64 0,.int .i64 0,.int .i64 0] N.t_Signs w8 fun p14 w15=>
 stM p14 (.int .i64 n10) w15 fun w16=>
 stM (p14.add 1) (.int .i64 n11) w16 fun w17=>
 stM (p14.add 2) (.int .i64 n12) w17 fun w18=>
 newM #[.int .i64 0,.int .i64 0,.int .i64 0,.int .i64 0] N.t_int64 w18 fun p19 w20=>
 CallsX P N.f_w16_of #[.int .i64 2,.slice (some p19) 4 4] w20 fun v22 w21=>
 ∃ n23,∃ n24,∃ s25a s25l s25c,v22=(.agg #[.int .i64 n23,.int .i64 n24,.slice s25a s25l s25c]) ∧
 CallsX P N.f_inertia_Signs #[.agg #[.int .i64 n23,.int .i64 n24,.slice s25a s25l s25c]] w21 fun v27 w26=>
 ∃ n28,∃ n29,∃ n30,∃ n31,v27=(.tuple #[.agg #[.int .i64 n28,.int .i64 n29,.int .i64 n30],.int .i64 n31]) ∧
 newM #[.int .i64 0,.int .i64 0,.int .i64 0] N.t_Signs w26 fun p32 w33=>
 stM p32 (.int .i64 n28) w33 fun w34=>
 stM (p32.add 1) (.int .i64 n29) w34 fun w35=>
 stM (p32.add 2) (.int .i64 n30) w35 fun w36=>
 newM #[.int .i64 1,.int .i64 1,.int .i64 1,.int .i64 1] N.t_int64 w36 fun p37 w38=>
 CallsX P N.f_w16_of #[.int .i64 2,.slice (some p37) 4 4] w38 fun v40 w39=>
 ∃ n41,∃ n42,∃ s43a s43l s43c,v40=(.agg #[.int .i64 n41,.int .i64 n42,.slice s43a s43l s43c]) ∧
 CallsX P N.f_inertia_Signs #[.agg #[.int .i64 n41,.int .i64 n42,.slice s43a s43l s43c]] w39 fun v45 w44=>
 ∃ n46,∃ n47,∃ n48,∃ n49,v45=(.tuple #[.agg #[.int .i64 n46,.int .i64 n47,.int .i64 n48],.int .i64 n49]) ∧
 newM #[.int .i64 0,.int .i64 0,.int .i64 0] N.t_Signs w44 fun p50 w51=>
 stM p50 (.int .i64 n46) w51 fun w52=>
 stM (p50.add 1) (.int .i64 n47) w52 fun w53=>
 stM (p50.add 2) (.int .i64 n48) w53 fun w54=>
 CallsX P N.f_inertia_Signs #[.agg #[.int .i64 0,.int .i64 0,.slice none 0 0]] w54 fun v56 w55=>
 ∃ n57,∃ n58,∃ n59,∃ n60,v56=(.tuple #[.agg #[.int .i64 n57,.int .i64 n58,.int .i64 n59],.int .i64 n60]) ∧
 newM #[.int .i64 0,.int .i64 0,.int .i64 0] N.t_Signs w55 fun p61 w62=>
 stM p61 (.int .i64 n57) w62 fun w63=>
 stM (p61.add 1) (.int .i64 n58) w63 fun w64=>
 stM (p61.add 2) (.int .i64 n59) w64 fun w65=>
 CallsX P N.f_inertia_Poly #[.agg #[.int .i64 0,.int .i64 0,.slice none 0 0]] w65 fun v67 w66=>
 ∃ s68a s68l s68c,∃ n69,v67=(.tuple #[.slice s68a s68l s68c,.int .i64 n69]) ∧
 cutM (σ:=Bool×Unit) (fun J70=>
 cI_ w66 p14 fun n73=>
 cI_ w66 (p14.add 1) fun n74=>
 cI_ w66 (p14.add 2) fun n75=>
 cond (n73==1&&(n74==0&&n75==1))
 (cI_ w66 p32 fun n76=>
 cI_ w66 (p32.add 1) fun n77=>
 cI_ w66 (p32.add 2) fun n78=>
 cond (n76==0&&(n77==2&&n78==0))
 (cI_ w66 p50 fun n79=>
 cI_ w66 (p50.add 1) fun n80=>
 cI_ w66 (p50.add 2) fun n81=>
 cond (n79==0&&(n80==1&&n81==1))
 (cI_ w66 p61 fun n82=>
 cI_ w66 (p61.add 1) fun n83=>
 cI_ w66 (p61.add 2) fun n84=>
 cond (n82==0&&(n83==0&&n84==0))
 (cond ((i64.wrap ((i64.wrap ((i64.wrap ((i64.wrap (n13+n31))+n49))+n60))+n69))==0)
 (newM #[.int .i64 1] N.t_int64 w66 fun p85 w86=>
 CallsX P N.f_w16_of #[.int .i64 1,.slice (some p85) 1 1] w86 fun v88 w87=>
 ∃ n89,∃ n90,∃ s91a s91l s91c,v88=(.agg #[.int .i64 n89,.int .i64 n90,.slice s91a s91l s91c]) ∧
 CallsX P N.f_k_SameDyads #[.slice s68a s68l s68c,.slice s91a s91l s91c] w87 fun v93 w92=>
 vB_ v93 fun b94=>
 J70 (b94,()) w92)
 (J70 (false,()) w66))
 (J70 (false,()) w66))
 (J70 (false,()) w66))
 (J70 (false,()) w66))
 (J70 (false,()) w66))
 (fun s71 w72=>
 newM #[.int .i64 1,.int .i64 2,.int .i64 3,.int .i64 4] N.t_int64 w72 fun p95 w96=>
 CallsX P N.f_w16_of #[.int .i64 2,.slice (some p95) 4 4] w96 fun v98 w97=>
 ∃ n99,∃ n100,∃ s101a s101l s101c,v98=(.agg #[.int .i64 n99,.int .i64 n100,.slice s101a s101l s101c]) ∧
 CallsX P N.f_inertia_Signs #[.agg #[.int .i64 n99,.int .i64 n100,.slice s101a s101l s101c]] w97 fun v103 w102=>
 ∃ n104,∃ n105,∃ n106,∃ n107,v103=(.tuple #[.agg #[.int .i64 n104,.int .i64 n105,.int .i64 n106],.int .i64 n107]) ∧
 newM #[.int .i64 0,.int .i64 0,.int .i64 0] N.t_Signs w102 fun p108 w109=>
 stM p108 (.int .i64 n104) w109 fun w110=>
 stM (p108.add 1) (.int .i64 n105) w110 fun w111=>
 stM (p108.add 2) (.int .i64 n106) w111 fun w112=>
 newM #[.int .i64 1,.int .i64 2] N.t_int64 w112 fun p113 w114=>
 CallsX P N.f_w16_of #[.int .i64 1,.slice (some p113) 2 2] w114 fun v116 w115=>
 ∃ n117,∃ n118,∃ s119a s119l s119c,v116=(.agg #[.int .i64 n117,.int .i64 n118,.slice s119a s119l s119c]) ∧
 CallsX P N.f_inertia_Poly #[.agg #[.int .i64 1,.int .i64 2,.slice s119a s119l s119c]] w115 fun v121 w120=>
 ∃ s122a s122l s122c,∃ n123,v121=(.tuple #[.slice s122a s122l s122c,.int .i64 n123]) ∧
 CallsX P N.f_w16_power #[.int .i64 8191,.int .i64 1] w120 fun v125 w124=>
 ∃ n126,∃ n127,∃ s128a s128l s128c,v125=(.agg #[.int .i64 n126,.int .i64 n127,.slice s128a s128l s128c]) ∧
 CallsX P N.f_inertia_Signs #[.agg #[.int .i64 n126,.int .i64 n127,.slice s128a s128l s128c]] w124 fun v130 w129=>
 ∃ n131,∃ n132,∃ n133,∃ n134,v130=(.tuple #[.agg #[.int .i64 n131,.int .i64 n132,.int .i64 n133],.int .i64 n134]) ∧
 newM #[.int .i64 0,.int .i64 0,.int .i64 0] N.t_Signs w129 fun p135 w136=>
 stM p135 (.int .i64 n131) w136 fun w137=>
 stM (p135.add 1) (.int .i64 n132) w137 fun w138=>
 stM (p135.add 2) (.int .i64 n133) w138 fun w139=>
 CallsX P N.f_w16_power #[.int .i64 8192,.int .i64 1] w139 fun v141 w140=>
 ∃ n142,∃ n143,∃ s144a s144l s144c,v141=(.agg #[.int .i64 n142,.int .i64 n143,.slice s144a s144l s144c]) ∧
 CallsX P N.f_inertia_Signs #[.agg #[.int .i64 n142,.int .i64 n143,.slice s144a s144l s144c]] w140 fun v146 w145=>
 ∃ n147,∃ n148,∃ n149,∃ n150,v146=(.tuple #[.agg #[.int .i64 n147,.int .i64 n148,.int .i64 n149],.int .i64 n150]) ∧
 newM #[.int .i64 0,.int .i64 0,.int .i64 0] N.t_Signs w145 fun p151 w152=>
 stM p151 (.int .i64 n147) w152 fun w153=>
 stM (p151.add 1) (.int .i64 n148) w153 fun w154=>
 stM (p151.add 2) (.int .i64 n149) w154 fun w155=>
 CallsX P N.f_w16_power #[.int .i64 60000,.int .i64 0] w155 fun v157 w156=>
 ∃ n158,∃ n159,∃ s160a s160l s160c,v157=(.agg #[.int .i64 n158,.int .i64 n159,.slice s160a s160l s160c]) ∧
 CallsX P N.f_inertia_Signs #[.agg #[.int .i64 n158,.int .i64 n159,.slice s160a s160l s160c]] w156 fun v162 w161=>
 ∃ n163,∃ n164,∃ n165,∃ n166,v162=(.tuple #[.agg #[.int .i64 n163,.int .i64 n164,.int .i64 n165],.int .i64 n166]) ∧
 newM #[.int .i64 0,.int .i64 0,.int .i64 0] N.t_Signs w161 fun p167 w168=>
 stM p167 (.int .i64 n163) w168 fun w169=>
 stM (p167.add 1) (.int .i64 n164) w169 fun w170=>
 stM (p167.add 2) (.int .i64 n165) w170 fun w171=>
 newM #[.int .u64 1] N.t_uint64 w171 fun p172 w173=>
 newM #[.int .u64 1] N.t_uint64 w173 fun p174 w175=>
 newM #[.bool false,.slice (some p172) 1 1,.int .i64 (-60000),.bool false,.slice none 0 0,.int .i64 0,.bool false,.slice none 0 0,.int .i64 0,.bool false,.slice (some p174) 1 1,.int .i64 (-60000)] N.t_Dyad w175 fun p176 w177=>
 newM #[.int .i64 0,.int .i64 0,.slice none 0 0] N.t_Dyads w177 fun p178 w179=>
 stM p178 (.int .i64 2) w179 fun w180=>
 stM (p178.add 1) (.int .i64 2) w180 fun w181=>
 stM (p178.add 2) (.slice (some p176) 4 4) w181 fun w182=>
 cI_ w182 p178 fun n183=>
 cI_ w182 (p178.add 1) fun n184=>
 cS_ w182 (p178.add 2) fun s185a s185l s185c=>
 CallsX P N.f_inertia_Signs #[.agg #[.int .i64 n183,.int .i64 n184,.slice s185a s185l s185c]] w182 fun v187 w186=>
 ∃ n188,∃ n189,∃ n190,∃ n191,v187=(.tuple #[.agg #[.int .i64 n188,.int .i64 n189,.int .i64 n190],.int .i64 n191]) ∧
 newM #[.int .i64 0,.int .i64 0,.int .i64 0] N.t_Signs w186 fun p192 w193=>
 stM p192 (.int .i64 n188) w193 fun w194=>
 stM (p192.add 1) (.int .i64 n189) w194 fun w195=>
 stM (p192.add 2) (.int .i64 n190) w195 fun w196=>
 cI_ w196 p178 fun n197=>
 cI_ w196 (p178.add 1) fun n198=>
 cS_ w196 (p178.add 2) fun s199a s199l s199c=>
 CallsX P N.f_inertia_Poly #[.agg #[.int .i64 n197,.int .i64 n198,.slice s199a s199l s199c]] w196 fun v201 w200=>
 ∃ s202a s202l s202c,∃ n203,v201=(.tuple #[.slice s202a s202l s202c,.int .i64 n203]) ∧
 cutM (σ:=Bool×Unit) (fun J204=>
 cond (n107==4)
 (cond (n123==4)
 (cond ((s122l:Int)==0)
 (cI_ w200 p135 fun n207=>
 cI_ w200 (p135.add 1) fun n208=>
 cI_ w200 (p135.add 2) fun n209=>
 cond (n207==0&&(n208==0&&n209==1))
 (cond (n134==0)
 (cI_ w200 p151 fun n210=>
 cI_ w200 (p151.add 1) fun n211=>
 cI_ w200 (p151.add 2) fun n212=>
 cond (n210==0&&(n211==0&&n212==0))
 (cond (n150==3)
 (cI_ w200 p167 fun n213=>
 cI_ w200 (p167.add 1) fun n214=>
 cI_ w200 (p167.add 2) fun n215=>
 cond (n213==0&&(n214==0&&n215==1))
 (cond (n166==0)
 (cI_ w200 p192 fun n216=>
 cI_ w200 (p192.add 1) fun n217=>
 cI_ w200 (p192.add 2) fun n218=>
 cond (n216==0&&(n217==0&&n218==2))
 (cond (n191==0)
 (cond ((s202l:Int)==0)
 (J204 ((n203==3),()) w200)
 (J204 (false,()) w200))
 (J204 (false,()) w200))
 (J204 (false,()) w200))
 (J204 (false,()) w200))
 (J204 (false,()) w200))
 (J204 (false,()) w200))
 (J204 (false,()) w200))
 (J204 (false,()) w200))
 (J204 (false,()) w200))
 (J204 (false,()) w200))
 (J204 (false,()) w200))
 (J204 (false,()) w200))
 (fun s205 w206=>
 CallsX P N.f_w16_power #[.int .i64 8191,.int .i64 1] w206 fun v220 w219=>
 ∃ n221,∃ n222,∃ s223a s223l s223c,v220=(.agg #[.int .i64 n221,.int .i64 n222,.slice s223a s223l s223c]) ∧
 CallsX P N.f_r02_Int #[.int .i64 1] w219 fun v225 w224=>
 ∃ b226,∃ s227a s227l s227c,∃ n228,v225=(.agg #[.bool b226,.slice s227a s227l s227c,.int .i64 n228]) ∧
 CallsX P N.f_inertia_Below #[.agg #[.int .i64 n221,.int .i64 n222,.slice s223a s223l s223c],.agg #[.bool b226,.slice s227a s227l s227c,.int .i64 n228]] w224 fun v230 w229=>
 ∃ n231,∃ n232,v230=(.tuple #[.int .i64 n231,.int .i64 n232]) ∧
 newM #[.int .i64 1] N.t_int64 w229 fun p233 w234=>
 CallsX P N.f_w16_of #[.int .i64 1,.slice (some p233) 1 1] w234 fun v236 w235=>
 ∃ n237,∃ n238,∃ s239a s239l s239c,v236=(.agg #[.int .i64 n237,.int .i64 n238,.slice s239a s239l s239c]) ∧
 newM #[.int .u64 2] N.t_uint64 w235 fun p240 w241=>
 CallsX P N.f_inertia_Below #[.agg #[.int .i64 n237,.int .i64 n238,.slice s239a s239l s239c],.agg #[.bool false,.slice (some p240) 1 1,.int .i64 0]] w241 fun v243 w242=>
 ∃ n244,∃ n245,v243=(.tuple #[.int .i64 n244,.int .i64 n245]) ∧
 mkM N.t_Dyad 3 40 #[.bool false,.slice none 0 0,.int .i64 0] 2304 2304 w242 fun p246 w247=>
 newM #[.int .i64 0,.int .i64 0,.slice none 0 0] N.t_Dyads w247 fun p248 w249=>
 stM p248 (.int .i64 48) w249 fun w250=>
 stM (p248.add 1) (.int .i64 48) w250 fun w251=>
 stM (p248.add 2) (.slice (some p246) ((2304:Int).toNat) ((2304:Int).toNat)) w251 fun w252=>
 cutM (σ:=Unit) (fun J253=>
 loopM (σ:=Int×Unit) (fun s256 X257 w258=>
 cond (decide (s256.1<48))
 (cS_ w258 (p248.add 2) fun s259a s259l s259c=>
 (3:Int)≠0 ∧
 drM w258 fun w260=>
 CallsX P N.f_r02_Int #[.int .i64 (i64.wrap ((s256.1.tmod 3)-1))] w260 fun v262 w261=>
 ∃ b263,∃ s264a s264l s264c,∃ n265,v262=(.agg #[.bool b263,.slice s264a s264l s264c,.int .i64 n265]) ∧
 w261.cell? (p248.add 2)=some (.slice s259a s259l s259c) ∧
 (0:Int)≤(i64.wrap (49*s256.1))∧(i64.wrap (49*s256.1))<(s259l:Nat) ∧
 optM s259a fun a266=>
 drM w261 fun w267=>
 stM (a266.add ((i64.wrap (49*s256.1)).toNat*3)) (.bool b263) w267 fun w268=>
 stM ((a266.add ((i64.wrap (49*s256.1)).toNat*3)).add 1) (.slice s264a s264l s264c) w268 fun w269=>
 stM ((a266.add ((i64.wrap (49*s256.1)).toNat*3)).add 2) (.int .i64 n265) w269 fun w270=>
 drM w270 fun w271=>
 X257 ((i64.wrap (s256.1+1)),()) w271)
 (J253 (()) w258))
 (0,()) w252)
 (fun s254 w255=>
 newM #[.int .u64 1] N.t_uint64 w255 fun p272 w273=>
 CallsX P N.f_r02_Int #[.int .i64 1] w273 fun v275 w274=>
 ∃ b276,∃ s277a s277l s277c,∃ n278,v275=(.agg #[.bool b276,.slice s277a s277l s277c,.int .i64 n278]) ∧
 CallsX P N.f_r02_Add #[.agg #[.bool false,.slice (some p272) 1 1,.int .i64 5000],.agg #[.bool b276,.slice s277a s277l s277c,.int .i64 n278]] w274 fun v280 w279=>
 ∃ b281,∃ s282a s282l s282c,∃ n283,∃ n284,v280=(.tuple #[.agg #[.bool b281,.slice s282a s282l s282c,.int .i64 n283],.int .i64 n284]) ∧
 newM #[.bool false,.slice none 0 0,.int .i64 0] N.t_Dyad w279 fun p285 w286=>
 stM p285 (.bool b281) w286 fun w287=>
 stM (p285.add 1) (.slice s282a s282l s282c) w287 fun w288=>
 stM (p285.add 2) (.int .i64 n283) w288 fun w289=>
 cB_ w289 p285 fun b290=>
 cS_ w289 (p285.add 1) fun s291a s291l s291c=>
 cI_ w289 (p285.add 2) fun n292=>
 cB_ w289 p285 fun b293=>
 cS_ w289 (p285.add 1) fun s294a s294l s294c=>
 cI_ w289 (p285.add 2) fun n295=>
 newM #[.bool b290,.slice s291a s291l s291c,.int .i64 n292,.bool false,.slice none 0 0,.int .i64 0,.bool false,.slice none 0 0,.int .i64 0,.bool b293,.slice s294a s294l s294c,.int .i64 n295] N.t_Dyad w289 fun p296 w297=>
 newM #[.int .i64 0,.int .i64 0,.slice none 0 0] N.t_Dyads w297 fun p298 w299=>
 stM p298 (.int .i64 2) w299 fun w300=>
 stM (p298.add 1) (.int .i64 2) w300 fun w301=>
 stM (p298.add 2) (.slice (some p296) 4 4) w301 fun w302=>
 cI_ w302 p298 fun n303=>
 cI_ w302 (p298.add 1) fun n304=>
 cS_ w302 (p298.add 2) fun s305a s305l s305c=>
 drM w302 fun w306=>
 CallsX P N.f_r02_Int #[.int .i64 1] w306 fun v308 w307=>
 ∃ b309,∃ s310a s310l s310c,∃ n311,v308=(.agg #[.bool b309,.slice s310a s310l s310c,.int .i64 n311]) ∧
 w307.cell? p298=some (.int .i64 n303) ∧
 w307.cell? (p298.add 1)=some (.int .i64 n304) ∧
 w307.cell? (p298.add 2)=some (.slice s305a s305l s305c) ∧
 drM w307 fun w312=>
 CallsX P N.f_inertia_Below #[.agg #[.int .i64 n303,.int .i64 n304,.slice s305a s305l s305c],.agg #[.bool b309,.slice s310a s310l s310c,.int .i64 n311]] w312 fun v314 w313=>
 ∃ n315,∃ n316,v314=(.tuple #[.int .i64 n315,.int .i64 n316]) ∧
 drM w313 fun w317=>
 newM #[.int .i64 1] N.t_int64 w317 fun p318 w319=>
 CallsX P N.f_w16_of #[.int .i64 1,.slice (some p318) 1 1] w319 fun v321 w320=>
 ∃ n322,∃ n323,∃ s324a s324l s324c,v321=(.agg #[.int .i64 n322,.int .i64 n323,.slice s324a s324l s324c]) ∧
 newM #[.int .u64 1] N.t_uint64 w320 fun p325 w326=>
 CallsX P N.f_inertia_Below #[.agg #[.int .i64 n322,.int .i64 n323,.slice s324a s324l s324c],.agg #[.bool false,.slice (some p325) 1 1,.int .i64 9000]] w326 fun v328 w327=>
 ∃ n329,∃ n330,v328=(.tuple #[.int .i64 n329,.int .i64 n330]) ∧
 newM #[.int .i64 1,.int .i64 0,.int .i64 1,.int .i64 0,.int .i64 1,.int .i64 0,.int .i64 2,.int .i64 0,.int .i64 1] N.t_int64 w327 fun p331 w332=>
 CallsX P N.f_w16_of #[.int .i64 3,.slice (some p331) 9 9] w332 fun v334 w333=>
 ∃ n335,∃ n336,∃ s337a s337l s337c,v334=(.agg #[.int .i64 n335,.int .i64 n336,.slice s337a s337l s337c]) ∧
 CallsX P N.f_inertia_Signs #[.agg #[.int .i64 n335,.int .i64 n336,.slice s337a s337l s337c]] w333 fun v339 w338=>
 ∃ n340,∃ n341,∃ n342,∃ n343,v339=(.tuple #[.agg #[.int .i64 n340,.int .i64 n341,.int .i64 n342],.int .i64 n343]) ∧
 newM #[.int .i64 0,.int .i64 0,.int .i64 0] N.t_Signs w338 fun p344 w345=>
 stM p344 (.int .i64 n340) w345 fun w346=>
 stM (p344.add 1) (.int .i64 n341) w346 fun w347=>
 stM (p344.add 2) (.int .i64 n342) w347 fun w348=>
 cutM (σ:=Bool×Unit) (fun J349=>
 cond (!(n315 != 0))
 (cond (!(n316 != 0))
 (cond (!(n330 != 3))
 (J349 ((n343 != 4),()) w348)
 (J349 (true,()) w348))
 (J349 (true,()) w348))
 (J349 (true,()) w348))
 (fun s350 w351=>
 cond s350.1
 (K (.bool false) w351)
 (cI_ w351 p248 fun n352=>
 cI_ w351 (p248.add 1) fun n353=>
 cS_ w351 (p248.add 2) fun s354a s354l s354c=>
 CallsX P N.f_inertia_Signs #[.agg #[.int .i64 n352,.int .i64 n353,.slice s354a s354l s354c]] w351 fun v356 w355=>
 ∃ n357,∃ n358,∃ n359,∃ n360,v356=(.tuple #[.agg #[.int .i64 n357,.int .i64 n358,.int .i64 n359],.int .i64 n360]) ∧
 newM #[.int .i64 0,.int .i64 0,.int .i64 0] N.t_Signs w355 fun p361 w362=>
 stM p361 (.int .i64 n357) w362 fun w363=>
 stM (p361.add 1) (.int .i64 n358) w363 fun w364=>
 stM (p361.add 2) (.int .i64 n359) w364 fun w365=>
 mkM N.t_Dyad 3 40 #[.bool false,.slice none 0 0,.int .i64 0] 2401 2401 w365 fun p366 w367=>
 CallsX P N.f_inertia_Signs #[.agg #[.int .i64 49,.int .i64 49,.slice (some p366) ((2401:Int).toNat) ((2401:Int).toNat)]] w367 fun v369 w368=>
 ∃ n370,∃ n371,∃ n372,∃ n373,v369=(.tuple #[.agg #[.int .i64 n370,.int .i64 n371,.int .i64 n372],.int .i64 n373]) ∧
 newM #[.int .i64 0,.int .i64 0,.int .i64 0] N.t_Signs w368 fun p374 w375=>
 stM p374 (.int .i64 n370) w375 fun w376=>
 stM (p374.add 1) (.int .i64 n371) w376 fun w377=>
 stM (p374.add 2) (.int .i64 n372) w377 fun w378=>
 cond s71.1
 (cond s205.1
 (cond (n231==0)
 (cond (n232==0)
 (cond (n245==2)
 (cond (n360==0)
 (cI_ w378 p361 fun n379=>
 cI_ w378 (p361.add 1) fun n380=>
 cI_ w378 (p361.add 2) fun n381=>
 cond (n379==16&&(n380==16&&n381==16))
 (cond (n373==4)
 (CallsX P N.f_w16_awake #[] w378 fun v383 w382=>
 vB_ v383 fun b384=>
 K (.bool b384) w382)
 (K (.bool false) w378))
 (K (.bool false) w378))
 (K (.bool false) w378))
 (K (.bool false) w378))
 (K (.bool false) w378))
 (K (.bool false) w378))
 (K (.bool false) w378))
 (K (.bool false) w378))))))
def S_inertia_Signs (N:Nums) (P:Program) (qf:Int) (qe:Int) (qh:OA) (qu qw:Nat) (w:World) (K:KV):Prop:=
 newM #[.int .i64 qf,.int .i64 qe,.slice qh qu qw] N.t_Dyads w fun p1 w2=>
 newM #[.int .i64 0,.int .i64 0,.int .i64 0] N.t_Signs w2 fun p3 w4=>
 cI_ w4 p1 fun n5=>
 cI_ w4 (p1.add 1) fun n6=>
 cS_ w4 (p1.add 2) fun s7a s7l s7c=>
 CallsX P N.f_inertia_Symmetric #[.agg #[.int .i64 n5,.int .i64 n6,.slice s7a s7l s7c]] w4 fun v9 w8=>
 vB_ v9 fun b10=>
 cond (!b10)
 (stM p3 (.int .i64 0) w8 fun w11=>
 stM (p3.add 1) (.int .i64 0) w11 fun w12=>
 stM (p3.add 2) (.int .i64 0) w12 fun w13=>
 cI_ w13 p3 fun n14=>
 cI_ w13 (p3.add 1) fun n15=>
 cI_ w13 (p3.add 2) fun n16=>
 K (.tuple #[.agg #[.int .i64 n14,.int .i64 n15,.int .i64 n16],.int .i64 4]) w13)
 (cI_ w8 p1 fun n17=>
 cI_ w8 (p1.add 1) fun n18=>
 cS_ w8 (p1.add 2) fun s19a s19l s19c=>
 CallsX P N.f_inertia_scaled #[.agg #[.int .i64 n17,.int .i64 n18,.slice s19a s19l s19c],.agg #[.bool false,.slice none 0 0,.int .i64 0]] w8 fun v21 w20=>
 ∃ s22a s22l s22c,∃ n23,∃ b24,v21=(.tuple #[.agg #[.slice s22a s22l s22c,.int .i64 n23],.bool b24]) ∧
 newM #[.slice none 0 0,.int .i64 0] N.t_inertia_rows w20 fun p25 w26=>
 stM p25 (.slice s22a s22l s22c) w26 fun w27=>
 stM (p25.add 1) (.int .i64 n23) w27 fun w28=>
 cond (!b24)
 (stM p3 (.int .i64 0) w28 fun w29=>
 stM (p3.add 1) (.int .i64 0) w29 fun w30=>
 stM (p3.add 2) (.int .i64 0) w30 fun w31=>
 cI_ w31 p3 fun n32=>
 cI_ w31 (p3.add 1) fun n33=>
 cI_ w31 (p3.add 2) fun n34=>
 K (.tuple #[.agg #[.int .i64 n32,.int .i64 n33,.int .i64 n34],.int .i64 3]) w31)
 (CallsX P N.f_p_inertia_rows_signs #[.pointer (some p25)] w28 fun v36 w35=>
 ∃ n37,∃ n38,∃ n39,v36=(.agg #[.int .i64 n37,.int .i64 n38,.int .i64 n39]) ∧
 stM p3 (.int .i64 n37) w35 fun w40=>
 stM (p3.add 1) (.int .i64 n38) w40 fun w41=>
 stM (p3.add 2) (.int .i64 n39) w41 fun w42=>
 cI_ w42 p3 fun n43=>
 cI_ w42 (p3.add 1) fun n44=>
 cI_ w42 (p3.add 2) fun n45=>
 K (.tuple #[.agg #[.int .i64 n43,.int .i64 n44,.int .i64 n45],.int .i64 0]) w42))
def S_w16_of (N:Nums) (P:Program) (q0:Int) (q1:OA) (qq qx:Nat) (w:World) (K:KV):Prop:=
 newM #[.int .i64 0,.int .i64 0,.slice none 0 0] N.t_Dyads w fun p1 w2=>
 newM #[.int .i64 0,.int .i64 0,.slice none 0 0] N.t_Dyads w2 fun p3 w4=>
 stM p3 (.int .i64 q0) w4 fun w5=>
 stM (p3.add 1) (.int .i64 q0) w5 fun w6=>
 stM (p3.add 2) (.slice none 0 0) w6 fun w7=>
 cutM (σ:=Unit) (fun J8=>
 loopM (σ:=Int×Unit) (fun s11 X12 w13=>
 cond (decide (s11.1<(qq:Int)))
 (cS_ w13 (p3.add 2) fun s14a s14l s14c=>
 (0:Int)≤s11.1∧s11.1<(qq:Nat) ∧
 optM q1 fun a15=>
 cI_ w13 (a15.add (s11.1.toNat*1)) fun n16=>
 drM w13 fun w17=>
 CallsX P N.f_r02_Int #[.int .i64 n16] w17 fun v19 w18=>
 ∃ b20,∃ s21a s21l s21c,∃ n22,v19=(.agg #[.bool b20,.slice s21a s21l s21c,.int .i64 n22]) ∧
 w18.cell? (p3.add 2)=some (.slice s14a s14l s14c) ∧
 drM w18 fun w23=>
 newM #[.bool b20,.slice s21a s21l s21c,.int .i64 n22] N.t_Dyad w23 fun p24 w25=>
 w25.cell? (p3.add 2)=some (.slice s14a s14l s14c) ∧
 drM w25 fun w26=>
 appM N.t_Dyad 3 40 #[.bool false,.slice none 0 0,.int .i64 0] s14a s14l s14c (some p24) 1 w26 fun s27a s27l s27c w28=>
 drM w28 fun w29=>
 stM (p3.add 2) (.slice s27a s27l s27c) w29 fun w30=>
 drM w30 fun w31=>
 X12 ((i64.wrap (s11.1+1)),()) w31)
 (J8 (()) w13))
 (0,()) w7)
 (fun s9 w10=>
 cI_ w10 p3 fun n32=>
 cI_ w10 (p3.add 1) fun n33=>
 cS_ w10 (p3.add 2) fun s34a s34l s34c=>
 stM p1 (.int .i64 n32) w10 fun w35=>
 stM (p1.add 1) (.int .i64 n33) w35 fun w36=>
 stM (p1.add 2) (.slice s34a s34l s34c) w36 fun w37=>
 cI_ w37 p1 fun n38=>
 cI_ w37 (p1.add 1) fun n39=>
 cS_ w37 (p1.add 2) fun s40a s40l s40c=>
 K (.agg #[.int .i64 n38,.int .i64 n39,.slice s40a s40l s40c]) w37)
def S_inertia_Poly (N:Nums) (P:Program) (qf:Int) (qe:Int) (qh:OA) (qu qw:Nat) (w:World) (K:KV):Prop:=
 newM #[.int .i64 qf,.int .i64 qe,.slice qh qu qw] N.t_Dyads w fun p1 w2=>
 cI_ w2 p1 fun n3=>
 cI_ w2 (p1.add 1) fun n4=>
 cS_ w2 (p1.add 2) fun s5a s5l s5c=>
 CallsX P N.f_inertia_Symmetric #[.agg #[.int .i64 n3,.int .i64 n4,.slice s5a s5l s5c]] w2 fun v7 w6=>
 vB_ v7 fun b8=>
 cond (!b8)
 (K (.tuple #[.slice none 0 0,.int .i64 4]) w6)
 (cI_ w6 p1 fun n9=>
 cI_ w6 (p1.add 1) fun n10=>
 cS_ w6 (p1.add 2) fun s11a s11l s11c=>
 CallsX P N.f_inertia_scaled #[.agg #[.int .i64 n9,.int .i64 n10,.slice s11a s11l s11c],.agg #[.bool false,.slice none 0 0,.int .i64 0]] w6 fun v13 w12=>
 ∃ s14a s14l s14c,∃ n15,∃ b16,v13=(.tuple #[.agg #[.slice s14a s14l s14c,.int .i64 n15],.bool b16]) ∧
 newM #[.slice none 0 0,.int .i64 0] N.t_inertia_rows w12 fun p17 w18=>
 stM p17 (.slice s14a s14l s14c) w18 fun w19=>
 stM (p17.add 1) (.int .i64 n15) w19 fun w20=>
 cond (!b16)
 (K (.tuple #[.slice none 0 0,.int .i64 3]) w20)
 (CallsX P N.f_p_inertia_rows_coefficients #[.pointer (some p17)] w20 fun v22 w21=>
 vS_ v22 fun s23a s23l s23c=>
 cutM (σ:=(OA×Nat×Nat)×Unit) (fun J24=>
 loopM (σ:=(OA×Nat×Nat)×Int×Unit) (fun s27 X28 w29=>
 cond (decide (s27.2.1<(s23l:Int)))
 ((0:Int)≤s27.2.1∧s27.2.1<(s23l:Nat) ∧
 optM s23a fun a30=>
 ∃ p31:(OA),w29.cell? (a30.add (s27.2.1.toNat*1))=some (.pointer p31) ∧
 cI_ w29 (p17.add 1) fun n32=>
 CallsX P N.f_inertia_told #[.pointer p31,.int .i64 (i64.wrap (s27.2.1*n32))] w29 fun v34 w33=>
 ∃ b35,∃ s36a s36l s36c,∃ n37,∃ n38,v34=(.tuple #[.agg #[.bool b35,.slice s36a s36l s36c,.int .i64 n37],.int .i64 n38]) ∧
 newM #[.bool false,.slice none 0 0,.int .i64 0] N.t_Dyad w33 fun p39 w40=>
 stM p39 (.bool b35) w40 fun w41=>
 stM (p39.add 1) (.slice s36a s36l s36c) w41 fun w42=>
 stM (p39.add 2) (.int .i64 n37) w42 fun w43=>
 cond (n38 != 0)
 (K (.tuple #[.slice none 0 0,.int .i64 3]) w43)
 (cB_ w43 p39 fun b44=>
 cS_ w43 (p39.add 1) fun s45a s45l s45c=>
 cI_ w43 (p39.add 2) fun n46=>
 newM #[.bool b44,.slice s45a s45l s45c,.int .i64 n46] N.t_Dyad w43 fun p47 w48=>
 appM N.t_Dyad 3 40 #[.bool false,.slice none 0 0,.int .i64 0] s27.1.1 s27.1.2.1 s27.1.2.2 (some p47) 1 w48 fun s49a s49l s49c w50=>
 X28 ((s49a,s49l,s49c),(i64.wrap (s27.2.1+1)),()) w50))
 (J24 ((s27.1.1,s27.1.2.1,s27.1.2.2),()) w29))
 ((none,0,0),0,()) w21)
 (fun s25 w26=>
 CallsX P N.f_slices_Reverse___api_Dyad_api_Dyad #[.slice s25.1.1 s25.1.2.1 s25.1.2.2] w26 fun v52 w51=>
 v52=(.tuple #[]) ∧
 K (.tuple #[.slice s25.1.1 s25.1.2.1 s25.1.2.2,.int .i64 0]) w51)))
def S_k_SameDyads (N:Nums) (P:Program) (q0:OA) (qg qk:Nat) (q1:OA) (qq qx:Nat) (w:World) (K:KV):Prop:=
 cond ((qg:Int) != (qq:Int))
 (K (.bool false) w)
 (cutM (σ:=Unit) (fun J1=>
 loopM (σ:=Int×Unit) (fun s4 X5 w6=>
 cond (decide (s4.1<(qg:Int)))
 ((0:Int)≤s4.1∧s4.1<(qg:Nat) ∧
 optM q0 fun a7=>
 cB_ w6 (a7.add (s4.1.toNat*3)) fun b8=>
 cS_ w6 ((a7.add (s4.1.toNat*3)).add 1) fun s9a s9l s9c=>
 cI_ w6 ((a7.add (s4.1.toNat*3)).add 2) fun n10=>
 (0:Int)≤s4.1∧s4.1<(qq:Nat) ∧
 optM q1 fun a11=>
 cB_ w6 (a11.add (s4.1.toNat*3)) fun b12=>
 cS_ w6 ((a11.add (s4.1.toNat*3)).add 1) fun s13a s13l s13c=>
 cI_ w6 ((a11.add (s4.1.toNat*3)).add 2) fun n14=>
 drM w6 fun w15=>
 CallsX P N.f_k_SameDyad #[.agg #[.bool b8,.slice s9a s9l s9c,.int .i64 n10],.agg #[.bool b12,.slice s13a s13l s13c,.int .i64 n14]] w15 fun v17 w16=>
 vB_ v17 fun b18=>
 drM w16 fun w19=>
 cond (!b18)
 (K (.bool false) w19)
 (X5 ((i64.wrap (s4.1+1)),()) w19))
 (J1 (()) w6))
 (0,()) w)
 (fun s2 w3=>
 K (.bool true) w3))
def S_w16_power (N:Nums) (P:Program) (q0:Int) (q1:Int) (w:World) (K:KV):Prop:=
 newM #[.int .i64 0,.int .i64 0,.slice none 0 0] N.t_Dyads w fun p1 w2=>
 newM #[.int .u64 1] N.t_uint64 w2 fun p3 w4=>
 CallsX P N.f_r02_Int #[.int .i64 q1] w4 fun v6 w5=>
 ∃ b7,∃ s8a s8l s8c,∃ n9,v6=(.agg #[.bool b7,.slice s8a s8l s8c,.int .i64 n9]) ∧
 CallsX P N.f_r02_Add #[.agg #[.bool false,.slice (some p3) 1 1,.int .i64 q0],.agg #[.bool b7,.slice s8a s8l s8c,.int .i64 n9]] w5 fun v11 w10=>
 ∃ b12,∃ s13a s13l s13c,∃ n14,∃ n15,v11=(.tuple #[.agg #[.bool b12,.slice s13a s13l s13c,.int .i64 n14],.int .i64 n15]) ∧
 newM #[.bool false,.slice none 0 0,.int .i64 0] N.t_Dyad w10 fun p16 w17=>
 stM p16 (.bool b12) w17 fun w18=>
 stM (p16.add 1) (.slice s13a s13l s13c) w18 fun w19=>
 stM (p16.add 2) (.int .i64 n14) w19 fun w20=>
 cB_ w20 p16 fun b21=>
 cS_ w20 (p16.add 1) fun s22a s22l s22c=>
 cI_ w20 (p16.add 2) fun n23=>
 newM #[.bool b21,.slice s22a s22l s22c,.int .i64 n23] N.t_Dyad w20 fun p24 w25=>
 stM p1 (.int .i64 1) w25 fun w26=>
 stM (p1.add 1) (.int .i64 1) w26 fun w27=>
 stM (p1.add 2) (.slice (some p24) 1 1) w27 fun w28=>
 cI_ w28 p1 fun n29=>
 cI_ w28 (p1.add 1) fun n30=>
 cS_ w28 (p1.add 2) fun s31a s31l s31c=>
 K (.agg #[.int .i64 n29,.int .i64 n30,.slice s31a s31l s31c]) w28
def S_inertia_Below (N:Nums) (P:Program) (qf:Int) (qe:Int) (qh:OA) (qu qw:Nat) (qp:Bool) (qo:OA) (qi qj:Nat) (qt:Int) (w:World) (K:KV):Prop:=
 newM #[.int .i64 qf,.int .i64 qe,.slice qh qu qw] N.t_Dyads w fun p1 w2=>
 newM #[.bool qp,.slice qo qi qj,.int .i64 qt] N.t_Dyad w2 fun p3 w4=>
 cI_ w4 p1 fun n5=>
 cI_ w4 (p1.add 1) fun n6=>
 cS_ w4 (p1.add 2) fun s7a s7l s7c=>
 CallsX P N.f_inertia_Symmetric #[.agg #[.int .i64 n5,.int .i64 n6,.slice s7a s7l s7c]] w4 fun v9 w8=>
 vB_ v9 fun b10=>
 cond (!b10)
 (K (.tuple #[.int .i64 0,.int .i64 4]) w8)
 (cB_ w8 p3 fun b11=>
 cS_ w8 (p3.add 1) fun s12a s12l s12c=>
 cI_ w8 (p3.add 2) fun n13=>
 CallsX P N.f_dyad_Right #[.agg #[.bool b11,.slice s12a s12l s12c,.int .i64 n13]] w8 fun v15 w14=>
 vB_ v15 fun b16=>
 cond (!b16)
 (K (.tuple #[.int .i64 0,.int .i64 2]) w14)
 (cI_ w14 p1 fun n17=>
 cI_ w14 (p1.add 1) fun n18=>
 cS_ w14 (p1.add 2) fun s19a s19l s19c=>
 cB_ w14 p3 fun b20=>
 cS_ w14 (p3.add 1) fun s21a s21l s21c=>
 cI_ w14 (p3.add 2) fun n22=>
 CallsX P N.f_inertia_scaled #[.agg #[.int .i64 n17,.int .i64 n18,.slice s19a s19l s19c],.agg #[.bool b20,.slice s21a s21l s21c,.int .i64 n22]] w14 fun v24 w23=>
 ∃ s25a s25l s25c,∃ n26,∃ b27,v24=(.tuple #[.agg #[.slice s25a s25l s25c,.int .i64 n26],.bool b27]) ∧
 newM #[.slice none 0 0,.int .i64 0] N.t_inertia_rows w23 fun p28 w29=>
 stM p28 (.slice s25a s25l s25c) w29 fun w30=>
 stM (p28.add 1) (.int .i64 n26) w30 fun w31=>
 cond (!b27)
 (K (.tuple #[.int .i64 0,.int .i64 3]) w31)
 (CallsX P N.f_p_inertia_rows_signs #[.pointer (some p28)] w31 fun v33 w32=>
 ∃ n34,∃ n35,∃ n36,v33=(.agg #[.int .i64 n34,.int .i64 n35,.int .i64 n36]) ∧
 K (.tuple #[.int .i64 n34,.int .i64 0]) w32)))
def S_r02_Int (N:Nums) (P:Program) (q0:Int) (w:World) (K:KV):Prop:=
 newM #[.bool false,.slice none 0 0,.int .i64 0] N.t_Dyad w fun p1 w2=>
 CallsX P N.f_r02_Whole #[.int .i64 q0] w2 fun v4 w3=>
 ∃ b5,∃ s6a s6l s6c,∃ n7,v4=(.agg #[.bool b5,.slice s6a s6l s6c,.int .i64 n7]) ∧
 CallsX P N.f_r02_Told #[.agg #[.bool b5,.slice s6a s6l s6c,.int .i64 n7]] w3 fun v9 w8=>
 ∃ b10,∃ s11a s11l s11c,∃ n12,∃ n13,v9=(.tuple #[.agg #[.bool b10,.slice s11a s11l s11c,.int .i64 n12],.int .i64 n13]) ∧
 newM #[.bool false,.slice none 0 0,.int .i64 0] N.t_Dyad w8 fun p14 w15=>
 stM p14 (.bool b10) w15 fun w16=>
 stM (p14.add 1) (.slice s11a s11l s11c) w16 fun w17=>
 stM (p14.add 2) (.int .i64 n12) w17 fun w18=>
 cB_ w18 p14 fun b19=>
 cS_ w18 (p14.add 1) fun s20a s20l s20c=>
 cI_ w18 (p14.add 2) fun n21=>
 stM p1 (.bool b19) w18 fun w22=>
 stM (p1.add 1) (.slice s20a s20l s20c) w22 fun w23=>
 stM (p1.add 2) (.int .i64 n21) w23 fun w24=>
 cB_ w24 p1 fun b25=>
 cS_ w24 (p1.add 1) fun s26a s26l s26c=>
 cI_ w24 (p1.add 2) fun n27=>
 K (.agg #[.bool b25,.slice s26a s26l s26c,.int .i64 n27]) w24
def S_r02_Add (N:Nums) (P:Program) (qf:Bool) (qe:OA) (qb qd:Nat) (qh:Int) (qp:Bool) (qo:OA) (qi qj:Nat) (qt:Int) (w:World) (K:KV):Prop:=
 newM #[.bool qf,.slice qe qb qd,.int .i64 qh] N.t_Dyad w fun p1 w2=>
 newM #[.bool qp,.slice qo qi qj,.int .i64 qt] N.t_Dyad w2 fun p3 w4=>
 newM #[.bool false,.slice none 0 0,.int .i64 0] N.t_Dyad w4 fun p5 w6=>
 cutM (σ:=Bool×Unit) (fun J7=>
 cB_ w6 p1 fun b10=>
 cS_ w6 (p1.add 1) fun s11a s11l s11c=>
 cI_ w6 (p1.add 2) fun n12=>
 CallsX P N.f_r02_Right #[.agg #[.bool b10,.slice s11a s11l s11c,.int .i64 n12]] w6 fun v14 w13=>
 vB_ v14 fun b15=>
 cond (!(!b15))
 (cB_ w13 p3 fun b16=>
 cS_ w13 (p3.add 1) fun s17a s17l s17c=>
 cI_ w13 (p3.add 2) fun n18=>
 CallsX P N.f_r02_Right #[.agg #[.bool b16,.slice s17a s17l s17c,.int .i64 n18]] w13 fun v20 w19=>
 vB_ v20 fun b21=>
 J7 ((!b21),()) w19)
 (J7 (true,()) w13))
 (fun s8 w9=>
 cond s8.1
 (stM p5 (.bool false) w9 fun w22=>
 stM (p5.add 1) (.slice none 0 0) w22 fun w23=>
 stM (p5.add 2) (.int .i64 0) w23 fun w24=>
 cB_ w24 p5 fun b25=>
 cS_ w24 (p5.add 1) fun s26a s26l s26c=>
 cI_ w24 (p5.add 2) fun n27=>
 K (.tuple #[.agg #[.bool b25,.slice s26a s26l s26c,.int .i64 n27],.int .i64 2]) w24)
 (cB_ w9 p1 fun b28=>
 cS_ w9 (p1.add 1) fun s29a s29l s29c=>
 cI_ w9 (p1.add 2) fun n30=>
 cB_ w9 p3 fun b31=>
 cS_ w9 (p3.add 1) fun s32a s32l s32c=>
 cI_ w9 (p3.add 2) fun n33=>
 CallsX P N.f_r02_far #[.agg #[.bool b28,.slice s29a s29l s29c,.int .i64 n30],.agg #[.bool b31,.slice s32a s32l s32c,.int .i64 n33]] w9 fun v35 w34=>
 vB_ v35 fun b36=>
 cond b36
 (stM p5 (.bool false) w34 fun w37=>
 stM (p5.add 1) (.slice none 0 0) w37 fun w38=>
 stM (p5.add 2) (.int .i64 0) w38 fun w39=>
 cB_ w39 p5 fun b40=>
 cS_ w39 (p5.add 1) fun s41a s41l s41c=>
 cI_ w39 (p5.add 2) fun n42=>
 K (.tuple #[.agg #[.bool b40,.slice s41a s41l s41c,.int .i64 n42],.int .i64 3]) w39)
 (cB_ w34 p1 fun b43=>
 cS_ w34 (p1.add 1) fun s44a s44l s44c=>
 cI_ w34 (p1.add 2) fun n45=>
 cB_ w34 p3 fun b46=>
 cS_ w34 (p3.add 1) fun s47a s47l s47c=>
 cI_ w34 (p3.add 2) fun n48=>
 drM w34 fun w49=>
 CallsX P N.f_r02_Dyad #[.agg #[.bool b43,.slice s44a s44l s44c,.int .i64 n45]] w49 fun v51 w50=>
 ∃ b52,∃ s53a s53l s53c,∃ n54,v51=(.agg #[.bool b52,.slice s53a s53l s53c,.int .i64 n54]) ∧
 w50.cell? p3=some (.bool b46) ∧
 w50.cell? (p3.add 1)=some (.slice s47a s47l s47c) ∧
 w50.cell? (p3.add 2)=some (.int .i64 n48) ∧
 drM w50 fun w55=>
 CallsX P N.f_r02_Dyad #[.agg #[.bool b46,.slice s47a s47l s47c,.int .i64 n48]] w55 fun v57 w56=>
 ∃ b58,∃ s59a s59l s59c,∃ n60,v57=(.agg #[.bool b58,.slice s59a s59l s59c,.int .i64 n60]) ∧
 drM w56 fun w61=>
 CallsX P N.f_r02_Plus #[.agg #[.bool b52,.slice s53a s53l s53c,.int .i64 n54],.agg #[.bool b58,.slice s59a s59l s59c,.int .i64 n60]] w61 fun v63 w62=>
 ∃ b64,∃ s65a s65l s65c,∃ n66,v63=(.agg #[.bool b64,.slice s65a s65l s65c,.int .i64 n66]) ∧
 drM w62 fun w67=>
 CallsX P N.f_r02_Told #[.agg #[.bool b64,.slice s65a s65l s65c,.int .i64 n66]] w67 fun v69 w68=>
 ∃ b70,∃ s71a s71l s71c,∃ n72,∃ n73,v69=(.tuple #[.agg #[.bool b70,.slice s71a s71l s71c,.int .i64 n72],.int .i64 n73]) ∧
 drM w68 fun w74=>
 stM p5 (.bool b70) w74 fun w75=>
 stM (p5.add 1) (.slice s71a s71l s71c) w75 fun w76=>
 stM (p5.add 2) (.int .i64 n72) w76 fun w77=>
 drM w77 fun w78=>
 cB_ w78 p5 fun b79=>
 cS_ w78 (p5.add 1) fun s80a s80l s80c=>
 cI_ w78 (p5.add 2) fun n81=>
 K (.tuple #[.agg #[.bool b79,.slice s80a s80l s80c,.int .i64 n81],.int .i64 n73]) w78)))
def S_w16_awake (N:Nums) (P:Program)  (w:World) (K:KV):Prop:=
 newM #[.int .i64 1,.int .i64 2,.int .i64 2,.int .i64 1] N.t_int64 w fun p1 w2=>
 CallsX P N.f_w16_of #[.int .i64 2,.slice (some p1) 4 4] w2 fun v4 w3=>
 ∃ n5,∃ n6,∃ s7a s7l s7c,v4=(.agg #[.int .i64 n5,.int .i64 n6,.slice s7a s7l s7c]) ∧
 CallsX P N.f_inertia_Signs #[.agg #[.int .i64 n5,.int .i64 n6,.slice s7a s7l s7c]] w3 fun v9 w8=>
 ∃ n10,∃ n11,∃ n12,∃ n13,v9=(.tuple #[.agg #[.int .i64 n10,.int .i64 n11,.int .i64 n12],.int .i64 n13]) ∧
 newM #[.int .i64 0,.int .i64 0,.int .i64 0] N.t_Signs w8 fun p14 w15=>
 stM p14 (.int .i64 n10) w15 fun w16=>
 stM (p14.add 1) (.int .i64 n11) w16 fun w17=>
 stM (p14.add 2) (.int .i64 n12) w17 fun w18=>
 newM #[.int .i64 1,.int .i64 2,.int .i64 2,.int .i64 1] N.t_int64 w18 fun p19 w20=>
 CallsX P N.f_w16_of #[.int .i64 2,.slice (some p19) 4 4] w20 fun v22 w21=>
 ∃ n23,∃ n24,∃ s25a s25l s25c,v22=(.agg #[.int .i64 n23,.int .i64 n24,.slice s25a s25l s25c]) ∧
 CallsX P N.f_inertia_Poly #[.agg #[.int .i64 n23,.int .i64 n24,.slice s25a s25l s25c]] w21 fun v27 w26=>
 ∃ s28a s28l s28c,∃ n29,v27=(.tuple #[.slice s28a s28l s28c,.int .i64 n29]) ∧
 newM #[.int .i64 1,.int .i64 2,.int .i64 2,.int .i64 1] N.t_int64 w26 fun p30 w31=>
 CallsX P N.f_w16_of #[.int .i64 2,.slice (some p30) 4 4] w31 fun v33 w32=>
 ∃ n34,∃ n35,∃ s36a s36l s36c,v33=(.agg #[.int .i64 n34,.int .i64 n35,.slice s36a s36l s36c]) ∧
 CallsX P N.f_r02_Int #[.int .i64 4] w32 fun v38 w37=>
 ∃ b39,∃ s40a s40l s40c,∃ n41,v38=(.agg #[.bool b39,.slice s40a s40l s40c,.int .i64 n41]) ∧
 CallsX P N.f_inertia_Below #[.agg #[.int .i64 n34,.int .i64 n35,.slice s36a s36l s36c],.agg #[.bool b39,.slice s40a s40l s40c,.int .i64 n41]] w37 fun v43 w42=>
 ∃ n44,∃ n45,v43=(.tuple #[.int .i64 n44,.int .i64 n45]) ∧
 cond (n13==0)
 (cond (n29==0)
 (cond (n45==0)
 (cond (n44==2)
 (cI_ w42 p14 fun n46=>
 cI_ w42 (p14.add 1) fun n47=>
 cI_ w42 (p14.add 2) fun n48=>
 cond (n46==1&&(n47==0&&n48==1))
 (newM #[.int .i64 (-3),.int .i64 (-2),.int .i64 1] N.t_int64 w42 fun p49 w50=>
 CallsX P N.f_w16_of #[.int .i64 3,.slice (some p49) 3 3] w50 fun v52 w51=>
 ∃ n53,∃ n54,∃ s55a s55l s55c,v52=(.agg #[.int .i64 n53,.int .i64 n54,.slice s55a s55l s55c]) ∧
 CallsX P N.f_k_SameDyads #[.slice s28a s28l s28c,.slice s55a s55l s55c] w51 fun v57 w56=>
 vB_ v57 fun b58=>
 K (.bool b58) w56)
 (K (.bool false) w42))
 (K (.bool false) w42))
 (K (.bool false) w42))
 (K (.bool false) w42))
 (K (.bool false) w42)
def S_inertia_Symmetric (N:Nums) (P:Program) (qf:Int) (qe:Int) (qh:OA) (qu qw:Nat) (w:World) (K:KV):Prop:=
 newM #[.int .i64 qf,.int .i64 qe,.slice qh qu qw] N.t_Dyads w fun p1 w2=>
 cutM (σ:=Bool×Unit) (fun J3=>
 cI_ w2 p1 fun n6=>
 cI_ w2 (p1.add 1) fun n7=>
 cS_ w2 (p1.add 2) fun s8a s8l s8c=>
 CallsX P N.f_inertia_Right #[.agg #[.int .i64 n6,.int .i64 n7,.slice s8a s8l s8c]] w2 fun v10 w9=>
 vB_ v10 fun b11=>
 cond (!(!b11))
 (cI_ w9 p1 fun n12=>
 cI_ w9 (p1.add 1) fun n13=>
 J3 ((n12 != n13),()) w9)
 (J3 (true,()) w9))
 (fun s4 w5=>
 cond s4.1
 (K (.bool false) w5)
 (cI_ w5 p1 fun n14=>
 cutM (σ:=Unit) (fun J15=>
 loopM (σ:=Int×Unit) (fun s18 X19 w20=>
 cond (decide (s18.1<n14))
 (cutM (σ:=Unit) (fun J21=>
 loopM (σ:=Int×Unit) (fun s24 X25 w26=>
 cond (decide (s24.1<s18.1))
 (cS_ w26 (p1.add 2) fun s27a s27l s27c=>
 cI_ w26 (p1.add 1) fun n28=>
 (0:Int)≤(i64.wrap ((i64.wrap (s18.1*n28))+s24.1))∧(i64.wrap ((i64.wrap (s18.1*n28))+s24.1))<(s27l:Nat) ∧
 optM s27a fun a29=>
 ∃ b30,w26.cell? (a29.add ((i64.wrap ((i64.wrap (s18.1*n28))+s24.1)).toNat*3))=some (.bool b30) ∧
 ∃ s31a s31l s31c,w26.cell? ((a29.add ((i64.wrap ((i64.wrap (s18.1*n28))+s24.1)).toNat*3)).add 1)=some (.slice s31a s31l s31c) ∧
 ∃ n32,w26.cell? ((a29.add ((i64.wrap ((i64.wrap (s18.1*n28))+s24.1)).toNat*3)).add 2)=some (.int .i64 n32) ∧
 cS_ w26 (p1.add 2) fun s33a s33l s33c=>
 cI_ w26 (p1.add 1) fun n34=>
 (0:Int)≤(i64.wrap ((i64.wrap (s24.1*n34))+s18.1))∧(i64.wrap ((i64.wrap (s24.1*n34))+s18.1))<(s33l:Nat) ∧
 optM s33a fun a35=>
 ∃ b36,w26.cell? (a35.add ((i64.wrap ((i64.wrap (s24.1*n34))+s18.1)).toNat*3))=some (.bool b36) ∧
 ∃ s37a s37l s37c,w26.cell? ((a35.add ((i64.wrap ((i64.wrap (s24.1*n34))+s18.1)).toNat*3)).add 1)=some (.slice s37a s37l s37c) ∧
 ∃ n38,w26.cell? ((a35.add ((i64.wrap ((i64.wrap (s24.1*n34))+s18.1)).toNat*3)).add 2)=some (.int .i64 n38) ∧
 drM w26 fun w39=>
 CallsX P N.f_dyad_Cmp #[.agg #[.bool b30,.slice s31a s31l s31c,.int .i64 n32],.agg #[.bool b36,.slice s37a s37l s37c,.int .i64 n38]] w39 fun v41 w40=>
 ∃ n42,∃ n43,v41=(.tuple #[.int .i64 n42,.int .i64 n43]) ∧
 drM w40 fun w44=>
 cond (n42 != 0)
 (K (.bool false) w44)
 (X25 ((i64.wrap (s24.1+1)),()) w44))
 (J21 (()) w26))
 (0,()) w20)
 (fun s22 w23=>
 X19 ((i64.wrap (s18.1+1)),()) w23))
 (J15 (()) w20))
 (0,()) w5)
 (fun s16 w17=>
 K (.bool true) w17)))
def S_dyad_Right (N:Nums) (P:Program) (qf:Bool) (qe:OA) (qb qd:Nat) (qh:Int) (w:World) (K:KV):Prop:=
 newM #[.bool qf,.slice qe qb qd,.int .i64 qh] N.t_Dyad w fun p1 w2=>
 cS_ w2 (p1.add 1) fun s3a s3l s3c=>
 cond ((s3l:Int)==0)
 (cB_ w2 p1 fun b4=>
 cond (!b4)
 (cI_ w2 (p1.add 2) fun n5=>
 K (.bool (n5==0)) w2)
 (K (.bool false) w2))
 (cond (decide ((s3l:Int)≤256))
 (cS_ w2 (p1.add 1) fun s6a s6l s6c=>
 (0:Int)≤(i64.wrap ((s3l:Int)-1))∧(i64.wrap ((s3l:Int)-1))<(s6l:Nat) ∧
 optM s6a fun a7=>
 ∃ n8,w2.cell? (a7.add ((i64.wrap ((s3l:Int)-1)).toNat*1))=some (.int .u64 n8) ∧
 cond (n8 != 0)
 (cS_ w2 (p1.add 1) fun s9a s9l s9c=>
 (0:Int)≤(0:Int)∧(0:Int)<(s9l:Nat) ∧
 optM s9a fun a10=>
 cU_ w2 (a10.add ((0:Int).toNat*1)) fun n11=>
 cond ((u64.wrap (BitVec.ofInt u64.bits n11 &&& BitVec.ofInt u64.bits 1).toNat)==1)
 (cI_ w2 (p1.add 2) fun n12=>
 cond (decide (((-65536):Int)≤n12))
 (cI_ w2 (p1.add 2) fun n13=>
 K (.bool (decide (n13≤65536))) w2)
 (K (.bool false) w2))
 (K (.bool false) w2))
 (K (.bool false) w2))
 (K (.bool false) w2))
def S_dyad_Cmp (N:Nums) (P:Program) (qf:Bool) (qe:OA) (qb qd:Nat) (qh:Int) (qp:Bool) (qo:OA) (qi qj:Nat) (qt:Int) (w:World) (K:KV):Prop:=
 newM #[.bool qf,.slice qe qb qd,.int .i64 qh] N.t_Dyad w fun p1 w2=>
 newM #[.bool qp,.slice qo qi qj,.int .i64 qt] N.t_Dyad w2 fun p3 w4=>
 cB_ w4 p1 fun b5=>
 cS_ w4 (p1.add 1) fun s6a s6l s6c=>
 cI_ w4 (p1.add 2) fun n7=>
 CallsX P N.f_dyad_Sign #[.agg #[.bool b5,.slice s6a s6l s6c,.int .i64 n7]] w4 fun v9 w8=>
 ∃ n10,∃ n11,v9=(.tuple #[.int .i64 n10,.int .i64 n11]) ∧
 cB_ w8 p3 fun b12=>
 cS_ w8 (p3.add 1) fun s13a s13l s13c=>
 cI_ w8 (p3.add 2) fun n14=>
 CallsX P N.f_dyad_Sign #[.agg #[.bool b12,.slice s13a s13l s13c,.int .i64 n14]] w8 fun v16 w15=>
 ∃ n17,∃ n18,v16=(.tuple #[.int .i64 n17,.int .i64 n18]) ∧
 cutM (σ:=Bool×Unit) (fun J19=>
 cond (!(n11 != 0))
 (J19 ((n18 != 0),()) w15)
 (J19 (true,()) w15))
 (fun s20 w21=>
 cond s20.1
 (K (.tuple #[.int .i64 0,.int .i64 2]) w21)
 (cond (n10 != n17)
 (cond (decide (n10<n17))
 (K (.tuple #[.int .i64 (-1),.int .i64 0]) w21)
 (K (.tuple #[.int .i64 1,.int .i64 0]) w21))
 (cond (n10==0)
 (K (.tuple #[.int .i64 0,.int .i64 0]) w21)
 (cB_ w21 p1 fun b22=>
 cS_ w21 (p1.add 1) fun s23a s23l s23c=>
 cI_ w21 (p1.add 2) fun n24=>
 cB_ w21 p3 fun b25=>
 cS_ w21 (p3.add 1) fun s26a s26l s26c=>
 cI_ w21 (p3.add 2) fun n27=>
 drM w21 fun w28=>
 CallsX P N.f_dyad_top #[.agg #[.bool b22,.slice s23a s23l s23c,.int .i64 n24]] w28 fun v30 w29=>
 ∃ n31,v30=(.int .i64 n31) ∧
 w29.cell? p3=some (.bool b25) ∧
 w29.cell? (p3.add 1)=some (.slice s26a s26l s26c) ∧
 w29.cell? (p3.add 2)=some (.int .i64 n27) ∧
 drM w29 fun w32=>
 CallsX P N.f_dyad_top #[.agg #[.bool b25,.slice s26a s26l s26c,.int .i64 n27]] w32 fun v34 w33=>
 ∃ n35,v34=(.int .i64 n35) ∧
 drM w33 fun w36=>
 cond (n31 != n35)
 (cB_ w36 p1 fun b37=>
 cS_ w36 (p1.add 1) fun s38a s38l s38c=>
 cI_ w36 (p1.add 2) fun n39=>
 cB_ w36 p3 fun b40=>
 cS_ w36 (p3.add 1) fun s41a s41l s41c=>
 cI_ w36 (p3.add 2) fun n42=>
 drM w36 fun w43=>
 CallsX P N.f_dyad_top #[.agg #[.bool b37,.slice s38a s38l s38c,.int .i64 n39]] w43 fun v45 w44=>
 ∃ n46,v45=(.int .i64 n46) ∧
 w44.cell? p3=some (.bool b40) ∧
 w44.cell? (p3.add 1)=some (.slice s41a s41l s41c) ∧
 w44.cell? (p3.add 2)=some (.int .i64 n42) ∧
 drM w44 fun w47=>
 CallsX P N.f_dyad_top #[.agg #[.bool b40,.slice s41a s41l s41c,.int .i64 n42]] w47 fun v49 w48=>
 ∃ n50,v49=(.int .i64 n50) ∧
 drM w48 fun w51=>
 cond (decide (n46<n50))
 (K (.tuple #[.int .i64 (i64.wrap (0-n10)),.int .i64 0]) w51)
 (K (.tuple #[.int .i64 n10,.int .i64 0]) w51))
 (cB_ w36 p1 fun b52=>
 cS_ w36 (p1.add 1) fun s53a s53l s53c=>
 cI_ w36 (p1.add 2) fun n54=>
 cB_ w36 p3 fun b55=>
 cS_ w36 (p3.add 1) fun s56a s56l s56c=>
 cI_ w36 (p3.add 2) fun n57=>
 drM w36 fun w58=>
 CallsX P N.f_dyad_whole #[.agg #[.bool b52,.slice s53a s53l s53c,.int .i64 n54]] w58 fun v60 w59=>
 ∃ p61:(OA),v60=(.pointer p61) ∧
 w59.cell? p3=some (.bool b55) ∧
 w59.cell? (p3.add 1)=some (.slice s56a s56l s56c) ∧
 w59.cell? (p3.add 2)=some (.int .i64 n57) ∧
 drM w59 fun w62=>
 CallsX P N.f_dyad_whole #[.agg #[.bool b55,.slice s56a s56l s56c,.int .i64 n57]] w62 fun v64 w63=>
 ∃ p65:(OA),v64=(.pointer p65) ∧
 drM w63 fun w66=>
 cI_ w66 (p1.add 2) fun n67=>
 cI_ w66 (p3.add 2) fun n68=>
 cutM (σ:=Unit) (fun J69=>
 cond (decide (n67>n68))
 (cI_ w66 (p1.add 2) fun n72=>
 cI_ w66 (p3.add 2) fun n73=>
 CallsX P N.f_bI_Lsh #[.pointer p61,.pointer p61,.int .u64 (u64.wrap (i64.wrap (n72-n73)))] w66 fun v75 w74=>
 ∃ p76:(OA),v75=(.pointer p76) ∧
 J69 (()) w74)
 (cI_ w66 (p3.add 2) fun n77=>
 cI_ w66 (p1.add 2) fun n78=>
 CallsX P N.f_bI_Lsh #[.pointer p65,.pointer p65,.int .u64 (u64.wrap (i64.wrap (n77-n78)))] w66 fun v80 w79=>
 ∃ p81:(OA),v80=(.pointer p81) ∧
 J69 (()) w79))
 (fun s70 w71=>
 CallsX P N.f_bI_Cmp #[.pointer p61,.pointer p65] w71 fun v83 w82=>
 ∃ n84,v83=(.int .i64 n84) ∧
 K (.tuple #[.int .i64 n84,.int .i64 0]) w82))))))
def S_inertia_scaled (N:Nums) (P:Program) (qf:Int) (qe:Int) (qh:OA) (qu qw:Nat) (qp:Bool) (qo:OA) (qi qj:Nat) (qt:Int) (w:World) (K:KV):Prop:=
 newM #[.int .i64 qf,.int .i64 qe,.slice qh qu qw] N.t_Dyads w fun p1 w2=>
 newM #[.bool qp,.slice qo qi qj,.int .i64 qt] N.t_Dyad w2 fun p3 w4=>
 newM #[.slice none 0 0,.int .i64 0] N.t_inertia_rows w4 fun p5 w6=>
 cI_ w6 p1 fun n7=>
 mkM N.t_L_p_bn_Int 1 24 #[.slice none 0 0] n7 n7 w6 fun p8 w9=>
 newM #[.slice none 0 0,.int .i64 0] N.t_inertia_rows w9 fun p10 w11=>
 stM p10 (.slice (some p8) n7.toNat n7.toNat) w11 fun w12=>
 stM (p10.add 1) (.int .i64 65536) w12 fun w13=>
 cutM (σ:=(OA×Nat×Nat)×Int×Int×Unit) (fun J14=>
 cS_ w13 (p1.add 2) fun s17a s17l s17c=>
 cB_ w13 p3 fun b18=>
 cS_ w13 (p3.add 1) fun s19a s19l s19c=>
 cI_ w13 (p3.add 2) fun n20=>
 (drM w13 fun w21=>
 CallsX P N.f_slices_Clone___api_Dyad_api_Dyad #[.slice s17a s17l s17c] w21 fun v23 w22=>
 vS_ v23 fun s24a s24l s24c=>
 w22.cell? p3=some (.bool b18) ∧
 w22.cell? (p3.add 1)=some (.slice s19a s19l s19c) ∧
 w22.cell? (p3.add 2)=some (.int .i64 n20) ∧
 drM w22 fun w25=>
 newM #[.bool b18,.slice s19a s19l s19c,.int .i64 n20] N.t_Dyad w25 fun p26 w27=>
 drM w27 fun w28=>
 appM N.t_Dyad 3 40 #[.bool false,.slice none 0 0,.int .i64 0] s24a s24l s24c (some p26) 1 w28 fun s29a s29l s29c w30=>
 drM w30 fun w31=>
 J14 ((s29a,s29l,s29c),(s29l:Int),0,()) w31) ∧
 (drM w13 fun w32=>
 newM #[.bool b18,.slice s19a s19l s19c,.int .i64 n20] N.t_Dyad w32 fun p33 w34=>
 w34.cell? (p1.add 2)=some (.slice s17a s17l s17c) ∧
 drM w34 fun w35=>
 CallsX P N.f_slices_Clone___api_Dyad_api_Dyad #[.slice s17a s17l s17c] w35 fun v37 w36=>
 vS_ v37 fun s38a s38l s38c=>
 drM w36 fun w39=>
 appM N.t_Dyad 3 40 #[.bool false,.slice none 0 0,.int .i64 0] s38a s38l s38c (some p33) 1 w39 fun s40a s40l s40c w41=>
 drM w41 fun w42=>
 J14 ((s40a,s40l,s40c),(s40l:Int),0,()) w42))
 (fun s15 w16=>
 cutM (σ:=Unit) (fun J43=>
 loopM (σ:=Int×Unit) (fun s46 X47 w48=>
 cond (decide (s46.1<s15.2.1))
 (cutM (σ:=Unit) (fun J49=>
 (0:Int)≤s46.1∧s46.1<(s15.1.2.1:Nat) ∧
 optM s15.1.1 fun a52=>
 cB_ w48 (a52.add (s46.1.toNat*3)) fun b53=>
 cS_ w48 ((a52.add (s46.1.toNat*3)).add 1) fun s54a s54l s54c=>
 cI_ w48 ((a52.add (s46.1.toNat*3)).add 2) fun n55=>
 newM #[.bool false,.slice none 0 0,.int .i64 0] N.t_Dyad w48 fun p56 w57=>
 stM p56 (.bool b53) w57 fun w58=>
 stM (p56.add 1) (.slice s54a s54l s54c) w58 fun w59=>
 stM (p56.add 2) (.int .i64 n55) w59 fun w60=>
 cS_ w60 (p56.add 1) fun s61a s61l s61c=>
 cutM (σ:=Unit) (fun J62=>
 cond (decide ((s61l:Int)>0))
 (cI_ w60 (p10.add 1) fun n65=>
 cI_ w60 (p56.add 2) fun n66=>
 stM (p10.add 1) (.int .i64 (if n66<n65 then n66 else n65)) w60 fun w67=>
 J62 (()) w67)
 (J62 (()) w60))
 (fun s63 w64=>
 J49 (()) w64))
 (fun s50 w51=>
 X47 ((i64.wrap (s46.1+1)),()) w51))
 (J43 (()) w48))
 (s15.2.2.1,()) w16)
 (fun s44 w45=>
 cI_ w45 p1 fun n68=>
 cutM (σ:=Int×Int×Unit) (fun J69=>
 loopM (σ:=Int×Int×Int×Unit) (fun s72 X73 w74=>
 cond (decide (s72.2.2.1<n68))
 (cI_ w74 (p1.add 1) fun n75=>
 cutM (σ:=Int×Int×Unit) (fun J76=>
 loopM (σ:=Int×Int×Int×Unit) (fun s79 X80 w81=>
 cond (decide (s79.2.2.1<n75))
 (cS_ w81 (p1.add 2) fun s82a s82l s82c=>
 cI_ w81 (p1.add 1) fun n83=>
 (0:Int)≤(i64.wrap ((i64.wrap (s72.2.2.1*n83))+s79.2.2.1))∧(i64.wrap ((i64.wrap (s72.2.2.1*n83))+s79.2.2.1))<(s82l:Nat) ∧
 optM s82a fun a84=>
 ∃ b85,w81.cell? (a84.add ((i64.wrap ((i64.wrap (s72.2.2.1*n83))+s79.2.2.1)).toNat*3))=some (.bool b85) ∧
 ∃ s86a s86l s86c,w81.cell? ((a84.add ((i64.wrap ((i64.wrap (s72.2.2.1*n83))+s79.2.2.1)).toNat*3)).add 1)=some (.slice s86a s86l s86c) ∧
 ∃ n87,w81.cell? ((a84.add ((i64.wrap ((i64.wrap (s72.2.2.1*n83))+s79.2.2.1)).toNat*3)).add 2)=some (.int .i64 n87) ∧
 cI_ w81 (p10.add 1) fun n88=>
 drM w81 fun w89=>
 CallsX P N.f_inertia_whole #[.agg #[.bool b85,.slice s86a s86l s86c,.int .i64 n87],.int .i64 n88] w89 fun v91 w90=>
 ∃ p92:(OA),v91=(.pointer p92) ∧
 drM w90 fun w93=>
 cutM (σ:=Unit) (fun J94=>
 cond (s72.2.2.1==s79.2.2.1)
 (cB_ w93 p3 fun b97=>
 cS_ w93 (p3.add 1) fun s98a s98l s98c=>
 cI_ w93 (p3.add 2) fun n99=>
 cI_ w93 (p10.add 1) fun n100=>
 CallsX P N.f_inertia_whole #[.agg #[.bool b97,.slice s98a s98l s98c,.int .i64 n99],.int .i64 n100] w93 fun v102 w101=>
 ∃ p103:(OA),v102=(.pointer p103) ∧
 CallsX P N.f_bI_Sub #[.pointer p92,.pointer p92,.pointer p103] w101 fun v105 w104=>
 ∃ p106:(OA),v105=(.pointer p106) ∧
 J94 (()) w104)
 (J94 (()) w93))
 (fun s95 w96=>
 CallsX P N.f_bI_Sign #[.pointer p92] w96 fun v108 w107=>
 ∃ n109,v108=(.int .i64 n109) ∧
 cutM (σ:=Int×Int×Unit) (fun J110=>
 cond (n109 != 0)
 (CallsX P N.f_bI_TrailingZeroBits #[.pointer p92] w107 fun v114 w113=>
 ∃ n115,v114=(.int .u64 n115) ∧
 CallsX P N.f_bI_BitLen #[.pointer p92] w113 fun v117 w116=>
 ∃ n118,v117=(.int .i64 n118) ∧
 J110 ((if (i64.wrap n115)<s79.1 then (i64.wrap n115) else s79.1),(if n118>s79.2.1 then n118 else s79.2.1),()) w116)
 (J110 (s79.1,s79.2.1,()) w107))
 (fun s111 w112=>
 cS_ w112 p10 fun s119a s119l s119c=>
 cS_ w112 p10 fun s120a s120l s120c=>
 (0:Int)≤s72.2.2.1∧s72.2.2.1<(s120l:Nat) ∧
 optM s120a fun a121=>
 cS_ w112 (a121.add (s72.2.2.1.toNat*1)) fun s122a s122l s122c=>
 drM w112 fun w123=>
 newM #[.pointer p92] N.t_p_bn_Int w123 fun p124 w125=>
 w125.cell? (a121.add (s72.2.2.1.toNat*1))=some (.slice s122a s122l s122c) ∧
 w125.cell? p10=some (.slice s120a s120l s120c) ∧
 w125.cell? p10=some (.slice s119a s119l s119c) ∧
 drM w125 fun w126=>
 appM N.t_p_bn_Int 1 8 #[.pointer none] s122a s122l s122c (some p124) 1 w126 fun s127a s127l s127c w128=>
 w128.cell? p10=some (.slice s119a s119l s119c) ∧
 (0:Int)≤s72.2.2.1∧s72.2.2.1<(s119l:Nat) ∧
 optM s119a fun a129=>
 drM w128 fun w130=>
 stM (a129.add (s72.2.2.1.toNat*1)) (.slice s127a s127l s127c) w130 fun w131=>
 drM w131 fun w132=>
 X80 (s111.1,s111.2.1,(i64.wrap (s79.2.2.1+1)),()) w132)))
 (J76 (s79.1,s79.2.1,()) w81))
 (s72.1,s72.2.1,0,()) w74)
 (fun s77 w78=>
 X73 (s77.1,s77.2.1,(i64.wrap (s72.2.2.1+1)),()) w78))
 (J69 (s72.1,s72.2.1,()) w74))
 (1073741824,0,0,()) w45)
 (fun s70 w71=>
 cond (s70.2.1==0)
 (cS_ w71 p10 fun s133a s133l s133c=>
 cI_ w71 (p10.add 1) fun n134=>
 stM p5 (.slice s133a s133l s133c) w71 fun w135=>
 stM (p5.add 1) (.int .i64 n134) w135 fun w136=>
 cS_ w136 p5 fun s137a s137l s137c=>
 cI_ w136 (p5.add 1) fun n138=>
 K (.tuple #[.agg #[.slice s137a s137l s137c,.int .i64 n138],.bool true]) w136)
 (cS_ w71 p10 fun s139a s139l s139c=>
 cutM (σ:=Unit) (fun J140=>
 loopM (σ:=Int×Unit) (fun s143 X144 w145=>
 cond (decide (s143.1<(s139l:Int)))
 ((0:Int)≤s143.1∧s143.1<(s139l:Nat) ∧
 optM s139a fun a146=>
 cS_ w145 (a146.add (s143.1.toNat*1)) fun s147a s147l s147c=>
 cutM (σ:=Unit) (fun J148=>
 loopM (σ:=Int×Unit) (fun s151 X152 w153=>
 cond (decide (s151.1<(s147l:Int)))
 ((0:Int)≤s151.1∧s151.1<(s147l:Nat) ∧
 optM s147a fun a154=>
 ∃ p155:(OA),w153.cell? (a154.add (s151.1.toNat*1))=some (.pointer p155) ∧
 CallsX P N.f_bI_Rsh #[.pointer p155,.pointer p155,.int .u64 (u64.wrap s70.1)] w153 fun v157 w156=>
 ∃ p158:(OA),v157=(.pointer p158) ∧
 X152 ((i64.wrap (s151.1+1)),()) w156)
 (J148 (()) w153))
 (0,()) w145)
 (fun s149 w150=>
 X144 ((i64.wrap (s143.1+1)),()) w150))
 (J140 (()) w145))
 (0,()) w71)
 (fun s141 w142=>
 cI_ w142 (p10.add 1) fun n159=>
 stM (p10.add 1) (.int .i64 (i64.wrap (n159+s70.1))) w142 fun w160=>
 cS_ w160 p10 fun s161a s161l s161c=>
 cI_ w160 (p10.add 1) fun n162=>
 cI_ w160 p1 fun n163=>
 drM w160 fun w164=>
 stM p5 (.slice s161a s161l s161c) w164 fun w165=>
 stM (p5.add 1) (.int .i64 n162) w165 fun w166=>
 w166.cell? p1=some (.int .i64 n163) ∧
 drM w166 fun w167=>
 cS_ w167 p5 fun s168a s168l s168c=>
 cI_ w167 (p5.add 1) fun n169=>
 K (.tuple #[.agg #[.slice s168a s168l s168c,.int .i64 n169],.bool (decide ((i64.wrap ((i64.wrap (s70.2.1-s70.1))*n163))≤8192))]) w167)))))
def S_p_inertia_rows_signs (N:Nums) (P:Program) (q0:OA) (w:World) (K:KV):Prop:=
 newM #[.int .i64 0,.int .i64 0,.int .i64 0] N.t_Signs w fun p1 w2=>
 optM q0 fun a3=>
 cS_ w2 a3 fun s4a s4l s4c=>
 CallsX P N.f_bn_NewInt #[.int .i64 1] w2 fun v6 w5=>
 ∃ p7:(OA),v6=(.pointer p7) ∧
 newM #[.int .i64 0,.int .i64 0,.int .i64 0] N.t_Signs w5 fun p8 w9=>
 cutM (σ:=Unit) (fun J10=>
 loopM (σ:=(OA)×Int×Unit) (fun s13 X14 w15=>
 cond (decide (s13.2.1<(s4l:Int)))
 (CallsX P N.f_p_inertia_rows_pivot #[.pointer q0,.int .i64 s13.2.1] w15 fun v17 w16=>
 vB_ v17 fun b18=>
 cond (!b18)
 (stM (p8.add 1) (.int .i64 (i64.wrap ((s4l:Int)-s13.2.1))) w16 fun w19=>
 cI_ w19 p8 fun n20=>
 cI_ w19 (p8.add 1) fun n21=>
 cI_ w19 (p8.add 2) fun n22=>
 stM p1 (.int .i64 n20) w19 fun w23=>
 stM (p1.add 1) (.int .i64 n21) w23 fun w24=>
 stM (p1.add 2) (.int .i64 n22) w24 fun w25=>
 cI_ w25 p1 fun n26=>
 cI_ w25 (p1.add 1) fun n27=>
 cI_ w25 (p1.add 2) fun n28=>
 K (.agg #[.int .i64 n26,.int .i64 n27,.int .i64 n28]) w25)
 (optM q0 fun a29=>
 cS_ w16 a29 fun s30a s30l s30c=>
 (0:Int)≤s13.2.1∧s13.2.1<(s30l:Nat) ∧
 optM s30a fun a31=>
 cS_ w16 (a31.add (s13.2.1.toNat*1)) fun s32a s32l s32c=>
 (0:Int)≤s13.2.1∧s13.2.1<(s32l:Nat) ∧
 optM s32a fun a33=>
 ∃ p34:(OA),w16.cell? (a33.add (s13.2.1.toNat*1))=some (.pointer p34) ∧
 CallsX P N.f_bI_Sign #[.pointer p34] w16 fun v36 w35=>
 ∃ n37,v36=(.int .i64 n37) ∧
 CallsX P N.f_bI_Sign #[.pointer s13.1] w35 fun v39 w38=>
 ∃ n40,v39=(.int .i64 n40) ∧
 cutM (σ:=Unit) (fun J41=>
 cond (n37==n40)
 (cI_ w38 (p8.add 2) fun n44=>
 stM (p8.add 2) (.int .i64 (i64.wrap (n44+1))) w38 fun w45=>
 J41 (()) w45)
 (cI_ w38 p8 fun n46=>
 stM p8 (.int .i64 (i64.wrap (n46+1))) w38 fun w47=>
 J41 (()) w47))
 (fun s42 w43=>
 cutM (σ:=Unit) (fun J48=>
 loopM (σ:=Int×Unit) (fun s51 X52 w53=>
 cond (decide (s51.1<(s4l:Int)))
 (cutM (σ:=Unit) (fun J54=>
 loopM (σ:=Int×Unit) (fun s57 X58 w59=>
 cond (decide (s57.1<(s4l:Int)))
 (newM #[.bool false,.slice none 0 0] N.t_bn_Int w59 fun p60 w61=>
 optM q0 fun a62=>
 cS_ w61 a62 fun s63a s63l s63c=>
 (0:Int)≤s51.1∧s51.1<(s63l:Nat) ∧
 optM s63a fun a64=>
 cS_ w61 (a64.add (s51.1.toNat*1)) fun s65a s65l s65c=>
 (0:Int)≤s57.1∧s57.1<(s65l:Nat) ∧
 optM s65a fun a66=>
 ∃ p67:(OA),w61.cell? (a66.add (s57.1.toNat*1))=some (.pointer p67) ∧
 CallsX P N.f_bI_Mul #[.pointer (some p60),.pointer p34,.pointer p67] w61 fun v69 w68=>
 ∃ p70:(OA),v69=(.pointer p70) ∧
 optM q0 fun a71=>
 cS_ w68 a71 fun s72a s72l s72c=>
 (0:Int)≤s51.1∧s51.1<(s72l:Nat) ∧
 optM s72a fun a73=>
 cS_ w68 (a73.add (s51.1.toNat*1)) fun s74a s74l s74c=>
 (0:Int)≤s13.2.1∧s13.2.1<(s74l:Nat) ∧
 optM s74a fun a75=>
 ∃ p76:(OA),w68.cell? (a75.add (s13.2.1.toNat*1))=some (.pointer p76) ∧
 optM q0 fun a77=>
 cS_ w68 a77 fun s78a s78l s78c=>
 (0:Int)≤s13.2.1∧s13.2.1<(s78l:Nat) ∧
 optM s78a fun a79=>
 cS_ w68 (a79.add (s13.2.1.toNat*1)) fun s80a s80l s80c=>
 (0:Int)≤s57.1∧s57.1<(s80l:Nat) ∧
 optM s80a fun a81=>
 ∃ p82:(OA),w68.cell? (a81.add (s57.1.toNat*1))=some (.pointer p82) ∧
 drM w68 fun w83=>
 newM #[.bool false,.slice none 0 0] N.t_bn_Int w83 fun p84 w85=>
 w85.cell? (a81.add (s57.1.toNat*1))=some (.pointer p82) ∧
 w85.cell? (a79.add (s13.2.1.toNat*1))=some (.slice s80a s80l s80c) ∧
 w85.cell? a77=some (.slice s78a s78l s78c) ∧
 w85.cell? (a75.add (s13.2.1.toNat*1))=some (.pointer p76) ∧
 w85.cell? (a73.add (s51.1.toNat*1))=some (.slice s74a s74l s74c) ∧
 w85.cell? a71=some (.slice s72a s72l s72c) ∧
 drM w85 fun w86=>
 CallsX P N.f_bI_Mul #[.pointer (some p84),.pointer p76,.pointer p82] w86 fun v88 w87=>
 ∃ p89:(OA),v88=(.pointer p89) ∧
 drM w87 fun w90=>
 CallsX P N.f_bI_Sub #[.pointer p70,.pointer p70,.pointer p89] w90 fun v92 w91=>
 ∃ p93:(OA),v92=(.pointer p93) ∧
 drM w91 fun w94=>
 optM q0 fun a95=>
 cS_ w94 a95 fun s96a s96l s96c=>
 (0:Int)≤s51.1∧s51.1<(s96l:Nat) ∧
 optM s96a fun a97=>
 cS_ w94 (a97.add (s51.1.toNat*1)) fun s98a s98l s98c=>
 drM w94 fun w99=>
 CallsX P N.f_bI_Quo #[.pointer p70,.pointer p70,.pointer s13.1] w99 fun v101 w100=>
 ∃ p102:(OA),v101=(.pointer p102) ∧
 w100.cell? (a97.add (s51.1.toNat*1))=some (.slice s98a s98l s98c) ∧
 w100.cell? a95=some (.slice s96a s96l s96c) ∧
 (0:Int)≤s57.1∧s57.1<(s98l:Nat) ∧
 optM s98a fun a103=>
 drM w100 fun w104=>
 stM (a103.add (s57.1.toNat*1)) (.pointer p102) w104 fun w105=>
 drM w105 fun w106=>
 X58 ((i64.wrap (s57.1+1)),()) w106)
 (J54 (()) w59))
 ((i64.wrap (s13.2.1+1)),()) w53)
 (fun s55 w56=>
 X52 ((i64.wrap (s51.1+1)),()) w56))
 (J48 (()) w53))
 ((i64.wrap (s13.2.1+1)),()) w43)
 (fun s49 w50=>
 X14 (p34,(i64.wrap (s13.2.1+1)),()) w50))))
 (J10 (()) w15))
 (p7,0,()) w9)
 (fun s11 w12=>
 cI_ w12 p8 fun n107=>
 cI_ w12 (p8.add 1) fun n108=>
 cI_ w12 (p8.add 2) fun n109=>
 stM p1 (.int .i64 n107) w12 fun w110=>
 stM (p1.add 1) (.int .i64 n108) w110 fun w111=>
 stM (p1.add 2) (.int .i64 n109) w111 fun w112=>
 cI_ w112 p1 fun n113=>
 cI_ w112 (p1.add 1) fun n114=>
 cI_ w112 (p1.add 2) fun n115=>
 K (.agg #[.int .i64 n113,.int .i64 n114,.int .i64 n115]) w112)
def S_p_inertia_rows_coefficients (N:Nums) (P:Program) (q0:OA) (w:World) (K:KV):Prop:=
 optM q0 fun a1=>
 cS_ w a1 fun s2a s2l s2c=>
 CallsX P N.f_bn_NewInt #[.int .i64 1] w fun v4 w3=>
 ∃ p5:(OA),v4=(.pointer p5) ∧
 newM #[.pointer p5] N.t_p_bn_Int w3 fun p6 w7=>
 mkM N.t_L_p_bn_Int 1 24 #[.slice none 0 0] (s2l:Int) (s2l:Int) w7 fun p8 w9=>
 cutM (σ:=Unit) (fun J10=>
 loopM (σ:=Int×Unit) (fun s13 X14 w15=>
 cond (decide (s13.1<(s2l:Int)))
 (cutM (σ:=Unit) (fun J16=>
 loopM (σ:=Int×Unit) (fun s19 X20 w21=>
 cond (decide (s19.1<(s2l:Int)))
 ((0:Int)≤s13.1∧s13.1<((s2l:Int).toNat:Nat) ∧
 cS_ w21 (p8.add (s13.1.toNat*1)) fun s22a s22l s22c=>
 newM #[.bool false,.slice none 0 0] N.t_bn_Int w21 fun p23 w24=>
 newM #[.pointer (some p23)] N.t_p_bn_Int w24 fun p25 w26=>
 appM N.t_p_bn_Int 1 8 #[.pointer none] s22a s22l s22c (some p25) 1 w26 fun s27a s27l s27c w28=>
 (0:Int)≤s13.1∧s13.1<((s2l:Int).toNat:Nat) ∧
 stM (p8.add (s13.1.toNat*1)) (.slice s27a s27l s27c) w28 fun w29=>
 X20 ((i64.wrap (s19.1+1)),()) w29)
 (J16 (()) w21))
 (0,()) w15)
 (fun s17 w18=>
 X14 ((i64.wrap (s13.1+1)),()) w18))
 (J10 (()) w15))
 (0,()) w9)
 (fun s11 w12=>
 cutM (σ:=(OA×Nat×Nat)×Unit) (fun J30=>
 loopM (σ:=(OA×Nat×Nat)×(OA×Nat×Nat)×Int×Unit) (fun s33 X34 w35=>
 cond (decide (s33.2.2.1<(s2l:Int)))
 (cutM (σ:=Unit) (fun J36=>
 loopM (σ:=Int×Unit) (fun s39 X40 w41=>
 cond (decide (s39.1<(s2l:Int)))
 ((0:Int)≤s39.1∧s39.1<(s33.2.1.2.1:Nat) ∧
 optM s33.2.1.1 fun a42=>
 cS_ w41 (a42.add (s39.1.toNat*1)) fun s43a s43l s43c=>
 (0:Int)≤s39.1∧s39.1<(s43l:Nat) ∧
 optM s43a fun a44=>
 ∃ p45:(OA),w41.cell? (a44.add (s39.1.toNat*1))=some (.pointer p45) ∧
 (0:Int)≤s39.1∧s39.1<(s33.2.1.2.1:Nat) ∧
 optM s33.2.1.1 fun a46=>
 cS_ w41 (a46.add (s39.1.toNat*1)) fun s47a s47l s47c=>
 (0:Int)≤s39.1∧s39.1<(s47l:Nat) ∧
 optM s47a fun a48=>
 ∃ p49:(OA),w41.cell? (a48.add (s39.1.toNat*1))=some (.pointer p49) ∧
 (0:Int)≤s33.2.2.1∧s33.2.2.1<(s33.1.2.1:Nat) ∧
 optM s33.1.1 fun a50=>
 ∃ p51:(OA),w41.cell? (a50.add (s33.2.2.1.toNat*1))=some (.pointer p51) ∧
 drM w41 fun w52=>
 CallsX P N.f_bI_Add #[.pointer p45,.pointer p49,.pointer p51] w52 fun v54 w53=>
 ∃ p55:(OA),v54=(.pointer p55) ∧
 drM w53 fun w56=>
 X40 ((i64.wrap (s39.1+1)),()) w56)
 (J36 (()) w41))
 (0,()) w35)
 (fun s37 w38=>
 mkM N.t_L_p_bn_Int 1 24 #[.slice none 0 0] (s2l:Int) (s2l:Int) w38 fun p57 w58=>
 newM #[.bool false,.slice none 0 0] N.t_bn_Int w58 fun p59 w60=>
 cutM (σ:=Unit) (fun J61=>
 loopM (σ:=Int×Unit) (fun s64 X65 w66=>
 cond (decide (s64.1<(s2l:Int)))
 (cutM (σ:=Unit) (fun J67=>
 loopM (σ:=Int×Unit) (fun s70 X71 w72=>
 cond (decide (s70.1<(s2l:Int)))
 (newM #[.bool false,.slice none 0 0] N.t_bn_Int w72 fun p73 w74=>
 newM #[.bool false,.slice none 0 0] N.t_bn_Int w74 fun p75 w76=>
 cutM (σ:=Unit) (fun J77=>
 loopM (σ:=Int×Unit) (fun s80 X81 w82=>
 cond (decide (s80.1<(s2l:Int)))
 (optM q0 fun a83=>
 cS_ w82 a83 fun s84a s84l s84c=>
 (0:Int)≤s64.1∧s64.1<(s84l:Nat) ∧
 optM s84a fun a85=>
 cS_ w82 (a85.add (s64.1.toNat*1)) fun s86a s86l s86c=>
 (0:Int)≤s80.1∧s80.1<(s86l:Nat) ∧
 optM s86a fun a87=>
 ∃ p88:(OA),w82.cell? (a87.add (s80.1.toNat*1))=some (.pointer p88) ∧
 (0:Int)≤s80.1∧s80.1<(s33.2.1.2.1:Nat) ∧
 optM s33.2.1.1 fun a89=>
 cS_ w82 (a89.add (s80.1.toNat*1)) fun s90a s90l s90c=>
 (0:Int)≤s70.1∧s70.1<(s90l:Nat) ∧
 optM s90a fun a91=>
 ∃ p92:(OA),w82.cell? (a91.add (s70.1.toNat*1))=some (.pointer p92) ∧
 drM w82 fun w93=>
 CallsX P N.f_bI_Mul #[.pointer (some p75),.pointer p88,.pointer p92] w93 fun v95 w94=>
 ∃ p96:(OA),v95=(.pointer p96) ∧
 drM w94 fun w97=>
 CallsX P N.f_bI_Add #[.pointer (some p73),.pointer (some p73),.pointer p96] w97 fun v99 w98=>
 ∃ p100:(OA),v99=(.pointer p100) ∧
 drM w98 fun w101=>
 X81 ((i64.wrap (s80.1+1)),()) w101)
 (J77 (()) w82))
 (0,()) w76)
 (fun s78 w79=>
 (0:Int)≤s64.1∧s64.1<((s2l:Int).toNat:Nat) ∧
 cS_ w79 (p57.add (s64.1.toNat*1)) fun s102a s102l s102c=>
 newM #[.pointer (some p73)] N.t_p_bn_Int w79 fun p103 w104=>
 appM N.t_p_bn_Int 1 8 #[.pointer none] s102a s102l s102c (some p103) 1 w104 fun s105a s105l s105c w106=>
 (0:Int)≤s64.1∧s64.1<((s2l:Int).toNat:Nat) ∧
 stM (p57.add (s64.1.toNat*1)) (.slice s105a s105l s105c) w106 fun w107=>
 X71 ((i64.wrap (s70.1+1)),()) w107))
 (J67 (()) w72))
 (0,()) w66)
 (fun s68 w69=>
 (0:Int)≤s64.1∧s64.1<((s2l:Int).toNat:Nat) ∧
 cS_ w69 (p57.add (s64.1.toNat*1)) fun s108a s108l s108c=>
 (0:Int)≤s64.1∧s64.1<(s108l:Nat) ∧
 optM s108a fun a109=>
 ∃ p110:(OA),w69.cell? (a109.add (s64.1.toNat*1))=some (.pointer p110) ∧
 CallsX P N.f_bI_Add #[.pointer (some p59),.pointer (some p59),.pointer p110] w69 fun v112 w111=>
 ∃ p113:(OA),v112=(.pointer p113) ∧
 X65 ((i64.wrap (s64.1+1)),()) w111))
 (J61 (()) w66))
 (0,()) w60)
 (fun s62 w63=>
 CallsX P N.f_bn_NewInt #[.int .i64 (i64.wrap (s33.2.2.1+1))] w63 fun v115 w114=>
 ∃ p116:(OA),v115=(.pointer p116) ∧
 CallsX P N.f_bI_Quo #[.pointer (some p59),.pointer (some p59),.pointer p116] w114 fun v118 w117=>
 ∃ p119:(OA),v118=(.pointer p119) ∧
 CallsX P N.f_bI_Neg #[.pointer (some p59),.pointer (some p59)] w117 fun v121 w120=>
 ∃ p122:(OA),v121=(.pointer p122) ∧
 newM #[.pointer p122] N.t_p_bn_Int w120 fun p123 w124=>
 appM N.t_p_bn_Int 1 8 #[.pointer none] s33.1.1 s33.1.2.1 s33.1.2.2 (some p123) 1 w124 fun s125a s125l s125c w126=>
 X34 ((s125a,s125l,s125c),((some p57),(s2l:Int).toNat,(s2l:Int).toNat),(i64.wrap (s33.2.2.1+1)),()) w126)))
 (J30 ((s33.1.1,s33.1.2.1,s33.1.2.2),()) w35))
 (((some p6),1,1),((some p8),(s2l:Int).toNat,(s2l:Int).toNat),0,()) w12)
 (fun s31 w32=>
 K (.slice s31.1.1 s31.1.2.1 s31.1.2.2) w32))
def S_inertia_told (N:Nums) (P:Program) (q0:OA) (q1:Int) (w:World) (K:KV):Prop:=
 newM #[.bool false,.slice none 0 0,.int .i64 0] N.t_Dyad w fun p1 w2=>
 CallsX P N.f_bI_Sign #[.pointer q0] w2 fun v4 w3=>
 ∃ n5,v4=(.int .i64 n5) ∧
 newM #[.bool false,.slice none 0 0,.int .i64 0] N.t_Dyad w3 fun p6 w7=>
 stM p6 (.bool (decide (n5<0))) w7 fun w8=>
 stM (p6.add 1) (.slice none 0 0) w8 fun w9=>
 stM (p6.add 2) (.int .i64 q1) w9 fun w10=>
 newM #[.bool false,.slice none 0 0] N.t_bn_Int w10 fun p11 w12=>
 CallsX P N.f_bI_Abs #[.pointer (some p11),.pointer q0] w12 fun v14 w13=>
 ∃ p15:(OA),v14=(.pointer p15) ∧
 cutM (σ:=Unit) (fun J16=>
 loopM (σ:=Unit) (fun s19 X20 w21=>
 CallsX P N.f_bI_Sign #[.pointer p15] w21 fun v23 w22=>
 ∃ n24,v23=(.int .i64 n24) ∧
 cond (decide (n24>0))
 (cS_ w22 (p6.add 1) fun s25a s25l s25c=>
 drM w22 fun w26=>
 CallsX P N.f_bI_Uint64 #[.pointer p15] w26 fun v28 w27=>
 ∃ n29,v28=(.int .u64 n29) ∧
 w27.cell? (p6.add 1)=some (.slice s25a s25l s25c) ∧
 drM w27 fun w30=>
 newM #[.int .u64 n29] N.t_uint64 w30 fun p31 w32=>
 w32.cell? (p6.add 1)=some (.slice s25a s25l s25c) ∧
 drM w32 fun w33=>
 appM N.t_uint64 1 8 #[.int .u64 0] s25a s25l s25c (some p31) 1 w33 fun s34a s34l s34c w35=>
 drM w35 fun w36=>
 stM (p6.add 1) (.slice s34a s34l s34c) w36 fun w37=>
 drM w37 fun w38=>
 CallsX P N.f_bI_Rsh #[.pointer p15,.pointer p15,.int .u64 64] w38 fun v40 w39=>
 ∃ p41:(OA),v40=(.pointer p41) ∧
 X20 (()) w39)
 (J16 (()) w22))
 (()) w13)
 (fun s17 w18=>
 cB_ w18 p6 fun b42=>
 cS_ w18 (p6.add 1) fun s43a s43l s43c=>
 cI_ w18 (p6.add 2) fun n44=>
 CallsX P N.f_dyad_Norm #[.agg #[.bool b42,.slice s43a s43l s43c,.int .i64 n44]] w18 fun v46 w45=>
 ∃ b47,∃ s48a s48l s48c,∃ n49,∃ n50,v46=(.tuple #[.agg #[.bool b47,.slice s48a s48l s48c,.int .i64 n49],.int .i64 n50]) ∧
 stM p1 (.bool b47) w45 fun w51=>
 stM (p1.add 1) (.slice s48a s48l s48c) w51 fun w52=>
 stM (p1.add 2) (.int .i64 n49) w52 fun w53=>
 cB_ w53 p1 fun b54=>
 cS_ w53 (p1.add 1) fun s55a s55l s55c=>
 cI_ w53 (p1.add 2) fun n56=>
 K (.tuple #[.agg #[.bool b54,.slice s55a s55l s55c,.int .i64 n56],.int .i64 n50]) w53)
def S_slices_Reverse___api_Dyad_api_Dyad (N:Nums) (P:Program) (q0:OA) (qg qk:Nat) (w:World) (K:KV):Prop:=
 cutM (σ:=Unit) (fun J1=>
 loopM (σ:=Int×Int×Unit) (fun s4 X5 w6=>
 cond (decide (s4.1<s4.2.1))
 ((0:Int)≤s4.2.1∧s4.2.1<(qg:Nat) ∧
 optM q0 fun a7=>
 cB_ w6 (a7.add (s4.2.1.toNat*3)) fun b8=>
 cS_ w6 ((a7.add (s4.2.1.toNat*3)).add 1) fun s9a s9l s9c=>
 cI_ w6 ((a7.add (s4.2.1.toNat*3)).add 2) fun n10=>
 (0:Int)≤s4.1∧s4.1<(qg:Nat) ∧
 optM q0 fun a11=>
 cB_ w6 (a11.add (s4.1.toNat*3)) fun b12=>
 cS_ w6 ((a11.add (s4.1.toNat*3)).add 1) fun s13a s13l s13c=>
 cI_ w6 ((a11.add (s4.1.toNat*3)).add 2) fun n14=>
 (0:Int)≤s4.1∧s4.1<(qg:Nat) ∧
 optM q0 fun a15=>
 drM w6 fun w16=>
 stM (a15.add (s4.1.toNat*3)) (.bool b8) w16 fun w17=>
 stM ((a15.add (s4.1.toNat*3)).add 1) (.slice s9a s9l s9c) w17 fun w18=>
 stM ((a15.add (s4.1.toNat*3)).add 2) (.int .i64 n10) w18 fun w19=>
 (0:Int)≤s4.2.1∧s4.2.1<(qg:Nat) ∧
 optM q0 fun a20=>
 drM w19 fun w21=>
 stM (a20.add (s4.2.1.toNat*3)) (.bool b12) w21 fun w22=>
 stM ((a20.add (s4.2.1.toNat*3)).add 1) (.slice s13a s13l s13c) w22 fun w23=>
 stM ((a20.add (s4.2.1.toNat*3)).add 2) (.int .i64 n14) w23 fun w24=>
 drM w24 fun w25=>
 X5 ((i64.wrap (s4.1+1)),(i64.wrap (s4.2.1-1)),()) w25)
 (J1 (()) w6))
 (0,(i64.wrap ((qg:Int)-1)),()) w)
 (fun s2 w3=>
 K (.tuple #[]) w3)
def S_k_SameDyad (N:Nums) (P:Program) (qf:Bool) (qe:OA) (qb qd:Nat) (qh:Int) (qp:Bool) (qo:OA) (qi qj:Nat) (qt:Int) (w:World) (K:KV):Prop:=
 newM #[.bool qf,.slice qe qb qd,.int .i64 qh] N.t_Dyad w fun p1 w2=>
 newM #[.bool qp,.slice qo qi qj,.int .i64 qt] N.t_Dyad w2 fun p3 w4=>
 cB_ w4 p1 fun b5=>
 cB_ w4 p3 fun b6=>
 cond (b5==b6)
 (cS_ w4 (p1.add 1) fun s7a s7l s7c=>
 cS_ w4 (p3.add 1) fun s8a s8l s8c=>
 CallsX P N.f_k_SameLimbs #[.slice s7a s7l s7c,.slice s8a s8l s8c] w4 fun v10 w9=>
 vB_ v10 fun b11=>
 cond b11
 (cI_ w9 (p1.add 2) fun n12=>
 cI_ w9 (p3.add 2) fun n13=>
 K (.bool (n12==n13)) w9)
 (K (.bool false) w9))
 (K (.bool false) w4)
def S_r02_Told (N:Nums) (P:Program) (qf:Bool) (qe:OA) (qb qd:Nat) (qh:Int) (w:World) (K:KV):Prop:=
 newM #[.bool qf,.slice qe qb qd,.int .i64 qh] N.t_r02_Num w fun p1 w2=>
 newM #[.bool false,.slice none 0 0,.int .i64 0] N.t_Dyad w2 fun p3 w4=>
 cB_ w4 p1 fun b5=>
 cS_ w4 (p1.add 1) fun s6a s6l s6c=>
 cI_ w4 (p1.add 2) fun n7=>
 CallsX P N.f_r02_Norm #[.agg #[.bool b5,.slice s6a s6l s6c,.int .i64 n7]] w4 fun v9 w8=>
 ∃ b10,∃ s11a s11l s11c,∃ n12,∃ n13,v9=(.tuple #[.agg #[.bool b10,.slice s11a s11l s11c,.int .i64 n12],.int .i64 n13]) ∧
 stM p3 (.bool b10) w8 fun w14=>
 stM (p3.add 1) (.slice s11a s11l s11c) w14 fun w15=>
 stM (p3.add 2) (.int .i64 n12) w15 fun w16=>
 cB_ w16 p3 fun b17=>
 cS_ w16 (p3.add 1) fun s18a s18l s18c=>
 cI_ w16 (p3.add 2) fun n19=>
 K (.tuple #[.agg #[.bool b17,.slice s18a s18l s18c,.int .i64 n19],.int .i64 n13]) w16
def S_r02_Whole (N:Nums) (P:Program) (q0:Int) (w:World) (K:KV):Prop:=
 newM #[.bool false,.slice none 0 0,.int .i64 0] N.t_r02_Num w fun p1 w2=>
 newM #[.bool false,.slice none 0 0,.int .i64 0] N.t_r02_Num w2 fun p3 w4=>
 stM p3 (.bool (decide (q0<0))) w4 fun w5=>
 stM (p3.add 1) (.slice none 0 0) w5 fun w6=>
 stM (p3.add 2) (.int .i64 0) w6 fun w7=>
 cutM (σ:=Int×Unit) (fun J8=>
 cond (decide (q0<0))
 (J8 ((u64.wrap (0-(u64.wrap q0))),()) w7)
 (J8 ((u64.wrap q0),()) w7))
 (fun s9 w10=>
 CallsX P N.f_r02_NatOf #[.int .u64 s9.1] w10 fun v12 w11=>
 vS_ v12 fun s13a s13l s13c=>
 stM (p3.add 1) (.slice s13a s13l s13c) w11 fun w14=>
 cB_ w14 p3 fun b15=>
 cS_ w14 (p3.add 1) fun s16a s16l s16c=>
 cI_ w14 (p3.add 2) fun n17=>
 stM p1 (.bool b15) w14 fun w18=>
 stM (p1.add 1) (.slice s16a s16l s16c) w18 fun w19=>
 stM (p1.add 2) (.int .i64 n17) w19 fun w20=>
 cB_ w20 p1 fun b21=>
 cS_ w20 (p1.add 1) fun s22a s22l s22c=>
 cI_ w20 (p1.add 2) fun n23=>
 K (.agg #[.bool b21,.slice s22a s22l s22c,.int .i64 n23]) w20)
def S_r02_Right (N:Nums) (P:Program) (qf:Bool) (qe:OA) (qb qd:Nat) (qh:Int) (w:World) (K:KV):Prop:=
 newM #[.bool qf,.slice qe qb qd,.int .i64 qh] N.t_Dyad w fun p1 w2=>
 cS_ w2 (p1.add 1) fun s3a s3l s3c=>
 cond ((s3l:Int)==0)
 (cB_ w2 p1 fun b4=>
 cond (!b4)
 (cI_ w2 (p1.add 2) fun n5=>
 K (.bool (n5==0)) w2)
 (K (.bool false) w2))
 (cS_ w2 (p1.add 1) fun s6a s6l s6c=>
 cond (decide ((s6l:Int)≤256))
 (cS_ w2 (p1.add 1) fun s7a s7l s7c=>
 cS_ w2 (p1.add 1) fun s8a s8l s8c=>
 (0:Int)≤(i64.wrap ((s8l:Int)-1))∧(i64.wrap ((s8l:Int)-1))<(s7l:Nat) ∧
 optM s7a fun a9=>
 ∃ n10,w2.cell? (a9.add ((i64.wrap ((s8l:Int)-1)).toNat*1))=some (.int .u64 n10) ∧
 cond (n10 != 0)
 (cS_ w2 (p1.add 1) fun s11a s11l s11c=>
 (0:Int)≤(0:Int)∧(0:Int)<(s11l:Nat) ∧
 optM s11a fun a12=>
 cU_ w2 (a12.add ((0:Int).toNat*1)) fun n13=>
 (2:Int)≠0 ∧
 cond ((n13.tmod 2)==1)
 (cI_ w2 (p1.add 2) fun n14=>
 cond (decide (n14≥(-65536)))
 (cI_ w2 (p1.add 2) fun n15=>
 K (.bool (decide (n15≤65536))) w2)
 (K (.bool false) w2))
 (K (.bool false) w2))
 (K (.bool false) w2))
 (K (.bool false) w2))
def S_r02_far (N:Nums) (P:Program) (qf:Bool) (qe:OA) (qb qd:Nat) (qh:Int) (qp:Bool) (qo:OA) (qi qj:Nat) (qt:Int) (w:World) (K:KV):Prop:=
 newM #[.bool qf,.slice qe qb qd,.int .i64 qh] N.t_Dyad w fun p1 w2=>
 newM #[.bool qp,.slice qo qi qj,.int .i64 qt] N.t_Dyad w2 fun p3 w4=>
 cS_ w4 (p1.add 1) fun s5a s5l s5c=>
 cond (!((s5l:Int)==0))
 (cS_ w4 (p3.add 1) fun s6a s6l s6c=>
 cond ((s6l:Int)==0)
 (K (.bool false) w4)
 (cI_ w4 (p1.add 2) fun n7=>
 cI_ w4 (p3.add 2) fun n8=>
 cond (!(decide ((i64.wrap (n7-n8))>16385)))
 (cI_ w4 (p3.add 2) fun n9=>
 cI_ w4 (p1.add 2) fun n10=>
 K (.bool (decide ((i64.wrap (n9-n10))>16385))) w4)
 (K (.bool true) w4)))
 (K (.bool false) w4)
def S_r02_Plus (N:Nums) (P:Program) (qf:Bool) (qe:OA) (qb qd:Nat) (qh:Int) (qp:Bool) (qo:OA) (qi qj:Nat) (qt:Int) (w:World) (K:KV):Prop:=
 newM #[.bool qf,.slice qe qb qd,.int .i64 qh] N.t_r02_Num w fun p1 w2=>
 newM #[.bool qp,.slice qo qi qj,.int .i64 qt] N.t_r02_Num w2 fun p3 w4=>
 newM #[.bool false,.slice none 0 0,.int .i64 0] N.t_r02_Num w4 fun p5 w6=>
 cB_ w6 p1 fun b7=>
 cS_ w6 (p1.add 1) fun s8a s8l s8c=>
 cI_ w6 (p1.add 2) fun n9=>
 CallsX P N.f_r02_Num_Zero #[.agg #[.bool b7,.slice s8a s8l s8c,.int .i64 n9]] w6 fun v11 w10=>
 vB_ v11 fun b12=>
 cond b12
 (cB_ w10 p3 fun b13=>
 cS_ w10 (p3.add 1) fun s14a s14l s14c=>
 cI_ w10 (p3.add 2) fun n15=>
 stM p5 (.bool b13) w10 fun w16=>
 stM (p5.add 1) (.slice s14a s14l s14c) w16 fun w17=>
 stM (p5.add 2) (.int .i64 n15) w17 fun w18=>
 cB_ w18 p5 fun b19=>
 cS_ w18 (p5.add 1) fun s20a s20l s20c=>
 cI_ w18 (p5.add 2) fun n21=>
 K (.agg #[.bool b19,.slice s20a s20l s20c,.int .i64 n21]) w18)
 (cB_ w10 p3 fun b22=>
 cS_ w10 (p3.add 1) fun s23a s23l s23c=>
 cI_ w10 (p3.add 2) fun n24=>
 CallsX P N.f_r02_Num_Zero #[.agg #[.bool b22,.slice s23a s23l s23c,.int .i64 n24]] w10 fun v26 w25=>
 vB_ v26 fun b27=>
 cond b27
 (cB_ w25 p1 fun b28=>
 cS_ w25 (p1.add 1) fun s29a s29l s29c=>
 cI_ w25 (p1.add 2) fun n30=>
 stM p5 (.bool b28) w25 fun w31=>
 stM (p5.add 1) (.slice s29a s29l s29c) w31 fun w32=>
 stM (p5.add 2) (.int .i64 n30) w32 fun w33=>
 cB_ w33 p5 fun b34=>
 cS_ w33 (p5.add 1) fun s35a s35l s35c=>
 cI_ w33 (p5.add 2) fun n36=>
 K (.agg #[.bool b34,.slice s35a s35l s35c,.int .i64 n36]) w33)
 (cI_ w25 (p1.add 2) fun n37=>
 cI_ w25 (p3.add 2) fun n38=>
 cond (decide (n37>n38))
 (cB_ w25 p3 fun b39=>
 cS_ w25 (p3.add 1) fun s40a s40l s40c=>
 cI_ w25 (p3.add 2) fun n41=>
 cB_ w25 p1 fun b42=>
 cS_ w25 (p1.add 1) fun s43a s43l s43c=>
 cI_ w25 (p1.add 2) fun n44=>
 CallsX P N.f_r02_Plus #[.agg #[.bool b39,.slice s40a s40l s40c,.int .i64 n41],.agg #[.bool b42,.slice s43a s43l s43c,.int .i64 n44]] w25 fun v46 w45=>
 ∃ b47,∃ s48a s48l s48c,∃ n49,v46=(.agg #[.bool b47,.slice s48a s48l s48c,.int .i64 n49]) ∧
 stM p5 (.bool b47) w45 fun w50=>
 stM (p5.add 1) (.slice s48a s48l s48c) w50 fun w51=>
 stM (p5.add 2) (.int .i64 n49) w51 fun w52=>
 cB_ w52 p5 fun b53=>
 cS_ w52 (p5.add 1) fun s54a s54l s54c=>
 cI_ w52 (p5.add 2) fun n55=>
 K (.agg #[.bool b53,.slice s54a s54l s54c,.int .i64 n55]) w52)
 (cS_ w25 (p1.add 1) fun s56a s56l s56c=>
 cS_ w25 (p3.add 1) fun s57a s57l s57c=>
 cI_ w25 (p3.add 2) fun n58=>
 cI_ w25 (p1.add 2) fun n59=>
 CallsX P N.f_r02_NatUp #[.slice s57a s57l s57c,.int .i64 (i64.wrap (n58-n59))] w25 fun v61 w60=>
 vS_ v61 fun s62a s62l s62c=>
 cB_ w60 p1 fun b63=>
 cB_ w60 p3 fun b64=>
 cond (b63==b64)
 (cB_ w60 p1 fun b65=>
 cI_ w60 (p1.add 2) fun n66=>
 drM w60 fun w67=>
 CallsX P N.f_r02_NatAdd #[.slice s56a s56l s56c,.slice s62a s62l s62c] w67 fun v69 w68=>
 vS_ v69 fun s70a s70l s70c=>
 w68.cell? (p1.add 2)=some (.int .i64 n66) ∧
 w68.cell? p1=some (.bool b65) ∧
 drM w68 fun w71=>
 stM p5 (.bool b65) w71 fun w72=>
 stM (p5.add 1) (.slice s70a s70l s70c) w72 fun w73=>
 stM (p5.add 2) (.int .i64 n66) w73 fun w74=>
 drM w74 fun w75=>
 cB_ w75 p5 fun b76=>
 cS_ w75 (p5.add 1) fun s77a s77l s77c=>
 cI_ w75 (p5.add 2) fun n78=>
 K (.agg #[.bool b76,.slice s77a s77l s77c,.int .i64 n78]) w75)
 (CallsX P N.f_r02_NatCmp #[.slice s56a s56l s56c,.slice s62a s62l s62c] w60 fun v80 w79=>
 ∃ n81,v80=(.int .i64 n81) ∧
 cond (decide (n81≥0))
 (cB_ w79 p1 fun b82=>
 cI_ w79 (p1.add 2) fun n83=>
 drM w79 fun w84=>
 CallsX P N.f_r02_NatSub #[.slice s56a s56l s56c,.slice s62a s62l s62c] w84 fun v86 w85=>
 vS_ v86 fun s87a s87l s87c=>
 w85.cell? (p1.add 2)=some (.int .i64 n83) ∧
 w85.cell? p1=some (.bool b82) ∧
 drM w85 fun w88=>
 stM p5 (.bool b82) w88 fun w89=>
 stM (p5.add 1) (.slice s87a s87l s87c) w89 fun w90=>
 stM (p5.add 2) (.int .i64 n83) w90 fun w91=>
 drM w91 fun w92=>
 cB_ w92 p5 fun b93=>
 cS_ w92 (p5.add 1) fun s94a s94l s94c=>
 cI_ w92 (p5.add 2) fun n95=>
 K (.agg #[.bool b93,.slice s94a s94l s94c,.int .i64 n95]) w92)
 (cB_ w79 p3 fun b96=>
 cI_ w79 (p1.add 2) fun n97=>
 drM w79 fun w98=>
 CallsX P N.f_r02_NatSub #[.slice s62a s62l s62c,.slice s56a s56l s56c] w98 fun v100 w99=>
 vS_ v100 fun s101a s101l s101c=>
 w99.cell? (p1.add 2)=some (.int .i64 n97) ∧
 w99.cell? p3=some (.bool b96) ∧
 drM w99 fun w102=>
 stM p5 (.bool b96) w102 fun w103=>
 stM (p5.add 1) (.slice s101a s101l s101c) w103 fun w104=>
 stM (p5.add 2) (.int .i64 n97) w104 fun w105=>
 drM w105 fun w106=>
 cB_ w106 p5 fun b107=>
 cS_ w106 (p5.add 1) fun s108a s108l s108c=>
 cI_ w106 (p5.add 2) fun n109=>
 K (.agg #[.bool b107,.slice s108a s108l s108c,.int .i64 n109]) w106)))))
def S_r02_Dyad (N:Nums) (P:Program) (qf:Bool) (qe:OA) (qb qd:Nat) (qh:Int) (w:World) (K:KV):Prop:=
 newM #[.bool qf,.slice qe qb qd,.int .i64 qh] N.t_Dyad w fun p1 w2=>
 newM #[.bool false,.slice none 0 0,.int .i64 0] N.t_r02_Num w2 fun p3 w4=>
 cB_ w4 p1 fun b5=>
 cS_ w4 (p1.add 1) fun s6a s6l s6c=>
 cI_ w4 (p1.add 2) fun n7=>
 drM w4 fun w8=>
 CallsX P N.f_r02_NatTrim #[.slice s6a s6l s6c] w8 fun v10 w9=>
 vS_ v10 fun s11a s11l s11c=>
 w9.cell? (p1.add 2)=some (.int .i64 n7) ∧
 w9.cell? p1=some (.bool b5) ∧
 drM w9 fun w12=>
 stM p3 (.bool b5) w12 fun w13=>
 stM (p3.add 1) (.slice s11a s11l s11c) w13 fun w14=>
 stM (p3.add 2) (.int .i64 n7) w14 fun w15=>
 drM w15 fun w16=>
 cB_ w16 p3 fun b17=>
 cS_ w16 (p3.add 1) fun s18a s18l s18c=>
 cI_ w16 (p3.add 2) fun n19=>
 K (.agg #[.bool b17,.slice s18a s18l s18c,.int .i64 n19]) w16
def S_dyad_made (N:Nums) (P:Program) (q0:OA) (q1:Int) (w:World) (K:KV):Prop:=
 newM #[.bool false,.slice none 0 0,.int .i64 0] N.t_Dyad w fun p1 w2=>
 CallsX P N.f_bI_Sign #[.pointer q0] w2 fun v4 w3=>
 ∃ n5,v4=(.int .i64 n5) ∧
 cond (n5==0)
 (stM p1 (.bool false) w3 fun w6=>
 stM (p1.add 1) (.slice none 0 0) w6 fun w7=>
 stM (p1.add 2) (.int .i64 0) w7 fun w8=>
 cB_ w8 p1 fun b9=>
 cS_ w8 (p1.add 1) fun s10a s10l s10c=>
 cI_ w8 (p1.add 2) fun n11=>
 K (.tuple #[.agg #[.bool b9,.slice s10a s10l s10c,.int .i64 n11],.int .i64 0]) w8)
 (CallsX P N.f_bI_TrailingZeroBits #[.pointer q0] w3 fun v13 w12=>
 ∃ n14,v13=(.int .u64 n14) ∧
 cond (decide (q1>65536))
 (stM p1 (.bool false) w12 fun w15=>
 stM (p1.add 1) (.slice none 0 0) w15 fun w16=>
 stM (p1.add 2) (.int .i64 0) w16 fun w17=>
 cB_ w17 p1 fun b18=>
 cS_ w17 (p1.add 1) fun s19a s19l s19c=>
 cI_ w17 (p1.add 2) fun n20=>
 K (.tuple #[.agg #[.bool b18,.slice s19a s19l s19c,.int .i64 n20],.int .i64 3]) w17)
 (cond (decide (q1<(i64.wrap ((-65536)-(i64.wrap n14)))))
 (stM p1 (.bool false) w12 fun w21=>
 stM (p1.add 1) (.slice none 0 0) w21 fun w22=>
 stM (p1.add 2) (.int .i64 0) w22 fun w23=>
 cB_ w23 p1 fun b24=>
 cS_ w23 (p1.add 1) fun s25a s25l s25c=>
 cI_ w23 (p1.add 2) fun n26=>
 K (.tuple #[.agg #[.bool b24,.slice s25a s25l s25c,.int .i64 n26],.int .i64 3]) w23)
 (cond (decide ((i64.wrap (q1+(i64.wrap n14)))>65536))
 (stM p1 (.bool false) w12 fun w27=>
 stM (p1.add 1) (.slice none 0 0) w27 fun w28=>
 stM (p1.add 2) (.int .i64 0) w28 fun w29=>
 cB_ w29 p1 fun b30=>
 cS_ w29 (p1.add 1) fun s31a s31l s31c=>
 cI_ w29 (p1.add 2) fun n32=>
 K (.tuple #[.agg #[.bool b30,.slice s31a s31l s31c,.int .i64 n32],.int .i64 3]) w29)
 (CallsX P N.f_bI_BitLen #[.pointer q0] w12 fun v34 w33=>
 ∃ n35,v34=(.int .i64 n35) ∧
 cond (decide ((i64.wrap (n35-(i64.wrap n14)))>16384))
 (stM p1 (.bool false) w33 fun w36=>
 stM (p1.add 1) (.slice none 0 0) w36 fun w37=>
 stM (p1.add 2) (.int .i64 0) w37 fun w38=>
 cB_ w38 p1 fun b39=>
 cS_ w38 (p1.add 1) fun s40a s40l s40c=>
 cI_ w38 (p1.add 2) fun n41=>
 K (.tuple #[.agg #[.bool b39,.slice s40a s40l s40c,.int .i64 n41],.int .i64 3]) w38)
 (CallsX P N.f_bI_Sign #[.pointer q0] w33 fun v43 w42=>
 ∃ n44,v43=(.int .i64 n44) ∧
 newM #[.bool false,.slice none 0 0] N.t_bn_Int w42 fun p45 w46=>
 newM #[.bool false,.slice none 0 0] N.t_bn_Int w46 fun p47 w48=>
 CallsX P N.f_bI_Abs #[.pointer (some p47),.pointer q0] w48 fun v50 w49=>
 ∃ p51:(OA),v50=(.pointer p51) ∧
 CallsX P N.f_bI_Rsh #[.pointer (some p45),.pointer p51,.int .u64 (u64.wrap (i64.wrap n14))] w49 fun v53 w52=>
 ∃ p54:(OA),v53=(.pointer p54) ∧
 CallsX P N.f_dyad_limbs #[.pointer p54] w52 fun v56 w55=>
 vS_ v56 fun s57a s57l s57c=>
 stM p1 (.bool (decide (n44<0))) w55 fun w58=>
 stM (p1.add 1) (.slice s57a s57l s57c) w58 fun w59=>
 stM (p1.add 2) (.int .i64 (i64.wrap (q1+(i64.wrap n14)))) w59 fun w60=>
 cB_ w60 p1 fun b61=>
 cS_ w60 (p1.add 1) fun s62a s62l s62c=>
 cI_ w60 (p1.add 2) fun n63=>
 K (.tuple #[.agg #[.bool b61,.slice s62a s62l s62c,.int .i64 n63],.int .i64 0]) w60)))))
def S_dyad_whole (N:Nums) (P:Program) (qf:Bool) (qe:OA) (qb qd:Nat) (qh:Int) (w:World) (K:KV):Prop:=
 newM #[.bool qf,.slice qe qb qd,.int .i64 qh] N.t_Dyad w fun p1 w2=>
 newM #[.bool false,.slice none 0 0] N.t_bn_Int w2 fun p3 w4=>
 cS_ w4 (p1.add 1) fun s5a s5l s5c=>
 cutM (σ:=Unit) (fun J6=>
 loopM (σ:=Int×Unit) (fun s9 X10 w11=>
 cond (decide (s9.1<(s5l:Int)))
 (CallsX P N.f_bI_Lsh #[.pointer (some p3),.pointer (some p3),.int .u64 64] w11 fun v13 w12=>
 ∃ p14:(OA),v13=(.pointer p14) ∧
 newM #[.bool false,.slice none 0 0] N.t_bn_Int w12 fun p15 w16=>
 cS_ w16 (p1.add 1) fun s17a s17l s17c=>
 cS_ w16 (p1.add 1) fun s18a s18l s18c=>
 (0:Int)≤(i64.wrap ((i64.wrap ((s18l:Int)-1))-s9.1))∧(i64.wrap ((i64.wrap ((s18l:Int)-1))-s9.1))<(s17l:Nat) ∧
 optM s17a fun a19=>
 ∃ n20,w16.cell? (a19.add ((i64.wrap ((i64.wrap ((s18l:Int)-1))-s9.1)).toNat*1))=some (.int .u64 n20) ∧
 CallsX P N.f_bI_SetUint64 #[.pointer (some p15),.int .u64 n20] w16 fun v22 w21=>
 ∃ p23:(OA),v22=(.pointer p23) ∧
 CallsX P N.f_bI_Or #[.pointer (some p3),.pointer (some p3),.pointer p23] w21 fun v25 w24=>
 ∃ p26:(OA),v25=(.pointer p26) ∧
 X10 ((i64.wrap (s9.1+1)),()) w24)
 (J6 (()) w11))
 (0,()) w4)
 (fun s7 w8=>
 cB_ w8 p1 fun b27=>
 cutM (σ:=Unit) (fun J28=>
 cond b27
 (CallsX P N.f_bI_Neg #[.pointer (some p3),.pointer (some p3)] w8 fun v32 w31=>
 ∃ p33:(OA),v32=(.pointer p33) ∧
 J28 (()) w31)
 (J28 (()) w8))
 (fun s29 w30=>
 K (.pointer (some p3)) w30))
def S_bn_NewInt (N:Nums) (P:Program) (q0:Int) (w:World) (K:KV):Prop:=
 newM #[.bool false,.slice none 0 0] N.t_bn_Int w fun p1 w2=>
 CallsX P N.f_bI_SetInt64 #[.pointer (some p1),.int .i64 q0] w2 fun v4 w3=>
 ∃ p5:(OA),v4=(.pointer p5) ∧
 K (.pointer p5) w3
def S_inertia_Right (N:Nums) (P:Program) (qf:Int) (qe:Int) (qh:OA) (qu qw:Nat) (w:World) (K:KV):Prop:=
 newM #[.int .i64 qf,.int .i64 qe,.slice qh qu qw] N.t_Dyads w fun p1 w2=>
 cI_ w2 p1 fun n3=>
 CallsX P N.f_inertia_fits #[.int .i64 n3] w2 fun v5 w4=>
 vB_ v5 fun b6=>
 cond b6
 (cI_ w4 (p1.add 1) fun n7=>
 CallsX P N.f_inertia_fits #[.int .i64 n7] w4 fun v9 w8=>
 vB_ v9 fun b10=>
 cond b10
 (cS_ w8 (p1.add 2) fun s11a s11l s11c=>
 cI_ w8 p1 fun n12=>
 cI_ w8 (p1.add 1) fun n13=>
 cond ((s11l:Int)==(i64.wrap (n12*n13)))
 (cS_ w8 (p1.add 2) fun s14a s14l s14c=>
 CallsX P N.f_slices_ContainsFunc___api_Dyad_api_Dyad #[.slice s14a s14l s14c,.func (.func N.f_inertia_Right_1) #[] #[]] w8 fun v16 w15=>
 vB_ v16 fun b17=>
 K (.bool (!b17)) w15)
 (K (.bool false) w8))
 (K (.bool false) w8))
 (K (.bool false) w4)
def S_dyad_Sign (N:Nums) (P:Program) (qf:Bool) (qe:OA) (qb qd:Nat) (qh:Int) (w:World) (K:KV):Prop:=
 newM #[.bool qf,.slice qe qb qd,.int .i64 qh] N.t_Dyad w fun p1 w2=>
 cB_ w2 p1 fun b3=>
 cS_ w2 (p1.add 1) fun s4a s4l s4c=>
 cI_ w2 (p1.add 2) fun n5=>
 CallsX P N.f_dyad_Right #[.agg #[.bool b3,.slice s4a s4l s4c,.int .i64 n5]] w2 fun v7 w6=>
 vB_ v7 fun b8=>
 cond (!b8)
 (K (.tuple #[.int .i64 0,.int .i64 2]) w6)
 (cS_ w6 (p1.add 1) fun s9a s9l s9c=>
 cond ((s9l:Int)==0)
 (K (.tuple #[.int .i64 0,.int .i64 0]) w6)
 (cB_ w6 p1 fun b10=>
 cond b10
 (K (.tuple #[.int .i64 (-1),.int .i64 0]) w6)
 (K (.tuple #[.int .i64 1,.int .i64 0]) w6)))
def S_bI_Sign (N:Nums) (P:Program) (q0:OA) (w:World) (K:KV):Prop:=
 optM q0 fun a1=>
 cS_ w (a1.add 1) fun s2a s2l s2c=>
 cond ((s2l:Int)==0)
 (K (.int .i64 0) w)
 (optM q0 fun a3=>
 cB_ w a3 fun b4=>
 cond b4
 (K (.int .i64 (-1)) w)
 (K (.int .i64 1) w))
def S_bI_Add (N:Nums) (P:Program) (q0:OA) (q1:OA) (q2:OA) (w:World) (K:KV):Prop:=
 optM q1 fun a1=>
 cB_ w a1 fun b2=>
 optM q1 fun a3=>
 cS_ w (a3.add 1) fun s4a s4l s4c=>
 optM q2 fun a5=>
 cB_ w a5 fun b6=>
 optM q2 fun a7=>
 cS_ w (a7.add 1) fun s8a s8l s8c=>
 drM w fun w9=>
 CallsX P N.f_bn_sum #[.bool b2,.slice s4a s4l s4c,.bool b6,.slice s8a s8l s8c] w9 fun v11 w10=>
 ∃ b12,∃ s13a s13l s13c,v11=(.tuple #[.bool b12,.slice s13a s13l s13c]) ∧
 drM w10 fun w14=>
 CallsX P N.f_bI_give #[.pointer q0,.bool b12,.slice s13a s13l s13c] w14 fun v16 w15=>
 ∃ p17:(OA),v16=(.pointer p17) ∧
 drM w15 fun w18=>
 K (.pointer p17) w18
def S_bI_Lsh (N:Nums) (P:Program) (q0:OA) (q1:OA) (q2:Int) (w:World) (K:KV):Prop:=
 optM q1 fun a1=>
 cB_ w a1 fun b2=>
 optM q1 fun a3=>
 cS_ w (a3.add 1) fun s4a s4l s4c=>
 drM w fun w5=>
 CallsX P N.f_bn_left #[.slice s4a s4l s4c,.int .u64 q2] w5 fun v7 w6=>
 vS_ v7 fun s8a s8l s8c=>
 w6.cell? a1=some (.bool b2) ∧
 drM w6 fun w9=>
 CallsX P N.f_bI_give #[.pointer q0,.bool b2,.slice s8a s8l s8c] w9 fun v11 w10=>
 ∃ p12:(OA),v11=(.pointer p12) ∧
 drM w10 fun w13=>
 K (.pointer p12) w13
def S_dyad_top (N:Nums) (P:Program) (qf:Bool) (qe:OA) (qb qd:Nat) (qh:Int) (w:World) (K:KV):Prop:=
 newM #[.bool qf,.slice qe qb qd,.int .i64 qh] N.t_Dyad w fun p1 w2=>
 cS_ w2 (p1.add 1) fun s3a s3l s3c=>
 cI_ w2 (p1.add 2) fun n4=>
 cS_ w2 (p1.add 1) fun s5a s5l s5c=>
 (0:Int)≤(i64.wrap ((s3l:Int)-1))∧(i64.wrap ((s3l:Int)-1))<(s5l:Nat) ∧
 optM s5a fun a6=>
 ∃ n7,w2.cell? (a6.add ((i64.wrap ((s3l:Int)-1)).toNat*1))=some (.int .u64 n7) ∧
 drM w2 fun w8=>
 CallsX P N.f_math_bits_Len64 #[.int .u64 n7] w8 fun v10 w9=>
 ∃ n11,v10=(.int .i64 n11) ∧
 w9.cell? (p1.add 2)=some (.int .i64 n4) ∧
 drM w9 fun w12=>
 K (.int .i64 (i64.wrap ((i64.wrap (n4+(i64.wrap (64*(i64.wrap ((s3l:Int)-1))))))+n11))) w12
def S_bI_Cmp (N:Nums) (P:Program) (q0:OA) (q1:OA) (w:World) (K:KV):Prop:=
 optM q0 fun a1=>
 cB_ w a1 fun b2=>
 optM q1 fun a3=>
 cB_ w a3 fun b4=>
 drM w fun w5=>
 cond (!(b2==b4))
 (optM q0 fun a6=>
 cB_ w5 a6 fun b7=>
 cond b7
 (K (.int .i64 (-1)) w5)
 (K (.int .i64 1) w5))
 (optM q0 fun a8=>
 cS_ w5 (a8.add 1) fun s9a s9l s9c=>
 optM q1 fun a10=>
 cS_ w5 (a10.add 1) fun s11a s11l s11c=>
 drM w5 fun w12=>
 CallsX P N.f_bn_cmp #[.slice s9a s9l s9c,.slice s11a s11l s11c] w12 fun v14 w13=>
 ∃ n15,v14=(.int .i64 n15) ∧
 drM w13 fun w16=>
 optM q0 fun a17=>
 cB_ w16 a17 fun b18=>
 cond b18
 (K (.int .i64 (i64.wrap (0-n15))) w16)
 (K (.int .i64 n15) w16))
def S_slices_Clone___api_Dyad_api_Dyad (N:Nums) (P:Program) (q0:OA) (qg qk:Nat) (w:World) (K:KV):Prop:=
 cond (Option.isNone q0)
 (K (.slice none 0 0) w)
 (newM #[] N.t_Dyad w fun p1 w2=>
 appM N.t_Dyad 3 40 #[.bool false,.slice none 0 0,.int .i64 0] (some p1) 0 0 q0 qg w2 fun s3a s3l s3c w4=>
 K (.slice s3a s3l s3c) w4)
def S_inertia_whole (N:Nums) (P:Program) (qf:Bool) (qe:OA) (qb qd:Nat) (qh:Int) (q1:Int) (w:World) (K:KV):Prop:=
 newM #[.bool qf,.slice qe qb qd,.int .i64 qh] N.t_Dyad w fun p1 w2=>
 newM #[.bool false,.slice none 0 0] N.t_bn_Int w2 fun p3 w4=>
 cS_ w4 (p1.add 1) fun s5a s5l s5c=>
 cond ((s5l:Int)==0)
 (K (.pointer (some p3)) w4)
 (cS_ w4 (p1.add 1) fun s6a s6l s6c=>
 cutM (σ:=Unit) (fun J7=>
 loopM (σ:=Int×Unit) (fun s10 X11 w12=>
 cond (decide (s10.1<(s6l:Int)))
 (CallsX P N.f_bI_Lsh #[.pointer (some p3),.pointer (some p3),.int .u64 64] w12 fun v14 w13=>
 ∃ p15:(OA),v14=(.pointer p15) ∧
 newM #[.bool false,.slice none 0 0] N.t_bn_Int w13 fun p16 w17=>
 cS_ w17 (p1.add 1) fun s18a s18l s18c=>
 cS_ w17 (p1.add 1) fun s19a s19l s19c=>
 (0:Int)≤(i64.wrap ((i64.wrap ((s19l:Int)-1))-s10.1))∧(i64.wrap ((i64.wrap ((s19l:Int)-1))-s10.1))<(s18l:Nat) ∧
 optM s18a fun a20=>
 ∃ n21,w17.cell? (a20.add ((i64.wrap ((i64.wrap ((s19l:Int)-1))-s10.1)).toNat*1))=some (.int .u64 n21) ∧
 CallsX P N.f_bI_SetUint64 #[.pointer (some p16),.int .u64 n21] w17 fun v23 w22=>
 ∃ p24:(OA),v23=(.pointer p24) ∧
 CallsX P N.f_bI_Or #[.pointer (some p3),.pointer (some p3),.pointer p24] w22 fun v26 w25=>
 ∃ p27:(OA),v26=(.pointer p27) ∧
 X11 ((i64.wrap (s10.1+1)),()) w25)
 (J7 (()) w12))
 (0,()) w4)
 (fun s8 w9=>
 cB_ w9 p1 fun b28=>
 cutM (σ:=Unit) (fun J29=>
 cond b28
 (CallsX P N.f_bI_Neg #[.pointer (some p3),.pointer (some p3)] w9 fun v33 w32=>
 ∃ p34:(OA),v33=(.pointer p34) ∧
 J29 (()) w32)
 (J29 (()) w9))
 (fun s30 w31=>
 cI_ w31 (p1.add 2) fun n35=>
 CallsX P N.f_bI_Lsh #[.pointer (some p3),.pointer (some p3),.int .u64 (u64.wrap (i64.wrap (n35-q1)))] w31 fun v37 w36=>
 ∃ p38:(OA),v37=(.pointer p38) ∧
 K (.pointer p38) w36)))
def S_bI_Sub (N:Nums) (P:Program) (q0:OA) (q1:OA) (q2:OA) (w:World) (K:KV):Prop:=
 optM q1 fun a1=>
 cB_ w a1 fun b2=>
 optM q1 fun a3=>
 cS_ w (a3.add 1) fun s4a s4l s4c=>
 optM q2 fun a5=>
 cB_ w a5 fun b6=>
 optM q2 fun a7=>
 cS_ w (a7.add 1) fun s8a s8l s8c=>
 drM w fun w9=>
 CallsX P N.f_bn_sum #[.bool b2,.slice s4a s4l s4c,.bool (!b6),.slice s8a s8l s8c] w9 fun v11 w10=>
 ∃ b12,∃ s13a s13l s13c,v11=(.tuple #[.bool b12,.slice s13a s13l s13c]) ∧
 drM w10 fun w14=>
 CallsX P N.f_bI_give #[.pointer q0,.bool b12,.slice s13a s13l s13c] w14 fun v16 w15=>
 ∃ p17:(OA),v16=(.pointer p17) ∧
 drM w15 fun w18=>
 K (.pointer p17) w18
def S_bI_TrailingZeroBits (N:Nums) (P:Program) (q0:OA) (w:World) (K:KV):Prop:=
 optM q0 fun a1=>
 cS_ w (a1.add 1) fun s2a s2l s2c=>
 cond ((s2l:Int)==0)
 (K (.int .u64 0) w)
 (cutM (σ:=Int×Unit) (fun J3=>
 loopM (σ:=Int×Unit) (fun s6 X7 w8=>
 optM q0 fun a9=>
 cS_ w8 (a9.add 1) fun s10a s10l s10c=>
 CallsX P N.f_bn_bit #[.slice s10a s10l s10c,.int .i64 (i64.wrap s6.1)] w8 fun v12 w11=>
 ∃ n13,v12=(.int .u64 n13) ∧
 cond (n13==0)
 (X7 ((u64.wrap (s6.1+1)),()) w11)
 (J3 (s6.1,()) w11))
 (0,()) w)
 (fun s4 w5=>
 K (.int .u64 s4.1) w5))
def S_bI_BitLen (N:Nums) (P:Program) (q0:OA) (w:World) (K:KV):Prop:=
 optM q0 fun a1=>
 cS_ w (a1.add 1) fun s2a s2l s2c=>
 CallsX P N.f_bn_length #[.slice s2a s2l s2c] w fun v4 w3=>
 ∃ n5,v4=(.int .i64 n5) ∧
 K (.int .i64 n5) w3
def S_bI_Rsh (N:Nums) (P:Program) (q0:OA) (q1:OA) (q2:Int) (w:World) (K:KV):Prop:=
 optM q1 fun a1=>
 cB_ w a1 fun b2=>
 cond b2
 (optM q1 fun a3=>
 cS_ w (a3.add 1) fun s4a s4l s4c=>
 newM #[.int .u32 1] N.t_uint32 w fun p5 w6=>
 CallsX P N.f_bn_sub #[.slice s4a s4l s4c,.slice (some p5) 1 1] w6 fun v8 w7=>
 vS_ v8 fun s9a s9l s9c=>
 CallsX P N.f_bn_right #[.slice s9a s9l s9c,.int .u64 q2] w7 fun v11 w10=>
 vS_ v11 fun s12a s12l s12c=>
 newM #[.int .u32 1] N.t_uint32 w10 fun p13 w14=>
 CallsX P N.f_bn_add #[.slice s12a s12l s12c,.slice (some p13) 1 1] w14 fun v16 w15=>
 vS_ v16 fun s17a s17l s17c=>
 CallsX P N.f_bI_give #[.pointer q0,.bool true,.slice s17a s17l s17c] w15 fun v19 w18=>
 ∃ p20:(OA),v19=(.pointer p20) ∧
 K (.pointer p20) w18)
 (optM q1 fun a21=>
 cS_ w (a21.add 1) fun s22a s22l s22c=>
 CallsX P N.f_bn_right #[.slice s22a s22l s22c,.int .u64 q2] w fun v24 w23=>
 vS_ v24 fun s25a s25l s25c=>
 CallsX P N.f_bI_give #[.pointer q0,.bool false,.slice s25a s25l s25c] w23 fun v27 w26=>
 ∃ p28:(OA),v27=(.pointer p28) ∧
 K (.pointer p28) w26)
def S_p_inertia_rows_pivot (N:Nums) (P:Program) (q0:OA) (q1:Int) (w:World) (K:KV):Prop:=
 CallsX P N.f_p_inertia_rows_find #[.pointer q0,.int .i64 q1] w fun v2 w1=>
 ∃ n3,∃ n4,v2=(.tuple #[.int .i64 n3,.int .i64 n4]) ∧
 cond (decide (n3<0))
 (K (.bool false) w1)
 (cutM (σ:=Unit) (fun J5=>
 cond (n3 != n4)
 (optM q0 fun a8=>
 cS_ w1 a8 fun s9a s9l s9c=>
 cutM (σ:=Unit) (fun J10=>
 loopM (σ:=Int×Unit) (fun s13 X14 w15=>
 cond (decide (s13.1<(s9l:Int)))
 (optM q0 fun a16=>
 cS_ w15 a16 fun s17a s17l s17c=>
 (0:Int)≤n3∧n3<(s17l:Nat) ∧
 optM s17a fun a18=>
 cS_ w15 (a18.add (n3.toNat*1)) fun s19a s19l s19c=>
 (0:Int)≤s13.1∧s13.1<(s19l:Nat) ∧
 optM s19a fun a20=>
 ∃ p21:(OA),w15.cell? (a20.add (s13.1.toNat*1))=some (.pointer p21) ∧
 optM q0 fun a22=>
 cS_ w15 a22 fun s23a s23l s23c=>
 (0:Int)≤n3∧n3<(s23l:Nat) ∧
 optM s23a fun a24=>
 cS_ w15 (a24.add (n3.toNat*1)) fun s25a s25l s25c=>
 (0:Int)≤s13.1∧s13.1<(s25l:Nat) ∧
 optM s25a fun a26=>
 ∃ p27:(OA),w15.cell? (a26.add (s13.1.toNat*1))=some (.pointer p27) ∧
 optM q0 fun a28=>
 cS_ w15 a28 fun s29a s29l s29c=>
 (0:Int)≤n4∧n4<(s29l:Nat) ∧
 optM s29a fun a30=>
 cS_ w15 (a30.add (n4.toNat*1)) fun s31a s31l s31c=>
 (0:Int)≤s13.1∧s13.1<(s31l:Nat) ∧
 optM s31a fun a32=>
 ∃ p33:(OA),w15.cell? (a32.add (s13.1.toNat*1))=some (.pointer p33) ∧
 drM w15 fun w34=>
 CallsX P N.f_bI_Add #[.pointer p21,.pointer p27,.pointer p33] w34 fun v36 w35=>
 ∃ p37:(OA),v36=(.pointer p37) ∧
 drM w35 fun w38=>
 X14 ((i64.wrap (s13.1+1)),()) w38)
 (J10 (()) w15))
 (0,()) w1)
 (fun s11 w12=>
 optM q0 fun a39=>
 cS_ w12 a39 fun s40a s40l s40c=>
 cutM (σ:=Unit) (fun J41=>
 loopM (σ:=Int×Unit) (fun s44 X45 w46=>
 cond (decide (s44.1<(s40l:Int)))
 (optM q0 fun a47=>
 cS_ w46 a47 fun s48a s48l s48c=>
 (0:Int)≤s44.1∧s44.1<(s48l:Nat) ∧
 optM s48a fun a49=>
 cS_ w46 (a49.add (s44.1.toNat*1)) fun s50a s50l s50c=>
 (0:Int)≤n3∧n3<(s50l:Nat) ∧
 optM s50a fun a51=>
 ∃ p52:(OA),w46.cell? (a51.add (n3.toNat*1))=some (.pointer p52) ∧
 optM q0 fun a53=>
 cS_ w46 a53 fun s54a s54l s54c=>
 (0:Int)≤s44.1∧s44.1<(s54l:Nat) ∧
 optM s54a fun a55=>
 cS_ w46 (a55.add (s44.1.toNat*1)) fun s56a s56l s56c=>
 (0:Int)≤n3∧n3<(s56l:Nat) ∧
 optM s56a fun a57=>
 ∃ p58:(OA),w46.cell? (a57.add (n3.toNat*1))=some (.pointer p58) ∧
 optM q0 fun a59=>
 cS_ w46 a59 fun s60a s60l s60c=>
 (0:Int)≤s44.1∧s44.1<(s60l:Nat) ∧
 optM s60a fun a61=>
 cS_ w46 (a61.add (s44.1.toNat*1)) fun s62a s62l s62c=>
 (0:Int)≤n4∧n4<(s62l:Nat) ∧
 optM s62a fun a63=>
 ∃ p64:(OA),w46.cell? (a63.add (n4.toNat*1))=some (.pointer p64) ∧
 drM w46 fun w65=>
 CallsX P N.f_bI_Add #[.pointer p52,.pointer p58,.pointer p64] w65 fun v67 w66=>
 ∃ p68:(OA),v67=(.pointer p68) ∧
 drM w66 fun w69=>
 X45 ((i64.wrap (s44.1+1)),()) w69)
 (J41 (()) w46))
 (0,()) w12)
 (fun s42 w43=>
 J5 (()) w43)))
 (J5 (()) w1))
 (fun s6 w7=>
 optM q0 fun a70=>
 cS_ w7 a70 fun s71a s71l s71c=>
 optM q0 fun a72=>
 cS_ w7 a72 fun s73a s73l s73c=>
 optM q0 fun a74=>
 cS_ w7 a74 fun s75a s75l s75c=>
 (0:Int)≤n3∧n3<(s75l:Nat) ∧
 optM s75a fun a76=>
 cS_ w7 (a76.add (n3.toNat*1)) fun s77a s77l s77c=>
 optM q0 fun a78=>
 cS_ w7 a78 fun s79a s79l s79c=>
 (0:Int)≤q1∧q1<(s79l:Nat) ∧
 optM s79a fun a80=>
 cS_ w7 (a80.add (q1.toNat*1)) fun s81a s81l s81c=>
 (0:Int)≤q1∧q1<(s71l:Nat) ∧
 optM s71a fun a82=>
 drM w7 fun w83=>
 stM (a82.add (q1.toNat*1)) (.slice s77a s77l s77c) w83 fun w84=>
 (0:Int)≤n3∧n3<(s73l:Nat) ∧
 optM s73a fun a85=>
 drM w84 fun w86=>
 stM (a85.add (n3.toNat*1)) (.slice s81a s81l s81c) w86 fun w87=>
 drM w87 fun w88=>
 optM q0 fun a89=>
 cS_ w88 a89 fun s90a s90l s90c=>
 cutM (σ:=Unit) (fun J91=>
 loopM (σ:=Int×Unit) (fun s94 X95 w96=>
 cond (decide (s94.1<(s90l:Int)))
 (optM q0 fun a97=>
 cS_ w96 a97 fun s98a s98l s98c=>
 (0:Int)≤s94.1∧s94.1<(s98l:Nat) ∧
 optM s98a fun a99=>
 cS_ w96 (a99.add (s94.1.toNat*1)) fun s100a s100l s100c=>
 optM q0 fun a101=>
 cS_ w96 a101 fun s102a s102l s102c=>
 (0:Int)≤s94.1∧s94.1<(s102l:Nat) ∧
 optM s102a fun a103=>
 cS_ w96 (a103.add (s94.1.toNat*1)) fun s104a s104l s104c=>
 optM q0 fun a105=>
 cS_ w96 a105 fun s106a s106l s106c=>
 (0:Int)≤s94.1∧s94.1<(s106l:Nat) ∧
 optM s106a fun a107=>
 cS_ w96 (a107.add (s94.1.toNat*1)) fun s108a s108l s108c=>
 (0:Int)≤n3∧n3<(s108l:Nat) ∧
 optM s108a fun a109=>
 ∃ p110:(OA),w96.cell? (a109.add (n3.toNat*1))=some (.pointer p110) ∧
 optM q0 fun a111=>
 cS_ w96 a111 fun s112a s112l s112c=>
 (0:Int)≤s94.1∧s94.1<(s112l:Nat) ∧
 optM s112a fun a113=>
 cS_ w96 (a113.add (s94.1.toNat*1)) fun s114a s114l s114c=>
 (0:Int)≤q1∧q1<(s114l:Nat) ∧
 optM s114a fun a115=>
 ∃ p116:(OA),w96.cell? (a115.add (q1.toNat*1))=some (.pointer p116) ∧
 (0:Int)≤q1∧q1<(s100l:Nat) ∧
 optM s100a fun a117=>
 drM w96 fun w118=>
 stM (a117.add (q1.toNat*1)) (.pointer p110) w118 fun w119=>
 (0:Int)≤n3∧n3<(s104l:Nat) ∧
 optM s104a fun a120=>
 drM w119 fun w121=>
 stM (a120.add (n3.toNat*1)) (.pointer p116) w121 fun w122=>
 drM w122 fun w123=>
 X95 ((i64.wrap (s94.1+1)),()) w123)
 (J91 (()) w96))
 (0,()) w88)
 (fun s92 w93=>
 K (.bool true) w93)))
def S_bI_Mul (N:Nums) (P:Program) (q0:OA) (q1:OA) (q2:OA) (w:World) (K:KV):Prop:=
 optM q1 fun a1=>
 cB_ w a1 fun b2=>
 optM q2 fun a3=>
 cB_ w a3 fun b4=>
 optM q1 fun a5=>
 cS_ w (a5.add 1) fun s6a s6l s6c=>
 optM q2 fun a7=>
 cS_ w (a7.add 1) fun s8a s8l s8c=>
 drM w fun w9=>
 CallsX P N.f_bn_mul #[.slice s6a s6l s6c,.slice s8a s8l s8c] w9 fun v11 w10=>
 vS_ v11 fun s12a s12l s12c=>
 w10.cell? a3=some (.bool b4) ∧
 w10.cell? a1=some (.bool b2) ∧
 drM w10 fun w13=>
 CallsX P N.f_bI_give #[.pointer q0,.bool (!(b2==b4)),.slice s12a s12l s12c] w13 fun v15 w14=>
 ∃ p16:(OA),v15=(.pointer p16) ∧
 drM w14 fun w17=>
 K (.pointer p16) w17
def S_bI_Quo (N:Nums) (P:Program) (q0:OA) (q1:OA) (q2:OA) (w:World) (K:KV):Prop:=
 newM #[.bool false,.slice none 0 0] N.t_bn_Int w fun p1 w2=>
 CallsX P N.f_bI_QuoRem #[.pointer q0,.pointer q1,.pointer q2,.pointer (some p1)] w2 fun v4 w3=>
 ∃ p5:(OA),∃ p6:(OA),v4=(.tuple #[.pointer p5,.pointer p6]) ∧
 K (.pointer q0) w3
def S_bI_Neg (N:Nums) (P:Program) (q0:OA) (q1:OA) (w:World) (K:KV):Prop:=
 optM q1 fun a1=>
 cB_ w a1 fun b2=>
 optM q1 fun a3=>
 cS_ w (a3.add 1) fun s4a s4l s4c=>
 drM w fun w5=>
 CallsX P N.f_bn_twin #[.slice s4a s4l s4c] w5 fun v7 w6=>
 vS_ v7 fun s8a s8l s8c=>
 w6.cell? a1=some (.bool b2) ∧
 drM w6 fun w9=>
 CallsX P N.f_bI_give #[.pointer q0,.bool (!b2),.slice s8a s8l s8c] w9 fun v11 w10=>
 ∃ p12:(OA),v11=(.pointer p12) ∧
 drM w10 fun w13=>
 K (.pointer p12) w13
def S_bI_Abs (N:Nums) (P:Program) (q0:OA) (q1:OA) (w:World) (K:KV):Prop:=
 optM q1 fun a1=>
 cS_ w (a1.add 1) fun s2a s2l s2c=>
 CallsX P N.f_bn_twin #[.slice s2a s2l s2c] w fun v4 w3=>
 vS_ v4 fun s5a s5l s5c=>
 CallsX P N.f_bI_give #[.pointer q0,.bool false,.slice s5a s5l s5c] w3 fun v7 w6=>
 ∃ p8:(OA),v7=(.pointer p8) ∧
 K (.pointer p8) w6
def S_bI_Uint64 (N:Nums) (P:Program) (q0:OA) (w:World) (K:KV):Prop:=
 optM q0 fun a1=>
 cS_ w (a1.add 1) fun s2a s2l s2c=>
 cutM (σ:=Int×Unit) (fun J3=>
 cond (decide ((s2l:Int)>0))
 (optM q0 fun a6=>
 cS_ w (a6.add 1) fun s7a s7l s7c=>
 (0:Int)≤(0:Int)∧(0:Int)<(s7l:Nat) ∧
 optM s7a fun a8=>
 cW_ w (a8.add ((0:Int).toNat*1)) fun n9=>
 J3 ((u64.wrap n9),()) w)
 (J3 (0,()) w))
 (fun s4 w5=>
 optM q0 fun a10=>
 cS_ w5 (a10.add 1) fun s11a s11l s11c=>
 cutM (σ:=Int×Unit) (fun J12=>
 cond (decide ((s11l:Int)>1))
 (optM q0 fun a15=>
 cS_ w5 (a15.add 1) fun s16a s16l s16c=>
 (0:Int)≤(1:Int)∧(1:Int)<(s16l:Nat) ∧
 optM s16a fun a17=>
 cW_ w5 (a17.add ((1:Int).toNat*1)) fun n18=>
 (0:Int)≤32 ∧
 J12 ((u64.wrap (BitVec.ofInt u64.bits s4.1 ||| BitVec.ofInt u64.bits (u64.wrap ((u64.wrap n18)*2^(min (32:Int).toNat u64.bits)))).toNat),()) w5)
 (J12 (s4.1,()) w5))
 (fun s13 w14=>
 K (.int .u64 s13.1) w14))
def S_dyad_Norm (N:Nums) (P:Program) (qf:Bool) (qe:OA) (qb qd:Nat) (qh:Int) (w:World) (K:KV):Prop:=
 newM #[.bool qf,.slice qe qb qd,.int .i64 qh] N.t_Dyad w fun p1 w2=>
 newM #[.bool false,.slice none 0 0,.int .i64 0] N.t_Dyad w2 fun p3 w4=>
 cB_ w4 p1 fun b5=>
 cS_ w4 (p1.add 1) fun s6a s6l s6c=>
 cI_ w4 (p1.add 2) fun n7=>
 cI_ w4 (p1.add 2) fun n8=>
 drM w4 fun w9=>
 CallsX P N.f_dyad_whole #[.agg #[.bool b5,.slice s6a s6l s6c,.int .i64 n7]] w9 fun v11 w10=>
 ∃ p12:(OA),v11=(.pointer p12) ∧
 w10.cell? (p1.add 2)=some (.int .i64 n8) ∧
 drM w10 fun w13=>
 CallsX P N.f_dyad_made #[.pointer p12,.int .i64 n8] w13 fun v15 w14=>
 ∃ b16,∃ s17a s17l s17c,∃ n18,∃ n19,v15=(.tuple #[.agg #[.bool b16,.slice s17a s17l s17c,.int .i64 n18],.int .i64 n19]) ∧
 drM w14 fun w20=>
 stM p3 (.bool b16) w20 fun w21=>
 stM (p3.add 1) (.slice s17a s17l s17c) w21 fun w22=>
 stM (p3.add 2) (.int .i64 n18) w22 fun w23=>
 drM w23 fun w24=>
 cB_ w24 p3 fun b25=>
 cS_ w24 (p3.add 1) fun s26a s26l s26c=>
 cI_ w24 (p3.add 2) fun n27=>
 K (.tuple #[.agg #[.bool b25,.slice s26a s26l s26c,.int .i64 n27],.int .i64 n19]) w24
def S_k_SameLimbs (N:Nums) (P:Program) (q0:OA) (qg qk:Nat) (q1:OA) (qq qx:Nat) (w:World) (K:KV):Prop:=
 cond ((qg:Int) != (qq:Int))
 (K (.bool false) w)
 (cutM (σ:=Unit) (fun J1=>
 loopM (σ:=Int×Unit) (fun s4 X5 w6=>
 cond (decide (s4.1<(qg:Int)))
 ((0:Int)≤s4.1∧s4.1<(qg:Nat) ∧
 optM q0 fun a7=>
 cU_ w6 (a7.add (s4.1.toNat*1)) fun n8=>
 (0:Int)≤s4.1∧s4.1<(qq:Nat) ∧
 optM q1 fun a9=>
 cU_ w6 (a9.add (s4.1.toNat*1)) fun n10=>
 drM w6 fun w11=>
 cond (n8 != n10)
 (K (.bool false) w11)
 (X5 ((i64.wrap (s4.1+1)),()) w11))
 (J1 (()) w6))
 (0,()) w)
 (fun s2 w3=>
 K (.bool true) w3))
def S_r02_Norm (N:Nums) (P:Program) (qf:Bool) (qe:OA) (qb qd:Nat) (qh:Int) (w:World) (K:KV):Prop:=
 newM #[.bool qf,.slice qe qb qd,.int .i64 qh] N.t_Dyad w fun p1 w2=>
 newM #[.bool false,.slice none 0 0,.int .i64 0] N.t_Dyad w2 fun p3 w4=>
 cS_ w4 (p1.add 1) fun s5a s5l s5c=>
 CallsX P N.f_r02_NatTrim #[.slice s5a s5l s5c] w4 fun v7 w6=>
 vS_ v7 fun s8a s8l s8c=>
 cond ((s8l:Int)==0)
 (stM p3 (.bool false) w6 fun w9=>
 stM (p3.add 1) (.slice none 0 0) w9 fun w10=>
 stM (p3.add 2) (.int .i64 0) w10 fun w11=>
 cB_ w11 p3 fun b12=>
 cS_ w11 (p3.add 1) fun s13a s13l s13c=>
 cI_ w11 (p3.add 2) fun n14=>
 K (.tuple #[.agg #[.bool b12,.slice s13a s13l s13c,.int .i64 n14],.int .i64 0]) w11)
 (cutM (σ:=Int×Unit) (fun J15=>
 loopM (σ:=Int×Unit) (fun s18 X19 w20=>
 (64:Int)≠0 ∧
 (0:Int)≤(i64.wrap (s18.1.tdiv 64))∧(i64.wrap (s18.1.tdiv 64))<(s8l:Nat) ∧
 optM s8a fun a21=>
 ∃ n22,w20.cell? (a21.add ((i64.wrap (s18.1.tdiv 64)).toNat*1))=some (.int .u64 n22) ∧
 (64:Int)≠0 ∧
 (0:Int)≤(u64.wrap (s18.1.tmod 64)) ∧
 (2:Int)≠0 ∧
 cond (((n22.fdiv (2^(min (u64.wrap (s18.1.tmod 64)).toNat u64.bits))).tmod 2)==0)
 (X19 ((i64.wrap (s18.1+1)),()) w20)
 (J15 (s18.1,()) w20))
 (0,()) w6)
 (fun s16 w17=>
 CallsX P N.f_r02_NatDown #[.slice s8a s8l s8c,.int .i64 s16.1] w17 fun v24 w23=>
 ∃ s25a s25l s25c,∃ b26,v24=(.tuple #[.slice s25a s25l s25c,.bool b26]) ∧
 cutM (σ:=Bool×Unit) (fun J27=>
 cond (!(decide ((s25l:Int)>256)))
 (cI_ w23 (p1.add 2) fun n30=>
 cond (!(decide (n30>65536)))
 (cI_ w23 (p1.add 2) fun n31=>
 cond (!(decide (n31<(i64.wrap ((-65536)-s16.1)))))
 (cI_ w23 (p1.add 2) fun n32=>
 J27 ((decide ((i64.wrap (n32+s16.1))>65536)),()) w23)
 (J27 (true,()) w23))
 (J27 (true,()) w23))
 (J27 (true,()) w23))
 (fun s28 w29=>
 cond s28.1
 (stM p3 (.bool false) w29 fun w33=>
 stM (p3.add 1) (.slice none 0 0) w33 fun w34=>
 stM (p3.add 2) (.int .i64 0) w34 fun w35=>
 cB_ w35 p3 fun b36=>
 cS_ w35 (p3.add 1) fun s37a s37l s37c=>
 cI_ w35 (p3.add 2) fun n38=>
 K (.tuple #[.agg #[.bool b36,.slice s37a s37l s37c,.int .i64 n38],.int .i64 3]) w35)
 (cB_ w29 p1 fun b39=>
 cI_ w29 (p1.add 2) fun n40=>
 stM p3 (.bool b39) w29 fun w41=>
 stM (p3.add 1) (.slice s25a s25l s25c) w41 fun w42=>
 stM (p3.add 2) (.int .i64 (i64.wrap (n40+s16.1))) w42 fun w43=>
 cB_ w43 p3 fun b44=>
 cS_ w43 (p3.add 1) fun s45a s45l s45c=>
 cI_ w43 (p3.add 2) fun n46=>
 K (.tuple #[.agg #[.bool b44,.slice s45a s45l s45c,.int .i64 n46],.int .i64 0]) w43))))
def S_r02_NatOf (N:Nums) (P:Program) (q0:Int) (w:World) (K:KV):Prop:=
 newM #[.int .u64 q0] N.t_uint64 w fun p1 w2=>
 CallsX P N.f_r02_NatTrim #[.slice (some p1) 1 1] w2 fun v4 w3=>
 vS_ v4 fun s5a s5l s5c=>
 K (.slice s5a s5l s5c) w3
def S_r02_Num_Zero (N:Nums) (P:Program) (qf:Bool) (qe:OA) (qb qd:Nat) (qh:Int) (w:World) (K:KV):Prop:=
 newM #[.bool qf,.slice qe qb qd,.int .i64 qh] N.t_r02_Num w fun p1 w2=>
 cS_ w2 (p1.add 1) fun s3a s3l s3c=>
 CallsX P N.f_r02_NatBits #[.slice s3a s3l s3c] w2 fun v5 w4=>
 ∃ n6,v5=(.int .i64 n6) ∧
 K (.bool (n6==0)) w4
def S_r02_NatUp (N:Nums) (P:Program) (q0:OA) (qg qk:Nat) (q1:Int) (w:World) (K:KV):Prop:=
 CallsX P N.f_r02_halves #[.slice q0 qg qk] w fun v2 w1=>
 vS_ v2 fun s3a s3l s3c=>
 cond ((s3l:Int)==0)
 (K (.slice none 0 0) w1)
 ((32:Int)≠0 ∧
 mkM N.t_uint64 1 8 #[.int .u64 0] (i64.wrap (q1.tdiv 32)) (i64.wrap (q1.tdiv 32)) w1 fun p4 w5=>
 cutM (σ:=Int×Unit) (fun J6=>
 loopM (σ:=Int×Int×Unit) (fun s9 X10 w11=>
 (32:Int)≠0 ∧
 cond (decide (s9.2.1<(q1.tmod 32)))
 (X10 ((u64.wrap (2*s9.1)),(i64.wrap (s9.2.1+1)),()) w11)
 (J6 (s9.1,()) w11))
 (1,0,()) w5)
 (fun s7 w8=>
 cutM (σ:=(OA×Nat×Nat)×Int×Unit) (fun J12=>
 loopM (σ:=(OA×Nat×Nat)×Int×Int×Unit) (fun s15 X16 w17=>
 cond (decide (s15.2.2.1<(s3l:Int)))
 ((0:Int)≤s15.2.2.1∧s15.2.2.1<(s3l:Nat) ∧
 optM s3a fun a18=>
 cU_ w17 (a18.add (s15.2.2.1.toNat*1)) fun n19=>
 (4294967296:Int)≠0 ∧
 newM #[.int .u64 ((u64.wrap ((u64.wrap (n19*s7.1))+s15.2.1)).tmod 4294967296)] N.t_uint64 w17 fun p20 w21=>
 appM N.t_uint64 1 8 #[.int .u64 0] s15.1.1 s15.1.2.1 s15.1.2.2 (some p20) 1 w21 fun s22a s22l s22c w23=>
 (4294967296:Int)≠0 ∧
 X16 ((s22a,s22l,s22c),(u64.wrap ((u64.wrap ((u64.wrap (n19*s7.1))+s15.2.1)).tdiv 4294967296)),(i64.wrap (s15.2.2.1+1)),()) w23)
 (J12 ((s15.1.1,s15.1.2.1,s15.1.2.2),s15.2.1,()) w17))
 (((some p4),(i64.wrap (q1.tdiv 32)).toNat,(i64.wrap (q1.tdiv 32)).toNat),0,0,()) w8)
 (fun s13 w14=>
 newM #[.int .u64 s13.2.1] N.t_uint64 w14 fun p24 w25=>
 appM N.t_uint64 1 8 #[.int .u64 0] s13.1.1 s13.1.2.1 s13.1.2.2 (some p24) 1 w25 fun s26a s26l s26c w27=>
 CallsX P N.f_r02_limbs #[.slice s26a s26l s26c] w27 fun v29 w28=>
 vS_ v29 fun s30a s30l s30c=>
 K (.slice s30a s30l s30c) w28)))
def S_r02_NatAdd (N:Nums) (P:Program) (q0:OA) (qg qk:Nat) (q1:OA) (qq qx:Nat) (w:World) (K:KV):Prop:=
 CallsX P N.f_r02_halves #[.slice q0 qg qk] w fun v2 w1=>
 vS_ v2 fun s3a s3l s3c=>
 CallsX P N.f_r02_halves #[.slice q1 qq qx] w1 fun v5 w4=>
 vS_ v5 fun s6a s6l s6c=>
 cutM (σ:=(OA×Nat×Nat)×Unit) (fun J7=>
 loopM (σ:=(OA×Nat×Nat)×Int×Int×Unit) (fun s10 X11 w12=>
 cutM (σ:=Bool×Unit) (fun J13=>
 cond (!(decide (s10.2.2.1<(s3l:Int))))
 (cond (!(decide (s10.2.2.1<(s6l:Int))))
 (J13 ((decide (s10.2.1>0)),()) w12)
 (J13 (true,()) w12))
 (J13 (true,()) w12))
 (fun s14 w15=>
 cond s14.1
 (CallsX P N.f_r02_digit #[.slice s3a s3l s3c,.int .i64 s10.2.2.1] w15 fun v17 w16=>
 ∃ n18,v17=(.int .u64 n18) ∧
 CallsX P N.f_r02_digit #[.slice s6a s6l s6c,.int .i64 s10.2.2.1] w16 fun v20 w19=>
 ∃ n21,v20=(.int .u64 n21) ∧
 (4294967296:Int)≠0 ∧
 newM #[.int .u64 ((u64.wrap ((u64.wrap (n18+n21))+s10.2.1)).tmod 4294967296)] N.t_uint64 w19 fun p22 w23=>
 appM N.t_uint64 1 8 #[.int .u64 0] s10.1.1 s10.1.2.1 s10.1.2.2 (some p22) 1 w23 fun s24a s24l s24c w25=>
 (4294967296:Int)≠0 ∧
 X11 ((s24a,s24l,s24c),(u64.wrap ((u64.wrap ((u64.wrap (n18+n21))+s10.2.1)).tdiv 4294967296)),(i64.wrap (s10.2.2.1+1)),()) w25)
 (J7 ((s10.1.1,s10.1.2.1,s10.1.2.2),()) w15)))
 ((none,0,0),0,0,()) w4)
 (fun s8 w9=>
 CallsX P N.f_r02_limbs #[.slice s8.1.1 s8.1.2.1 s8.1.2.2] w9 fun v27 w26=>
 vS_ v27 fun s28a s28l s28c=>
 K (.slice s28a s28l s28c) w26)
def S_r02_NatCmp (N:Nums) (P:Program) (q0:OA) (qg qk:Nat) (q1:OA) (qq qx:Nat) (w:World) (K:KV):Prop:=
 CallsX P N.f_r02_NatTrim #[.slice q0 qg qk] w fun v2 w1=>
 vS_ v2 fun s3a s3l s3c=>
 CallsX P N.f_r02_NatTrim #[.slice q1 qq qx] w1 fun v5 w4=>
 vS_ v5 fun s6a s6l s6c=>
 cond ((s3l:Int) != (s6l:Int))
 (cond (decide ((s3l:Int)<(s6l:Int)))
 (K (.int .i64 (-1)) w4)
 (K (.int .i64 1) w4))
 (cutM (σ:=Unit) (fun J7=>
 loopM (σ:=Int×Unit) (fun s10 X11 w12=>
 cond (decide (s10.1≥0))
 ((0:Int)≤s10.1∧s10.1<(s3l:Nat) ∧
 optM s3a fun a13=>
 cU_ w12 (a13.add (s10.1.toNat*1)) fun n14=>
 (0:Int)≤s10.1∧s10.1<(s6l:Nat) ∧
 optM s6a fun a15=>
 cU_ w12 (a15.add (s10.1.toNat*1)) fun n16=>
 drM w12 fun w17=>
 cond (decide (n14<n16))
 (K (.int .i64 (-1)) w17)
 ((0:Int)≤s10.1∧s10.1<(s3l:Nat) ∧
 optM s3a fun a18=>
 cU_ w17 (a18.add (s10.1.toNat*1)) fun n19=>
 (0:Int)≤s10.1∧s10.1<(s6l:Nat) ∧
 optM s6a fun a20=>
 cU_ w17 (a20.add (s10.1.toNat*1)) fun n21=>
 drM w17 fun w22=>
 cond (decide (n19>n21))
 (K (.int .i64 1) w22)
 (X11 ((i64.wrap (s10.1-1)),()) w22)))
 (J7 (()) w12))
 ((i64.wrap ((s3l:Int)-1)),()) w4)
 (fun s8 w9=>
 K (.int .i64 0) w9))
def S_r02_NatSub (N:Nums) (P:Program) (q0:OA) (qg qk:Nat) (q1:OA) (qq qx:Nat) (w:World) (K:KV):Prop:=
 CallsX P N.f_r02_halves #[.slice q0 qg qk] w fun v2 w1=>
 vS_ v2 fun s3a s3l s3c=>
 CallsX P N.f_r02_halves #[.slice q1 qq qx] w1 fun v5 w4=>
 vS_ v5 fun s6a s6l s6c=>
 cutM (σ:=(OA×Nat×Nat)×Unit) (fun J7=>
 loopM (σ:=(OA×Nat×Nat)×Int×Int×Unit) (fun s10 X11 w12=>
 cond (decide (s10.2.2.1<(s3l:Int)))
 ((0:Int)≤s10.2.2.1∧s10.2.2.1<(s3l:Nat) ∧
 optM s3a fun a13=>
 cU_ w12 (a13.add (s10.2.2.1.toNat*1)) fun n14=>
 drM w12 fun w15=>
 CallsX P N.f_r02_digit #[.slice s6a s6l s6c,.int .i64 s10.2.2.1] w15 fun v17 w16=>
 ∃ n18,v17=(.int .u64 n18) ∧
 w16.cell? (a13.add (s10.2.2.1.toNat*1))=some (.int .u64 n14) ∧
 drM w16 fun w19=>
 (4294967296:Int)≠0 ∧
 newM #[.int .u64 ((u64.wrap ((u64.wrap ((u64.wrap (4294967296+n14))-n18))-s10.2.1)).tmod 4294967296)] N.t_uint64 w19 fun p20 w21=>
 appM N.t_uint64 1 8 #[.int .u64 0] s10.1.1 s10.1.2.1 s10.1.2.2 (some p20) 1 w21 fun s22a s22l s22c w23=>
 (4294967296:Int)≠0 ∧
 X11 ((s22a,s22l,s22c),(u64.wrap (1-(u64.wrap ((u64.wrap ((u64.wrap ((u64.wrap (4294967296+n14))-n18))-s10.2.1)).tdiv 4294967296)))),(i64.wrap (s10.2.2.1+1)),()) w23)
 (J7 ((s10.1.1,s10.1.2.1,s10.1.2.2),()) w12))
 ((none,0,0),0,0,()) w4)
 (fun s8 w9=>
 CallsX P N.f_r02_limbs #[.slice s8.1.1 s8.1.2.1 s8.1.2.2] w9 fun v25 w24=>
 vS_ v25 fun s26a s26l s26c=>
 K (.slice s26a s26l s26c) w24)
def S_r02_NatTrim (N:Nums) (P:Program) (q0:OA) (qg qk:Nat) (w:World) (K:KV):Prop:=
 cutM (σ:=Int×Unit) (fun J1=>
 loopM (σ:=Int×Unit) (fun s4 X5 w6=>
 cond (decide (s4.1>0))
 ((0:Int)≤(i64.wrap (s4.1-1))∧(i64.wrap (s4.1-1))<(qg:Nat) ∧
 optM q0 fun a7=>
 ∃ n8,w6.cell? (a7.add ((i64.wrap (s4.1-1)).toNat*1))=some (.int .u64 n8) ∧
 cond (n8==0)
 (X5 ((i64.wrap (s4.1-1)),()) w6)
 (J1 (s4.1,()) w6))
 (J1 (s4.1,()) w6))
 ((qg:Int),()) w)
 (fun s2 w3=>
 (0:Int)≤s2.1∧s2.1≤(qk:Nat) ∧
 appM N.t_uint64 1 8 #[.int .u64 0] none 0 0 (slBase q0 0 qk 1) s2.1.toNat w3 fun s9a s9l s9c w10=>
 K (.slice s9a s9l s9c) w10)
def S_dyad_limbs (N:Nums) (P:Program) (q0:OA) (w:World) (K:KV):Prop:=
 newM #[.bool false,.slice none 0 0] N.t_bn_Int w fun p1 w2=>
 CallsX P N.f_bI_Abs #[.pointer (some p1),.pointer q0] w2 fun v4 w3=>
 ∃ p5:(OA),v4=(.pointer p5) ∧
 newM #[.bool false,.slice none 0 0] N.t_bn_Int w3 fun p6 w7=>
 newM #[.bool false,.slice none 0 0] N.t_bn_Int w7 fun p8 w9=>
 CallsX P N.f_bI_SetUint64 #[.pointer (some p8),.int .u64 18446744073709551615] w9 fun v11 w10=>
 ∃ p12:(OA),v11=(.pointer p12) ∧
 cutM (σ:=(OA×Nat×Nat)×Unit) (fun J13=>
 loopM (σ:=(OA×Nat×Nat)×Unit) (fun s16 X17 w18=>
 CallsX P N.f_bI_Sign #[.pointer p5] w18 fun v20 w19=>
 ∃ n21,v20=(.int .i64 n21) ∧
 cond (decide (n21>0))
 (CallsX P N.f_bI_And #[.pointer (some p6),.pointer p5,.pointer p12] w19 fun v23 w22=>
 ∃ p24:(OA),v23=(.pointer p24) ∧
 CallsX P N.f_bI_Uint64 #[.pointer p24] w22 fun v26 w25=>
 ∃ n27,v26=(.int .u64 n27) ∧
 newM #[.int .u64 n27] N.t_uint64 w25 fun p28 w29=>
 appM N.t_uint64 1 8 #[.int .u64 0] s16.1.1 s16.1.2.1 s16.1.2.2 (some p28) 1 w29 fun s30a s30l s30c w31=>
 CallsX P N.f_bI_Rsh #[.pointer p5,.pointer p5,.int .u64 64] w31 fun v33 w32=>
 ∃ p34:(OA),v33=(.pointer p34) ∧
 X17 ((s30a,s30l,s30c),()) w32)
 (J13 ((s16.1.1,s16.1.2.1,s16.1.2.2),()) w19))
 ((none,0,0),()) w10)
 (fun s14 w15=>
 K (.slice s14.1.1 s14.1.2.1 s14.1.2.2) w15)
def S_bI_Or (N:Nums) (P:Program) (q0:OA) (q1:OA) (q2:OA) (w:World) (K:KV):Prop:=
 optM q1 fun a1=>
 cS_ w (a1.add 1) fun s2a s2l s2c=>
 optM q2 fun a3=>
 cS_ w (a3.add 1) fun s4a s4l s4c=>
 drM w fun w5=>
 CallsX P N.f_bI_low #[.pointer q1,.int .i64 (i64.wrap ((if (s4l:Int)>(s2l:Int) then (s4l:Int) else (s2l:Int))+1))] w5 fun v7 w6=>
 vS_ v7 fun s8a s8l s8c=>
 CallsX P N.f_bI_low #[.pointer q2,.int .i64 (i64.wrap ((if (s4l:Int)>(s2l:Int) then (s4l:Int) else (s2l:Int))+1))] w6 fun v10 w9=>
 vS_ v10 fun s11a s11l s11c=>
 cutM (σ:=Unit) (fun J12=>
 loopM (σ:=Int×Unit) (fun s15 X16 w17=>
 cond (decide (s15.1<(i64.wrap ((if (s4l:Int)>(s2l:Int) then (s4l:Int) else (s2l:Int))+1))))
 ((0:Int)≤s15.1∧s15.1<(s8l:Nat) ∧
 optM s8a fun a18=>
 cW_ w17 (a18.add (s15.1.toNat*1)) fun n19=>
 (0:Int)≤s15.1∧s15.1<(s11l:Nat) ∧
 optM s11a fun a20=>
 cW_ w17 (a20.add (s15.1.toNat*1)) fun n21=>
 (0:Int)≤s15.1∧s15.1<(s8l:Nat) ∧
 optM s8a fun a22=>
 drM w17 fun w23=>
 stM (a22.add (s15.1.toNat*1)) (.int .u32 (u32.wrap (BitVec.ofInt u32.bits n19 ||| BitVec.ofInt u32.bits n21).toNat)) w23 fun w24=>
 drM w24 fun w25=>
 X16 ((i64.wrap (s15.1+1)),()) w25)
 (J12 (()) w17))
 (0,()) w9)
 (fun s13 w14=>
 CallsX P N.f_bI_of #[.pointer q0,.slice s8a s8l s8c] w14 fun v27 w26=>
 ∃ p28:(OA),v27=(.pointer p28) ∧
 K (.pointer p28) w26)
def S_bI_SetUint64 (N:Nums) (P:Program) (q0:OA) (q1:Int) (w:World) (K:KV):Prop:=
 CallsX P N.f_bn_words #[.int .u64 q1] w fun v2 w1=>
 vS_ v2 fun s3a s3l s3c=>
 CallsX P N.f_bI_give #[.pointer q0,.bool false,.slice s3a s3l s3c] w1 fun v5 w4=>
 ∃ p6:(OA),v5=(.pointer p6) ∧
 K (.pointer p6) w4
def S_bI_SetInt64 (N:Nums) (P:Program) (q0:OA) (q1:Int) (w:World) (K:KV):Prop:=
 cutM (σ:=Int×Unit) (fun J1=>
 cond (decide (q1<0))
 (J1 ((u64.wrap (0-(u64.wrap q1))),()) w)
 (J1 ((u64.wrap q1),()) w))
 (fun s2 w3=>
 CallsX P N.f_bn_words #[.int .u64 s2.1] w3 fun v5 w4=>
 vS_ v5 fun s6a s6l s6c=>
 CallsX P N.f_bI_give #[.pointer q0,.bool (decide (q1<0)),.slice s6a s6l s6c] w4 fun v8 w7=>
 ∃ p9:(OA),v8=(.pointer p9) ∧
 K (.pointer p9) w7)
def S_inertia_fits (N:Nums) (P:Program) (q0:Int) (w:World) (K:KV):Prop:=
 cond (decide (q0≥0))
 (K (.bool (decide (q0≤48))) w)
 (K (.bool false) w)
def S_slices_ContainsFunc___api_Dyad_api_Dyad (N:Nums) (P:Program) (q0:OA) (qg qk:Nat) (q1:Value) (w:World) (K:KV):Prop:=
 CallsX P N.f_slices_IndexFunc___api_Dyad_api_Dyad #[.slice q0 qg qk,q1] w fun v2 w1=>
 ∃ n3,v2=(.int .i64 n3) ∧
 K (.bool (decide (n3≥0))) w1
def S_inertia_Right_1 (N:Nums) (P:Program) (qf:Bool) (qe:OA) (qb qd:Nat) (qh:Int) (w:World) (K:KV):Prop:=
 newM #[.bool qf,.slice qe qb qd,.int .i64 qh] N.t_Dyad w fun p1 w2=>
 cB_ w2 p1 fun b3=>
 cS_ w2 (p1.add 1) fun s4a s4l s4c=>
 cI_ w2 (p1.add 2) fun n5=>
 CallsX P N.f_dyad_Right #[.agg #[.bool b3,.slice s4a s4l s4c,.int .i64 n5]] w2 fun v7 w6=>
 vB_ v7 fun b8=>
 K (.bool (!b8)) w6
def S_bI_give (N:Nums) (P:Program) (q0:OA) (q1:Bool) (q2:OA) (vj yv:Nat) (w:World) (K:KV):Prop:=
 optM q0 fun a1=>
 stM (a1.add 1) (.slice q2 vj yv) w fun w2=>
 cond q1
 (optM q0 fun a3=>
 stM a3 (.bool (decide ((vj:Int)>0))) w2 fun w4=>
 K (.pointer q0) w4)
 (optM q0 fun a5=>
 stM a5 (.bool false) w2 fun w6=>
 K (.pointer q0) w6)
def S_bn_sum (N:Nums) (P:Program) (q0:Bool) (q1:OA) (qq qx:Nat) (q2:Bool) (q3:OA) (vo vx:Nat) (w:World) (K:KV):Prop:=
 cond (q0==q2)
 (CallsX P N.f_bn_add #[.slice q1 qq qx,.slice q3 vo vx] w fun v2 w1=>
 vS_ v2 fun s3a s3l s3c=>
 K (.tuple #[.bool q0,.slice s3a s3l s3c]) w1)
 (CallsX P N.f_bn_cmp #[.slice q1 qq qx,.slice q3 vo vx] w fun v5 w4=>
 ∃ n6,v5=(.int .i64 n6) ∧
 cond (decide (n6≥0))
 (CallsX P N.f_bn_sub #[.slice q1 qq qx,.slice q3 vo vx] w4 fun v8 w7=>
 vS_ v8 fun s9a s9l s9c=>
 K (.tuple #[.bool q0,.slice s9a s9l s9c]) w7)
 (CallsX P N.f_bn_sub #[.slice q3 vo vx,.slice q1 qq qx] w4 fun v11 w10=>
 vS_ v11 fun s12a s12l s12c=>
 K (.tuple #[.bool q2,.slice s12a s12l s12c]) w10))
def S_bn_left (N:Nums) (P:Program) (q0:OA) (qg qk:Nat) (q1:Int) (w:World) (K:KV):Prop:=
 cond ((qg:Int)==0)
 (K (.slice none 0 0) w)
 ((32:Int)≠0 ∧
 (32:Int)≠0 ∧
 mkM N.t_uint32 1 4 #[.int .u32 0] (i64.wrap ((i64.wrap ((qg:Int)+(i64.wrap (u64.wrap (q1.tdiv 32)))))+1)) (i64.wrap ((i64.wrap ((qg:Int)+(i64.wrap (u64.wrap (q1.tdiv 32)))))+1)) w fun p1 w2=>
 cutM (σ:=Unit) (fun J3=>
 loopM (σ:=Int×Unit) (fun s6 X7 w8=>
 cond (decide (s6.1<(qg:Int)))
 ((0:Int)≤s6.1∧s6.1<(qg:Nat) ∧
 optM q0 fun a9=>
 cW_ w8 (a9.add (s6.1.toNat*1)) fun n10=>
 (0:Int)≤(q1.tmod 32) ∧
 (0:Int)≤(i64.wrap (s6.1+(i64.wrap (u64.wrap (q1.tdiv 32)))))∧(i64.wrap (s6.1+(i64.wrap (u64.wrap (q1.tdiv 32)))))<((i64.wrap ((i64.wrap ((qg:Int)+(i64.wrap (u64.wrap (q1.tdiv 32)))))+1)).toNat:Nat) ∧
 ∃ n11,w8.cell? (p1.add ((i64.wrap (s6.1+(i64.wrap (u64.wrap (q1.tdiv 32))))).toNat*1))=some (.int .u32 n11) ∧
 (0:Int)≤(i64.wrap (s6.1+(i64.wrap (u64.wrap (q1.tdiv 32)))))∧(i64.wrap (s6.1+(i64.wrap (u64.wrap (q1.tdiv 32)))))<((i64.wrap ((i64.wrap ((qg:Int)+(i64.wrap (u64.wrap (q1.tdiv 32)))))+1)).toNat:Nat) ∧
 stM (p1.add ((i64.wrap (s6.1+(i64.wrap (u64.wrap (q1.tdiv 32))))).toNat*1)) (.int .u32 (u32.wrap (BitVec.ofInt u32.bits n11 ||| BitVec.ofInt u32.bits (u32.wrap (u64.wrap ((u64.wrap n10)*2^(min (q1.tmod 32).toNat u64.bits))))).toNat)) w8 fun w12=>
 (0:Int)≤(i64.wrap ((i64.wrap (s6.1+(i64.wrap (u64.wrap (q1.tdiv 32)))))+1))∧(i64.wrap ((i64.wrap (s6.1+(i64.wrap (u64.wrap (q1.tdiv 32)))))+1))<((i64.wrap ((i64.wrap ((qg:Int)+(i64.wrap (u64.wrap (q1.tdiv 32)))))+1)).toNat:Nat) ∧
 ∃ n13,w12.cell? (p1.add ((i64.wrap ((i64.wrap (s6.1+(i64.wrap (u64.wrap (q1.tdiv 32)))))+1)).toNat*1))=some (.int .u32 n13) ∧
 (0:Int)≤32 ∧
 (0:Int)≤(i64.wrap ((i64.wrap (s6.1+(i64.wrap (u64.wrap (q1.tdiv 32)))))+1))∧(i64.wrap ((i64.wrap (s6.1+(i64.wrap (u64.wrap (q1.tdiv 32)))))+1))<((i64.wrap ((i64.wrap ((qg:Int)+(i64.wrap (u64.wrap (q1.tdiv 32)))))+1)).toNat:Nat) ∧
 stM (p1.add ((i64.wrap ((i64.wrap (s6.1+(i64.wrap (u64.wrap (q1.tdiv 32)))))+1)).toNat*1)) (.int .u32 (u32.wrap (BitVec.ofInt u32.bits n13 ||| BitVec.ofInt u32.bits (u32.wrap ((u64.wrap ((u64.wrap n10)*2^(min (q1.tmod 32).toNat u64.bits))).fdiv (2^(min (32:Int).toNat u64.bits))))).toNat)) w12 fun w14=>
 X7 ((i64.wrap (s6.1+1)),()) w14)
 (J3 (()) w8))
 (0,()) w2)
 (fun s4 w5=>
 CallsX P N.f_bn_trim #[.slice (some p1) ((i64.wrap ((i64.wrap ((qg:Int)+(i64.wrap (u64.wrap (q1.tdiv 32)))))+1)).toNat) ((i64.wrap ((i64.wrap ((qg:Int)+(i64.wrap (u64.wrap (q1.tdiv 32)))))+1)).toNat)] w5 fun v16 w15=>
 vS_ v16 fun s17a s17l s17c=>
 K (.slice s17a s17l s17c) w15))
def S_bn_cmp (N:Nums) (P:Program) (q0:OA) (qg qk:Nat) (q1:OA) (qq qx:Nat) (w:World) (K:KV):Prop:=
 cond ((qg:Int) != (qq:Int))
 (cond (decide ((qg:Int)<(qq:Int)))
 (K (.int .i64 (-1)) w)
 (K (.int .i64 1) w))
 (cutM (σ:=Unit) (fun J1=>
 loopM (σ:=Int×Unit) (fun s4 X5 w6=>
 cond (decide (s4.1≥0))
 ((0:Int)≤s4.1∧s4.1<(qg:Nat) ∧
 optM q0 fun a7=>
 cW_ w6 (a7.add (s4.1.toNat*1)) fun n8=>
 (0:Int)≤s4.1∧s4.1<(qq:Nat) ∧
 optM q1 fun a9=>
 cW_ w6 (a9.add (s4.1.toNat*1)) fun n10=>
 drM w6 fun w11=>
 cond (n8 != n10)
 ((0:Int)≤s4.1∧s4.1<(qg:Nat) ∧
 optM q0 fun a12=>
 cW_ w11 (a12.add (s4.1.toNat*1)) fun n13=>
 (0:Int)≤s4.1∧s4.1<(qq:Nat) ∧
 optM q1 fun a14=>
 cW_ w11 (a14.add (s4.1.toNat*1)) fun n15=>
 drM w11 fun w16=>
 cond (decide (n13<n15))
 (K (.int .i64 (-1)) w16)
 (K (.int .i64 1) w16))
 (X5 ((i64.wrap (s4.1-1)),()) w11))
 (J1 (()) w6))
 ((i64.wrap ((qg:Int)-1)),()) w)
 (fun s2 w3=>
 K (.int .i64 0) w3))
def S_bn_bit (N:Nums) (P:Program) (q0:OA) (qg qk:Nat) (q1:Int) (w:World) (K:KV):Prop:=
 cond (!(decide (q1<0)))
 ((32:Int)≠0 ∧
 cond (decide ((i64.wrap (q1.tdiv 32))≥(qg:Int)))
 (K (.int .u64 0) w)
 ((32:Int)≠0 ∧
 (0:Int)≤(i64.wrap (q1.tdiv 32))∧(i64.wrap (q1.tdiv 32))<(qg:Nat) ∧
 optM q0 fun a1=>
 ∃ n2,w.cell? (a1.add ((i64.wrap (q1.tdiv 32)).toNat*1))=some (.int .u32 n2) ∧
 (32:Int)≠0 ∧
 (0:Int)≤((u64.wrap q1).tmod 32) ∧
 K (.int .u64 (u64.wrap (BitVec.ofInt u64.bits (u64.wrap (n2.fdiv (2^(min ((u64.wrap q1).tmod 32).toNat u32.bits)))) &&& BitVec.ofInt u64.bits 1).toNat)) w))
 (K (.int .u64 0) w)
def S_bn_length (N:Nums) (P:Program) (q0:OA) (qg qk:Nat) (w:World) (K:KV):Prop:=
 cond ((qg:Int)==0)
 (K (.int .i64 0) w)
 ((0:Int)≤(i64.wrap ((qg:Int)-1))∧(i64.wrap ((qg:Int)-1))<(qg:Nat) ∧
 optM q0 fun a1=>
 ∃ n2,w.cell? (a1.add ((i64.wrap ((qg:Int)-1)).toNat*1))=some (.int .u32 n2) ∧
 cutM (σ:=Int×Unit) (fun J3=>
 loopM (σ:=Int×Int×Unit) (fun s6 X7 w8=>
 cond (s6.2.1 != 0)
 ((0:Int)≤1 ∧
 X7 ((i64.wrap (s6.1+1)),(s6.2.1.fdiv (2^(min (1:Int).toNat u32.bits))),()) w8)
 (J3 (s6.1,()) w8))
 (0,n2,()) w)
 (fun s4 w5=>
 K (.int .i64 (i64.wrap ((i64.wrap ((i64.wrap ((qg:Int)-1))*32))+s4.1))) w5))
def S_bn_add (N:Nums) (P:Program) (q0:OA) (qg qk:Nat) (q1:OA) (qq qx:Nat) (w:World) (K:KV):Prop:=
 cutM (σ:=(OA×Nat×Nat)×(OA×Nat×Nat)×Unit) (fun J1=>
 cond (decide ((qg:Int)<(qq:Int)))
 (J1 ((q1,qq,qx),(q0,qg,qk),()) w)
 (J1 ((q0,qg,qk),(q1,qq,qx),()) w))
 (fun s2 w3=>
 mkM N.t_uint32 1 4 #[.int .u32 0] (i64.wrap (((s2.1.2.1:Nat):Int)+1)) (i64.wrap (((s2.1.2.1:Nat):Int)+1)) w3 fun p4 w5=>
 cutM (σ:=Int×Unit) (fun J6=>
 loopM (σ:=Int×Int×Unit) (fun s9 X10 w11=>
 cond (decide (s9.2.1<((s2.1.2.1:Nat):Int)))
 ((0:Int)≤s9.2.1∧s9.2.1<(s2.1.2.1:Nat) ∧
 optM s2.1.1 fun a12=>
 cW_ w11 (a12.add (s9.2.1.toNat*1)) fun n13=>
 cutM (σ:=Int×Unit) (fun J14=>
 cond (decide (s9.2.1<((s2.2.1.2.1:Nat):Int)))
 ((0:Int)≤s9.2.1∧s9.2.1<(s2.2.1.2.1:Nat) ∧
 optM s2.2.1.1 fun a17=>
 cW_ w11 (a17.add (s9.2.1.toNat*1)) fun n18=>
 J14 ((u64.wrap ((u64.wrap (s9.1+(u64.wrap n13)))+(u64.wrap n18))),()) w11)
 (J14 ((u64.wrap (s9.1+(u64.wrap n13))),()) w11))
 (fun s15 w16=>
 (0:Int)≤s9.2.1∧s9.2.1<((i64.wrap (((s2.1.2.1:Nat):Int)+1)).toNat:Nat) ∧
 stM (p4.add (s9.2.1.toNat*1)) (.int .u32 (u32.wrap s15.1)) w16 fun w19=>
 (0:Int)≤32 ∧
 X10 ((s15.1.fdiv (2^(min (32:Int).toNat u64.bits))),(i64.wrap (s9.2.1+1)),()) w19))
 (J6 (s9.1,()) w11))
 (0,0,()) w5)
 (fun s7 w8=>
 (0:Int)≤((s2.1.2.1:Nat):Int)∧((s2.1.2.1:Nat):Int)<((i64.wrap (((s2.1.2.1:Nat):Int)+1)).toNat:Nat) ∧
 stM (p4.add (((s2.1.2.1:Nat):Int).toNat*1)) (.int .u32 (u32.wrap s7.1)) w8 fun w20=>
 CallsX P N.f_bn_trim #[.slice (some p4) ((i64.wrap (((s2.1.2.1:Nat):Int)+1)).toNat) ((i64.wrap (((s2.1.2.1:Nat):Int)+1)).toNat)] w20 fun v22 w21=>
 vS_ v22 fun s23a s23l s23c=>
 K (.slice s23a s23l s23c) w21))
def S_bn_right (N:Nums) (P:Program) (q0:OA) (qg qk:Nat) (q1:Int) (w:World) (K:KV):Prop:=
 (32:Int)≠0 ∧
 (32:Int)≠0 ∧
 cond (decide ((i64.wrap (u64.wrap (q1.tdiv 32)))≥(qg:Int)))
 (K (.slice none 0 0) w)
 (mkM N.t_uint32 1 4 #[.int .u32 0] (i64.wrap ((qg:Int)-(i64.wrap (u64.wrap (q1.tdiv 32))))) (i64.wrap ((qg:Int)-(i64.wrap (u64.wrap (q1.tdiv 32))))) w fun p1 w2=>
 cutM (σ:=Unit) (fun J3=>
 loopM (σ:=Int×Unit) (fun s6 X7 w8=>
 cond (decide (s6.1<(((i64.wrap ((qg:Int)-(i64.wrap (u64.wrap (q1.tdiv 32))))).toNat:Nat):Int)))
 ((0:Int)≤(i64.wrap (s6.1+(i64.wrap (u64.wrap (q1.tdiv 32)))))∧(i64.wrap (s6.1+(i64.wrap (u64.wrap (q1.tdiv 32)))))<(qg:Nat) ∧
 optM q0 fun a9=>
 ∃ n10,w8.cell? (a9.add ((i64.wrap (s6.1+(i64.wrap (u64.wrap (q1.tdiv 32))))).toNat*1))=some (.int .u32 n10) ∧
 cutM (σ:=Int×Unit) (fun J11=>
 cond (decide ((i64.wrap ((i64.wrap (s6.1+(i64.wrap (u64.wrap (q1.tdiv 32)))))+1))<(qg:Int)))
 ((0:Int)≤(i64.wrap ((i64.wrap (s6.1+(i64.wrap (u64.wrap (q1.tdiv 32)))))+1))∧(i64.wrap ((i64.wrap (s6.1+(i64.wrap (u64.wrap (q1.tdiv 32)))))+1))<(qg:Nat) ∧
 optM q0 fun a14=>
 ∃ n15,w8.cell? (a14.add ((i64.wrap ((i64.wrap (s6.1+(i64.wrap (u64.wrap (q1.tdiv 32)))))+1)).toNat*1))=some (.int .u32 n15) ∧
 (0:Int)≤32 ∧
 J11 ((u64.wrap (BitVec.ofInt u64.bits (u64.wrap n10) ||| BitVec.ofInt u64.bits (u64.wrap ((u64.wrap n15)*2^(min (32:Int).toNat u64.bits)))).toNat),()) w8)
 (J11 ((u64.wrap n10),()) w8))
 (fun s12 w13=>
 (0:Int)≤(q1.tmod 32) ∧
 (0:Int)≤s6.1∧s6.1<((i64.wrap ((qg:Int)-(i64.wrap (u64.wrap (q1.tdiv 32))))).toNat:Nat) ∧
 stM (p1.add (s6.1.toNat*1)) (.int .u32 (u32.wrap (s12.1.fdiv (2^(min (q1.tmod 32).toNat u64.bits))))) w13 fun w16=>
 X7 ((i64.wrap (s6.1+1)),()) w16))
 (J3 (()) w8))
 (0,()) w2)
 (fun s4 w5=>
 CallsX P N.f_bn_trim #[.slice (some p1) ((i64.wrap ((qg:Int)-(i64.wrap (u64.wrap (q1.tdiv 32))))).toNat) ((i64.wrap ((qg:Int)-(i64.wrap (u64.wrap (q1.tdiv 32))))).toNat)] w5 fun v18 w17=>
 vS_ v18 fun s19a s19l s19c=>
 K (.slice s19a s19l s19c) w17))
def S_bn_sub (N:Nums) (P:Program) (q0:OA) (qg qk:Nat) (q1:OA) (qq qx:Nat) (w:World) (K:KV):Prop:=
 mkM N.t_uint32 1 4 #[.int .u32 0] (qg:Int) (qg:Int) w fun p1 w2=>
 cutM (σ:=Unit) (fun J3=>
 loopM (σ:=Int×Int×Unit) (fun s6 X7 w8=>
 cond (decide (s6.2.1<(qg:Int)))
 ((0:Int)≤s6.2.1∧s6.2.1<(qg:Nat) ∧
 optM q0 fun a9=>
 cW_ w8 (a9.add (s6.2.1.toNat*1)) fun n10=>
 cutM (σ:=Int×Unit) (fun J11=>
 cond (decide (s6.2.1<(qq:Int)))
 ((0:Int)≤s6.2.1∧s6.2.1<(qq:Nat) ∧
 optM q1 fun a14=>
 cW_ w8 (a14.add (s6.2.1.toNat*1)) fun n15=>
 J11 ((u64.wrap ((u64.wrap ((u64.wrap n10)-s6.1))-(u64.wrap n15))),()) w8)
 (J11 ((u64.wrap ((u64.wrap n10)-s6.1)),()) w8))
 (fun s12 w13=>
 (0:Int)≤s6.2.1∧s6.2.1<((qg:Int).toNat:Nat) ∧
 stM (p1.add (s6.2.1.toNat*1)) (.int .u32 (u32.wrap s12.1)) w13 fun w16=>
 (0:Int)≤63 ∧
 X7 ((s12.1.fdiv (2^(min (63:Int).toNat u64.bits))),(i64.wrap (s6.2.1+1)),()) w16))
 (J3 (()) w8))
 (0,0,()) w2)
 (fun s4 w5=>
 CallsX P N.f_bn_trim #[.slice (some p1) ((qg:Int).toNat) ((qg:Int).toNat)] w5 fun v18 w17=>
 vS_ v18 fun s19a s19l s19c=>
 K (.slice s19a s19l s19c) w17)
def S_p_inertia_rows_find (N:Nums) (P:Program) (q0:OA) (q1:Int) (w:World) (K:KV):Prop:=
 cutM (σ:=Int×Int×Unit) (fun J1=>
 loopM (σ:=Int×Int×Int×Unit) (fun s4 X5 w6=>
 optM q0 fun a7=>
 cS_ w6 a7 fun s8a s8l s8c=>
 cond (decide (s4.2.2.1<(s8l:Int)))
 (cutM (σ:=Int×Int×Unit) (fun J9=>
 loopM (σ:=Int×Int×Int×Unit) (fun s12 X13 w14=>
 cond (decide (s12.2.2.1<s4.2.2.1))
 (optM q0 fun a15=>
 cS_ w14 a15 fun s16a s16l s16c=>
 (0:Int)≤s4.2.2.1∧s4.2.2.1<(s16l:Nat) ∧
 optM s16a fun a17=>
 cS_ w14 (a17.add (s4.2.2.1.toNat*1)) fun s18a s18l s18c=>
 (0:Int)≤s12.2.2.1∧s12.2.2.1<(s18l:Nat) ∧
 optM s18a fun a19=>
 ∃ p20:(OA),w14.cell? (a19.add (s12.2.2.1.toNat*1))=some (.pointer p20) ∧
 CallsX P N.f_bI_Sign #[.pointer p20] w14 fun v22 w21=>
 ∃ n23,v22=(.int .i64 n23) ∧
 cond (n23 != 0)
 (J1 (s4.2.2.1,s12.2.2.1,()) w21)
 (X13 (s12.1,s12.2.1,(i64.wrap (s12.2.2.1+1)),()) w21))
 (J9 (s12.1,s12.2.1,()) w14))
 (s4.1,s4.2.1,q1,()) w6)
 (fun s10 w11=>
 X5 (s10.1,s10.2.1,(i64.wrap (s4.2.2.1+1)),()) w11))
 (J1 (s4.1,s4.2.1,()) w6))
 ((-1),(-1),q1,()) w)
 (fun s2 w3=>
 cutM (σ:=Unit) (fun J24=>
 loopM (σ:=Int×Unit) (fun s27 X28 w29=>
 optM q0 fun a30=>
 cS_ w29 a30 fun s31a s31l s31c=>
 cond (decide (s27.1<(s31l:Int)))
 (optM q0 fun a32=>
 cS_ w29 a32 fun s33a s33l s33c=>
 (0:Int)≤s27.1∧s27.1<(s33l:Nat) ∧
 optM s33a fun a34=>
 cS_ w29 (a34.add (s27.1.toNat*1)) fun s35a s35l s35c=>
 (0:Int)≤s27.1∧s27.1<(s35l:Nat) ∧
 optM s35a fun a36=>
 ∃ p37:(OA),w29.cell? (a36.add (s27.1.toNat*1))=some (.pointer p37) ∧
 CallsX P N.f_bI_Sign #[.pointer p37] w29 fun v39 w38=>
 ∃ n40,v39=(.int .i64 n40) ∧
 cond (n40 != 0)
 (K (.tuple #[.int .i64 s27.1,.int .i64 s27.1]) w38)
 (X28 ((i64.wrap (s27.1+1)),()) w38))
 (J24 (()) w29))
 (q1,()) w3)
 (fun s25 w26=>
 K (.tuple #[.int .i64 s2.1,.int .i64 s2.2.1]) w26))
def S_bn_mul (N:Nums) (P:Program) (q0:OA) (qg qk:Nat) (q1:OA) (qq qx:Nat) (w:World) (K:KV):Prop:=
 cutM (σ:=Bool×Unit) (fun J1=>
 cond (!((qg:Int)==0))
 (J1 (((qq:Int)==0),()) w)
 (J1 (true,()) w))
 (fun s2 w3=>
 cond s2.1
 (K (.slice none 0 0) w3)
 (mkM N.t_uint32 1 4 #[.int .u32 0] (i64.wrap ((qg:Int)+(qq:Int))) (i64.wrap ((qg:Int)+(qq:Int))) w3 fun p4 w5=>
 cutM (σ:=Unit) (fun J6=>
 loopM (σ:=Int×Unit) (fun s9 X10 w11=>
 cond (decide (s9.1<(qg:Int)))
 (cutM (σ:=Int×Unit) (fun J12=>
 loopM (σ:=Int×Int×Unit) (fun s15 X16 w17=>
 cond (decide (s15.2.1<(qq:Int)))
 ((0:Int)≤s9.1∧s9.1<(qg:Nat) ∧
 optM q0 fun a18=>
 cW_ w17 (a18.add (s9.1.toNat*1)) fun n19=>
 (0:Int)≤s15.2.1∧s15.2.1<(qq:Nat) ∧
 optM q1 fun a20=>
 cW_ w17 (a20.add (s15.2.1.toNat*1)) fun n21=>
 (0:Int)≤(i64.wrap (s9.1+s15.2.1))∧(i64.wrap (s9.1+s15.2.1))<((i64.wrap ((qg:Int)+(qq:Int))).toNat:Nat) ∧
 ∃ n22,w17.cell? (p4.add ((i64.wrap (s9.1+s15.2.1)).toNat*1))=some (.int .u32 n22) ∧
 drM w17 fun w23=>
 (0:Int)≤(i64.wrap (s9.1+s15.2.1))∧(i64.wrap (s9.1+s15.2.1))<((i64.wrap ((qg:Int)+(qq:Int))).toNat:Nat) ∧
 stM (p4.add ((i64.wrap (s9.1+s15.2.1)).toNat*1)) (.int .u32 (u32.wrap (u64.wrap (s15.1+(u64.wrap ((u64.wrap ((u64.wrap n19)*(u64.wrap n21)))+(u64.wrap n22))))))) w23 fun w24=>
 (0:Int)≤32 ∧
 X16 (((u64.wrap (s15.1+(u64.wrap ((u64.wrap ((u64.wrap n19)*(u64.wrap n21)))+(u64.wrap n22))))).fdiv (2^(min (32:Int).toNat u64.bits))),(i64.wrap (s15.2.1+1)),()) w24)
 (J12 (s15.1,()) w17))
 (0,0,()) w11)
 (fun s13 w14=>
 (0:Int)≤(i64.wrap (s9.1+(qq:Int)))∧(i64.wrap (s9.1+(qq:Int)))<((i64.wrap ((qg:Int)+(qq:Int))).toNat:Nat) ∧
 stM (p4.add ((i64.wrap (s9.1+(qq:Int))).toNat*1)) (.int .u32 (u32.wrap s13.1)) w14 fun w25=>
 X10 ((i64.wrap (s9.1+1)),()) w25))
 (J6 (()) w11))
 (0,()) w5)
 (fun s7 w8=>
 CallsX P N.f_bn_trim #[.slice (some p4) ((i64.wrap ((qg:Int)+(qq:Int))).toNat) ((i64.wrap ((qg:Int)+(qq:Int))).toNat)] w8 fun v27 w26=>
 vS_ v27 fun s28a s28l s28c=>
 K (.slice s28a s28l s28c) w26)))
def S_bI_QuoRem (N:Nums) (P:Program) (q0:OA) (q1:OA) (q2:OA) (q3:OA) (w:World) (K:KV):Prop:=
 optM q1 fun a1=>
 cB_ w a1 fun b2=>
 optM q2 fun a3=>
 cB_ w a3 fun b4=>
 drM w fun w5=>
 optM q1 fun a6=>
 cS_ w5 (a6.add 1) fun s7a s7l s7c=>
 optM q2 fun a8=>
 cS_ w5 (a8.add 1) fun s9a s9l s9c=>
 drM w5 fun w10=>
 CallsX P N.f_bn_div #[.slice s7a s7l s7c,.slice s9a s9l s9c] w10 fun v12 w11=>
 ∃ s13a s13l s13c,∃ s14a s14l s14c,v12=(.tuple #[.slice s13a s13l s13c,.slice s14a s14l s14c]) ∧
 drM w11 fun w15=>
 CallsX P N.f_bI_give #[.pointer q0,.bool (!(b2==b4)),.slice s13a s13l s13c] w15 fun v17 w16=>
 ∃ p18:(OA),v17=(.pointer p18) ∧
 CallsX P N.f_bI_give #[.pointer q3,.bool b2,.slice s14a s14l s14c] w16 fun v20 w19=>
 ∃ p21:(OA),v20=(.pointer p21) ∧
 K (.tuple #[.pointer q0,.pointer q3]) w19
def S_bn_twin (N:Nums) (P:Program) (q0:OA) (qg qk:Nat) (w:World) (K:KV):Prop:=
 appM N.t_uint32 1 4 #[.int .u32 0] none 0 0 q0 qg w fun s1a s1l s1c w2=>
 K (.slice s1a s1l s1c) w2
def S_r02_NatDown (N:Nums) (P:Program) (q0:OA) (qg qk:Nat) (q1:Int) (w:World) (K:KV):Prop:=
 CallsX P N.f_r02_halves #[.slice q0 qg qk] w fun v2 w1=>
 vS_ v2 fun s3a s3l s3c=>
 cutM (σ:=Bool×Unit) (fun J4=>
 loopM (σ:=Bool×Int×Unit) (fun s7 X8 w9=>
 (32:Int)≠0 ∧
 cond (decide (s7.2.1<(i64.wrap (q1.tdiv 32))))
 (cond (decide (s7.2.1<(s3l:Int)))
 (cond (!s7.1)
 ((0:Int)≤s7.2.1∧s7.2.1<(s3l:Nat) ∧
 optM s3a fun a10=>
 cU_ w9 (a10.add (s7.2.1.toNat*1)) fun n11=>
 X8 ((n11 != 0),(i64.wrap (s7.2.1+1)),()) w9)
 (X8 (true,(i64.wrap (s7.2.1+1)),()) w9))
 (J4 (s7.1,()) w9))
 (J4 (s7.1,()) w9))
 (false,0,()) w1)
 (fun s5 w6=>
 (32:Int)≠0 ∧
 cond (decide ((i64.wrap (q1.tdiv 32))≥(s3l:Int)))
 (K (.tuple #[.slice none 0 0,.bool s5.1]) w6)
 (cutM (σ:=Int×Unit) (fun J12=>
 loopM (σ:=Int×Int×Unit) (fun s15 X16 w17=>
 (32:Int)≠0 ∧
 cond (decide (s15.2.1<(q1.tmod 32)))
 (X16 ((u64.wrap (2*s15.1)),(i64.wrap (s15.2.1+1)),()) w17)
 (J12 (s15.1,()) w17))
 (1,0,()) w6)
 (fun s13 w14=>
 (32:Int)≠0 ∧
 (0:Int)≤(i64.wrap (q1.tdiv 32))∧(i64.wrap (q1.tdiv 32))≤(s3l:Nat) ∧
 CallsX P N.f_r02_short #[.slice (slBase s3a ((i64.wrap (q1.tdiv 32)).toNat) s3c 1) (s3l-(i64.wrap (q1.tdiv 32)).toNat) (s3c-(i64.wrap (q1.tdiv 32)).toNat),.int .u64 s13.1] w14 fun v19 w18=>
 ∃ s20a s20l s20c,∃ n21,v19=(.tuple #[.slice s20a s20l s20c,.int .u64 n21]) ∧
 CallsX P N.f_r02_limbs #[.slice s20a s20l s20c] w18 fun v23 w22=>
 vS_ v23 fun s24a s24l s24c=>
 cond (!s5.1)
 (K (.tuple #[.slice s24a s24l s24c,.bool (n21 != 0)]) w22)
 (K (.tuple #[.slice s24a s24l s24c,.bool true]) w22))))
def S_r02_NatBits (N:Nums) (P:Program) (q0:OA) (qg qk:Nat) (w:World) (K:KV):Prop:=
 CallsX P N.f_r02_NatTrim #[.slice q0 qg qk] w fun v2 w1=>
 vS_ v2 fun s3a s3l s3c=>
 cond ((s3l:Int)==0)
 (K (.int .i64 0) w1)
 ((0:Int)≤(i64.wrap ((s3l:Int)-1))∧(i64.wrap ((s3l:Int)-1))<(s3l:Nat) ∧
 optM s3a fun a4=>
 ∃ n5,w1.cell? (a4.add ((i64.wrap ((s3l:Int)-1)).toNat*1))=some (.int .u64 n5) ∧
 cutM (σ:=Int×Unit) (fun J6=>
 loopM (σ:=Int×Int×Unit) (fun s9 X10 w11=>
 cond (decide (s9.2.1>0))
 ((2:Int)≠0 ∧
 X10 ((i64.wrap (s9.1+1)),(u64.wrap (s9.2.1.tdiv 2)),()) w11)
 (J6 (s9.1,()) w11))
 ((i64.wrap (64*(i64.wrap ((s3l:Int)-1)))),n5,()) w1)
 (fun s7 w8=>
 K (.int .i64 s7.1) w8))
end Go.Eng
