/-
 Some of the functions as propositions in the manner of a weakest precondition, printed off the structured code by a program of the session. No condition.
-/
import Derived.Test.YtgbilchfljlbeaaGreatDoorTbl
import Derived.Test.YtgbilchfljlbeaaGreatDoorNm
set_option linter.all false
set_option maxRecDepth 100000
namespace Go.Eng
open Go
open Go.IntKind (i64 u64 u32 u8)
def Dt1 (N:Nums) (P:Program) (qb:Int) (qc:OA) (qe qg:Nat) (qd:OA) (qa qf:Nat) (q1:OA) (qo qu:Nat) (w:World) (K:KV):Prop:=
 Ad1 #[.int .i64 qb,.slice qc qe qg,.slice qd qa qf] N.Ik8 w fun p1 w2=>
 Ae8 (σ:=Bool×Unit) (fun J3=>
 cI_ w2 p1 fun n6=>
 cS_ w2 (p1.add 1) fun s7a s7l s7c=>
 cS_ w2 (p1.add 2) fun s8a s8l s8c=>
 Aa1 P N.Id3 #[.agg #[.int .i64 n6,.slice s7a s7l s7c,.slice s8a s8l s8c]] w2 fun v10 w9=>
 vB_ v10 fun b11=>
 cond (!(!b11))
 (cI_ w9 p1 fun n12=>
 J3 (((qo:Int) != n12),()) w9)
 (J3 (true,()) w9))
 (fun s4 w5=>
 cond s4.1
 (K (.tuple #[.slice none 0 0,.int .i64 4]) w5)
 (cI_ w5 p1 fun n13=>
 cS_ w5 (p1.add 1) fun s14a s14l s14c=>
 cS_ w5 (p1.add 2) fun s15a s15l s15c=>
 Aa1 P N.Ig2 #[.agg #[.int .i64 n13,.slice s14a s14l s14c,.slice s15a s15l s15c]] w5 fun v17 w16=>
 vB_ v17 fun b18=>
 cond b18
 (K (.tuple #[.slice none 0 0,.int .i64 7]) w16)
 (cI_ w16 p1 fun n19=>
 mkM N.Ii0 1 8 #[.float .f64 0] n19 n19 w16 fun p20 w21=>
 cI_ w21 p1 fun n22=>
 Ae8 (σ:=Unit) (fun J23=>
 Ae7 (σ:=Int×Unit) (fun s26 X27 w28=>
 cond (decide (s26.1≥0))
 ((0:Int)≤s26.1∧s26.1<(qo:Nat) ∧
 Ae0 q1 fun a29=>
 cF_ w28 (a29.add (s26.1.toNat*1)) fun x30=>
 cS_ w28 (p1.add 2) fun s31a s31l s31c=>
 (0:Int)≤s26.1∧s26.1<(s31l:Nat) ∧
 Ae0 s31a fun a32=>
 cF_ w28 (a32.add (s26.1.toNat*1)) fun x33=>
 At5 (fdiv x30 x33) w28 fun x34 w35=>
 drM w28 fun w36=>
 Ae8 (σ:=Nat×Unit) (fun J37=>
 Ae7 (σ:=Nat×Int×Unit) (fun s40 X41 w42=>
 cI_ w42 p1 fun n43=>
 cond (decide (s40.2.1<n43))
 (cI_ w42 p1 fun n44=>
 cS_ w42 (p1.add 1) fun s45a s45l s45c=>
 cS_ w42 (p1.add 2) fun s46a s46l s46c=>
 (0:Int)≤s40.2.1∧s40.2.1<(n19.toNat:Nat) ∧
 cF_ w42 (p20.add (s40.2.1.toNat*1)) fun x47=>
 drM w42 fun w48=>
 Aa1 P N.Ij5 #[.agg #[.int .i64 n44,.slice s45a s45l s45c,.slice s46a s46l s46c],.int .i64 s40.2.1,.int .i64 s26.1] w48 fun v50 w49=>
 ∃ x51,v50=(.float .f64 x51) ∧
 w49.cell? (p20.add (s40.2.1.toNat*1))=some (.float .f64 x47) ∧
 At5 (Cq0 x51 x47) w49 fun x52 w53=>
 drM w49 fun w54=>
 At5 (Bn1 s40.1 x52) w54 fun x55 w56=>
 X41 (x55,(i64.wrap (s40.2.1+1)),()) w56)
 (J37 (s40.1,()) w42))
 (x34,(i64.wrap (s26.1+1)),()) w36)
 (fun s38 w39=>
 (0:Int)≤s26.1∧s26.1<(n19.toNat:Nat) ∧
 stM (p20.add (s26.1.toNat*1)) (.float .f64 s38.1) w39 fun w57=>
 X27 ((i64.wrap (s26.1-1)),()) w57))
 (J23 (()) w28))
 ((i64.wrap (n22-1)),()) w21)
 (fun s24 w25=>
 K (.tuple #[.slice (some p20) n19.toNat n19.toNat,.int .i64 0]) w25))))
def De6 (N:Nums) (P:Program) (q0:Nat) (q1:Nat) (q2:Int) (w:World) (K:KV):Prop:=
 Aa1 P N.Ie0 #[.int .i8 q2] w fun v2 w1=>
 ∃ n3,v2=(.int .i8 n3) ∧
 At5 (As2 q0 q1) w1 fun x4 w5=>
 Ad1 #[.float .f64 q0,.float .f64 q1] N.Ii0 w5 fun p6 w7=>
 Aa1 P N.Hw7 #[.slice (some p6) 2 2] w7 fun v9 w8=>
 vB_ v9 fun b10=>
 cond (!b10)
 (K (.float .f64 x4) w8)
 (Ae8 (σ:=Bool×Unit) (fun J11=>
 cond (feq x4 0)
 (cond (!(!feq q0 0))
 (cond (feq x4 0)
 (Aa1 P N.Hw6 #[.float .f64 q0] w8 fun v15 w14=>
 vB_ v15 fun b16=>
 Aa1 P N.Hw6 #[.float .f64 q1] w14 fun v18 w17=>
 vB_ v18 fun b19=>
 J11 ((!(b16==b19)),()) w17)
 (J11 (false,()) w8))
 (J11 (true,()) w8))
 (cond (feq x4 0)
 (Aa1 P N.Hw6 #[.float .f64 q0] w8 fun v21 w20=>
 vB_ v21 fun b22=>
 Aa1 P N.Hw6 #[.float .f64 q1] w20 fun v24 w23=>
 vB_ v24 fun b25=>
 J11 ((!(b22==b25)),()) w23)
 (J11 (false,()) w8)))
 (fun s12 w13=>
 cond s12.1
 (Aa1 P N.Hz9 #[.int .i8 n3] w13 fun v27 w26=>
 ∃ x28,v27=(.float .f64 x28) ∧
 K (.float .f64 x28) w26)
 (cond (feq x4 0)
 (K (.float .f64 x4) w13)
 (Aa1 P N.Ia2 #[.float .f64 x4,.int .i64 0] w13 fun v30 w29=>
 vB_ v30 fun b31=>
 cond b31
 (Aa1 P N.Hw2 #[.float .f64 x4,.int .i64 0,.int .i8 n3] w29 fun v33 w32=>
 ∃ x34,v33=(.float .f64 x34) ∧
 K (.float .f64 x34) w32)
 (Aa1 P N.Ig0 #[.float .f64 q0] w29 fun v36 w35=>
 ∃ x37,v36=(.float .f64 x37) ∧
 Aa1 P N.Ig0 #[.float .f64 q1] w35 fun v39 w38=>
 ∃ x40,v39=(.float .f64 x40) ∧
 Ae8 (σ:=Nat×Nat×Unit) (fun J41=>
 cond (flt x37 x40)
 (J41 (q1,q0,()) w38)
 (J41 (q0,q1,()) w38))
 (fun s42 w43=>
 At5 (Bn1 x4 s42.1) w43 fun x44 w45=>
 At5 (Bn1 s42.2.1 x44) w45 fun x46 w47=>
 Aa1 P N.Ia9 #[.float .f64 x46] w47 fun v49 w48=>
 ∃ n50,v49=(.int .i64 n50) ∧
 Aa1 P N.Hw2 #[.float .f64 x4,.int .i64 n50,.int .i8 n3] w48 fun v52 w51=>
 ∃ x53,v52=(.float .f64 x53) ∧
 K (.float .f64 x53) w51))))))
def Dq5 (N:Nums) (P:Program) (q0:Nat) (w:World) (K:KV):Prop:=
 Aa1 P N.Hu7 #[.float .f64 q0] w fun v2 w1=>
 ∃ n3,v2=(.int .u64 n3) ∧
 Aa1 P N.Hu5 #[.int .u64 (u64.wrap (BitVec.ofInt u64.bits n3 &&& ~~~BitVec.ofInt u64.bits 9223372036854775808).toNat)] w1 fun v5 w4=>
 ∃ x6,v5=(.float .f64 x6) ∧
 K (.float .f64 x6) w4
def Es9 (N:Nums) (P:Program) (q0:Nat) (q1:Nat) (q2:Int) (w:World) (K:KV):Prop:=
 At5 (As2 q0 q1) w fun x1 w2=>
 Aa1 P N.Ia6 #[.float .f64 q0] w2 fun v4 w3=>
 vB_ v4 fun b5=>
 cond (!(!b5))
 (Aa1 P N.Ia6 #[.float .f64 q1] w3 fun v7 w6=>
 vB_ v7 fun b8=>
 cond (!b8)
 (K (.float .f64 x1) w6)
 (Aa1 P N.Ia6 #[.float .f64 x1] w6 fun v10 w9=>
 vB_ v10 fun b11=>
 cond (!b11)
 (Aa1 P N.If3 #[.float .f64 x1,.int .i8 q2] w9 fun v13 w12=>
 ∃ x14,v13=(.float .f64 x14) ∧
 K (.float .f64 x14) w12)
 (cond (feq x1 0)
 (Aa1 P N.Hw6 #[.float .f64 q0] w9 fun v16 w15=>
 vB_ v16 fun b17=>
 Aa1 P N.Ib1 #[.bool (feq q0 0),.bool b17,.float .f64 q1,.int .i8 q2] w15 fun v19 w18=>
 ∃ x20,v19=(.float .f64 x20) ∧
 K (.float .f64 x20) w18)
 (Aa1 P N.Ig0 #[.float .f64 q0] w9 fun v22 w21=>
 ∃ x23,v22=(.float .f64 x23) ∧
 Aa1 P N.Ig0 #[.float .f64 q1] w21 fun v25 w24=>
 ∃ x26,v25=(.float .f64 x26) ∧
 Ae8 (σ:=Nat×Nat×Unit) (fun J27=>
 cond (flt x23 x26)
 (J27 (q1,q0,()) w24)
 (J27 (q0,q1,()) w24))
 (fun s28 w29=>
 At5 (Bn1 x1 s28.1) w29 fun x30 w31=>
 At5 (Bn1 s28.2.1 x30) w31 fun x32 w33=>
 Aa1 P N.Ih2 #[.float .f64 x32] w33 fun v35 w34=>
 ∃ n36,v35=(.int .i64 n36) ∧
 Aa1 P N.Ih7 #[.float .f64 x1,.int .i64 n36,.int .i8 q2] w34 fun v38 w37=>
 ∃ x39,v38=(.float .f64 x39) ∧
 K (.float .f64 x39) w37)))))
 (K (.float .f64 x1) w3)
def Cs0 (N:Nums) (P:Program) (qb:Int) (qc:OA) (qe qg:Nat) (qd:OA) (qa qf:Nat) (q1:Int) (w:World) (K:KV):Prop:=
 Ad1 #[.int .i64 qb,.slice qc qe qg,.slice qd qa qf] N.Ik8 w fun p1 w2=>
 cI_ w2 p1 fun n3=>
 cS_ w2 (p1.add 1) fun s4a s4l s4c=>
 cS_ w2 (p1.add 2) fun s5a s5l s5c=>
 Aa1 P N.Hx6 #[.agg #[.int .i64 n3,.slice s4a s4l s4c,.slice s5a s5l s5c]] w2 fun v7 w6=>
 vB_ v7 fun b8=>
 cond (!(!b8))
 (cI_ w6 p1 fun n9=>
 cond (q1 != n9)
 (K (.int .i64 4) w6)
 (K (.int .i64 0) w6))
 (K (.int .i64 4) w6)
def Am4 (N:Nums) (P:Program) (q0:OA) (qj qm:Nat) (w:World) (K:KV):Prop:=
 cond (Option.isNone q0)
 (K (.slice none 0 0) w)
 (Ad1 #[] N.Ii0 w fun p1 w2=>
 Dp0 N.Ii0 1 8 #[.float .f64 0] (some p1) 0 0 q0 qj w2 fun s3a s3l s3c w4=>
 K (.slice s3a s3l s3c) w4)
def Cf6 (N:Nums) (P:Program) (qb:Int) (qc:OA) (qe qg:Nat) (qd:OA) (qa qf:Nat) (q1:Int) (q2:Int) (w:World) (K:KV):Prop:=
 Ad1 #[.int .i64 qb,.slice qc qe qg,.slice qd qa qf] N.Ik8 w fun p1 w2=>
 cS_ w2 (p1.add 1) fun s3a s3l s3c=>
 (2:Int)≠0 ∧
 (0:Int)≤(i64.wrap ((i64.wrap ((i64.wrap (q1*(i64.wrap (q1-1)))).tdiv 2))+q2))∧(i64.wrap ((i64.wrap ((i64.wrap (q1*(i64.wrap (q1-1)))).tdiv 2))+q2))<(s3l:Nat) ∧
 Ae0 s3a fun a4=>
 ∃ x5,w2.cell? (a4.add ((i64.wrap ((i64.wrap ((i64.wrap (q1*(i64.wrap (q1-1)))).tdiv 2))+q2)).toNat*1))=some (.float .f64 x5) ∧
 K (.float .f64 x5) w2
def Ai9 (N:Nums) (P:Program) (q0:OA) (qj qm:Nat) (q1:Nat) (w:World) (K:KV):Prop:=
 Aa1 P N.Hu3 #[.slice q0 qj qm,.float .f64 q1] w fun v2 w1=>
 ∃ n3,v2=(.int .i64 n3) ∧
 K (.bool (decide (n3≥0))) w1
def Cg7 (N:Nums) (P:Program) (q0:Int) (w:World) (K:KV):Prop:=
 cond (decide (q0≥0))
 (K (.bool (decide (q0≤48))) w)
 (K (.bool false) w)
def Cr3 (N:Nums) (P:Program) (q0:Nat) (w:World) (K:KV):Prop:=
 K (.bool (!feq q0 q0)) w
def Ct4 (N:Nums) (P:Program) (q0:Nat) (q1:Int) (w:World) (K:KV):Prop:=
 Ae8 (σ:=Nat×Unit) (fun J1=>
 cond (q1==0)
 (Aa1 P N.Ig0 #[.float .f64 q0] w fun v5 w4=>
 ∃ x6,v5=(.float .f64 x6) ∧
 J1 (x6,()) w4)
 (Ae8 (σ:=Nat×Unit) (fun J7=>
 cond (decide (q1<0))
 (J7 ((Bn0 q0),()) w)
 (J7 (q0,()) w))
 (fun s8 w9=>
 J1 (s8.1,()) w9)))
 (fun s2 w3=>
 K (.bool (fgt s2.1 9218868437227405311)) w3)
def Dv7 (N:Nums) (P:Program) (q0:Int) (w:World) (K:KV):Prop:=
 Ad1 #[.bool false,.slice none 0 0,.int .i64 0] N.Im3 w fun p1 w2=>
 Aa1 P N.If2 #[.int .i64 q0] w2 fun v4 w3=>
 ∃ p5:(OA),v4=(.pointer p5) ∧
 Aa1 P N.Id1 #[.pointer p5,.int .i64 0] w3 fun v7 w6=>
 ∃ b8,∃ s9a s9l s9c,∃ n10,∃ n11,v7=(.tuple #[.agg #[.bool b8,.slice s9a s9l s9c,.int .i64 n10],.int .i64 n11]) ∧
 Ad1 #[.bool false,.slice none 0 0,.int .i64 0] N.Im3 w6 fun p12 w13=>
 stM p12 (.bool b8) w13 fun w14=>
 stM (p12.add 1) (.slice s9a s9l s9c) w14 fun w15=>
 stM (p12.add 2) (.int .i64 n10) w15 fun w16=>
 cB_ w16 p12 fun b17=>
 cS_ w16 (p12.add 1) fun s18a s18l s18c=>
 cI_ w16 (p12.add 2) fun n19=>
 stM p1 (.bool b17) w16 fun w20=>
 stM (p1.add 1) (.slice s18a s18l s18c) w20 fun w21=>
 stM (p1.add 2) (.int .i64 n19) w21 fun w22=>
 cB_ w22 p1 fun b23=>
 cS_ w22 (p1.add 1) fun s24a s24l s24c=>
 cI_ w22 (p1.add 2) fun n25=>
 K (.agg #[.bool b23,.slice s24a s24l s24c,.int .i64 n25]) w22
def Dv1 (N:Nums) (P:Program) (qb:Bool) (qc:OA) (qe qg:Nat) (qd:Int) (ql:Bool) (qk:OA) (qh qi:Nat) (qq:Int) (w:World) (K:KV):Prop:=
 Ad1 #[.bool qb,.slice qc qe qg,.int .i64 qd] N.Im3 w fun p1 w2=>
 Ad1 #[.bool ql,.slice qk qh qi,.int .i64 qq] N.Im3 w2 fun p3 w4=>
 Ad1 #[.bool false,.slice none 0 0,.int .i64 0] N.Im3 w4 fun p5 w6=>
 cB_ w6 p1 fun b7=>
 cS_ w6 (p1.add 1) fun s8a s8l s8c=>
 cI_ w6 (p1.add 2) fun n9=>
 cB_ w6 p3 fun b10=>
 cS_ w6 (p3.add 1) fun s11a s11l s11c=>
 cI_ w6 (p3.add 2) fun n12=>
 Aa1 P N.Id9 #[.agg #[.bool b7,.slice s8a s8l s8c,.int .i64 n9],.agg #[.bool b10,.slice s11a s11l s11c,.int .i64 n12]] w6 fun v14 w13=>
 vB_ v14 fun b15=>
 cond (!b15)
 (stM p5 (.bool false) w13 fun w16=>
 stM (p5.add 1) (.slice none 0 0) w16 fun w17=>
 stM (p5.add 2) (.int .i64 0) w17 fun w18=>
 cB_ w18 p5 fun b19=>
 cS_ w18 (p5.add 1) fun s20a s20l s20c=>
 cI_ w18 (p5.add 2) fun n21=>
 K (.tuple #[.agg #[.bool b19,.slice s20a s20l s20c,.int .i64 n21],.int .i64 2]) w18)
 (cB_ w13 p1 fun b22=>
 cS_ w13 (p1.add 1) fun s23a s23l s23c=>
 cI_ w13 (p1.add 2) fun n24=>
 cB_ w13 p3 fun b25=>
 cS_ w13 (p3.add 1) fun s26a s26l s26c=>
 cI_ w13 (p3.add 2) fun n27=>
 drM w13 fun w28=>
 Aa1 P N.Ib5 #[.agg #[.bool b22,.slice s23a s23l s23c,.int .i64 n24]] w28 fun v30 w29=>
 ∃ p31:(OA),v30=(.pointer p31) ∧
 w29.cell? p3=some (.bool b25) ∧
 w29.cell? (p3.add 1)=some (.slice s26a s26l s26c) ∧
 w29.cell? (p3.add 2)=some (.int .i64 n27) ∧
 drM w29 fun w32=>
 Aa1 P N.Ib5 #[.agg #[.bool b25,.slice s26a s26l s26c,.int .i64 n27]] w32 fun v34 w33=>
 ∃ p35:(OA),v34=(.pointer p35) ∧
 drM w33 fun w36=>
 Ae8 (σ:=Bool×Unit) (fun J37=>
 Aa1 P N.Ii8 #[.pointer p31] w36 fun v41 w40=>
 ∃ n42,v41=(.int .i64 n42) ∧
 cond (!(n42==0))
 (Aa1 P N.Ii8 #[.pointer p35] w40 fun v44 w43=>
 ∃ n45,v44=(.int .i64 n45) ∧
 J37 ((n45==0),()) w43)
 (J37 (true,()) w40))
 (fun s38 w39=>
 cond s38.1
 (cI_ w39 (p1.add 2) fun n46=>
 cI_ w39 (p3.add 2) fun n47=>
 drM w39 fun w48=>
 Aa1 P N.Ik1 #[.pointer p31,.pointer p31,.pointer p35] w48 fun v50 w49=>
 ∃ p51:(OA),v50=(.pointer p51) ∧
 w49.cell? (p3.add 2)=some (.int .i64 n47) ∧
 w49.cell? (p1.add 2)=some (.int .i64 n46) ∧
 drM w49 fun w52=>
 Aa1 P N.Id1 #[.pointer p51,.int .i64 (i64.wrap (n46+n47))] w52 fun v54 w53=>
 ∃ b55,∃ s56a s56l s56c,∃ n57,∃ n58,v54=(.tuple #[.agg #[.bool b55,.slice s56a s56l s56c,.int .i64 n57],.int .i64 n58]) ∧
 drM w53 fun w59=>
 stM p5 (.bool b55) w59 fun w60=>
 stM (p5.add 1) (.slice s56a s56l s56c) w60 fun w61=>
 stM (p5.add 2) (.int .i64 n57) w61 fun w62=>
 drM w62 fun w63=>
 cB_ w63 p5 fun b64=>
 cS_ w63 (p5.add 1) fun s65a s65l s65c=>
 cI_ w63 (p5.add 2) fun n66=>
 K (.tuple #[.agg #[.bool b64,.slice s65a s65l s65c,.int .i64 n66],.int .i64 n58]) w63)
 (cI_ w39 (p1.add 2) fun n67=>
 cI_ w39 (p3.add 2) fun n68=>
 Ae8 (σ:=(OA)×(OA)×Unit) (fun J69=>
 cond (decide (n67<n68))
 (cB_ w39 p3 fun b72=>
 cS_ w39 (p3.add 1) fun s73a s73l s73c=>
 cI_ w39 (p3.add 2) fun n74=>
 cB_ w39 p1 fun b75=>
 cS_ w39 (p1.add 1) fun s76a s76l s76c=>
 cI_ w39 (p1.add 2) fun n77=>
 stM p1 (.bool b72) w39 fun w78=>
 stM (p1.add 1) (.slice s73a s73l s73c) w78 fun w79=>
 stM (p1.add 2) (.int .i64 n74) w79 fun w80=>
 stM p3 (.bool b75) w80 fun w81=>
 stM (p3.add 1) (.slice s76a s76l s76c) w81 fun w82=>
 stM (p3.add 2) (.int .i64 n77) w82 fun w83=>
 J69 (p35,p31,()) w83)
 (J69 (p31,p35,()) w39))
 (fun s70 w71=>
 cI_ w71 (p1.add 2) fun n84=>
 cI_ w71 (p3.add 2) fun n85=>
 cond (decide ((i64.wrap (n84-n85))>16385))
 (stM p5 (.bool false) w71 fun w86=>
 stM (p5.add 1) (.slice none 0 0) w86 fun w87=>
 stM (p5.add 2) (.int .i64 0) w87 fun w88=>
 cB_ w88 p5 fun b89=>
 cS_ w88 (p5.add 1) fun s90a s90l s90c=>
 cI_ w88 (p5.add 2) fun n91=>
 K (.tuple #[.agg #[.bool b89,.slice s90a s90l s90c,.int .i64 n91],.int .i64 3]) w88)
 (cI_ w71 (p3.add 2) fun n92=>
 drM w71 fun w93=>
 Aa1 P N.Ik0 #[.pointer s70.1,.pointer s70.1,.int .u64 (u64.wrap (i64.wrap (n84-n85)))] w93 fun v95 w94=>
 ∃ p96:(OA),v95=(.pointer p96) ∧
 w94.cell? (p3.add 2)=some (.int .i64 n92) ∧
 drM w94 fun w97=>
 Aa1 P N.Ik1 #[.pointer s70.1,.pointer p96,.pointer s70.2.1] w97 fun v99 w98=>
 ∃ p100:(OA),v99=(.pointer p100) ∧
 w98.cell? (p3.add 2)=some (.int .i64 n92) ∧
 drM w98 fun w101=>
 Aa1 P N.Id1 #[.pointer p100,.int .i64 n92] w101 fun v103 w102=>
 ∃ b104,∃ s105a s105l s105c,∃ n106,∃ n107,v103=(.tuple #[.agg #[.bool b104,.slice s105a s105l s105c,.int .i64 n106],.int .i64 n107]) ∧
 drM w102 fun w108=>
 stM p5 (.bool b104) w108 fun w109=>
 stM (p5.add 1) (.slice s105a s105l s105c) w109 fun w110=>
 stM (p5.add 2) (.int .i64 n106) w110 fun w111=>
 drM w111 fun w112=>
 cB_ w112 p5 fun b113=>
 cS_ w112 (p5.add 1) fun s114a s114l s114c=>
 cI_ w112 (p5.add 2) fun n115=>
 K (.tuple #[.agg #[.bool b113,.slice s114a s114l s114c,.int .i64 n115],.int .i64 n107]) w112)))))
def Cp6 (N:Nums) (P:Program) (q0:Nat) (w:World) (K:KV):Prop:=
 Ad1 #[.bool false,.int .u64 0,.int .i64 0] N.Im2 w fun p1 w2=>
 Aa1 P N.If6 #[.float .f64 q0] w2 fun v4 w3=>
 ∃ n5,v4=(.int .i64 n5) ∧
 cond (decide (n5>2))
 (stM p1 (.bool false) w3 fun w6=>
 stM (p1.add 1) (.int .u64 0) w6 fun w7=>
 stM (p1.add 2) (.int .i64 0) w7 fun w8=>
 cB_ w8 p1 fun b9=>
 cU_ w8 (p1.add 1) fun n10=>
 cI_ w8 (p1.add 2) fun n11=>
 K (.tuple #[.agg #[.bool b9,.int .u64 n10,.int .i64 n11],.bool false]) w8)
 (Aa1 P N.Hw6 #[.float .f64 q0] w3 fun v13 w12=>
 vB_ v13 fun b14=>
 Ad1 #[.bool false,.int .u64 0,.int .i64 0] N.Im2 w12 fun p15 w16=>
 stM p15 (.bool b14) w16 fun w17=>
 stM (p15.add 1) (.int .u64 0) w17 fun w18=>
 stM (p15.add 2) (.int .i64 0) w18 fun w19=>
 cond (feq q0 0)
 (cB_ w19 p15 fun b20=>
 cU_ w19 (p15.add 1) fun n21=>
 cI_ w19 (p15.add 2) fun n22=>
 stM p1 (.bool b20) w19 fun w23=>
 stM (p1.add 1) (.int .u64 n21) w23 fun w24=>
 stM (p1.add 2) (.int .i64 n22) w24 fun w25=>
 cB_ w25 p1 fun b26=>
 cU_ w25 (p1.add 1) fun n27=>
 cI_ w25 (p1.add 2) fun n28=>
 K (.tuple #[.agg #[.bool b26,.int .u64 n27,.int .i64 n28],.bool true]) w25)
 (Aa1 P N.Ig0 #[.float .f64 q0] w19 fun v30 w29=>
 ∃ x31,v30=(.float .f64 x31) ∧
 Aa1 P N.Ia8 #[.float .f64 x31] w29 fun v33 w32=>
 ∃ x34,∃ n35,v33=(.tuple #[.float .f64 x34,.int .i64 n35]) ∧
 Aa1 P N.Ia4 #[.float .f64 x34,.int .i64 53] w32 fun v37 w36=>
 ∃ x38,v37=(.float .f64 x38) ∧
 Hp8 x38 .u64 w36 fun n39 w40=>
 stM (p15.add 1) (.int .u64 n39) w40 fun w41=>
 cU_ w41 (p15.add 1) fun n42=>
 Aa1 P N.Hu4 #[.int .u64 n42] w41 fun v44 w43=>
 ∃ n45,v44=(.int .i64 n45) ∧
 cU_ w43 (p15.add 1) fun n46=>
 (0:Int)≤n45 ∧
 stM (p15.add 1) (.int .u64 (n46.fdiv (2^(min n45.toNat u64.bits)))) w43 fun w47=>
 stM (p15.add 2) (.int .i64 (i64.wrap ((i64.wrap (n35-53))+n45))) w47 fun w48=>
 cB_ w48 p15 fun b49=>
 cU_ w48 (p15.add 1) fun n50=>
 cI_ w48 (p15.add 2) fun n51=>
 stM p1 (.bool b49) w48 fun w52=>
 stM (p1.add 1) (.int .u64 n50) w52 fun w53=>
 stM (p1.add 2) (.int .i64 n51) w53 fun w54=>
 cB_ w54 p1 fun b55=>
 cU_ w54 (p1.add 1) fun n56=>
 cI_ w54 (p1.add 2) fun n57=>
 K (.tuple #[.agg #[.bool b55,.int .u64 n56,.int .i64 n57],.bool true]) w54))
def Dg0 (N:Nums) (P:Program) (qb:Bool) (qc:OA) (qe qg:Nat) (qd:Int) (ql:Bool) (qk:OA) (qh qi:Nat) (qq:Int) (w:World) (K:KV):Prop:=
 Ad1 #[.bool qb,.slice qc qe qg,.int .i64 qd] N.Im3 w fun p1 w2=>
 Ad1 #[.bool ql,.slice qk qh qi,.int .i64 qq] N.Im3 w2 fun p3 w4=>
 cB_ w4 p1 fun b5=>
 cS_ w4 (p1.add 1) fun s6a s6l s6c=>
 cI_ w4 (p1.add 2) fun n7=>
 Aa1 P N.Ic1 #[.agg #[.bool b5,.slice s6a s6l s6c,.int .i64 n7]] w4 fun v9 w8=>
 vB_ v9 fun b10=>
 cond b10
 (cB_ w8 p3 fun b11=>
 cS_ w8 (p3.add 1) fun s12a s12l s12c=>
 cI_ w8 (p3.add 2) fun n13=>
 Aa1 P N.Ic1 #[.agg #[.bool b11,.slice s12a s12l s12c,.int .i64 n13]] w8 fun v15 w14=>
 vB_ v15 fun b16=>
 K (.bool b16) w14)
 (K (.bool false) w8)
def Cu8 (N:Nums) (P:Program) (qb:Bool) (qc:OA) (qe qg:Nat) (qd:Int) (w:World) (K:KV):Prop:=
 Ad1 #[.bool qb,.slice qc qe qg,.int .i64 qd] N.Im3 w fun p1 w2=>
 Ad1 #[.bool false,.slice none 0 0] N.Ik4 w2 fun p3 w4=>
 cS_ w4 (p1.add 1) fun s5a s5l s5c=>
 Ae8 (σ:=Unit) (fun J6=>
 Ae7 (σ:=Int×Unit) (fun s9 X10 w11=>
 cond (decide (s9.1<(s5l:Int)))
 (Aa1 P N.Ik0 #[.pointer (some p3),.pointer (some p3),.int .u64 64] w11 fun v13 w12=>
 ∃ p14:(OA),v13=(.pointer p14) ∧
 Ad1 #[.bool false,.slice none 0 0] N.Ik4 w12 fun p15 w16=>
 cS_ w16 (p1.add 1) fun s17a s17l s17c=>
 cS_ w16 (p1.add 1) fun s18a s18l s18c=>
 (0:Int)≤(i64.wrap ((i64.wrap ((s18l:Int)-1))-s9.1))∧(i64.wrap ((i64.wrap ((s18l:Int)-1))-s9.1))<(s17l:Nat) ∧
 Ae0 s17a fun a19=>
 ∃ n20,w16.cell? (a19.add ((i64.wrap ((i64.wrap ((s18l:Int)-1))-s9.1)).toNat*1))=some (.int .u64 n20) ∧
 Aa1 P N.Hw5 #[.pointer (some p15),.int .u64 n20] w16 fun v22 w21=>
 ∃ p23:(OA),v22=(.pointer p23) ∧
 Aa1 P N.Im1 #[.pointer (some p3),.pointer (some p3),.pointer p23] w21 fun v25 w24=>
 ∃ p26:(OA),v25=(.pointer p26) ∧
 X10 ((i64.wrap (s9.1+1)),()) w24)
 (J6 (()) w11))
 (0,()) w4)
 (fun s7 w8=>
 cB_ w8 p1 fun b27=>
 Ae8 (σ:=Unit) (fun J28=>
 cond b27
 (Aa1 P N.Ij4 #[.pointer (some p3),.pointer (some p3)] w8 fun v32 w31=>
 ∃ p33:(OA),v32=(.pointer p33) ∧
 J28 (()) w31)
 (J28 (()) w8))
 (fun s29 w30=>
 K (.pointer (some p3)) w30))
def Di8 (N:Nums) (P:Program) (q0:OA) (q1:Int) (w:World) (K:KV):Prop:=
 Ad1 #[.bool false,.slice none 0 0,.int .i64 0] N.Im3 w fun p1 w2=>
 Aa1 P N.Ii8 #[.pointer q0] w2 fun v4 w3=>
 ∃ n5,v4=(.int .i64 n5) ∧
 cond (n5==0)
 (stM p1 (.bool false) w3 fun w6=>
 stM (p1.add 1) (.slice none 0 0) w6 fun w7=>
 stM (p1.add 2) (.int .i64 0) w7 fun w8=>
 cB_ w8 p1 fun b9=>
 cS_ w8 (p1.add 1) fun s10a s10l s10c=>
 cI_ w8 (p1.add 2) fun n11=>
 K (.tuple #[.agg #[.bool b9,.slice s10a s10l s10c,.int .i64 n11],.int .i64 0]) w8)
 (Aa1 P N.Hu6 #[.pointer q0] w3 fun v13 w12=>
 ∃ n14,v13=(.int .u64 n14) ∧
 cond (decide (q1>65536))
 (stM p1 (.bool false) w12 fun w15=>
 stM (p1.add 1) (.slice none 0 0) w15 fun w16=>
 stM (p1.add 2) (.int .i64 0) w16 fun w17=>
 cB_ w17 p1 fun b18=>
 cS_ w17 (p1.add 1) fun s19a s19l s19c=>
 cI_ w17 (p1.add 2) fun n20=>
 K (.tuple #[.agg #[.bool b18,.slice s19a s19l s19c,.int .i64 n20],.int .i64 3]) w17)
 (cond (decide (q1<(i64.wrap ((-65536)-(i64.wrap n14)))))
 (stM p1 (.bool false) w12 fun w21=>
 stM (p1.add 1) (.slice none 0 0) w21 fun w22=>
 stM (p1.add 2) (.int .i64 0) w22 fun w23=>
 cB_ w23 p1 fun b24=>
 cS_ w23 (p1.add 1) fun s25a s25l s25c=>
 cI_ w23 (p1.add 2) fun n26=>
 K (.tuple #[.agg #[.bool b24,.slice s25a s25l s25c,.int .i64 n26],.int .i64 3]) w23)
 (cond (decide ((i64.wrap (q1+(i64.wrap n14)))>65536))
 (stM p1 (.bool false) w12 fun w27=>
 stM (p1.add 1) (.slice none 0 0) w27 fun w28=>
 stM (p1.add 2) (.int .i64 0) w28 fun w29=>
 cB_ w29 p1 fun b30=>
 cS_ w29 (p1.add 1) fun s31a s31l s31c=>
 cI_ w29 (p1.add 2) fun n32=>
 K (.tuple #[.agg #[.bool b30,.slice s31a s31l s31c,.int .i64 n32],.int .i64 3]) w29)
 (Aa1 P N.Ie8 #[.pointer q0] w12 fun v34 w33=>
 ∃ n35,v34=(.int .i64 n35) ∧
 cond (decide ((i64.wrap (n35-(i64.wrap n14)))>16384))
 (stM p1 (.bool false) w33 fun w36=>
 stM (p1.add 1) (.slice none 0 0) w36 fun w37=>
 stM (p1.add 2) (.int .i64 0) w37 fun w38=>
 cB_ w38 p1 fun b39=>
 cS_ w38 (p1.add 1) fun s40a s40l s40c=>
 cI_ w38 (p1.add 2) fun n41=>
 K (.tuple #[.agg #[.bool b39,.slice s40a s40l s40c,.int .i64 n41],.int .i64 3]) w38)
 (Aa1 P N.Ii8 #[.pointer q0] w33 fun v43 w42=>
 ∃ n44,v43=(.int .i64 n44) ∧
 Ad1 #[.bool false,.slice none 0 0] N.Ik4 w42 fun p45 w46=>
 Ad1 #[.bool false,.slice none 0 0] N.Ik4 w46 fun p47 w48=>
 Aa1 P N.Il2 #[.pointer (some p47),.pointer q0] w48 fun v50 w49=>
 ∃ p51:(OA),v50=(.pointer p51) ∧
 Aa1 P N.Il6 #[.pointer (some p45),.pointer p51,.int .u64 (u64.wrap (i64.wrap n14))] w49 fun v53 w52=>
 ∃ p54:(OA),v53=(.pointer p54) ∧
 Aa1 P N.Ic3 #[.pointer p54] w52 fun v56 w55=>
 vS_ v56 fun s57a s57l s57c=>
 stM p1 (.bool (decide (n44<0))) w55 fun w58=>
 stM (p1.add 1) (.slice s57a s57l s57c) w58 fun w59=>
 stM (p1.add 2) (.int .i64 (i64.wrap (q1+(i64.wrap n14)))) w59 fun w60=>
 cB_ w60 p1 fun b61=>
 cS_ w60 (p1.add 1) fun s62a s62l s62c=>
 cI_ w60 (p1.add 2) fun n63=>
 K (.tuple #[.agg #[.bool b61,.slice s62a s62l s62c,.int .i64 n63],.int .i64 0]) w60)))))
def Fk0 (N:Nums) (P:Program) (q0:OA) (q1:OA) (q2:OA) (w:World) (K:KV):Prop:=
 Ae0 q1 fun a1=>
 cB_ w a1 fun b2=>
 Ae0 q2 fun a3=>
 cB_ w a3 fun b4=>
 Ae0 q1 fun a5=>
 cS_ w (a5.add 1) fun s6a s6l s6c=>
 Ae0 q2 fun a7=>
 cS_ w (a7.add 1) fun s8a s8l s8c=>
 drM w fun w9=>
 Aa1 P N.Il9 #[.slice s6a s6l s6c,.slice s8a s8l s8c] w9 fun v11 w10=>
 vS_ v11 fun s12a s12l s12c=>
 w10.cell? a3=some (.bool b4) ∧
 w10.cell? a1=some (.bool b2) ∧
 drM w10 fun w13=>
 Aa1 P N.Ii9 #[.pointer q0,.bool (!(b2==b4)),.slice s12a s12l s12c] w13 fun v15 w14=>
 ∃ p16:(OA),v15=(.pointer p16) ∧
 drM w14 fun w17=>
 K (.pointer p16) w17
def Cs2 (N:Nums) (P:Program) (qb:Bool) (qc:OA) (qe qg:Nat) (qd:Int) (w:World) (K:KV):Prop:=
 Ad1 #[.bool qb,.slice qc qe qg,.int .i64 qd] N.Im3 w fun p1 w2=>
 cS_ w2 (p1.add 1) fun s3a s3l s3c=>
 cond ((s3l:Int)==0)
 (cB_ w2 p1 fun b4=>
 cond (!b4)
 (cI_ w2 (p1.add 2) fun n5=>
 K (.bool (n5==0)) w2)
 (K (.bool false) w2))
 (cond (decide ((s3l:Int)≤256))
 (cS_ w2 (p1.add 1) fun s6a s6l s6c=>
 (0:Int)≤(i64.wrap ((s3l:Int)-1))∧(i64.wrap ((s3l:Int)-1))<(s6l:Nat) ∧
 Ae0 s6a fun a7=>
 ∃ n8,w2.cell? (a7.add ((i64.wrap ((s3l:Int)-1)).toNat*1))=some (.int .u64 n8) ∧
 cond (n8 != 0)
 (cS_ w2 (p1.add 1) fun s9a s9l s9c=>
 (0:Int)≤(0:Int)∧(0:Int)<(s9l:Nat) ∧
 Ae0 s9a fun a10=>
 cU_ w2 (a10.add ((0:Int).toNat*1)) fun n11=>
 cond ((u64.wrap (BitVec.ofInt u64.bits n11 &&& BitVec.ofInt u64.bits 1).toNat)==1)
 (cI_ w2 (p1.add 2) fun n12=>
 cond (decide (((-65536):Int)≤n12))
 (cI_ w2 (p1.add 2) fun n13=>
 K (.bool (decide (n13≤65536))) w2)
 (K (.bool false) w2))
 (K (.bool false) w2))
 (K (.bool false) w2))
 (K (.bool false) w2))
def Dx9 (N:Nums) (P:Program) (q0:OA) (q1:OA) (w:World) (K:KV):Prop:=
 Ae0 q1 fun a1=>
 cS_ w (a1.add 1) fun s2a s2l s2c=>
 Aa1 P N.Ii2 #[.slice s2a s2l s2c] w fun v4 w3=>
 vS_ v4 fun s5a s5l s5c=>
 Aa1 P N.Ii9 #[.pointer q0,.bool false,.slice s5a s5l s5c] w3 fun v7 w6=>
 ∃ p8:(OA),v7=(.pointer p8) ∧
 K (.pointer p8) w6
def Dr7 (N:Nums) (P:Program) (qb:Bool) (qc:OA) (qe qg:Nat) (qd:Int) (w:World) (K:KV):Prop:=
 Ad1 #[.bool qb,.slice qc qe qg,.int .i64 qd] N.Im3 w fun p1 w2=>
 cS_ w2 (p1.add 1) fun s3a s3l s3c=>
 cI_ w2 (p1.add 2) fun n4=>
 cS_ w2 (p1.add 1) fun s5a s5l s5c=>
 (0:Int)≤(i64.wrap ((s3l:Int)-1))∧(i64.wrap ((s3l:Int)-1))<(s5l:Nat) ∧
 Ae0 s5a fun a6=>
 ∃ n7,w2.cell? (a6.add ((i64.wrap ((s3l:Int)-1)).toNat*1))=some (.int .u64 n7) ∧
 drM w2 fun w8=>
 Aa1 P N.Hu9 #[.int .u64 n7] w8 fun v10 w9=>
 ∃ n11,v10=(.int .i64 n11) ∧
 w9.cell? (p1.add 2)=some (.int .i64 n4) ∧
 drM w9 fun w12=>
 K (.int .i64 (i64.wrap ((i64.wrap (n4+(i64.wrap (64*(i64.wrap ((s3l:Int)-1))))))+n11))) w12
def Eb3 (N:Nums) (P:Program) (q0:OA) (q1:OA) (q2:Int) (w:World) (K:KV):Prop:=
 Ae0 q1 fun a1=>
 cB_ w a1 fun b2=>
 Ae0 q1 fun a3=>
 cS_ w (a3.add 1) fun s4a s4l s4c=>
 drM w fun w5=>
 Aa1 P N.Ii1 #[.slice s4a s4l s4c,.int .u64 q2] w5 fun v7 w6=>
 vS_ v7 fun s8a s8l s8c=>
 w6.cell? a1=some (.bool b2) ∧
 drM w6 fun w9=>
 Aa1 P N.Ii9 #[.pointer q0,.bool b2,.slice s8a s8l s8c] w9 fun v11 w10=>
 ∃ p12:(OA),v11=(.pointer p12) ∧
 drM w10 fun w13=>
 K (.pointer p12) w13
def Df4 (N:Nums) (P:Program) (q0:OA) (w:World) (K:KV):Prop:=
 Ae0 q0 fun a1=>
 cS_ w (a1.add 1) fun s2a s2l s2c=>
 Ae8 (σ:=Int×Unit) (fun J3=>
 cond (decide ((s2l:Int)>0))
 (Ae0 q0 fun a6=>
 cS_ w (a6.add 1) fun s7a s7l s7c=>
 (0:Int)≤(0:Int)∧(0:Int)<(s7l:Nat) ∧
 Ae0 s7a fun a8=>
 cW_ w (a8.add ((0:Int).toNat*1)) fun n9=>
 J3 ((u64.wrap n9),()) w)
 (J3 (0,()) w))
 (fun s4 w5=>
 Ae0 q0 fun a10=>
 cS_ w5 (a10.add 1) fun s11a s11l s11c=>
 Ae8 (σ:=Int×Unit) (fun J12=>
 cond (decide ((s11l:Int)>1))
 (Ae0 q0 fun a15=>
 cS_ w5 (a15.add 1) fun s16a s16l s16c=>
 (0:Int)≤(1:Int)∧(1:Int)<(s16l:Nat) ∧
 Ae0 s16a fun a17=>
 cW_ w5 (a17.add ((1:Int).toNat*1)) fun n18=>
 (0:Int)≤32 ∧
 J12 ((u64.wrap (BitVec.ofInt u64.bits s4.1 ||| BitVec.ofInt u64.bits (u64.wrap ((u64.wrap n18)*2^(min (32:Int).toNat u64.bits)))).toNat),()) w5)
 (J12 (s4.1,()) w5))
 (fun s13 w14=>
 K (.int .u64 s13.1) w14))
def Ef6 (N:Nums) (P:Program) (q0:OA) (q1:OA) (q2:Int) (w:World) (K:KV):Prop:=
 Ae0 q1 fun a1=>
 cB_ w a1 fun b2=>
 cond b2
 (Ae0 q1 fun a3=>
 cS_ w (a3.add 1) fun s4a s4l s4c=>
 Ad1 #[.int .u32 1] N.Il1 w fun p5 w6=>
 Aa1 P N.Il8 #[.slice s4a s4l s4c,.slice (some p5) 1 1] w6 fun v8 w7=>
 vS_ v8 fun s9a s9l s9c=>
 Aa1 P N.Ih8 #[.slice s9a s9l s9c,.int .u64 q2] w7 fun v11 w10=>
 vS_ v11 fun s12a s12l s12c=>
 Ad1 #[.int .u32 1] N.Il1 w10 fun p13 w14=>
 Aa1 P N.Ik7 #[.slice s12a s12l s12c,.slice (some p13) 1 1] w14 fun v16 w15=>
 vS_ v16 fun s17a s17l s17c=>
 Aa1 P N.Ii9 #[.pointer q0,.bool true,.slice s17a s17l s17c] w15 fun v19 w18=>
 ∃ p20:(OA),v19=(.pointer p20) ∧
 K (.pointer p20) w18)
 (Ae0 q1 fun a21=>
 cS_ w (a21.add 1) fun s22a s22l s22c=>
 Aa1 P N.Ih8 #[.slice s22a s22l s22c,.int .u64 q2] w fun v24 w23=>
 vS_ v24 fun s25a s25l s25c=>
 Aa1 P N.Ii9 #[.pointer q0,.bool false,.slice s25a s25l s25c] w23 fun v27 w26=>
 ∃ p28:(OA),v27=(.pointer p28) ∧
 K (.pointer p28) w26)
def Fk4 (N:Nums) (P:Program) (q0:OA) (q1:OA) (q2:OA) (w:World) (K:KV):Prop:=
 Ae0 q1 fun a1=>
 cB_ w a1 fun b2=>
 Ae0 q1 fun a3=>
 cS_ w (a3.add 1) fun s4a s4l s4c=>
 Ae0 q2 fun a5=>
 cB_ w a5 fun b6=>
 Ae0 q2 fun a7=>
 cS_ w (a7.add 1) fun s8a s8l s8c=>
 drM w fun w9=>
 Aa1 P N.Ik3 #[.bool b2,.slice s4a s4l s4c,.bool (!b6),.slice s8a s8l s8c] w9 fun v11 w10=>
 ∃ b12,∃ s13a s13l s13c,v11=(.tuple #[.bool b12,.slice s13a s13l s13c]) ∧
 drM w10 fun w14=>
 Aa1 P N.Ii9 #[.pointer q0,.bool b12,.slice s13a s13l s13c] w14 fun v16 w15=>
 ∃ p17:(OA),v16=(.pointer p17) ∧
 drM w15 fun w18=>
 K (.pointer p17) w18
def Fh1 (N:Nums) (P:Program) (q0:OA) (q1:OA) (w:World) (K:KV):Prop:=
 Ae0 q0 fun a1=>
 cB_ w a1 fun b2=>
 Ae0 q1 fun a3=>
 cB_ w a3 fun b4=>
 drM w fun w5=>
 cond (!(b2==b4))
 (Ae0 q0 fun a6=>
 cB_ w5 a6 fun b7=>
 cond b7
 (K (.int .i64 (-1)) w5)
 (K (.int .i64 1) w5))
 (Ae0 q0 fun a8=>
 cS_ w5 (a8.add 1) fun s9a s9l s9c=>
 Ae0 q1 fun a10=>
 cS_ w5 (a10.add 1) fun s11a s11l s11c=>
 drM w5 fun w12=>
 Aa1 P N.Ij7 #[.slice s9a s9l s9c,.slice s11a s11l s11c] w12 fun v14 w13=>
 ∃ n15,v14=(.int .i64 n15) ∧
 drM w13 fun w16=>
 Ae0 q0 fun a17=>
 cB_ w16 a17 fun b18=>
 cond b18
 (K (.int .i64 (i64.wrap (0-n15))) w16)
 (K (.int .i64 n15) w16))
def Dd4 (N:Nums) (P:Program) (q0:Int) (w:World) (K:KV):Prop:=
 Ad1 #[.bool false,.slice none 0 0] N.Ik4 w fun p1 w2=>
 Aa1 P N.Hy6 #[.pointer (some p1),.int .i64 q0] w2 fun v4 w3=>
 ∃ p5:(OA),v4=(.pointer p5) ∧
 K (.pointer p5) w3
def Ek6 (N:Nums) (P:Program) (q0:OA) (w:World) (K:KV):Prop:=
 Ae0 q0 fun a1=>
 cS_ w (a1.add 1) fun s2a s2l s2c=>
 cond ((s2l:Int)==0)
 (K (.int .i64 0) w)
 (Ae0 q0 fun a3=>
 cB_ w a3 fun b4=>
 cond b4
 (K (.int .i64 (-1)) w)
 (K (.int .i64 1) w))
def Dc1 (N:Nums) (P:Program) (q0:Int) (q1:Bool) (q2:Int) (q3:Bool) (w:World) (K:KV):Prop:=
 cond (q0==1)
 (K (.bool q1) w)
 (cond (q0==2)
 (K (.bool (!q1)) w)
 (cond (q0==3)
 (K (.bool false) w)
 (cond (!(decide (q2>0)))
 (cond (q2==0)
 (K (.bool q3) w)
 (K (.bool false) w))
 (K (.bool true) w))))
def Cq2 (N:Nums) (P:Program) (q0:Bool) (q1:Int) (q2:Int) (q3:Int) (w:World) (K:KV):Prop:=
 Ad1 #[.bool false,.int .u64 0,.int .i64 0] N.Im2 w fun p1 w2=>
 stM p1 (.bool q0) w2 fun w3=>
 stM (p1.add 1) (.int .u64 0) w3 fun w4=>
 stM (p1.add 2) (.int .i64 0) w4 fun w5=>
 Ae8 (σ:=Unit) (fun J6=>
 cond (decide (q1>0))
 (Aa1 P N.Hu4 #[.int .u64 q1] w5 fun v10 w9=>
 ∃ n11,v10=(.int .i64 n11) ∧
 (0:Int)≤n11 ∧
 stM (p1.add 1) (.int .u64 (q1.fdiv (2^(min n11.toNat u64.bits)))) w9 fun w12=>
 stM (p1.add 2) (.int .i64 (i64.wrap (q2+n11))) w12 fun w13=>
 J6 (()) w13)
 (J6 (()) w5))
 (fun s7 w8=>
 cU_ w8 (p1.add 1) fun n14=>
 cI_ w8 (p1.add 2) fun n15=>
 drM w8 fun w16=>
 Aa1 P N.Hu9 #[.int .u64 n14] w16 fun v18 w17=>
 ∃ n19,v18=(.int .i64 n19) ∧
 w17.cell? (p1.add 2)=some (.int .i64 n15) ∧
 drM w17 fun w20=>
 cond (decide ((i64.wrap (n19+n15))>1024))
 (stM (p1.add 1) (.int .u64 9007199254740991) w20 fun w21=>
 stM (p1.add 2) (.int .i64 971) w21 fun w22=>
 cB_ w22 p1 fun b23=>
 cU_ w22 (p1.add 1) fun n24=>
 cI_ w22 (p1.add 2) fun n25=>
 Aa1 P N.Ie5 #[.agg #[.bool b23,.int .u64 n24,.int .i64 n25]] w22 fun v27 w26=>
 ∃ x28,∃ b29,v27=(.tuple #[.float .f64 x28,.bool b29]) ∧
 cond (!(q3==3))
 (cond (q3==1)
 (cond (!(!q0))
 (cond (q3==2)
 (cond q0
 (K (.float .f64 x28) w26)
 (Aa1 P N.Ie7 #[.float .f64 x28,.bool (!q0)] w26 fun v31 w30=>
 ∃ x32,v31=(.float .f64 x32) ∧
 K (.float .f64 x32) w30))
 (Aa1 P N.Ie7 #[.float .f64 x28,.bool (!q0)] w26 fun v34 w33=>
 ∃ x35,v34=(.float .f64 x35) ∧
 K (.float .f64 x35) w33))
 (K (.float .f64 x28) w26))
 (cond (q3==2)
 (cond q0
 (K (.float .f64 x28) w26)
 (Aa1 P N.Ie7 #[.float .f64 x28,.bool (!q0)] w26 fun v37 w36=>
 ∃ x38,v37=(.float .f64 x38) ∧
 K (.float .f64 x38) w36))
 (Aa1 P N.Ie7 #[.float .f64 x28,.bool (!q0)] w26 fun v40 w39=>
 ∃ x41,v40=(.float .f64 x41) ∧
 K (.float .f64 x41) w39)))
 (K (.float .f64 x28) w26))
 (cB_ w20 p1 fun b42=>
 cU_ w20 (p1.add 1) fun n43=>
 cI_ w20 (p1.add 2) fun n44=>
 Aa1 P N.Ie5 #[.agg #[.bool b42,.int .u64 n43,.int .i64 n44]] w20 fun v46 w45=>
 ∃ x47,∃ b48,v46=(.tuple #[.float .f64 x47,.bool b48]) ∧
 K (.float .f64 x47) w45))
def Ei8 (N:Nums) (P:Program) (q0:Int) (w:World) (K:KV):Prop:=
 cond (decide (q0≥0))
 (K (.bool (decide (q0≤48))) w)
 (K (.bool false) w)
def Cr8 (N:Nums) (P:Program) (q0:Nat) (w:World) (K:KV):Prop:=
 Aa1 P N.Ig3 #[.float .f64 q0] w fun v2 w1=>
 ∃ n3,v2=(.int .i64 n3) ∧
 K (.bool (decide (n3<3))) w1
def Br9 (N:Nums) (P:Program) (q0:Nat) (w:World) (K:KV):Prop:=
 Aa1 P N.Hu7 #[.float .f64 q0] w fun v2 w1=>
 ∃ n3,v2=(.int .u64 n3) ∧
 (0:Int)≤63 ∧
 (4503599627370496:Int)≠0 ∧
 (2048:Int)≠0 ∧
 (4503599627370496:Int)≠0 ∧
 K (.tuple #[.bool ((n3.fdiv (2^(min (63:Int).toNat u64.bits)))==1),.int .i64 (i64.wrap ((u64.wrap (n3.tdiv 4503599627370496)).tmod 2048)),.int .u64 (n3.tmod 4503599627370496)]) w1
def Cg9 (N:Nums) (P:Program) (q0:OA) (qj qm:Nat) (w:World) (K:KV):Prop:=
 Ae8 (σ:=Int×Unit) (fun J1=>
 Ae7 (σ:=Int×Unit) (fun s4 X5 w6=>
 cond (decide (s4.1>0))
 ((0:Int)≤(i64.wrap (s4.1-1))∧(i64.wrap (s4.1-1))<(qj:Nat) ∧
 Ae0 q0 fun a7=>
 ∃ n8,w6.cell? (a7.add ((i64.wrap (s4.1-1)).toNat*1))=some (.int .u64 n8) ∧
 cond (n8==0)
 (X5 ((i64.wrap (s4.1-1)),()) w6)
 (J1 (s4.1,()) w6))
 (J1 (s4.1,()) w6))
 ((qj:Int),()) w)
 (fun s2 w3=>
 (0:Int)≤s2.1∧s2.1≤(qm:Nat) ∧
 Dp0 N.Il0 1 8 #[.int .u64 0] none 0 0 (An7 q0 0 qm 1) s2.1.toNat w3 fun s9a s9l s9c w10=>
 K (.slice s9a s9l s9c) w10)
def Dh6 (N:Nums) (P:Program) (q0:OA) (qj qm:Nat) (w:World) (K:KV):Prop:=
 Ae8 (σ:=(OA×Nat×Nat)×Unit) (fun J1=>
 Ae7 (σ:=(OA×Nat×Nat)×Int×Unit) (fun s4 X5 w6=>
 cond (decide (s4.2.1<(qj:Int)))
 ((0:Int)≤s4.2.1∧s4.2.1<(qj:Nat) ∧
 Ae0 q0 fun a7=>
 cU_ w6 (a7.add (s4.2.1.toNat*1)) fun n8=>
 Ae8 (σ:=Int×Unit) (fun J9=>
 cond (decide ((i64.wrap (s4.2.1+1))<(qj:Int)))
 ((0:Int)≤(i64.wrap (s4.2.1+1))∧(i64.wrap (s4.2.1+1))<(qj:Nat) ∧
 Ae0 q0 fun a12=>
 ∃ n13,w6.cell? (a12.add ((i64.wrap (s4.2.1+1)).toNat*1))=some (.int .u64 n13) ∧
 J9 ((u64.wrap (n8+(u64.wrap (4294967296*n13)))),()) w6)
 (J9 (n8,()) w6))
 (fun s10 w11=>
 Ad1 #[.int .u64 s10.1] N.Il0 w11 fun p14 w15=>
 Dp0 N.Il0 1 8 #[.int .u64 0] s4.1.1 s4.1.2.1 s4.1.2.2 (some p14) 1 w15 fun s16a s16l s16c w17=>
 X5 ((s16a,s16l,s16c),(i64.wrap (s4.2.1+2)),()) w17))
 (J1 ((s4.1.1,s4.1.2.1,s4.1.2.2),()) w6))
 ((none,0,0),0,()) w)
 (fun s2 w3=>
 Aa1 P N.Hy3 #[.slice s2.1.1 s2.1.2.1 s2.1.2.2] w3 fun v19 w18=>
 vS_ v19 fun s20a s20l s20c=>
 K (.slice s20a s20l s20c) w18)
def Cg1 (N:Nums) (P:Program) (q0:OA) (qj qm:Nat) (q1:OA) (qo qu:Nat) (w:World) (K:KV):Prop:=
 mkM N.Il0 1 8 #[.int .u64 0] (i64.wrap ((qj:Int)+(qo:Int))) (i64.wrap ((qj:Int)+(qo:Int))) w fun p1 w2=>
 Ae8 (σ:=Unit) (fun J3=>
 Ae7 (σ:=Int×Unit) (fun s6 X7 w8=>
 cond (decide (s6.1<(qj:Int)))
 (Ae8 (σ:=Int×Unit) (fun J9=>
 Ae7 (σ:=Int×Int×Unit) (fun s12 X13 w14=>
 cond (decide (s12.2.1<(qo:Int)))
 ((0:Int)≤s6.1∧s6.1<(qj:Nat) ∧
 Ae0 q0 fun a15=>
 cU_ w14 (a15.add (s6.1.toNat*1)) fun n16=>
 (0:Int)≤s12.2.1∧s12.2.1<(qo:Nat) ∧
 Ae0 q1 fun a17=>
 cU_ w14 (a17.add (s12.2.1.toNat*1)) fun n18=>
 (0:Int)≤(i64.wrap (s6.1+s12.2.1))∧(i64.wrap (s6.1+s12.2.1))<((i64.wrap ((qj:Int)+(qo:Int))).toNat:Nat) ∧
 ∃ n19,w14.cell? (p1.add ((i64.wrap (s6.1+s12.2.1)).toNat*1))=some (.int .u64 n19) ∧
 drM w14 fun w20=>
 (4294967296:Int)≠0 ∧
 (0:Int)≤(i64.wrap (s6.1+s12.2.1))∧(i64.wrap (s6.1+s12.2.1))<((i64.wrap ((qj:Int)+(qo:Int))).toNat:Nat) ∧
 stM (p1.add ((i64.wrap (s6.1+s12.2.1)).toNat*1)) (.int .u64 ((u64.wrap ((u64.wrap ((u64.wrap (n16*n18))+n19))+s12.1)).tmod 4294967296)) w20 fun w21=>
 (4294967296:Int)≠0 ∧
 X13 ((u64.wrap ((u64.wrap ((u64.wrap ((u64.wrap (n16*n18))+n19))+s12.1)).tdiv 4294967296)),(i64.wrap (s12.2.1+1)),()) w21)
 (J9 (s12.1,()) w14))
 (0,0,()) w8)
 (fun s10 w11=>
 (0:Int)≤(i64.wrap (s6.1+(qo:Int)))∧(i64.wrap (s6.1+(qo:Int)))<((i64.wrap ((qj:Int)+(qo:Int))).toNat:Nat) ∧
 stM (p1.add ((i64.wrap (s6.1+(qo:Int))).toNat*1)) (.int .u64 s10.1) w11 fun w22=>
 X7 ((i64.wrap (s6.1+1)),()) w22))
 (J3 (()) w8))
 (0,()) w2)
 (fun s4 w5=>
 Aa1 P N.Ij2 #[.slice (some p1) ((i64.wrap ((qj:Int)+(qo:Int))).toNat) ((i64.wrap ((qj:Int)+(qo:Int))).toNat)] w5 fun v24 w23=>
 vS_ v24 fun s25a s25l s25c=>
 K (.slice s25a s25l s25c) w23)
def Cp0 (N:Nums) (P:Program) (q0:OA) (qj qm:Nat) (w:World) (K:KV):Prop:=
 Ae8 (σ:=(OA×Nat×Nat)×Unit) (fun J1=>
 Ae7 (σ:=(OA×Nat×Nat)×Int×Unit) (fun s4 X5 w6=>
 cond (decide (s4.2.1<(qj:Int)))
 ((0:Int)≤s4.2.1∧s4.2.1<(qj:Nat) ∧
 Ae0 q0 fun a7=>
 cU_ w6 (a7.add (s4.2.1.toNat*1)) fun n8=>
 (4294967296:Int)≠0 ∧
 (0:Int)≤s4.2.1∧s4.2.1<(qj:Nat) ∧
 Ae0 q0 fun a9=>
 cU_ w6 (a9.add (s4.2.1.toNat*1)) fun n10=>
 (4294967296:Int)≠0 ∧
 drM w6 fun w11=>
 Ad1 #[.int .u64 (n8.tmod 4294967296),.int .u64 (u64.wrap (n10.tdiv 4294967296))] N.Il0 w11 fun p12 w13=>
 drM w13 fun w14=>
 Dp0 N.Il0 1 8 #[.int .u64 0] s4.1.1 s4.1.2.1 s4.1.2.2 (some p12) 2 w14 fun s15a s15l s15c w16=>
 drM w16 fun w17=>
 X5 ((s15a,s15l,s15c),(i64.wrap (s4.2.1+1)),()) w17)
 (J1 ((s4.1.1,s4.1.2.1,s4.1.2.2),()) w6))
 ((none,0,0),0,()) w)
 (fun s2 w3=>
 Aa1 P N.Ij2 #[.slice s2.1.1 s2.1.2.1 s2.1.2.2] w3 fun v19 w18=>
 vS_ v19 fun s20a s20l s20c=>
 K (.slice s20a s20l s20c) w18)
def Di9 (N:Nums) (P:Program) (q0:OA) (qj qm:Nat) (q1:Int) (w:World) (K:KV):Prop:=
 cond (decide (q1<(qj:Int)))
 ((0:Int)≤q1∧q1<(qj:Nat) ∧
 Ae0 q0 fun a1=>
 cU_ w (a1.add (q1.toNat*1)) fun n2=>
 K (.int .u64 n2) w)
 (K (.int .u64 0) w)
def Db5 (N:Nums) (P:Program) (q0:OA) (qj qm:Nat) (q1:Int) (w:World) (K:KV):Prop:=
 mkM N.Il0 1 8 #[.int .u64 0] (qj:Int) (qj:Int) w fun p1 w2=>
 Ae8 (σ:=Int×Unit) (fun J3=>
 Ae7 (σ:=Int×Int×Unit) (fun s6 X7 w8=>
 cond (decide (s6.2.1≥0))
 ((0:Int)≤s6.2.1∧s6.2.1<(qj:Nat) ∧
 Ae0 q0 fun a9=>
 cU_ w8 (a9.add (s6.2.1.toNat*1)) fun n10=>
 (q1:Int)≠0 ∧
 (0:Int)≤s6.2.1∧s6.2.1<((qj:Int).toNat:Nat) ∧
 stM (p1.add (s6.2.1.toNat*1)) (.int .u64 (u64.wrap ((u64.wrap ((u64.wrap (s6.1*4294967296))+n10)).tdiv q1))) w8 fun w11=>
 (q1:Int)≠0 ∧
 X7 (((u64.wrap ((u64.wrap (s6.1*4294967296))+n10)).tmod q1),(i64.wrap (s6.2.1-1)),()) w11)
 (J3 (s6.1,()) w8))
 (0,(i64.wrap ((qj:Int)-1)),()) w2)
 (fun s4 w5=>
 Aa1 P N.Ij2 #[.slice (some p1) ((qj:Int).toNat) ((qj:Int).toNat)] w5 fun v13 w12=>
 vS_ v13 fun s14a s14l s14c=>
 K (.tuple #[.slice s14a s14l s14c,.int .u64 s4.1]) w12)
def Dw7 (N:Nums) (P:Program) (qb:Bool) (qc:Int) (qd:Int) (w:World) (K:KV):Prop:=
 Ad1 #[.bool qb,.int .u64 qc,.int .i64 qd] N.Im2 w fun p1 w2=>
 Ae8 (σ:=Bool×Unit) (fun J3=>
 cU_ w2 (p1.add 1) fun n6=>
 cond (!(decide (n6≥9007199254740992)))
 (cI_ w2 (p1.add 2) fun n7=>
 cond (!(decide (n7<(-1074))))
 (cI_ w2 (p1.add 2) fun n8=>
 cond (!(decide (n8>1023)))
 (cU_ w2 (p1.add 1) fun n9=>
 cU_ w2 (p1.add 1) fun n10=>
 (2:Int)≠0 ∧
 cond (!(!((n9==0)==((n10.tmod 2)==0))))
 (cU_ w2 (p1.add 1) fun n11=>
 cond (n11==0)
 (cI_ w2 (p1.add 2) fun n12=>
 J3 ((n12 != 0),()) w2)
 (J3 (false,()) w2))
 (J3 (true,()) w2))
 (J3 (true,()) w2))
 (J3 (true,()) w2))
 (J3 (true,()) w2))
 (fun s4 w5=>
 cond s4.1
 (K (.tuple #[.float .f64 0,.bool false]) w5)
 (cU_ w5 (p1.add 1) fun n13=>
 cI_ w5 (p1.add 2) fun n14=>
 drM w5 fun w15=>
 Ae8 (σ:=Int×Int×Unit) (fun J16=>
 Ae7 (σ:=Int×Int×Unit) (fun s19 X20 w21=>
 cond (s19.1 != 0)
 (cond (decide (s19.1<4503599627370496))
 (cond (decide (s19.2.1>(-1074)))
 (X20 ((u64.wrap (2*s19.1)),(i64.wrap (s19.2.1-1)),()) w21)
 (J16 (s19.1,s19.2.1,()) w21))
 (J16 (s19.1,s19.2.1,()) w21))
 (J16 (s19.1,s19.2.1,()) w21))
 (n13,n14,()) w15)
 (fun s17 w18=>
 cond (decide (s17.2.1>971))
 (K (.tuple #[.float .f64 0,.bool false]) w18)
 (Ae8 (σ:=Int×Unit) (fun J22=>
 cond (decide (s17.1≥4503599627370496))
 ((0:Int)≤52 ∧
 J22 ((u64.wrap ((u64.wrap (s17.1-4503599627370496))+(u64.wrap ((u64.wrap (i64.wrap (s17.2.1+1075)))*2^(min (52:Int).toNat u64.bits))))),()) w18)
 (J22 (s17.1,()) w18))
 (fun s23 w24=>
 cB_ w24 p1 fun b25=>
 Ae8 (σ:=Int×Unit) (fun J26=>
 cond b25
 (J26 ((u64.wrap (s23.1+9223372036854775808)),()) w24)
 (J26 (s23.1,()) w24))
 (fun s27 w28=>
 Aa1 P N.Hu5 #[.int .u64 s27.1] w28 fun v30 w29=>
 ∃ x31,v30=(.float .f64 x31) ∧
 K (.tuple #[.float .f64 x31,.bool true]) w29))))))
def Cp1 (N:Nums) (P:Program) (q0:OA) (qj qm:Nat) (q1:OA) (qo qu:Nat) (w:World) (K:KV):Prop:=
 cond ((qj:Int) != (qo:Int))
 (K (.int .i64 4) w)
 (cond (decide ((qj:Int)>4096))
 (K (.int .i64 3) w)
 (K (.int .i64 0) w))
def Dj7 (N:Nums) (P:Program) (qb:Int) (qc:OA) (qe qg:Nat) (qd:OA) (qa qf:Nat) (w:World) (K:KV):Prop:=
 Ad1 #[.int .i64 qb,.slice qc qe qg,.slice qd qa qf] N.Ik8 w fun p1 w2=>
 cI_ w2 p1 fun n3=>
 cond (decide (n3≥0))
 (cI_ w2 p1 fun n4=>
 cond (decide (n4≤48))
 (cS_ w2 (p1.add 1) fun s5a s5l s5c=>
 cI_ w2 p1 fun n6=>
 cI_ w2 p1 fun n7=>
 (2:Int)≠0 ∧
 cond ((s5l:Int)==(i64.wrap ((i64.wrap (n6*(i64.wrap (n7-1)))).tdiv 2)))
 (cS_ w2 (p1.add 2) fun s8a s8l s8c=>
 cI_ w2 p1 fun n9=>
 K (.bool ((s8l:Int)==n9)) w2)
 (K (.bool false) w2))
 (K (.bool false) w2))
 (K (.bool false) w2)
def Fh8 (N:Nums) (P:Program) (qb:Int) (qc:OA) (qe qg:Nat) (qd:OA) (qa qf:Nat) (q1:Int) (q2:Int) (w:World) (K:KV):Prop:=
 Ad1 #[.int .i64 qb,.slice qc qe qg,.slice qd qa qf] N.Ik8 w fun p1 w2=>
 cS_ w2 (p1.add 1) fun s3a s3l s3c=>
 (2:Int)≠0 ∧
 (0:Int)≤(i64.wrap ((i64.wrap ((i64.wrap (q1*(i64.wrap (q1-1)))).tdiv 2))+q2))∧(i64.wrap ((i64.wrap ((i64.wrap (q1*(i64.wrap (q1-1)))).tdiv 2))+q2))<(s3l:Nat) ∧
 Ae0 s3a fun a4=>
 ∃ x5,w2.cell? (a4.add ((i64.wrap ((i64.wrap ((i64.wrap (q1*(i64.wrap (q1-1)))).tdiv 2))+q2)).toNat*1))=some (.float .f64 x5) ∧
 K (.float .f64 x5) w2
def Dr4 (N:Nums) (P:Program) (qb:Int) (qc:OA) (qe qg:Nat) (qd:OA) (qa qf:Nat) (w:World) (K:KV):Prop:=
 Ad1 #[.int .i64 qb,.slice qc qe qg,.slice qd qa qf] N.Ik8 w fun p1 w2=>
 Ae8 (σ:=Unit) (fun J3=>
 Ae7 (σ:=Int×Unit) (fun s6 X7 w8=>
 cS_ w8 (p1.add 2) fun s9a s9l s9c=>
 cond (decide (s6.1<(s9l:Int)))
 (cS_ w8 (p1.add 2) fun s10a s10l s10c=>
 (0:Int)≤s6.1∧s6.1<(s10l:Nat) ∧
 Ae0 s10a fun a11=>
 cF_ w8 (a11.add (s6.1.toNat*1)) fun x12=>
 cond (feq x12 0)
 (K (.bool true) w8)
 (X7 ((i64.wrap (s6.1+1)),()) w8))
 (J3 (()) w8))
 (0,()) w2)
 (fun s4 w5=>
 K (.bool false) w5)
def Dh7 (N:Nums) (P:Program) (q0:Int) (w:World) (K:KV):Prop:=
 cond (!(decide (q0<0)))
 (cond (decide (q0>3))
 (K (.int .i8 0) w)
 (K (.int .i8 q0) w))
 (K (.int .i8 0) w)
def Cb4 (N:Nums) (P:Program) (q0:OA) (qj qm:Nat) (w:World) (K:KV):Prop:=
 Ae8 (σ:=Unit) (fun J1=>
 Ae7 (σ:=Int×Unit) (fun s4 X5 w6=>
 cond (decide (s4.1<(qj:Int)))
 ((0:Int)≤s4.1∧s4.1<(qj:Nat) ∧
 Ae0 q0 fun a7=>
 cF_ w6 (a7.add (s4.1.toNat*1)) fun x8=>
 Aa1 P N.Hz8 #[.float .f64 x8] w6 fun v10 w9=>
 vB_ v10 fun b11=>
 cond (!b11)
 (Aa1 P N.Ia2 #[.float .f64 x8,.int .i64 0] w9 fun v13 w12=>
 vB_ v13 fun b14=>
 cond b14
 (K (.bool false) w12)
 (X5 ((i64.wrap (s4.1+1)),()) w12))
 (K (.bool false) w9))
 (J1 (()) w6))
 (0,()) w)
 (fun s2 w3=>
 K (.bool true) w3)
def Ca7 (N:Nums) (P:Program) (q0:Nat) (w:World) (K:KV):Prop:=
 Aa1 P N.Hu7 #[.float .f64 q0] w fun v2 w1=>
 ∃ n3,v2=(.int .u64 n3) ∧
 K (.bool (decide ((i64.wrap n3)<0))) w1
def Cr2 (N:Nums) (P:Program) (q0:Int) (w:World) (K:KV):Prop:=
 cond (q0==1)
 (Aa1 P N.Hv4 #[.float .f64 0,.float .f64 13830554455654793216] w fun v2 w1=>
 ∃ x3,v2=(.float .f64 x3) ∧
 K (.float .f64 x3) w1)
 (K (.float .f64 0) w)
def By8 (N:Nums) (P:Program) (q0:Nat) (q1:Int) (q2:Int) (w:World) (K:KV):Prop:=
 Ae8 (σ:=Int×Unit) (fun J1=>
 cond (q2==3)
 (Aa1 P N.Hw6 #[.float .f64 q0] w fun v5 w4=>
 vB_ v5 fun b6=>
 Ae8 (σ:=Int×Unit) (fun J7=>
 cond b6
 (J7 (2,()) w4)
 (J7 (1,()) w4))
 (fun s8 w9=>
 J1 (s8.1,()) w9))
 (J1 (q2,()) w))
 (fun s2 w3=>
 Aa1 P N.Ia2 #[.float .f64 q0,.int .i64 0] w3 fun v11 w10=>
 vB_ v11 fun b12=>
 cond b12
 (cond (fgt q0 0)
 (cond (!(s2.1==1))
 (cond (flt q0 0)
 (cond (s2.1==2)
 (Aa1 P N.Hv4 #[.float .f64 9218868437227405311,.float .f64 q0] w10 fun v14 w13=>
 ∃ x15,v14=(.float .f64 x15) ∧
 K (.float .f64 x15) w13)
 (K (.float .f64 q0) w10))
 (K (.float .f64 q0) w10))
 (Aa1 P N.Hv4 #[.float .f64 9218868437227405311,.float .f64 q0] w10 fun v17 w16=>
 ∃ x18,v17=(.float .f64 x18) ∧
 K (.float .f64 x18) w16))
 (cond (flt q0 0)
 (cond (s2.1==2)
 (Aa1 P N.Hv4 #[.float .f64 9218868437227405311,.float .f64 q0] w10 fun v20 w19=>
 ∃ x21,v20=(.float .f64 x21) ∧
 K (.float .f64 x21) w19)
 (K (.float .f64 q0) w10))
 (K (.float .f64 q0) w10)))
 (cond (decide (q1<0))
 (cond (!(s2.1==1))
 (cond (decide (q1>0))
 (cond (s2.1==2)
 (Aa1 P N.Ib7 #[.float .f64 q0,.bool (decide (q1>0))] w10 fun v23 w22=>
 ∃ x24,v23=(.float .f64 x24) ∧
 K (.float .f64 x24) w22)
 (K (.float .f64 q0) w10))
 (K (.float .f64 q0) w10))
 (Aa1 P N.Ib7 #[.float .f64 q0,.bool (decide (q1>0))] w10 fun v26 w25=>
 ∃ x27,v26=(.float .f64 x27) ∧
 K (.float .f64 x27) w25))
 (cond (decide (q1>0))
 (cond (s2.1==2)
 (Aa1 P N.Ib7 #[.float .f64 q0,.bool (decide (q1>0))] w10 fun v29 w28=>
 ∃ x30,v29=(.float .f64 x30) ∧
 K (.float .f64 x30) w28)
 (K (.float .f64 q0) w10))
 (K (.float .f64 q0) w10))))
def Ct2 (N:Nums) (P:Program) (q0:Nat) (w:World) (K:KV):Prop:=
 cond (fgt q0 0)
 (K (.int .i64 1) w)
 (cond (flt q0 0)
 (K (.int .i64 (-1)) w)
 (K (.int .i64 0) w))
def Cv0 (N:Nums) (P:Program) (q0:Nat) (w:World) (K:KV):Prop:=
 At5 (Bn1 q0 q0) w fun x1 w2=>
 K (.bool (feq x1 0)) w2
def Dd7 (N:Nums) (P:Program) (q0:Nat) (q1:Int) (w:World) (K:KV):Prop:=
 cond (!(q1==3))
 (cond (fgt q0 0)
 (cond (!(q1==1))
 (cond (flt q0 0)
 (cond (q1==2)
 (Aa1 P N.Hv4 #[.float .f64 9218868437227405311,.float .f64 q0] w fun v2 w1=>
 ∃ x3,v2=(.float .f64 x3) ∧
 K (.float .f64 x3) w1)
 (K (.float .f64 q0) w))
 (K (.float .f64 q0) w))
 (Aa1 P N.Hv4 #[.float .f64 9218868437227405311,.float .f64 q0] w fun v5 w4=>
 ∃ x6,v5=(.float .f64 x6) ∧
 K (.float .f64 x6) w4))
 (cond (flt q0 0)
 (cond (q1==2)
 (Aa1 P N.Hv4 #[.float .f64 9218868437227405311,.float .f64 q0] w fun v8 w7=>
 ∃ x9,v8=(.float .f64 x9) ∧
 K (.float .f64 x9) w7)
 (K (.float .f64 q0) w))
 (K (.float .f64 q0) w)))
 (Aa1 P N.Hv4 #[.float .f64 9218868437227405311,.float .f64 q0] w fun v11 w10=>
 ∃ x12,v11=(.float .f64 x12) ∧
 K (.float .f64 x12) w10)
def Cp7 (N:Nums) (P:Program) (q0:Bool) (q1:Bool) (q2:Nat) (q3:Int) (w:World) (K:KV):Prop:=
 cond q0
 (cond (feq q2 0)
 (Aa1 P N.Hw6 #[.float .f64 q2] w fun v2 w1=>
 vB_ v2 fun b3=>
 cond (q1==b3)
 (K (.float .f64 q2) w1)
 (cond (q3==1)
 (Aa1 P N.Hv4 #[.float .f64 0,.float .f64 13830554455654793216] w1 fun v5 w4=>
 ∃ x6,v5=(.float .f64 x6) ∧
 K (.float .f64 x6) w4)
 (K (.float .f64 0) w1)))
 (cond (q3==1)
 (Aa1 P N.Hv4 #[.float .f64 0,.float .f64 13830554455654793216] w fun v8 w7=>
 ∃ x9,v8=(.float .f64 x9) ∧
 K (.float .f64 x9) w7)
 (K (.float .f64 0) w)))
 (cond (q3==1)
 (Aa1 P N.Hv4 #[.float .f64 0,.float .f64 13830554455654793216] w fun v11 w10=>
 ∃ x12,v11=(.float .f64 x12) ∧
 K (.float .f64 x12) w10)
 (K (.float .f64 0) w))
def Ds7 (N:Nums) (P:Program) (q0:Nat) (q1:Int) (q2:Int) (w:World) (K:KV):Prop:=
 Aa1 P N.Hw6 #[.float .f64 q0] w fun v2 w1=>
 vB_ v2 fun b3=>
 Ae8 (σ:=Bool×Unit) (fun J4=>
 cond (decide (q1<0))
 (cond (!(q2==1))
 (cond (q2==3)
 (cond (!b3)
 (J4 ((!feq q0 0),()) w1)
 (J4 (false,()) w1))
 (J4 (false,()) w1))
 (J4 (true,()) w1))
 (J4 (false,()) w1))
 (fun s5 w6=>
 cond s5.1
 (Aa1 P N.Ig4 #[.float .f64 q0] w6 fun v8 w7=>
 ∃ x9,v8=(.float .f64 x9) ∧
 K (.float .f64 x9) w7)
 (cond (decide (q1>0))
 (cond (!(q2==2))
 (cond (q2==3)
 (cond b3
 (cond (!feq q0 0)
 (Aa1 P N.Ik9 #[.float .f64 q0] w6 fun v11 w10=>
 ∃ x12,v11=(.float .f64 x12) ∧
 K (.float .f64 x12) w10)
 (K (.float .f64 q0) w6))
 (K (.float .f64 q0) w6))
 (K (.float .f64 q0) w6))
 (Aa1 P N.Ik9 #[.float .f64 q0] w6 fun v14 w13=>
 ∃ x15,v14=(.float .f64 x15) ∧
 K (.float .f64 x15) w13))
 (K (.float .f64 q0) w6)))
def Du1 (N:Nums) (P:Program) (q0:Nat) (w:World) (K:KV):Prop:=
 cond (flt q0 0)
 (K (.int .i64 (-1)) w)
 (cond (fgt q0 0)
 (K (.int .i64 1) w)
 (K (.int .i64 0) w))
def Am5 (N:Nums) (P:Program) (q0:OA) (qj qm:Nat) (q1:Nat) (w:World) (K:KV):Prop:=
 Ae8 (σ:=Unit) (fun J1=>
 Ae7 (σ:=Int×Unit) (fun s4 X5 w6=>
 cond (decide (s4.1<(qj:Int)))
 ((0:Int)≤s4.1∧s4.1<(qj:Nat) ∧
 Ae0 q0 fun a7=>
 cF_ w6 (a7.add (s4.1.toNat*1)) fun x8=>
 cond (feq q1 x8)
 (K (.int .i64 s4.1) w6)
 (X5 ((i64.wrap (s4.1+1)),()) w6))
 (J1 (()) w6))
 (0,()) w)
 (fun s2 w3=>
 K (.int .i64 (-1)) w3)
def Fg9 (N:Nums) (P:Program) (q0:OA) (q1:OA) (q2:OA) (w:World) (K:KV):Prop:=
 Ae0 q1 fun a1=>
 cB_ w a1 fun b2=>
 Ae0 q1 fun a3=>
 cS_ w (a3.add 1) fun s4a s4l s4c=>
 Ae0 q2 fun a5=>
 cB_ w a5 fun b6=>
 Ae0 q2 fun a7=>
 cS_ w (a7.add 1) fun s8a s8l s8c=>
 drM w fun w9=>
 Aa1 P N.Ik3 #[.bool b2,.slice s4a s4l s4c,.bool b6,.slice s8a s8l s8c] w9 fun v11 w10=>
 ∃ b12,∃ s13a s13l s13c,v11=(.tuple #[.bool b12,.slice s13a s13l s13c]) ∧
 drM w10 fun w14=>
 Aa1 P N.Ii9 #[.pointer q0,.bool b12,.slice s13a s13l s13c] w14 fun v16 w15=>
 ∃ p17:(OA),v16=(.pointer p17) ∧
 drM w15 fun w18=>
 K (.pointer p17) w18
def Dk6 (N:Nums) (P:Program) (q0:Nat) (w:World) (K:KV):Prop:=
 Aa1 P N.Ig0 #[.float .f64 q0] w fun v2 w1=>
 ∃ x3,v2=(.float .f64 x3) ∧
 cond (!feq q0 q0)
 (K (.int .i64 4) w1)
 (Aa1 P N.Ia2 #[.float .f64 q0,.int .i64 0] w1 fun v5 w4=>
 vB_ v5 fun b6=>
 cond b6
 (K (.int .i64 3) w4)
 (cond (fgt x3 4503599627370496||feq x3 4503599627370496)
 (K (.int .i64 2) w4)
 (cond (fgt x3 0)
 (K (.int .i64 1) w4)
 (K (.int .i64 0) w4))))
def Cp9 (N:Nums) (P:Program) (q0:Nat) (w:World) (K:KV):Prop:=
 Aa1 P N.Ic0 #[.float .f64 q0] w fun v2 w1=>
 ∃ x3,∃ n4,v2=(.tuple #[.float .f64 x3,.int .i64 n4]) ∧
 K (.tuple #[.float .f64 x3,.int .i64 n4]) w1
def Cv3 (N:Nums) (P:Program) (q0:Nat) (q1:Int) (w:World) (K:KV):Prop:=
 Aa1 P N.Ib2 #[.float .f64 q0,.int .i64 q1] w fun v2 w1=>
 ∃ x3,v2=(.float .f64 x3) ∧
 K (.float .f64 x3) w1
def Aq7 (N:Nums) (P:Program) (q0:Int) (w:World) (K:KV):Prop:=
 cond (q0==0)
 (K (.int .i64 64) w)
 ((0:Int)≤58 ∧
 (0:Int)≤((u64.wrap ((u64.wrap (BitVec.ofInt u64.bits q0 &&& BitVec.ofInt u64.bits (u64.wrap (0-q0))).toNat)*285870213051353865)).fdiv (2^(min (58:Int).toNat u64.bits)))∧((u64.wrap ((u64.wrap (BitVec.ofInt u64.bits q0 &&& BitVec.ofInt u64.bits (u64.wrap (0-q0))).toNat)*285870213051353865)).fdiv (2^(min (58:Int).toNat u64.bits)))<(64:Nat) ∧
 ∃ n1,w.cell? ((⟨N.Im4,0,none⟩:Addr).add (((u64.wrap ((u64.wrap (BitVec.ofInt u64.bits q0 &&& BitVec.ofInt u64.bits (u64.wrap (0-q0))).toNat)*285870213051353865)).fdiv (2^(min (58:Int).toNat u64.bits))).toNat*1))=some (.int .u8 n1) ∧
 K (.int .i64 (i64.wrap n1)) w)
def Ga4 (N:Nums) (P:Program) (q0:OA) (q1:OA) (q2:OA) (w:World) (K:KV):Prop:=
 Ae0 q1 fun a1=>
 cS_ w (a1.add 1) fun s2a s2l s2c=>
 Ae0 q2 fun a3=>
 cS_ w (a3.add 1) fun s4a s4l s4c=>
 drM w fun w5=>
 Aa1 P N.Ik6 #[.pointer q1,.int .i64 (i64.wrap ((if (s4l:Int)>(s2l:Int) then (s4l:Int) else (s2l:Int))+1))] w5 fun v7 w6=>
 vS_ v7 fun s8a s8l s8c=>
 Aa1 P N.Ik6 #[.pointer q2,.int .i64 (i64.wrap ((if (s4l:Int)>(s2l:Int) then (s4l:Int) else (s2l:Int))+1))] w6 fun v10 w9=>
 vS_ v10 fun s11a s11l s11c=>
 Ae8 (σ:=Unit) (fun J12=>
 Ae7 (σ:=Int×Unit) (fun s15 X16 w17=>
 cond (decide (s15.1<(i64.wrap ((if (s4l:Int)>(s2l:Int) then (s4l:Int) else (s2l:Int))+1))))
 ((0:Int)≤s15.1∧s15.1<(s8l:Nat) ∧
 Ae0 s8a fun a18=>
 cW_ w17 (a18.add (s15.1.toNat*1)) fun n19=>
 (0:Int)≤s15.1∧s15.1<(s11l:Nat) ∧
 Ae0 s11a fun a20=>
 cW_ w17 (a20.add (s15.1.toNat*1)) fun n21=>
 (0:Int)≤s15.1∧s15.1<(s8l:Nat) ∧
 Ae0 s8a fun a22=>
 drM w17 fun w23=>
 stM (a22.add (s15.1.toNat*1)) (.int .u32 (u32.wrap (BitVec.ofInt u32.bits n19 ||| BitVec.ofInt u32.bits n21).toNat)) w23 fun w24=>
 drM w24 fun w25=>
 X16 ((i64.wrap (s15.1+1)),()) w25)
 (J12 (()) w17))
 (0,()) w9)
 (fun s13 w14=>
 Aa1 P N.Im0 #[.pointer q0,.slice s8a s8l s8c] w14 fun v27 w26=>
 ∃ p28:(OA),v27=(.pointer p28) ∧
 K (.pointer p28) w26)
def Ca2 (N:Nums) (P:Program) (q0:OA) (q1:Int) (w:World) (K:KV):Prop:=
 Aa1 P N.Ih6 #[.int .u64 q1] w fun v2 w1=>
 vS_ v2 fun s3a s3l s3c=>
 Aa1 P N.Ii9 #[.pointer q0,.bool false,.slice s3a s3l s3c] w1 fun v5 w4=>
 ∃ p6:(OA),v5=(.pointer p6) ∧
 K (.pointer p6) w4
def Fg8 (N:Nums) (P:Program) (q0:OA) (q1:OA) (w:World) (K:KV):Prop:=
 Ae0 q1 fun a1=>
 cB_ w a1 fun b2=>
 Ae0 q1 fun a3=>
 cS_ w (a3.add 1) fun s4a s4l s4c=>
 drM w fun w5=>
 Aa1 P N.Ii2 #[.slice s4a s4l s4c] w5 fun v7 w6=>
 vS_ v7 fun s8a s8l s8c=>
 w6.cell? a1=some (.bool b2) ∧
 drM w6 fun w9=>
 Aa1 P N.Ii9 #[.pointer q0,.bool (!b2),.slice s8a s8l s8c] w9 fun v11 w10=>
 ∃ p12:(OA),v11=(.pointer p12) ∧
 drM w10 fun w13=>
 K (.pointer p12) w13
def Bc1 (N:Nums) (P:Program) (q0:OA) (w:World) (K:KV):Prop:=
 Ae0 q0 fun a1=>
 cS_ w (a1.add 1) fun s2a s2l s2c=>
 cond ((s2l:Int)==0)
 (K (.int .u64 0) w)
 (Ae8 (σ:=Int×Unit) (fun J3=>
 Ae7 (σ:=Int×Unit) (fun s6 X7 w8=>
 Ae0 q0 fun a9=>
 cS_ w8 (a9.add 1) fun s10a s10l s10c=>
 Aa1 P N.Ij6 #[.slice s10a s10l s10c,.int .i64 (i64.wrap s6.1)] w8 fun v12 w11=>
 ∃ n13,v12=(.int .u64 n13) ∧
 cond (n13==0)
 (X7 ((u64.wrap (s6.1+1)),()) w11)
 (J3 (s6.1,()) w11))
 (0,()) w)
 (fun s4 w5=>
 K (.int .u64 s4.1) w5))
def Dl0 (N:Nums) (P:Program) (q0:OA) (w:World) (K:KV):Prop:=
 Ae0 q0 fun a1=>
 cS_ w (a1.add 1) fun s2a s2l s2c=>
 Aa1 P N.If4 #[.slice s2a s2l s2c] w fun v4 w3=>
 ∃ n5,v4=(.int .i64 n5) ∧
 K (.int .i64 n5) w3
def Cu2 (N:Nums) (P:Program) (q0:OA) (w:World) (K:KV):Prop:=
 Ad1 #[.bool false,.slice none 0 0] N.Ik4 w fun p1 w2=>
 Aa1 P N.Il2 #[.pointer (some p1),.pointer q0] w2 fun v4 w3=>
 ∃ p5:(OA),v4=(.pointer p5) ∧
 Ad1 #[.bool false,.slice none 0 0] N.Ik4 w3 fun p6 w7=>
 Ad1 #[.bool false,.slice none 0 0] N.Ik4 w7 fun p8 w9=>
 Aa1 P N.Hw5 #[.pointer (some p8),.int .u64 18446744073709551615] w9 fun v11 w10=>
 ∃ p12:(OA),v11=(.pointer p12) ∧
 Ae8 (σ:=(OA×Nat×Nat)×Unit) (fun J13=>
 Ae7 (σ:=(OA×Nat×Nat)×Unit) (fun s16 X17 w18=>
 Aa1 P N.Ii8 #[.pointer p5] w18 fun v20 w19=>
 ∃ n21,v20=(.int .i64 n21) ∧
 cond (decide (n21>0))
 (Aa1 P N.Ij9 #[.pointer (some p6),.pointer p5,.pointer p12] w19 fun v23 w22=>
 ∃ p24:(OA),v23=(.pointer p24) ∧
 Aa1 P N.Ie2 #[.pointer p24] w22 fun v26 w25=>
 ∃ n27,v26=(.int .u64 n27) ∧
 Ad1 #[.int .u64 n27] N.Il0 w25 fun p28 w29=>
 Dp0 N.Il0 1 8 #[.int .u64 0] s16.1.1 s16.1.2.1 s16.1.2.2 (some p28) 1 w29 fun s30a s30l s30c w31=>
 Aa1 P N.Il6 #[.pointer p5,.pointer p5,.int .u64 64] w31 fun v33 w32=>
 ∃ p34:(OA),v33=(.pointer p34) ∧
 X17 ((s30a,s30l,s30c),()) w32)
 (J13 ((s16.1.1,s16.1.2.1,s16.1.2.2),()) w19))
 ((none,0,0),()) w10)
 (fun s14 w15=>
 K (.slice s14.1.1 s14.1.2.1 s14.1.2.2) w15)
def Er9 (N:Nums) (P:Program) (q0:OA) (q1:Bool) (q2:OA) (qy vf:Nat) (w:World) (K:KV):Prop:=
 Ae0 q0 fun a1=>
 stM (a1.add 1) (.slice q2 qy vf) w fun w2=>
 cond q1
 (Ae0 q0 fun a3=>
 stM a3 (.bool (decide ((qy:Int)>0))) w2 fun w4=>
 K (.pointer q0) w4)
 (Ae0 q0 fun a5=>
 stM a5 (.bool false) w2 fun w6=>
 K (.pointer q0) w6)
def Ff4 (N:Nums) (P:Program) (q0:OA) (qj qm:Nat) (q1:OA) (qo qu:Nat) (w:World) (K:KV):Prop:=
 Ae8 (σ:=Bool×Unit) (fun J1=>
 cond (!((qj:Int)==0))
 (J1 (((qo:Int)==0),()) w)
 (J1 (true,()) w))
 (fun s2 w3=>
 cond s2.1
 (K (.slice none 0 0) w3)
 (mkM N.Il1 1 4 #[.int .u32 0] (i64.wrap ((qj:Int)+(qo:Int))) (i64.wrap ((qj:Int)+(qo:Int))) w3 fun p4 w5=>
 Ae8 (σ:=Unit) (fun J6=>
 Ae7 (σ:=Int×Unit) (fun s9 X10 w11=>
 cond (decide (s9.1<(qj:Int)))
 (Ae8 (σ:=Int×Unit) (fun J12=>
 Ae7 (σ:=Int×Int×Unit) (fun s15 X16 w17=>
 cond (decide (s15.2.1<(qo:Int)))
 ((0:Int)≤s9.1∧s9.1<(qj:Nat) ∧
 Ae0 q0 fun a18=>
 cW_ w17 (a18.add (s9.1.toNat*1)) fun n19=>
 (0:Int)≤s15.2.1∧s15.2.1<(qo:Nat) ∧
 Ae0 q1 fun a20=>
 cW_ w17 (a20.add (s15.2.1.toNat*1)) fun n21=>
 (0:Int)≤(i64.wrap (s9.1+s15.2.1))∧(i64.wrap (s9.1+s15.2.1))<((i64.wrap ((qj:Int)+(qo:Int))).toNat:Nat) ∧
 ∃ n22,w17.cell? (p4.add ((i64.wrap (s9.1+s15.2.1)).toNat*1))=some (.int .u32 n22) ∧
 drM w17 fun w23=>
 (0:Int)≤(i64.wrap (s9.1+s15.2.1))∧(i64.wrap (s9.1+s15.2.1))<((i64.wrap ((qj:Int)+(qo:Int))).toNat:Nat) ∧
 stM (p4.add ((i64.wrap (s9.1+s15.2.1)).toNat*1)) (.int .u32 (u32.wrap (u64.wrap (s15.1+(u64.wrap ((u64.wrap ((u64.wrap n19)*(u64.wrap n21)))+(u64.wrap n22))))))) w23 fun w24=>
 (0:Int)≤32 ∧
 X16 (((u64.wrap (s15.1+(u64.wrap ((u64.wrap ((u64.wrap n19)*(u64.wrap n21)))+(u64.wrap n22))))).fdiv (2^(min (32:Int).toNat u64.bits))),(i64.wrap (s15.2.1+1)),()) w24)
 (J12 (s15.1,()) w17))
 (0,0,()) w11)
 (fun s13 w14=>
 (0:Int)≤(i64.wrap (s9.1+(qo:Int)))∧(i64.wrap (s9.1+(qo:Int)))<((i64.wrap ((qj:Int)+(qo:Int))).toNat:Nat) ∧
 stM (p4.add ((i64.wrap (s9.1+(qo:Int))).toNat*1)) (.int .u32 (u32.wrap s13.1)) w14 fun w25=>
 X10 ((i64.wrap (s9.1+1)),()) w25))
 (J6 (()) w11))
 (0,()) w5)
 (fun s7 w8=>
 Aa1 P N.Ii6 #[.slice (some p4) ((i64.wrap ((qj:Int)+(qo:Int))).toNat) ((i64.wrap ((qj:Int)+(qo:Int))).toNat)] w8 fun v27 w26=>
 vS_ v27 fun s28a s28l s28c=>
 K (.slice s28a s28l s28c) w26)))
def Eq6 (N:Nums) (P:Program) (q0:OA) (qj qm:Nat) (w:World) (K:KV):Prop:=
 Dp0 N.Il1 1 4 #[.int .u32 0] none 0 0 q0 qj w fun s1a s1l s1c w2=>
 K (.slice s1a s1l s1c) w2
def Eq0 (N:Nums) (P:Program) (q0:OA) (qj qm:Nat) (q1:Int) (w:World) (K:KV):Prop:=
 cond ((qj:Int)==0)
 (K (.slice none 0 0) w)
 ((32:Int)≠0 ∧
 (32:Int)≠0 ∧
 mkM N.Il1 1 4 #[.int .u32 0] (i64.wrap ((i64.wrap ((qj:Int)+(i64.wrap (u64.wrap (q1.tdiv 32)))))+1)) (i64.wrap ((i64.wrap ((qj:Int)+(i64.wrap (u64.wrap (q1.tdiv 32)))))+1)) w fun p1 w2=>
 Ae8 (σ:=Unit) (fun J3=>
 Ae7 (σ:=Int×Unit) (fun s6 X7 w8=>
 cond (decide (s6.1<(qj:Int)))
 ((0:Int)≤s6.1∧s6.1<(qj:Nat) ∧
 Ae0 q0 fun a9=>
 cW_ w8 (a9.add (s6.1.toNat*1)) fun n10=>
 (0:Int)≤(q1.tmod 32) ∧
 (0:Int)≤(i64.wrap (s6.1+(i64.wrap (u64.wrap (q1.tdiv 32)))))∧(i64.wrap (s6.1+(i64.wrap (u64.wrap (q1.tdiv 32)))))<((i64.wrap ((i64.wrap ((qj:Int)+(i64.wrap (u64.wrap (q1.tdiv 32)))))+1)).toNat:Nat) ∧
 ∃ n11,w8.cell? (p1.add ((i64.wrap (s6.1+(i64.wrap (u64.wrap (q1.tdiv 32))))).toNat*1))=some (.int .u32 n11) ∧
 (0:Int)≤(i64.wrap (s6.1+(i64.wrap (u64.wrap (q1.tdiv 32)))))∧(i64.wrap (s6.1+(i64.wrap (u64.wrap (q1.tdiv 32)))))<((i64.wrap ((i64.wrap ((qj:Int)+(i64.wrap (u64.wrap (q1.tdiv 32)))))+1)).toNat:Nat) ∧
 stM (p1.add ((i64.wrap (s6.1+(i64.wrap (u64.wrap (q1.tdiv 32))))).toNat*1)) (.int .u32 (u32.wrap (BitVec.ofInt u32.bits n11 ||| BitVec.ofInt u32.bits (u32.wrap (u64.wrap ((u64.wrap n10)*2^(min (q1.tmod 32).toNat u64.bits))))).toNat)) w8 fun w12=>
 (0:Int)≤(i64.wrap ((i64.wrap (s6.1+(i64.wrap (u64.wrap (q1.tdiv 32)))))+1))∧(i64.wrap ((i64.wrap (s6.1+(i64.wrap (u64.wrap (q1.tdiv 32)))))+1))<((i64.wrap ((i64.wrap ((qj:Int)+(i64.wrap (u64.wrap (q1.tdiv 32)))))+1)).toNat:Nat) ∧
 ∃ n13,w12.cell? (p1.add ((i64.wrap ((i64.wrap (s6.1+(i64.wrap (u64.wrap (q1.tdiv 32)))))+1)).toNat*1))=some (.int .u32 n13) ∧
 (0:Int)≤32 ∧
 (0:Int)≤(i64.wrap ((i64.wrap (s6.1+(i64.wrap (u64.wrap (q1.tdiv 32)))))+1))∧(i64.wrap ((i64.wrap (s6.1+(i64.wrap (u64.wrap (q1.tdiv 32)))))+1))<((i64.wrap ((i64.wrap ((qj:Int)+(i64.wrap (u64.wrap (q1.tdiv 32)))))+1)).toNat:Nat) ∧
 stM (p1.add ((i64.wrap ((i64.wrap (s6.1+(i64.wrap (u64.wrap (q1.tdiv 32)))))+1)).toNat*1)) (.int .u32 (u32.wrap (BitVec.ofInt u32.bits n13 ||| BitVec.ofInt u32.bits (u32.wrap ((u64.wrap ((u64.wrap n10)*2^(min (q1.tmod 32).toNat u64.bits))).fdiv (2^(min (32:Int).toNat u64.bits))))).toNat)) w12 fun w14=>
 X7 ((i64.wrap (s6.1+1)),()) w14)
 (J3 (()) w8))
 (0,()) w2)
 (fun s4 w5=>
 Aa1 P N.Ii6 #[.slice (some p1) ((i64.wrap ((i64.wrap ((qj:Int)+(i64.wrap (u64.wrap (q1.tdiv 32)))))+1)).toNat) ((i64.wrap ((i64.wrap ((qj:Int)+(i64.wrap (u64.wrap (q1.tdiv 32)))))+1)).toNat)] w5 fun v16 w15=>
 vS_ v16 fun s17a s17l s17c=>
 K (.slice s17a s17l s17c) w15))
def Fj3 (N:Nums) (P:Program) (q0:OA) (qj qm:Nat) (q1:OA) (qo qu:Nat) (w:World) (K:KV):Prop:=
 Ae8 (σ:=(OA×Nat×Nat)×(OA×Nat×Nat)×Unit) (fun J1=>
 cond (decide ((qj:Int)<(qo:Int)))
 (J1 ((q1,qo,qu),(q0,qj,qm),()) w)
 (J1 ((q0,qj,qm),(q1,qo,qu),()) w))
 (fun s2 w3=>
 mkM N.Il1 1 4 #[.int .u32 0] (i64.wrap (((s2.1.2.1:Nat):Int)+1)) (i64.wrap (((s2.1.2.1:Nat):Int)+1)) w3 fun p4 w5=>
 Ae8 (σ:=Int×Unit) (fun J6=>
 Ae7 (σ:=Int×Int×Unit) (fun s9 X10 w11=>
 cond (decide (s9.2.1<((s2.1.2.1:Nat):Int)))
 ((0:Int)≤s9.2.1∧s9.2.1<(s2.1.2.1:Nat) ∧
 Ae0 s2.1.1 fun a12=>
 cW_ w11 (a12.add (s9.2.1.toNat*1)) fun n13=>
 Ae8 (σ:=Int×Unit) (fun J14=>
 cond (decide (s9.2.1<((s2.2.1.2.1:Nat):Int)))
 ((0:Int)≤s9.2.1∧s9.2.1<(s2.2.1.2.1:Nat) ∧
 Ae0 s2.2.1.1 fun a17=>
 cW_ w11 (a17.add (s9.2.1.toNat*1)) fun n18=>
 J14 ((u64.wrap ((u64.wrap (s9.1+(u64.wrap n13)))+(u64.wrap n18))),()) w11)
 (J14 ((u64.wrap (s9.1+(u64.wrap n13))),()) w11))
 (fun s15 w16=>
 (0:Int)≤s9.2.1∧s9.2.1<((i64.wrap (((s2.1.2.1:Nat):Int)+1)).toNat:Nat) ∧
 stM (p4.add (s9.2.1.toNat*1)) (.int .u32 (u32.wrap s15.1)) w16 fun w19=>
 (0:Int)≤32 ∧
 X10 ((s15.1.fdiv (2^(min (32:Int).toNat u64.bits))),(i64.wrap (s9.2.1+1)),()) w19))
 (J6 (s9.1,()) w11))
 (0,0,()) w5)
 (fun s7 w8=>
 (0:Int)≤((s2.1.2.1:Nat):Int)∧((s2.1.2.1:Nat):Int)<((i64.wrap (((s2.1.2.1:Nat):Int)+1)).toNat:Nat) ∧
 stM (p4.add (((s2.1.2.1:Nat):Int).toNat*1)) (.int .u32 (u32.wrap s7.1)) w8 fun w20=>
 Aa1 P N.Ii6 #[.slice (some p4) ((i64.wrap (((s2.1.2.1:Nat):Int)+1)).toNat) ((i64.wrap (((s2.1.2.1:Nat):Int)+1)).toNat)] w20 fun v22 w21=>
 vS_ v22 fun s23a s23l s23c=>
 K (.slice s23a s23l s23c) w21))
def Dw8 (N:Nums) (P:Program) (q0:OA) (qj qm:Nat) (q1:Int) (w:World) (K:KV):Prop:=
 (32:Int)≠0 ∧
 (32:Int)≠0 ∧
 cond (decide ((i64.wrap (u64.wrap (q1.tdiv 32)))≥(qj:Int)))
 (K (.slice none 0 0) w)
 (mkM N.Il1 1 4 #[.int .u32 0] (i64.wrap ((qj:Int)-(i64.wrap (u64.wrap (q1.tdiv 32))))) (i64.wrap ((qj:Int)-(i64.wrap (u64.wrap (q1.tdiv 32))))) w fun p1 w2=>
 Ae8 (σ:=Unit) (fun J3=>
 Ae7 (σ:=Int×Unit) (fun s6 X7 w8=>
 cond (decide (s6.1<(((i64.wrap ((qj:Int)-(i64.wrap (u64.wrap (q1.tdiv 32))))).toNat:Nat):Int)))
 ((0:Int)≤(i64.wrap (s6.1+(i64.wrap (u64.wrap (q1.tdiv 32)))))∧(i64.wrap (s6.1+(i64.wrap (u64.wrap (q1.tdiv 32)))))<(qj:Nat) ∧
 Ae0 q0 fun a9=>
 ∃ n10,w8.cell? (a9.add ((i64.wrap (s6.1+(i64.wrap (u64.wrap (q1.tdiv 32))))).toNat*1))=some (.int .u32 n10) ∧
 Ae8 (σ:=Int×Unit) (fun J11=>
 cond (decide ((i64.wrap ((i64.wrap (s6.1+(i64.wrap (u64.wrap (q1.tdiv 32)))))+1))<(qj:Int)))
 ((0:Int)≤(i64.wrap ((i64.wrap (s6.1+(i64.wrap (u64.wrap (q1.tdiv 32)))))+1))∧(i64.wrap ((i64.wrap (s6.1+(i64.wrap (u64.wrap (q1.tdiv 32)))))+1))<(qj:Nat) ∧
 Ae0 q0 fun a14=>
 ∃ n15,w8.cell? (a14.add ((i64.wrap ((i64.wrap (s6.1+(i64.wrap (u64.wrap (q1.tdiv 32)))))+1)).toNat*1))=some (.int .u32 n15) ∧
 (0:Int)≤32 ∧
 J11 ((u64.wrap (BitVec.ofInt u64.bits (u64.wrap n10) ||| BitVec.ofInt u64.bits (u64.wrap ((u64.wrap n15)*2^(min (32:Int).toNat u64.bits)))).toNat),()) w8)
 (J11 ((u64.wrap n10),()) w8))
 (fun s12 w13=>
 (0:Int)≤(q1.tmod 32) ∧
 (0:Int)≤s6.1∧s6.1<((i64.wrap ((qj:Int)-(i64.wrap (u64.wrap (q1.tdiv 32))))).toNat:Nat) ∧
 stM (p1.add (s6.1.toNat*1)) (.int .u32 (u32.wrap (s12.1.fdiv (2^(min (q1.tmod 32).toNat u64.bits))))) w13 fun w16=>
 X7 ((i64.wrap (s6.1+1)),()) w16))
 (J3 (()) w8))
 (0,()) w2)
 (fun s4 w5=>
 Aa1 P N.Ii6 #[.slice (some p1) ((i64.wrap ((qj:Int)-(i64.wrap (u64.wrap (q1.tdiv 32))))).toNat) ((i64.wrap ((qj:Int)-(i64.wrap (u64.wrap (q1.tdiv 32))))).toNat)] w5 fun v18 w17=>
 vS_ v18 fun s19a s19l s19c=>
 K (.slice s19a s19l s19c) w17))
def Fh7 (N:Nums) (P:Program) (q0:OA) (qj qm:Nat) (q1:OA) (qo qu:Nat) (w:World) (K:KV):Prop:=
 mkM N.Il1 1 4 #[.int .u32 0] (qj:Int) (qj:Int) w fun p1 w2=>
 Ae8 (σ:=Unit) (fun J3=>
 Ae7 (σ:=Int×Int×Unit) (fun s6 X7 w8=>
 cond (decide (s6.2.1<(qj:Int)))
 ((0:Int)≤s6.2.1∧s6.2.1<(qj:Nat) ∧
 Ae0 q0 fun a9=>
 cW_ w8 (a9.add (s6.2.1.toNat*1)) fun n10=>
 Ae8 (σ:=Int×Unit) (fun J11=>
 cond (decide (s6.2.1<(qo:Int)))
 ((0:Int)≤s6.2.1∧s6.2.1<(qo:Nat) ∧
 Ae0 q1 fun a14=>
 cW_ w8 (a14.add (s6.2.1.toNat*1)) fun n15=>
 J11 ((u64.wrap ((u64.wrap ((u64.wrap n10)-s6.1))-(u64.wrap n15))),()) w8)
 (J11 ((u64.wrap ((u64.wrap n10)-s6.1)),()) w8))
 (fun s12 w13=>
 (0:Int)≤s6.2.1∧s6.2.1<((qj:Int).toNat:Nat) ∧
 stM (p1.add (s6.2.1.toNat*1)) (.int .u32 (u32.wrap s12.1)) w13 fun w16=>
 (0:Int)≤63 ∧
 X7 ((s12.1.fdiv (2^(min (63:Int).toNat u64.bits))),(i64.wrap (s6.2.1+1)),()) w16))
 (J3 (()) w8))
 (0,0,()) w2)
 (fun s4 w5=>
 Aa1 P N.Ii6 #[.slice (some p1) ((qj:Int).toNat) ((qj:Int).toNat)] w5 fun v18 w17=>
 vS_ v18 fun s19a s19l s19c=>
 K (.slice s19a s19l s19c) w17)
def Fk3 (N:Nums) (P:Program) (q0:Bool) (q1:OA) (qo qu:Nat) (q2:Bool) (q3:OA) (vm ye:Nat) (w:World) (K:KV):Prop:=
 cond (q0==q2)
 (Aa1 P N.Ik7 #[.slice q1 qo qu,.slice q3 vm ye] w fun v2 w1=>
 vS_ v2 fun s3a s3l s3c=>
 K (.tuple #[.bool q0,.slice s3a s3l s3c]) w1)
 (Aa1 P N.Ij7 #[.slice q1 qo qu,.slice q3 vm ye] w fun v5 w4=>
 ∃ n6,v5=(.int .i64 n6) ∧
 cond (decide (n6≥0))
 (Aa1 P N.Il8 #[.slice q1 qo qu,.slice q3 vm ye] w4 fun v8 w7=>
 vS_ v8 fun s9a s9l s9c=>
 K (.tuple #[.bool q0,.slice s9a s9l s9c]) w7)
 (Aa1 P N.Il8 #[.slice q3 vm ye,.slice q1 qo qu] w4 fun v11 w10=>
 vS_ v11 fun s12a s12l s12c=>
 K (.tuple #[.bool q2,.slice s12a s12l s12c]) w10))
def Fj5 (N:Nums) (P:Program) (q0:OA) (qj qm:Nat) (q1:OA) (qo qu:Nat) (w:World) (K:KV):Prop:=
 cond ((qj:Int) != (qo:Int))
 (cond (decide ((qj:Int)<(qo:Int)))
 (K (.int .i64 (-1)) w)
 (K (.int .i64 1) w))
 (Ae8 (σ:=Unit) (fun J1=>
 Ae7 (σ:=Int×Unit) (fun s4 X5 w6=>
 cond (decide (s4.1≥0))
 ((0:Int)≤s4.1∧s4.1<(qj:Nat) ∧
 Ae0 q0 fun a7=>
 cW_ w6 (a7.add (s4.1.toNat*1)) fun n8=>
 (0:Int)≤s4.1∧s4.1<(qo:Nat) ∧
 Ae0 q1 fun a9=>
 cW_ w6 (a9.add (s4.1.toNat*1)) fun n10=>
 drM w6 fun w11=>
 cond (n8 != n10)
 ((0:Int)≤s4.1∧s4.1<(qj:Nat) ∧
 Ae0 q0 fun a12=>
 cW_ w11 (a12.add (s4.1.toNat*1)) fun n13=>
 (0:Int)≤s4.1∧s4.1<(qo:Nat) ∧
 Ae0 q1 fun a14=>
 cW_ w11 (a14.add (s4.1.toNat*1)) fun n15=>
 drM w11 fun w16=>
 cond (decide (n13<n15))
 (K (.int .i64 (-1)) w16)
 (K (.int .i64 1) w16))
 (X5 ((i64.wrap (s4.1-1)),()) w11))
 (J1 (()) w6))
 ((i64.wrap ((qj:Int)-1)),()) w)
 (fun s2 w3=>
 K (.int .i64 0) w3))
def Ci1 (N:Nums) (P:Program) (q0:OA) (q1:Int) (w:World) (K:KV):Prop:=
 Ae8 (σ:=Int×Unit) (fun J1=>
 cond (decide (q1<0))
 (J1 ((u64.wrap (0-(u64.wrap q1))),()) w)
 (J1 ((u64.wrap q1),()) w))
 (fun s2 w3=>
 Aa1 P N.Ih6 #[.int .u64 s2.1] w3 fun v5 w4=>
 vS_ v5 fun s6a s6l s6c=>
 Aa1 P N.Ii9 #[.pointer q0,.bool (decide (q1<0)),.slice s6a s6l s6c] w4 fun v8 w7=>
 ∃ p9:(OA),v8=(.pointer p9) ∧
 K (.pointer p9) w7)
def Dj3 (N:Nums) (P:Program) (qb:Bool) (qc:Int) (qd:Int) (w:World) (K:KV):Prop:=
 Ad1 #[.bool qb,.int .u64 qc,.int .i64 qd] N.Im2 w fun p1 w2=>
 cU_ w2 (p1.add 1) fun n3=>
 Aa1 P N.Hu9 #[.int .u64 n3] w2 fun v5 w4=>
 ∃ n6,v5=(.int .i64 n6) ∧
 Ae8 (σ:=Bool×Unit) (fun J7=>
 cU_ w4 (p1.add 1) fun n10=>
 cond (n10==0)
 (cI_ w4 (p1.add 2) fun n11=>
 cond (!(n11 != 0))
 (cU_ w4 (p1.add 1) fun n12=>
 cond (n12 != 0)
 (cU_ w4 (p1.add 1) fun n13=>
 (2:Int)≠0 ∧
 J7 (((n13.tmod 2)==0),()) w4)
 (J7 (false,()) w4))
 (J7 (true,()) w4))
 (cU_ w4 (p1.add 1) fun n14=>
 cond (n14 != 0)
 (cU_ w4 (p1.add 1) fun n15=>
 (2:Int)≠0 ∧
 J7 (((n15.tmod 2)==0),()) w4)
 (J7 (false,()) w4)))
 (fun s8 w9=>
 cond s8.1
 (K (.tuple #[.float .f64 0,.bool false]) w9)
 (Ae8 (σ:=Bool×Unit) (fun J16=>
 cond (!(decide (n6>53)))
 (cI_ w9 (p1.add 2) fun n19=>
 cond (!(decide (n19>1024)))
 (cI_ w9 (p1.add 2) fun n20=>
 cond (!(decide (n20<(-1074))))
 (cU_ w9 (p1.add 1) fun n21=>
 cond (n21 != 0)
 (cI_ w9 (p1.add 2) fun n22=>
 J16 ((decide ((i64.wrap (n22+n6))>1024)),()) w9)
 (J16 (false,()) w9))
 (J16 (true,()) w9))
 (J16 (true,()) w9))
 (J16 (true,()) w9))
 (fun s17 w18=>
 cond s17.1
 (K (.tuple #[.float .f64 0,.bool false]) w18)
 (cU_ w18 (p1.add 1) fun n23=>
 cI_ w18 (p1.add 2) fun n24=>
 Aa1 P N.Ia4 #[.float .f64 (FloatKind.f64.nearest n23),.int .i64 n24] w18 fun v26 w25=>
 ∃ x27,v26=(.float .f64 x27) ∧
 cB_ w25 p1 fun b28=>
 Ae8 (σ:=Nat×Unit) (fun J29=>
 cond b28
 (Aa1 P N.Hv4 #[.float .f64 x27,.float .f64 13830554455654793216] w25 fun v33 w32=>
 ∃ x34,v33=(.float .f64 x34) ∧
 J29 (x34,()) w32)
 (J29 (x27,()) w25))
 (fun s30 w31=>
 K (.tuple #[.float .f64 s30.1,.bool true]) w31)))))
def Dc3 (N:Nums) (P:Program) (q0:Nat) (q1:Bool) (w:World) (K:KV):Prop:=
 Aa1 P N.Hz7 #[.float .f64 q0] w fun v2 w1=>
 ∃ n3,∃ b4,v2=(.tuple #[.int .i64 n3,.bool b4]) ∧
 cond (!b4)
 (K (.float .f64 q0) w1)
 (Ae8 (σ:=Int×Unit) (fun J5=>
 cond q1
 (J5 ((if 9218868437227405312<(i64.wrap (n3+1)) then 9218868437227405312 else (i64.wrap (n3+1))),()) w1)
 (J5 ((if (-9218868437227405312)>(i64.wrap (n3-1)) then (-9218868437227405312) else (i64.wrap (n3-1))),()) w1))
 (fun s6 w7=>
 Aa1 P N.Ii5 #[.int .i64 s6.1] w7 fun v9 w8=>
 ∃ x10,∃ b11,v9=(.tuple #[.float .f64 x10,.bool b11]) ∧
 K (.float .f64 x10) w8))
def Dr2 (N:Nums) (P:Program) (q0:Nat) (w:World) (K:KV):Prop:=
 Aa1 P N.Ia0 #[.float .f64 q0] w fun v2 w1=>
 ∃ b3,∃ n4,∃ n5,v2=(.tuple #[.bool b3,.int .i64 n4,.int .u64 n5]) ∧
 cond (n4==2047)
 (cond (n5 != 0)
 (K (.int .i64 4) w1)
 (cond (n4==2047)
 (K (.int .i64 3) w1)
 (cond (decide (n4>0))
 (K (.int .i64 2) w1)
 (cond (n5 != 0)
 (K (.int .i64 1) w1)
 (K (.int .i64 0) w1)))))
 (cond (n4==2047)
 (K (.int .i64 3) w1)
 (cond (decide (n4>0))
 (K (.int .i64 2) w1)
 (cond (n5 != 0)
 (K (.int .i64 1) w1)
 (K (.int .i64 0) w1))))
def Em5 (N:Nums) (P:Program) (q0:OA) (qj qm:Nat) (w:World) (K:KV):Prop:=
 Ae8 (σ:=Int×Unit) (fun J1=>
 Ae7 (σ:=Int×Unit) (fun s4 X5 w6=>
 cond (decide (s4.1>0))
 ((0:Int)≤(i64.wrap (s4.1-1))∧(i64.wrap (s4.1-1))<(qj:Nat) ∧
 Ae0 q0 fun a7=>
 ∃ n8,w6.cell? (a7.add ((i64.wrap (s4.1-1)).toNat*1))=some (.int .u64 n8) ∧
 cond (n8==0)
 (X5 ((i64.wrap (s4.1-1)),()) w6)
 (J1 (s4.1,()) w6))
 (J1 (s4.1,()) w6))
 ((qj:Int),()) w)
 (fun s2 w3=>
 (0:Int)≤s2.1∧s2.1≤(qm:Nat) ∧
 K (.slice (An7 q0 0 qm 1) s2.1.toNat qm) w3)
def Bt7 (N:Nums) (P:Program) (q0:Nat) (q1:Nat) (w:World) (K:KV):Prop:=
 Aa1 P N.Hu7 #[.float .f64 q0] w fun v2 w1=>
 ∃ n3,v2=(.int .u64 n3) ∧
 Aa1 P N.Hu7 #[.float .f64 q1] w1 fun v5 w4=>
 ∃ n6,v5=(.int .u64 n6) ∧
 Aa1 P N.Hu5 #[.int .u64 (u64.wrap (BitVec.ofInt u64.bits (u64.wrap (BitVec.ofInt u64.bits n3 &&& ~~~BitVec.ofInt u64.bits 9223372036854775808).toNat) ||| BitVec.ofInt u64.bits (u64.wrap (BitVec.ofInt u64.bits n6 &&& BitVec.ofInt u64.bits 9223372036854775808).toNat)).toNat)] w4 fun v8 w7=>
 ∃ x9,v8=(.float .f64 x9) ∧
 K (.float .f64 x9) w7
def Cr0 (N:Nums) (P:Program) (q0:Nat) (q1:Bool) (w:World) (K:KV):Prop:=
 Aa1 P N.Hu7 #[.float .f64 q0] w fun v2 w1=>
 ∃ n3,v2=(.int .u64 n3) ∧
 Ae8 (σ:=Int×Unit) (fun J4=>
 Ae8 (σ:=Int×Unit) (fun J7=>
 cond (feq q0 0)
 (Ae8 (σ:=Int×Unit) (fun J10=>
 cond (!q1)
 (J10 ((u64.wrap (BitVec.ofInt u64.bits 1 ||| BitVec.ofInt u64.bits 9223372036854775808).toNat),()) w1)
 (J10 (1,()) w1))
 (fun s11 w12=>
 J7 (s11.1,()) w12))
 (Ae8 (σ:=Int×Unit) (fun J13=>
 cond (q1==(fgt q0 0))
 (J13 ((u64.wrap (n3+1)),()) w1)
 (J13 ((u64.wrap (n3-1)),()) w1))
 (fun s14 w15=>
 J7 (s14.1,()) w15)))
 (fun s8 w9=>
 J4 (s8.1,()) w9))
 (fun s5 w6=>
 Aa1 P N.Hu5 #[.int .u64 s5.1] w6 fun v17 w16=>
 ∃ x18,v17=(.float .f64 x18) ∧
 K (.float .f64 x18) w16)
def Dq4 (N:Nums) (P:Program) (q0:Nat) (w:World) (K:KV):Prop:=
 Aa1 P N.Ik9 #[.float .f64 (Bn0 q0)] w fun v2 w1=>
 ∃ x3,v2=(.float .f64 x3) ∧
 K (.float .f64 (Bn0 x3)) w1
def Fe5 (N:Nums) (P:Program) (q0:Nat) (w:World) (K:KV):Prop:=
 cond (feq q0 0)
 (Aa1 P N.Hu5 #[.int .u64 1] w fun v2 w1=>
 ∃ x3,v2=(.float .f64 x3) ∧
 K (.float .f64 x3) w1)
 (cond (fgt q0 0)
 (Aa1 P N.Hy8 #[.float .f64 q0] w fun v5 w4=>
 ∃ x6,v5=(.float .f64 x6) ∧
 K (.float .f64 x6) w4)
 (Aa1 P N.Ib4 #[.float .f64 q0] w fun v8 w7=>
 ∃ x9,v8=(.float .f64 x9) ∧
 K (.float .f64 x9) w7))
def Ct7 (N:Nums) (P:Program) (q0:Nat) (w:World) (K:KV):Prop:=
 cond (feq q0 0)
 (K (.tuple #[.float .f64 q0,.int .i64 0]) w)
 (Aa1 P N.Ia2 #[.float .f64 q0,.int .i64 0] w fun v2 w1=>
 vB_ v2 fun b3=>
 cond (!b3)
 (Aa1 P N.Hz8 #[.float .f64 q0] w1 fun v5 w4=>
 vB_ v5 fun b6=>
 cond b6
 (K (.tuple #[.float .f64 q0,.int .i64 0]) w4)
 (Aa1 P N.Hv1 #[.float .f64 q0] w4 fun v8 w7=>
 ∃ x9,∃ n10,v8=(.tuple #[.float .f64 x9,.int .i64 n10]) ∧
 Aa1 P N.Hu7 #[.float .f64 x9] w7 fun v12 w11=>
 ∃ n13,v12=(.int .u64 n13) ∧
 (0:Int)≤52 ∧
 Aa1 P N.Hu5 #[.int .u64 (u64.wrap (BitVec.ofInt u64.bits (u64.wrap (BitVec.ofInt u64.bits n13 &&& ~~~BitVec.ofInt u64.bits 9218868437227405312).toNat) ||| BitVec.ofInt u64.bits 4602678819172646912).toNat)] w11 fun v15 w14=>
 ∃ x16,v15=(.float .f64 x16) ∧
 K (.tuple #[.float .f64 x16,.int .i64 (i64.wrap (n10+(i64.wrap ((i64.wrap ((i64.wrap (u64.wrap (BitVec.ofInt u64.bits (n13.fdiv (2^(min (52:Int).toNat u64.bits))) &&& BitVec.ofInt u64.bits 2047).toNat))-1023))+1))))]) w14))
 (K (.tuple #[.float .f64 q0,.int .i64 0]) w1))
def Cu3 (N:Nums) (P:Program) (q0:Nat) (q1:Int) (w:World) (K:KV):Prop:=
 cond (feq q0 0)
 (K (.float .f64 q0) w)
 (Ae8 (σ:=Bool×Unit) (fun J1=>
 Aa1 P N.Ia2 #[.float .f64 q0,.int .i64 0] w fun v5 w4=>
 vB_ v5 fun b6=>
 cond (!b6)
 (Aa1 P N.Hz8 #[.float .f64 q0] w4 fun v8 w7=>
 vB_ v8 fun b9=>
 J1 (b9,()) w7)
 (J1 (true,()) w4))
 (fun s2 w3=>
 cond s2.1
 (K (.float .f64 q0) w3)
 (Aa1 P N.Hv1 #[.float .f64 q0] w3 fun v11 w10=>
 ∃ x12,∃ n13,v11=(.tuple #[.float .f64 x12,.int .i64 n13]) ∧
 Aa1 P N.Hu7 #[.float .f64 x12] w10 fun v15 w14=>
 ∃ n16,v15=(.int .u64 n16) ∧
 (0:Int)≤52 ∧
 cond (decide ((i64.wrap ((i64.wrap (q1+n13))+(i64.wrap ((i64.wrap (BitVec.ofInt i64.bits (i64.wrap (n16.fdiv (2^(min (52:Int).toNat u64.bits)))) &&& BitVec.ofInt i64.bits 2047).toNat)-1023))))<(-1075)))
 (Aa1 P N.Hv4 #[.float .f64 0,.float .f64 x12] w14 fun v18 w17=>
 ∃ x19,v18=(.float .f64 x19) ∧
 K (.float .f64 x19) w17)
 (cond (decide ((i64.wrap ((i64.wrap (q1+n13))+(i64.wrap ((i64.wrap (BitVec.ofInt i64.bits (i64.wrap (n16.fdiv (2^(min (52:Int).toNat u64.bits)))) &&& BitVec.ofInt i64.bits 2047).toNat)-1023))))>1023))
 (cond (flt x12 0)
 (Aa1 P N.Ih3 #[.int .i64 (-1)] w14 fun v21 w20=>
 ∃ x22,v21=(.float .f64 x22) ∧
 K (.float .f64 x22) w20)
 (Aa1 P N.Ih3 #[.int .i64 1] w14 fun v24 w23=>
 ∃ x25,v24=(.float .f64 x25) ∧
 K (.float .f64 x25) w23))
 (Ae8 (σ:=Int×Nat×Unit) (fun J26=>
 cond (decide ((i64.wrap ((i64.wrap (q1+n13))+(i64.wrap ((i64.wrap (BitVec.ofInt i64.bits (i64.wrap (n16.fdiv (2^(min (52:Int).toNat u64.bits)))) &&& BitVec.ofInt i64.bits 2047).toNat)-1023))))<(-1022)))
 (J26 ((i64.wrap ((i64.wrap ((i64.wrap (q1+n13))+(i64.wrap ((i64.wrap (BitVec.ofInt i64.bits (i64.wrap (n16.fdiv (2^(min (52:Int).toNat u64.bits)))) &&& BitVec.ofInt i64.bits 2047).toNat)-1023))))+53)),4368491638549381120,()) w14)
 (J26 ((i64.wrap ((i64.wrap (q1+n13))+(i64.wrap ((i64.wrap (BitVec.ofInt i64.bits (i64.wrap (n16.fdiv (2^(min (52:Int).toNat u64.bits)))) &&& BitVec.ofInt i64.bits 2047).toNat)-1023)))),4607182418800017408,()) w14))
 (fun s27 w28=>
 (0:Int)≤52 ∧
 Aa1 P N.Hu5 #[.int .u64 (u64.wrap (BitVec.ofInt u64.bits (u64.wrap (BitVec.ofInt u64.bits n16 &&& ~~~BitVec.ofInt u64.bits 9218868437227405312).toNat) ||| BitVec.ofInt u64.bits (u64.wrap ((u64.wrap (i64.wrap (s27.1+1023)))*2^(min (52:Int).toNat u64.bits)))).toNat)] w28 fun v30 w29=>
 ∃ x31,v30=(.float .f64 x31) ∧
 At5 (Cq0 s27.2.1 x31) w29 fun x32 w33=>
 K (.float .f64 x32) w33))))))
def Fe8 (N:Nums) (P:Program) (q0:OA) (q1:Int) (w:World) (K:KV):Prop:=
 mkM N.Il1 1 4 #[.int .u32 0] q1 q1 w fun p1 w2=>
 Ae0 q0 fun a3=>
 cS_ w2 (a3.add 1) fun s4a s4l s4c=>
 Hl9 1 (some p1) q1.toNat s4a s4l w2 fun w5=>
 Ae0 q0 fun a6=>
 cB_ w5 a6 fun b7=>
 Ae8 (σ:=Unit) (fun J8=>
 cond b7
 (Ae8 (σ:=Unit) (fun J11=>
 Ae7 (σ:=Int×Int×Unit) (fun s14 X15 w16=>
 cond (decide (s14.2.1<q1))
 ((0:Int)≤s14.2.1∧s14.2.1<(q1.toNat:Nat) ∧
 cW_ w16 (p1.add (s14.2.1.toNat*1)) fun n17=>
 (0:Int)≤s14.2.1∧s14.2.1<(q1.toNat:Nat) ∧
 stM (p1.add (s14.2.1.toNat*1)) (.int .u32 (u32.wrap (u64.wrap (s14.1+(u64.wrap (u32.wrap (BitVec.ofInt u32.bits (u32.max) ^^^ BitVec.ofInt u32.bits n17).toNat)))))) w16 fun w18=>
 (0:Int)≤32 ∧
 X15 (((u64.wrap (s14.1+(u64.wrap (u32.wrap (BitVec.ofInt u32.bits (u32.max) ^^^ BitVec.ofInt u32.bits n17).toNat)))).fdiv (2^(min (32:Int).toNat u64.bits))),(i64.wrap (s14.2.1+1)),()) w18)
 (J11 (()) w16))
 (1,0,()) w5)
 (fun s12 w13=>
 J8 (()) w13))
 (J8 (()) w5))
 (fun s9 w10=>
 K (.slice (some p1) q1.toNat q1.toNat) w10)
def Gh0 (N:Nums) (P:Program) (q0:OA) (q1:OA) (qo qu:Nat) (w:World) (K:KV):Prop:=
 Ae8 (σ:=Bool×Unit) (fun J1=>
 cond (decide ((qo:Int)>0))
 ((0:Int)≤(i64.wrap ((qo:Int)-1))∧(i64.wrap ((qo:Int)-1))<(qo:Nat) ∧
 Ae0 q1 fun a4=>
 ∃ n5,w.cell? (a4.add ((i64.wrap ((qo:Int)-1)).toNat*1))=some (.int .u32 n5) ∧
 (0:Int)≤31 ∧
 J1 (((n5.fdiv (2^(min (31:Int).toNat u32.bits)))==1),()) w)
 (J1 (false,()) w))
 (fun s2 w3=>
 cond s2.1
 (Ae8 (σ:=Unit) (fun J6=>
 Ae7 (σ:=Int×Int×Unit) (fun s9 X10 w11=>
 cond (decide (s9.2.1<(qo:Int)))
 ((0:Int)≤s9.2.1∧s9.2.1<(qo:Nat) ∧
 Ae0 q1 fun a12=>
 cW_ w11 (a12.add (s9.2.1.toNat*1)) fun n13=>
 (0:Int)≤s9.2.1∧s9.2.1<(qo:Nat) ∧
 Ae0 q1 fun a14=>
 stM (a14.add (s9.2.1.toNat*1)) (.int .u32 (u32.wrap (u64.wrap (s9.1+(u64.wrap (u32.wrap (BitVec.ofInt u32.bits (u32.max) ^^^ BitVec.ofInt u32.bits n13).toNat)))))) w11 fun w15=>
 (0:Int)≤32 ∧
 X10 (((u64.wrap (s9.1+(u64.wrap (u32.wrap (BitVec.ofInt u32.bits (u32.max) ^^^ BitVec.ofInt u32.bits n13).toNat)))).fdiv (2^(min (32:Int).toNat u64.bits))),(i64.wrap (s9.2.1+1)),()) w15)
 (J6 (()) w11))
 (1,0,()) w3)
 (fun s7 w8=>
 Aa1 P N.Ii6 #[.slice q1 qo qu] w8 fun v17 w16=>
 vS_ v17 fun s18a s18l s18c=>
 Aa1 P N.Ii9 #[.pointer q0,.bool true,.slice s18a s18l s18c] w16 fun v20 w19=>
 ∃ p21:(OA),v20=(.pointer p21) ∧
 K (.pointer p21) w19))
 (Aa1 P N.Ii6 #[.slice q1 qo qu] w3 fun v23 w22=>
 vS_ v23 fun s24a s24l s24c=>
 Aa1 P N.Ii9 #[.pointer q0,.bool false,.slice s24a s24l s24c] w22 fun v26 w25=>
 ∃ p27:(OA),v26=(.pointer p27) ∧
 K (.pointer p27) w25))
def Dw4 (N:Nums) (P:Program) (q0:Int) (w:World) (K:KV):Prop:=
 (0:Int)≤32 ∧
 Ad1 #[.int .u32 (u32.wrap q0),.int .u32 (u32.wrap (q0.fdiv (2^(min (32:Int).toNat u64.bits))))] N.Il1 w fun p1 w2=>
 Aa1 P N.Ii6 #[.slice (some p1) 2 2] w2 fun v4 w3=>
 vS_ v4 fun s5a s5l s5c=>
 K (.slice s5a s5l s5c) w3
def Fj0 (N:Nums) (P:Program) (q0:OA) (qj qm:Nat) (q1:Int) (w:World) (K:KV):Prop:=
 cond (!(decide (q1<0)))
 ((32:Int)≠0 ∧
 cond (decide ((i64.wrap (q1.tdiv 32))≥(qj:Int)))
 (K (.int .u64 0) w)
 ((32:Int)≠0 ∧
 (0:Int)≤(i64.wrap (q1.tdiv 32))∧(i64.wrap (q1.tdiv 32))<(qj:Nat) ∧
 Ae0 q0 fun a1=>
 ∃ n2,w.cell? (a1.add ((i64.wrap (q1.tdiv 32)).toNat*1))=some (.int .u32 n2) ∧
 (32:Int)≠0 ∧
 (0:Int)≤((u64.wrap q1).tmod 32) ∧
 K (.int .u64 (u64.wrap (BitVec.ofInt u64.bits (u64.wrap (n2.fdiv (2^(min ((u64.wrap q1).tmod 32).toNat u32.bits)))) &&& BitVec.ofInt u64.bits 1).toNat)) w))
 (K (.int .u64 0) w)
def Dc8 (N:Nums) (P:Program) (q0:OA) (qj qm:Nat) (w:World) (K:KV):Prop:=
 cond ((qj:Int)==0)
 (K (.int .i64 0) w)
 ((0:Int)≤(i64.wrap ((qj:Int)-1))∧(i64.wrap ((qj:Int)-1))<(qj:Nat) ∧
 Ae0 q0 fun a1=>
 ∃ n2,w.cell? (a1.add ((i64.wrap ((qj:Int)-1)).toNat*1))=some (.int .u32 n2) ∧
 Ae8 (σ:=Int×Unit) (fun J3=>
 Ae7 (σ:=Int×Int×Unit) (fun s6 X7 w8=>
 cond (s6.2.1 != 0)
 ((0:Int)≤1 ∧
 X7 ((i64.wrap (s6.1+1)),(s6.2.1.fdiv (2^(min (1:Int).toNat u32.bits))),()) w8)
 (J3 (s6.1,()) w8))
 (0,n2,()) w)
 (fun s4 w5=>
 K (.int .i64 (i64.wrap ((i64.wrap ((i64.wrap ((qj:Int)-1))*32))+s4.1))) w5))
def Fe7 (N:Nums) (P:Program) (q0:OA) (q1:OA) (q2:OA) (w:World) (K:KV):Prop:=
 Ae0 q1 fun a1=>
 cS_ w (a1.add 1) fun s2a s2l s2c=>
 Ae0 q2 fun a3=>
 cS_ w (a3.add 1) fun s4a s4l s4c=>
 drM w fun w5=>
 Aa1 P N.Ik6 #[.pointer q1,.int .i64 (i64.wrap ((if (s4l:Int)>(s2l:Int) then (s4l:Int) else (s2l:Int))+1))] w5 fun v7 w6=>
 vS_ v7 fun s8a s8l s8c=>
 Aa1 P N.Ik6 #[.pointer q2,.int .i64 (i64.wrap ((if (s4l:Int)>(s2l:Int) then (s4l:Int) else (s2l:Int))+1))] w6 fun v10 w9=>
 vS_ v10 fun s11a s11l s11c=>
 Ae8 (σ:=Unit) (fun J12=>
 Ae7 (σ:=Int×Unit) (fun s15 X16 w17=>
 cond (decide (s15.1<(i64.wrap ((if (s4l:Int)>(s2l:Int) then (s4l:Int) else (s2l:Int))+1))))
 ((0:Int)≤s15.1∧s15.1<(s8l:Nat) ∧
 Ae0 s8a fun a18=>
 cW_ w17 (a18.add (s15.1.toNat*1)) fun n19=>
 (0:Int)≤s15.1∧s15.1<(s11l:Nat) ∧
 Ae0 s11a fun a20=>
 cW_ w17 (a20.add (s15.1.toNat*1)) fun n21=>
 (0:Int)≤s15.1∧s15.1<(s8l:Nat) ∧
 Ae0 s8a fun a22=>
 drM w17 fun w23=>
 stM (a22.add (s15.1.toNat*1)) (.int .u32 (u32.wrap (BitVec.ofInt u32.bits n19 &&& BitVec.ofInt u32.bits n21).toNat)) w23 fun w24=>
 drM w24 fun w25=>
 X16 ((i64.wrap (s15.1+1)),()) w25)
 (J12 (()) w17))
 (0,()) w9)
 (fun s13 w14=>
 Aa1 P N.Im0 #[.pointer q0,.slice s8a s8l s8c] w14 fun v27 w26=>
 ∃ p28:(OA),v27=(.pointer p28) ∧
 K (.pointer p28) w26)
def Eq9 (N:Nums) (P:Program) (q0:OA) (qj qm:Nat) (w:World) (K:KV):Prop:=
 Ae8 (σ:=Int×Unit) (fun J1=>
 Ae7 (σ:=Int×Unit) (fun s4 X5 w6=>
 cond (decide (s4.1>0))
 ((0:Int)≤(i64.wrap (s4.1-1))∧(i64.wrap (s4.1-1))<(qj:Nat) ∧
 Ae0 q0 fun a7=>
 ∃ n8,w6.cell? (a7.add ((i64.wrap (s4.1-1)).toNat*1))=some (.int .u32 n8) ∧
 cond (n8==0)
 (X5 ((i64.wrap (s4.1-1)),()) w6)
 (J1 (s4.1,()) w6))
 (J1 (s4.1,()) w6))
 ((qj:Int),()) w)
 (fun s2 w3=>
 (0:Int)≤s2.1∧s2.1≤(qm:Nat) ∧
 K (.slice (An7 q0 0 qm 1) s2.1.toNat qm) w3)
def Cq6 (N:Nums) (P:Program) (q0:Nat) (w:World) (K:KV):Prop:=
 cond (!feq q0 q0)
 (K (.tuple #[.int .i64 0,.bool false]) w)
 (Aa1 P N.Ig0 #[.float .f64 q0] w fun v2 w1=>
 ∃ x3,v2=(.float .f64 x3) ∧
 Aa1 P N.Hu7 #[.float .f64 x3] w1 fun v5 w4=>
 ∃ n6,v5=(.int .u64 n6) ∧
 Ae8 (σ:=Int×Unit) (fun J7=>
 cond (flt q0 0)
 (J7 ((i64.wrap (0-(i64.wrap n6))),()) w4)
 (J7 ((i64.wrap n6),()) w4))
 (fun s8 w9=>
 K (.tuple #[.int .i64 s8.1,.bool true]) w9))
def Ei6 (N:Nums) (P:Program) (q0:Int) (w:World) (K:KV):Prop:=
 cond (!(decide (q0>9218868437227405312)))
 (cond (decide (q0<(-9218868437227405312)))
 (K (.tuple #[.float .f64 0,.bool false]) w)
 (cond (decide (q0<0))
 (Aa1 P N.Hu5 #[.int .u64 (u64.wrap (i64.wrap (0-q0)))] w fun v2 w1=>
 ∃ x3,v2=(.float .f64 x3) ∧
 K (.tuple #[.float .f64 (Bn0 x3),.bool true]) w1)
 (Aa1 P N.Hu5 #[.int .u64 (u64.wrap q0)] w fun v5 w4=>
 ∃ x6,v5=(.float .f64 x6) ∧
 K (.tuple #[.float .f64 x6,.bool true]) w4)))
 (K (.tuple #[.float .f64 0,.bool false]) w)
def Ce3 (N:Nums) (P:Program) (q0:Nat) (w:World) (K:KV):Prop:=
 Aa1 P N.Hu7 #[.float .f64 q0] w fun v2 w1=>
 ∃ n3,v2=(.int .u64 n3) ∧
 Aa1 P N.Hu5 #[.int .u64 (u64.wrap (n3+1))] w1 fun v5 w4=>
 ∃ x6,v5=(.float .f64 x6) ∧
 K (.float .f64 x6) w4
def Cr9 (N:Nums) (P:Program) (q0:Nat) (w:World) (K:KV):Prop:=
 Aa1 P N.Hu7 #[.float .f64 q0] w fun v2 w1=>
 ∃ n3,v2=(.int .u64 n3) ∧
 Aa1 P N.Hu5 #[.int .u64 (u64.wrap (n3-1))] w1 fun v5 w4=>
 ∃ x6,v5=(.float .f64 x6) ∧
 K (.float .f64 x6) w4
def Bp4 (N:Nums) (P:Program) (q0:Nat) (w:World) (K:KV):Prop:=
 Aa1 P N.Ig0 #[.float .f64 q0] w fun v2 w1=>
 ∃ x3,v2=(.float .f64 x3) ∧
 cond (flt x3 4503599627370496)
 (At5 (Cq0 q0 4841369599423283200) w1 fun x4 w5=>
 K (.tuple #[.float .f64 x4,.int .i64 (-52)]) w5)
 (K (.tuple #[.float .f64 q0,.int .i64 0]) w1)
def Dt8 (N:Nums) (P:Program) (q0:Int) (w:World) (K:KV):Prop:=
 Ae8 (σ:=Int×Unit) (fun J1=>
 cond (decide (q0≥0))
 (J1 (9218868437227405312,()) w)
 (J1 (18442240474082181120,()) w))
 (fun s2 w3=>
 Aa1 P N.Hu5 #[.int .u64 s2.1] w3 fun v5 w4=>
 ∃ x6,v5=(.float .f64 x6) ∧
 K (.float .f64 x6) w4)
end Go.Eng
