/-
 Some of the functions as propositions in the manner of a weakest precondition, printed off the structured code by a program of the session. No condition.
-/
import Derived.Test.YtlnelldekejadaaGreatTbl
import Derived.Test.YtlnelldekejadaaGreatNm
set_option linter.all false
set_option maxRecDepth 100000
open BitVec renaming ofInt→AA
namespace Go.Eng
open Go
open Go.IntKind (i64 u64 u32 u8)
def Bo5 (N:Nums) (P:Program) (qd:Bool) (qb:OA) (qe qg:Nat) (qf:Int) (m:Int) (w:World) (K:KV):Prop:=
 Ac8 #[.bool qd,.slice qb qe qg,.int .i64 qf] N.Hs7 w fun a b=>
 Ac8 #[.bool false,.slice none 0 0] N.Hr0 b fun b c=>
 cS_ c (a.add 1) fun d e f=>
 cond ((e:Int)==0)
 (K (.pointer (some b)) c)
 (cS_ c (a.add 1) fun d e f=>
 Ad7 (σ:=Unit) (fun d=>
 Ac3 (σ:=Int×Unit) (fun c f g=>
 cond (decide (c.1<(e:Int)))
 (Aa1 P N.Hq5 #[.pointer (some b),.pointer (some b),.int .u64 64] g fun d e=>
 ∃ n:(OA),d=(.pointer n) ∧
 Ac8 #[.bool false,.slice none 0 0] N.Hr0 e fun d e=>
 cS_ e (a.add 1) fun g h i=>
 cS_ e (a.add 1) fun a i j=>
 (0:Int)≤(i64.wrap ((i64.wrap ((i:Int)-1))-c.1))∧(i64.wrap ((i64.wrap ((i:Int)-1))-c.1))<(h:Nat) ∧
 Ab6 g fun a=>
 ∃ g,e.cell? (a.add ((i64.wrap ((i64.wrap ((i:Int)-1))-c.1)).toNat*1))=some (.int .u64 g) ∧
 Aa1 P N.Hi5 #[.pointer (some d),.int .u64 g] e fun a d=>
 ∃ k:(OA),a=(.pointer k) ∧
 Aa1 P N.Hs6 #[.pointer (some b),.pointer (some b),.pointer k] d fun a b=>
 ∃ o:(OA),a=(.pointer o) ∧
 f ((i64.wrap (c.1+1)),()) b)
 (d (()) g))
 (0,()) c)
 (fun c d=>
 cB_ d a fun c=>
 Ad7 (σ:=Unit) (fun a=>
 cond c
 (Aa1 P N.Hq8 #[.pointer (some b),.pointer (some b)] d fun b c=>
 ∃ p:(OA),b=(.pointer p) ∧
 a (()) c)
 (a (()) d))
 (fun c d=>
 cI_ d (a.add 2) fun a=>
 Aa1 P N.Hq5 #[.pointer (some b),.pointer (some b),.int .u64 (u64.wrap (i64.wrap (a-m)))] d fun a b=>
 ∃ l:(OA),a=(.pointer l) ∧
 K (.pointer l) b)))
def Ep3 (N:Nums) (P:Program) (m:OA) (j:OA) (k:OA) (w:World) (K:KV):Prop:=
 Ab6 j fun a=>
 cB_ w a fun a=>
 Ab6 j fun b=>
 cS_ w (b.add 1) fun b c d=>
 Ab6 k fun e=>
 cB_ w e fun e=>
 Ab6 k fun f=>
 cS_ w (f.add 1) fun f g h=>
 drM w fun i=>
 Aa1 P N.Hr5 #[.bool a,.slice b c d,.bool (!e),.slice f g h] i fun a b=>
 ∃ c,∃ d e f,a=(.tuple #[.bool c,.slice d e f]) ∧
 drM b fun a=>
 Aa1 P N.Hp8 #[.pointer m,.bool c,.slice d e f] a fun a b=>
 ∃ l:(OA),a=(.pointer l) ∧
 drM b fun a=>
 K (.pointer l) a
def Dx9 (N:Nums) (P:Program) (d:OA) (w:World) (K:KV):Prop:=
 Ab6 d fun a=>
 cS_ w (a.add 1) fun a b c=>
 cond ((b:Int)==0)
 (K (.int .i64 0) w)
 (Ab6 d fun a=>
 cB_ w a fun a=>
 cond a
 (K (.int .i64 (-1)) w)
 (K (.int .i64 1) w))
def Az5 (N:Nums) (P:Program) (h:OA) (w:World) (K:KV):Prop:=
 Ab6 h fun a=>
 cS_ w (a.add 1) fun a b c=>
 cond ((b:Int)==0)
 (K (.int .u64 0) w)
 (Ad7 (σ:=Int×Unit) (fun a=>
 Ac3 (σ:=Int×Unit) (fun b c d=>
 Ab6 h fun e=>
 cS_ d (e.add 1) fun e f g=>
 Aa1 P N.Hr7 #[.slice e f g,.int .i64 (i64.wrap b.1)] d fun d e=>
 ∃ f,d=(.int .u64 f) ∧
 cond (f==0)
 (c ((u64.wrap (b.1+1)),()) e)
 (a (b.1,()) e))
 (0,()) w)
 (fun a b=>
 K (.int .u64 a.1) b))
def Cr1 (N:Nums) (P:Program) (d:OA) (w:World) (K:KV):Prop:=
 Ab6 d fun a=>
 cS_ w (a.add 1) fun a b c=>
 Aa1 P N.Hl9 #[.slice a b c] w fun a b=>
 ∃ c,a=(.int .i64 c) ∧
 K (.int .i64 c) b
def Dk0 (N:Nums) (P:Program) (g:OA) (f:OA) (h:Int) (w:World) (K:KV):Prop:=
 Ab6 f fun a=>
 cB_ w a fun a=>
 cond a
 (Ab6 f fun a=>
 cS_ w (a.add 1) fun a b c=>
 Ac8 #[.int .u32 1] N.Hq9 w fun d e=>
 Aa1 P N.Hq4 #[.slice a b c,.slice (some d) 1 1] e fun a b=>
 vS_ a fun a c d=>
 Aa1 P N.Ho3 #[.slice a c d,.int .u64 h] b fun a b=>
 vS_ a fun a c d=>
 Ac8 #[.int .u32 1] N.Hq9 b fun b e=>
 Aa1 P N.Hq1 #[.slice a c d,.slice (some b) 1 1] e fun a b=>
 vS_ a fun a c d=>
 Aa1 P N.Hp8 #[.pointer g,.bool true,.slice a c d] b fun a b=>
 ∃ i:(OA),a=(.pointer i) ∧
 K (.pointer i) b)
 (Ab6 f fun a=>
 cS_ w (a.add 1) fun a b c=>
 Aa1 P N.Ho3 #[.slice a b c,.int .u64 h] w fun a b=>
 vS_ a fun a c d=>
 Aa1 P N.Hp8 #[.pointer g,.bool false,.slice a c d] b fun a b=>
 ∃ j:(OA),a=(.pointer j) ∧
 K (.pointer j) b)
def Cv7 (N:Nums) (P:Program) (d:Int) (w:World) (K:KV):Prop:=
 Ac8 #[.bool false,.slice none 0 0] N.Hr0 w fun a b=>
 Aa1 P N.Hi7 #[.pointer (some a),.int .i64 d] b fun a b=>
 ∃ c:(OA),a=(.pointer c) ∧
 K (.pointer c) b
def Ax0 (N:Nums) (P:Program) (m:OA) (n:Int) (w:World) (K:KV):Prop:=
 Aa1 P N.Hg5 #[.pointer m,.int .i64 n] w fun a b=>
 ∃ c,∃ d,a=(.tuple #[.int .i64 c,.int .i64 d]) ∧
 cond (decide (c<0))
 (K (.bool false) b)
 (Ad7 (σ:=Unit) (fun a=>
 cond (c != d)
 (Ab6 m fun e=>
 cS_ b e fun e f g=>
 Ad7 (σ:=Unit) (fun a=>
 Ac3 (σ:=Int×Unit) (fun b e g=>
 cond (decide (b.1<(f:Int)))
 (Ab6 m fun a=>
 cS_ g a fun a f h=>
 (0:Int)≤c∧c<(f:Nat) ∧
 Ab6 a fun a=>
 cS_ g (a.add (c.toNat*1)) fun a f h=>
 (0:Int)≤b.1∧b.1<(f:Nat) ∧
 Ab6 a fun a=>
 ∃ o:(OA),g.cell? (a.add (b.1.toNat*1))=some (.pointer o) ∧
 Ab6 m fun a=>
 cS_ g a fun a f h=>
 (0:Int)≤c∧c<(f:Nat) ∧
 Ab6 a fun a=>
 cS_ g (a.add (c.toNat*1)) fun a c f=>
 (0:Int)≤b.1∧b.1<(c:Nat) ∧
 Ab6 a fun a=>
 ∃ p:(OA),g.cell? (a.add (b.1.toNat*1))=some (.pointer p) ∧
 Ab6 m fun a=>
 cS_ g a fun a c f=>
 (0:Int)≤d∧d<(c:Nat) ∧
 Ab6 a fun a=>
 cS_ g (a.add (d.toNat*1)) fun a c d=>
 (0:Int)≤b.1∧b.1<(c:Nat) ∧
 Ab6 a fun a=>
 ∃ q:(OA),g.cell? (a.add (b.1.toNat*1))=some (.pointer q) ∧
 drM g fun a=>
 Aa1 P N.Hq0 #[.pointer o,.pointer p,.pointer q] a fun a c=>
 ∃ x:(OA),a=(.pointer x) ∧
 drM c fun a=>
 e ((i64.wrap (b.1+1)),()) a)
 (a (()) g))
 (0,()) b)
 (fun b e=>
 Ab6 m fun b=>
 cS_ e b fun b f g=>
 Ad7 (σ:=Unit) (fun a=>
 Ac3 (σ:=Int×Unit) (fun b e g=>
 cond (decide (b.1<(f:Int)))
 (Ab6 m fun a=>
 cS_ g a fun a f h=>
 (0:Int)≤b.1∧b.1<(f:Nat) ∧
 Ab6 a fun a=>
 cS_ g (a.add (b.1.toNat*1)) fun a f h=>
 (0:Int)≤c∧c<(f:Nat) ∧
 Ab6 a fun a=>
 ∃ r:(OA),g.cell? (a.add (c.toNat*1))=some (.pointer r) ∧
 Ab6 m fun a=>
 cS_ g a fun a f h=>
 (0:Int)≤b.1∧b.1<(f:Nat) ∧
 Ab6 a fun a=>
 cS_ g (a.add (b.1.toNat*1)) fun a f h=>
 (0:Int)≤c∧c<(f:Nat) ∧
 Ab6 a fun a=>
 ∃ s:(OA),g.cell? (a.add (c.toNat*1))=some (.pointer s) ∧
 Ab6 m fun a=>
 cS_ g a fun a c f=>
 (0:Int)≤b.1∧b.1<(c:Nat) ∧
 Ab6 a fun a=>
 cS_ g (a.add (b.1.toNat*1)) fun a c f=>
 (0:Int)≤d∧d<(c:Nat) ∧
 Ab6 a fun a=>
 ∃ t:(OA),g.cell? (a.add (d.toNat*1))=some (.pointer t) ∧
 drM g fun a=>
 Aa1 P N.Hq0 #[.pointer r,.pointer s,.pointer t] a fun a c=>
 ∃ y:(OA),a=(.pointer y) ∧
 drM c fun a=>
 e ((i64.wrap (b.1+1)),()) a)
 (a (()) g))
 (0,()) e)
 (fun b c=>
 a (()) c)))
 (a (()) b))
 (fun a b=>
 Ab6 m fun a=>
 cS_ b a fun a d e=>
 Ab6 m fun e=>
 cS_ b e fun e f g=>
 Ab6 m fun g=>
 cS_ b g fun g h i=>
 (0:Int)≤c∧c<(h:Nat) ∧
 Ab6 g fun g=>
 cS_ b (g.add (c.toNat*1)) fun g h i=>
 Ab6 m fun j=>
 cS_ b j fun j k l=>
 (0:Int)≤n∧n<(k:Nat) ∧
 Ab6 j fun j=>
 cS_ b (j.add (n.toNat*1)) fun j k l=>
 (0:Int)≤n∧n<(d:Nat) ∧
 Ab6 a fun a=>
 drM b fun b=>
 stM (a.add (n.toNat*1)) (.slice g h i) b fun a=>
 (0:Int)≤c∧c<(f:Nat) ∧
 Ab6 e fun b=>
 drM a fun a=>
 stM (b.add (c.toNat*1)) (.slice j k l) a fun a=>
 drM a fun a=>
 Ab6 m fun b=>
 cS_ a b fun b d e=>
 Ad7 (σ:=Unit) (fun b=>
 Ac3 (σ:=Int×Unit) (fun a e f=>
 cond (decide (a.1<(d:Int)))
 (Ab6 m fun b=>
 cS_ f b fun b d g=>
 (0:Int)≤a.1∧a.1<(d:Nat) ∧
 Ab6 b fun b=>
 cS_ f (b.add (a.1.toNat*1)) fun b d g=>
 Ab6 m fun g=>
 cS_ f g fun g h i=>
 (0:Int)≤a.1∧a.1<(h:Nat) ∧
 Ab6 g fun g=>
 cS_ f (g.add (a.1.toNat*1)) fun g h i=>
 Ab6 m fun i=>
 cS_ f i fun i j k=>
 (0:Int)≤a.1∧a.1<(j:Nat) ∧
 Ab6 i fun i=>
 cS_ f (i.add (a.1.toNat*1)) fun i j k=>
 (0:Int)≤c∧c<(j:Nat) ∧
 Ab6 i fun i=>
 ∃ u:(OA),f.cell? (i.add (c.toNat*1))=some (.pointer u) ∧
 Ab6 m fun i=>
 cS_ f i fun i j k=>
 (0:Int)≤a.1∧a.1<(j:Nat) ∧
 Ab6 i fun i=>
 cS_ f (i.add (a.1.toNat*1)) fun i j k=>
 (0:Int)≤n∧n<(j:Nat) ∧
 Ab6 i fun i=>
 ∃ v:(OA),f.cell? (i.add (n.toNat*1))=some (.pointer v) ∧
 (0:Int)≤n∧n<(d:Nat) ∧
 Ab6 b fun b=>
 drM f fun d=>
 stM (b.add (n.toNat*1)) (.pointer u) d fun b=>
 (0:Int)≤c∧c<(h:Nat) ∧
 Ab6 g fun d=>
 drM b fun b=>
 stM (d.add (c.toNat*1)) (.pointer v) b fun b=>
 drM b fun b=>
 e ((i64.wrap (a.1+1)),()) b)
 (b (()) f))
 (0,()) a)
 (fun a b=>
 K (.bool true) b)))
def Ek2 (N:Nums) (P:Program) (o:OA) (l:OA) (m:OA) (w:World) (K:KV):Prop:=
 Ab6 l fun a=>
 cB_ w a fun b=>
 Ab6 m fun c=>
 cB_ w c fun d=>
 Ab6 l fun e=>
 cS_ w (e.add 1) fun e f g=>
 Ab6 m fun h=>
 cS_ w (h.add 1) fun h i j=>
 drM w fun k=>
 Aa1 P N.Hq2 #[.slice e f g,.slice h i j] k fun e f=>
 vS_ e fun e g h=>
 f.cell? c=some (.bool d) ∧
 f.cell? a=some (.bool b) ∧
 drM f fun a=>
 Aa1 P N.Hp8 #[.pointer o,.bool (!(b==d)),.slice e g h] a fun a b=>
 ∃ n:(OA),a=(.pointer n) ∧
 drM b fun a=>
 K (.pointer n) a
def El5 (N:Nums) (P:Program) (c:OA) (d:OA) (e:OA) (w:World) (K:KV):Prop:=
 Ac8 #[.bool false,.slice none 0 0] N.Hr0 w fun a b=>
 Aa1 P N.Hl4 #[.pointer c,.pointer d,.pointer e,.pointer (some a)] b fun a b=>
 ∃ f:(OA),∃ g:(OA),a=(.tuple #[.pointer f,.pointer g]) ∧
 K (.pointer c) b
def Cd7 (N:Nums) (P:Program) (qd:Bool) (qb:OA) (qe qg:Nat) (qf:Int) (qt:Bool) (qs:OA) (qo qp:Nat) (qw:Int) (w:World) (K:KV):Prop:=
 Ac8 #[.bool qd,.slice qb qe qg,.int .i64 qf] N.Hp2 w fun a b=>
 Ac8 #[.bool qt,.slice qs qo qp,.int .i64 qw] N.Hp2 b fun b c=>
 Ac8 #[.bool false,.slice none 0 0,.int .i64 0] N.Hp2 c fun c d=>
 c3D d a fun e f g h i=>
 Aa1 P N.Hi0 #[.agg #[.bool e,.slice f g h,.int .i64 i]] d fun d e=>
 vB_ d fun d=>
 cond d
 (c3D e b fun a b d f g=>
 s3D c a b d f g e fun a=>
 c3D a c fun b c d e f=>
 K (.agg #[.bool b,.slice c d e,.int .i64 f]) a)
 (c3D e b fun d f g h i=>
 Aa1 P N.Hi0 #[.agg #[.bool d,.slice f g h,.int .i64 i]] e fun d e=>
 vB_ d fun d=>
 cond d
 (c3D e a fun a b d f g=>
 s3D c a b d f g e fun a=>
 c3D a c fun b c d e f=>
 K (.agg #[.bool b,.slice c d e,.int .i64 f]) a)
 (cI_ e (a.add 2) fun d=>
 cI_ e (b.add 2) fun f=>
 cond (decide (d>f))
 (c3D e b fun b d f g h=>
 c3D e a fun a i j k l=>
 Aa1 P N.Ho5 #[.agg #[.bool b,.slice d f g,.int .i64 h],.agg #[.bool a,.slice i j k,.int .i64 l]] e fun a b=>
 v3D a fun a d e f g=>
 s3D c a d e f g b fun a=>
 c3D a c fun b c d e f=>
 K (.agg #[.bool b,.slice c d e,.int .i64 f]) a)
 (cS_ e (a.add 1) fun d f g=>
 cS_ e (b.add 1) fun h i j=>
 cI_ e (b.add 2) fun k=>
 cI_ e (a.add 2) fun l=>
 Aa1 P N.Hn0 #[.slice h i j,.int .i64 (i64.wrap (k-l))] e fun e h=>
 vS_ e fun e i j=>
 cB_ h a fun k=>
 cB_ h b fun l=>
 cond (k==l)
 (cB_ h a fun b=>
 cI_ h (a.add 2) fun k=>
 drM h fun h=>
 Aa1 P N.Hk8 #[.slice d f g,.slice e i j] h fun d e=>
 vS_ d fun d f g=>
 e.cell? (a.add 2)=some (.int .i64 k) ∧
 e.cell? a=some (.bool b) ∧
 drM e fun a=>
 s3D c b d f g k a fun a=>
 drM a fun a=>
 c3D a c fun b c d e f=>
 K (.agg #[.bool b,.slice c d e,.int .i64 f]) a)
 (Aa1 P N.Hl2 #[.slice d f g,.slice e i j] h fun h k=>
 ∃ l,h=(.int .i64 l) ∧
 cond (decide (l≥0))
 (cB_ k a fun b=>
 cI_ k (a.add 2) fun h=>
 drM k fun k=>
 Aa1 P N.Hk4 #[.slice d f g,.slice e i j] k fun d e=>
 vS_ d fun d f g=>
 e.cell? (a.add 2)=some (.int .i64 h) ∧
 e.cell? a=some (.bool b) ∧
 drM e fun a=>
 s3D c b d f g h a fun a=>
 drM a fun a=>
 c3D a c fun b c d e f=>
 K (.agg #[.bool b,.slice c d e,.int .i64 f]) a)
 (cB_ k b fun h=>
 cI_ k (a.add 2) fun l=>
 drM k fun k=>
 Aa1 P N.Hk4 #[.slice e i j,.slice d f g] k fun d e=>
 vS_ d fun d f g=>
 e.cell? (a.add 2)=some (.int .i64 l) ∧
 e.cell? b=some (.bool h) ∧
 drM e fun a=>
 s3D c h d f g l a fun a=>
 drM a fun a=>
 c3D a c fun b c d e f=>
 K (.agg #[.bool b,.slice c d e,.int .i64 f]) a)))))
def Ct5 (N:Nums) (P:Program) (qd:Bool) (qb:OA) (qe qg:Nat) (qf:Int) (w:World) (K:KV):Prop:=
 Ac8 #[.bool qd,.slice qb qe qg,.int .i64 qf] N.Hp2 w fun a b=>
 Ac8 #[.bool false,.slice none 0 0,.int .i64 0] N.Hp2 b fun b c=>
 c3D c a fun a d e f g=>
 stM b (.bool (!a)) c fun a=>
 stM (b.add 1) (.slice d e f) a fun a=>
 stM (b.add 2) (.int .i64 g) a fun a=>
 c3D a b fun b c d e f=>
 K (.agg #[.bool b,.slice c d e,.int .i64 f]) a
def Cy0 (N:Nums) (P:Program) (e:Int) (w:World) (K:KV):Prop:=
 Ac8 #[.int .u64 e] N.Hr2 w fun a b=>
 Aa1 P N.Hj4 #[.slice (some a) 1 1] b fun a b=>
 vS_ a fun a c d=>
 K (.slice a c d) b
def Bt6 (N:Nums) (P:Program) (qd:Bool) (qb:OA) (qe qg:Nat) (qf:Int) (w:World) (K:KV):Prop:=
 Ac8 #[.bool qd,.slice qb qe qg,.int .i64 qf] N.Hp2 w fun a b=>
 cS_ b (a.add 1) fun a c d=>
 Aa1 P N.Hj6 #[.slice a c d] b fun a b=>
 ∃ c,a=(.int .i64 c) ∧
 K (.bool (c==0)) b
def Cy5 (N:Nums) (P:Program) (g:OA) (qj qq:Nat) (w:World) (K:KV):Prop:=
 Ad7 (σ:=Int×Unit) (fun a=>
 Ac3 (σ:=Int×Unit) (fun b c d=>
 (64:Int)≠0 ∧
 (0:Int)≤(i64.wrap (b.1.tdiv 64))∧(i64.wrap (b.1.tdiv 64))<(qj:Nat) ∧
 Ab6 g fun e=>
 ∃ f,d.cell? (e.add ((i64.wrap (b.1.tdiv 64)).toNat*1))=some (.int .u64 f) ∧
 (64:Int)≠0 ∧
 (0:Int)≤(u64.wrap (b.1.tmod 64)) ∧
 (2:Int)≠0 ∧
 cond (((f.fdiv (2^(min (u64.wrap (b.1.tmod 64)).toNat u64.bits))).tmod 2)==0)
 (c ((i64.wrap (b.1+1)),()) d)
 (a (b.1,()) d))
 (0,()) w)
 (fun a b=>
 K (.int .i64 a.1) b)
def Cc5 (N:Nums) (P:Program) (e:OA) (qj qq:Nat) (w:World) (K:KV):Prop:=
 Aa1 P N.Hj4 #[.slice e qj qq] w fun a b=>
 vS_ a fun a c d=>
 cond ((c:Int)==0)
 (K (.int .i64 0) b)
 ((0:Int)≤(i64.wrap ((c:Int)-1))∧(i64.wrap ((c:Int)-1))<(c:Nat) ∧
 Ab6 a fun a=>
 ∃ d,b.cell? (a.add ((i64.wrap ((c:Int)-1)).toNat*1))=some (.int .u64 d) ∧
 Ad7 (σ:=Int×Unit) (fun a=>
 Ac3 (σ:=Int×Int×Unit) (fun b c d=>
 cond (decide (b.2.1>0))
 ((2:Int)≠0 ∧
 c ((i64.wrap (b.1+1)),(u64.wrap (b.2.1.tdiv 2)),()) d)
 (a (b.1,()) d))
 ((i64.wrap (64*(i64.wrap ((c:Int)-1)))),d,()) b)
 (fun a b=>
 K (.int .i64 a.1) b))
def Bu6 (N:Nums) (P:Program) (qd:Bool) (qb:OA) (qe qg:Nat) (qf:Int) (w:World) (K:KV):Prop:=
 Ac8 #[.bool qd,.slice qb qe qg,.int .i64 qf] N.Hp2 w fun a b=>
 c3D b a fun c d e f g=>
 Aa1 P N.Hi0 #[.agg #[.bool c,.slice d e f,.int .i64 g]] b fun b c=>
 vB_ b fun b=>
 cond b
 (K (.int .i64 0) c)
 (cB_ c a fun a=>
 cond a
 (K (.int .i64 (-1)) c)
 (K (.int .i64 1) c))
def Ct7 (N:Nums) (P:Program) (qd:Bool) (qb:OA) (qe qg:Nat) (qf:Int) (qt:Bool) (qs:OA) (qo qp:Nat) (qw:Int) (w:World) (K:KV):Prop:=
 Ac8 #[.bool qd,.slice qb qe qg,.int .i64 qf] N.Hp2 w fun a b=>
 Ac8 #[.bool qt,.slice qs qo qp,.int .i64 qw] N.Hp2 b fun b c=>
 Ac8 #[.bool false,.slice none 0 0,.int .i64 0] N.Hp2 c fun c d=>
 cB_ d a fun e=>
 cB_ d b fun f=>
 cS_ d (a.add 1) fun g h i=>
 cS_ d (b.add 1) fun j k l=>
 cI_ d (a.add 2) fun m=>
 cI_ d (b.add 2) fun n=>
 drM d fun d=>
 Aa1 P N.Hl1 #[.slice g h i,.slice j k l] d fun d g=>
 vS_ d fun d h i=>
 g.cell? (b.add 2)=some (.int .i64 n) ∧
 g.cell? (a.add 2)=some (.int .i64 m) ∧
 g.cell? b=some (.bool f) ∧
 g.cell? a=some (.bool e) ∧
 drM g fun a=>
 stM c (.bool (!(e==f))) a fun a=>
 stM (c.add 1) (.slice d h i) a fun a=>
 stM (c.add 2) (.int .i64 (i64.wrap (m+n))) a fun a=>
 drM a fun a=>
 c3D a c fun b c d e f=>
 K (.agg #[.bool b,.slice c d e,.int .i64 f]) a
def Bx4 (N:Nums) (P:Program) (g:OA) (qj qq:Nat) (w:World) (K:KV):Prop:=
 Ad7 (σ:=Int×Unit) (fun a=>
 Ac3 (σ:=Int×Unit) (fun b c d=>
 cond (decide (b.1>0))
 ((0:Int)≤(i64.wrap (b.1-1))∧(i64.wrap (b.1-1))<(qj:Nat) ∧
 Ab6 g fun e=>
 ∃ f,d.cell? (e.add ((i64.wrap (b.1-1)).toNat*1))=some (.int .u64 f) ∧
 cond (f==0)
 (c ((i64.wrap (b.1-1)),()) d)
 (a (b.1,()) d))
 (a (b.1,()) d))
 ((qj:Int),()) w)
 (fun a b=>
 (0:Int)≤a.1∧a.1≤(qq:Nat) ∧
 Bn8 N.Hr2 1 8 #[.int .u64 0] none 0 0 (Ak1 g 0 qq 1) a.1.toNat b fun a b c d=>
 K (.slice a b c) d)
def Ek7 (N:Nums) (P:Program) (m:OA) (j:OA) (k:OA) (w:World) (K:KV):Prop:=
 Ab6 j fun a=>
 cB_ w a fun a=>
 Ab6 j fun b=>
 cS_ w (b.add 1) fun b c d=>
 Ab6 k fun e=>
 cB_ w e fun e=>
 Ab6 k fun f=>
 cS_ w (f.add 1) fun f g h=>
 drM w fun i=>
 Aa1 P N.Hr5 #[.bool a,.slice b c d,.bool e,.slice f g h] i fun a b=>
 ∃ c,∃ d e f,a=(.tuple #[.bool c,.slice d e f]) ∧
 drM b fun a=>
 Aa1 P N.Hp8 #[.pointer m,.bool c,.slice d e f] a fun a b=>
 ∃ l:(OA),a=(.pointer l) ∧
 drM b fun a=>
 K (.pointer l) a
def En5 (N:Nums) (P:Program) (i:OA) (g:OA) (w:World) (K:KV):Prop:=
 Ab6 g fun a=>
 cB_ w a fun b=>
 Ab6 g fun c=>
 cS_ w (c.add 1) fun c d e=>
 drM w fun f=>
 Aa1 P N.Hp1 #[.slice c d e] f fun c d=>
 vS_ c fun c e f=>
 d.cell? a=some (.bool b) ∧
 drM d fun a=>
 Aa1 P N.Hp8 #[.pointer i,.bool (!b),.slice c e f] a fun a b=>
 ∃ h:(OA),a=(.pointer h) ∧
 drM b fun a=>
 K (.pointer h) a
def El8 (N:Nums) (P:Program) (f:OA) (g:OA) (w:World) (K:KV):Prop:=
 Ab6 g fun a=>
 cS_ w (a.add 1) fun a b c=>
 Aa1 P N.Hp1 #[.slice a b c] w fun a b=>
 vS_ a fun a c d=>
 Aa1 P N.Hp8 #[.pointer f,.bool false,.slice a c d] b fun a b=>
 ∃ e:(OA),a=(.pointer e) ∧
 K (.pointer e) b
def Cq0 (N:Nums) (P:Program) (g:OA) (w:World) (K:KV):Prop:=
 Ab6 g fun a=>
 cS_ w (a.add 1) fun a b c=>
 Ad7 (σ:=Int×Unit) (fun a=>
 cond (decide ((b:Int)>0))
 (Ab6 g fun b=>
 cS_ w (b.add 1) fun b c d=>
 (0:Int)≤(0:Int)∧(0:Int)<(c:Nat) ∧
 Ab6 b fun b=>
 cW_ w (b.add ((0:Int).toNat*1)) fun b=>
 a ((u64.wrap b),()) w)
 (a (0,()) w))
 (fun a b=>
 Ab6 g fun c=>
 cS_ b (c.add 1) fun c d e=>
 Ad7 (σ:=Int×Unit) (fun c=>
 cond (decide ((d:Int)>1))
 (Ab6 g fun d=>
 cS_ b (d.add 1) fun d e f=>
 (0:Int)≤(1:Int)∧(1:Int)<(e:Nat) ∧
 Ab6 d fun d=>
 cW_ b (d.add ((1:Int).toNat*1)) fun d=>
 (0:Int)≤32 ∧
 c ((u64.wrap (AA u64.bits a.1 ||| AA u64.bits (u64.wrap ((u64.wrap d)*2^(min (32:Int).toNat u64.bits)))).toNat),()) b)
 (c (a.1,()) b))
 (fun a b=>
 K (.int .u64 a.1) b))
def Cq4 (N:Nums) (P:Program) (qd:Bool) (qb:OA) (qe qg:Nat) (qf:Int) (w:World) (K:KV):Prop:=
 Ac8 #[.bool qd,.slice qb qe qg,.int .i64 qf] N.Hs7 w fun a b=>
 Ac8 #[.bool false,.slice none 0 0,.int .i64 0] N.Hs7 b fun b c=>
 c3D c a fun d e f g h=>
 cI_ c (a.add 2) fun i=>
 drM c fun c=>
 Aa1 P N.Hk2 #[.agg #[.bool d,.slice e f g,.int .i64 h]] c fun c d=>
 ∃ j:(OA),c=(.pointer j) ∧
 d.cell? (a.add 2)=some (.int .i64 i) ∧
 drM d fun a=>
 Aa1 P N.Hm1 #[.pointer j,.int .i64 i] a fun a c=>
 ∃ d,∃ e f g,∃ h,∃ i,a=(.tuple #[.agg #[.bool d,.slice e f g,.int .i64 h],.int .i64 i]) ∧
 drM c fun a=>
 s3D b d e f g h a fun a=>
 drM a fun a=>
 c3D a b fun b c d e f=>
 K (.tuple #[.agg #[.bool b,.slice c d e,.int .i64 f],.int .i64 i]) a
def Dh7 (N:Nums) (P:Program) (qd:Bool) (qb:OA) (qe qg:Nat) (qf:Int) (w:World) (K:KV):Prop:=
 Ac8 #[.bool qd,.slice qb qe qg,.int .i64 qf] N.Hs7 w fun a b=>
 Ac8 #[.bool false,.slice none 0 0,.int .i64 0] N.Hs7 b fun b c=>
 cS_ c (a.add 1) fun d e f=>
 Aa1 P N.Hj4 #[.slice d e f] c fun c d=>
 vS_ c fun c e f=>
 cond ((e:Int)==0)
 (s3D b false none 0 0 0 d fun a=>
 c3D a b fun b c d e f=>
 K (.tuple #[.agg #[.bool b,.slice c d e,.int .i64 f],.int .i64 0]) a)
 (Ad7 (σ:=Int×Unit) (fun a=>
 Ac3 (σ:=Int×Unit) (fun b d f=>
 (64:Int)≠0 ∧
 (0:Int)≤(i64.wrap (b.1.tdiv 64))∧(i64.wrap (b.1.tdiv 64))<(e:Nat) ∧
 Ab6 c fun c=>
 ∃ e,f.cell? (c.add ((i64.wrap (b.1.tdiv 64)).toNat*1))=some (.int .u64 e) ∧
 (64:Int)≠0 ∧
 (0:Int)≤(u64.wrap (b.1.tmod 64)) ∧
 (2:Int)≠0 ∧
 cond (((e.fdiv (2^(min (u64.wrap (b.1.tmod 64)).toNat u64.bits))).tmod 2)==0)
 (d ((i64.wrap (b.1+1)),()) f)
 (a (b.1,()) f))
 (0,()) d)
 (fun d g=>
 Aa1 P N.Hi9 #[.slice c e f,.int .i64 d.1] g fun c e=>
 ∃ f g h,∃ i,c=(.tuple #[.slice f g h,.bool i]) ∧
 Ad7 (σ:=Bool×Unit) (fun b=>
 cond (!(decide ((g:Int)>256)))
 (cI_ e (a.add 2) fun c=>
 cond (!(decide (c>65536)))
 (cI_ e (a.add 2) fun c=>
 cond (!(decide (c<(i64.wrap ((-65536)-d.1)))))
 (cI_ e (a.add 2) fun a=>
 b ((decide ((i64.wrap (a+d.1))>65536)),()) e)
 (b (true,()) e))
 (b (true,()) e))
 (b (true,()) e))
 (fun c e=>
 cond c.1
 (s3D b false none 0 0 0 e fun a=>
 c3D a b fun b c d e f=>
 K (.tuple #[.agg #[.bool b,.slice c d e,.int .i64 f],.int .i64 3]) a)
 (cB_ e a fun c=>
 cI_ e (a.add 2) fun a=>
 stM b (.bool c) e fun c=>
 stM (b.add 1) (.slice f g h) c fun c=>
 stM (b.add 2) (.int .i64 (i64.wrap (a+d.1))) c fun a=>
 c3D a b fun b c d e f=>
 K (.tuple #[.agg #[.bool b,.slice c d e,.int .i64 f],.int .i64 0]) a))))
def Cb4 (N:Nums) (P:Program) (f:OA) (qj qq:Nat) (g:OA) (qu vf:Nat) (w:World) (K:KV):Prop:=
 cond ((qj:Int) != (qu:Int))
 (K (.bool false) w)
 (Ad7 (σ:=Unit) (fun a=>
 Ac3 (σ:=Int×Unit) (fun b c d=>
 cond (decide (b.1<(qj:Int)))
 ((0:Int)≤b.1∧b.1<(qj:Nat) ∧
 Ab6 f fun a=>
 cU_ d (a.add (b.1.toNat*1)) fun a=>
 (0:Int)≤b.1∧b.1<(qu:Nat) ∧
 Ab6 g fun e=>
 cU_ d (e.add (b.1.toNat*1)) fun e=>
 drM d fun d=>
 cond (a != e)
 (K (.bool false) d)
 (c ((i64.wrap (b.1+1)),()) d))
 (a (()) d))
 (0,()) w)
 (fun a b=>
 K (.bool true) b))
def Ah7 (N:Nums) (P:Program) (l:OA) (qj qq:Nat) (m:Value) (w:World) (K:KV):Prop:=
 Ad7 (σ:=Unit) (fun a=>
 Ac3 (σ:=Int×Unit) (fun b c d=>
 cond (decide (b.1<(qj:Int)))
 ((0:Int)≤b.1∧b.1<(qj:Nat) ∧
 Ab6 l fun a=>
 cB_ d (a.add (b.1.toNat*3)) fun e=>
 cS_ d ((a.add (b.1.toNat*3)).add 1) fun f g h=>
 cI_ d ((a.add (b.1.toNat*3)).add 2) fun a=>
 fnM m fun i j k=>Aa1 P i (j.toList++(([.agg #[.bool e,.slice f g h,.int .i64 a]]:List Value)++k.toList)).toArray d fun a d=>
 vB_ a fun a=>
 cond a
 (K (.int .i64 b.1) d)
 (c ((i64.wrap (b.1+1)),()) d))
 (a (()) d))
 (0,()) w)
 (fun a b=>
 K (.int .i64 (-1)) b)
def Cy9 (N:Nums) (P:Program) (qd:Bool) (qb:OA) (qe qg:Nat) (qf:Int) (w:World) (K:KV):Prop:=
 Ac8 #[.bool qd,.slice qb qe qg,.int .i64 qf] N.Hs7 w fun a b=>
 c3D b a fun c d e f g=>
 Aa1 P N.Hk6 #[.agg #[.bool c,.slice d e f,.int .i64 g]] b fun b c=>
 vB_ b fun b=>
 cond (!b)
 (K (.tuple #[.int .i64 0,.int .i64 2]) c)
 (cS_ c (a.add 1) fun b d e=>
 cond ((d:Int)==0)
 (K (.tuple #[.int .i64 0,.int .i64 0]) c)
 (cB_ c a fun a=>
 cond a
 (K (.tuple #[.int .i64 (-1),.int .i64 0]) c)
 (K (.tuple #[.int .i64 1,.int .i64 0]) c)))
def Dg1 (N:Nums) (P:Program) (qd:Bool) (qb:OA) (qe qg:Nat) (qf:Int) (w:World) (K:KV):Prop:=
 Ac8 #[.bool qd,.slice qb qe qg,.int .i64 qf] N.Hs7 w fun a b=>
 cS_ b (a.add 1) fun c d e=>
 cI_ b (a.add 2) fun c=>
 cS_ b (a.add 1) fun e f g=>
 (0:Int)≤(i64.wrap ((d:Int)-1))∧(i64.wrap ((d:Int)-1))<(f:Nat) ∧
 Ab6 e fun e=>
 ∃ f,b.cell? (e.add ((i64.wrap ((d:Int)-1)).toNat*1))=some (.int .u64 f) ∧
 drM b fun b=>
 Aa1 P N.Hh0 #[.int .u64 f] b fun b e=>
 ∃ f,b=(.int .i64 f) ∧
 e.cell? (a.add 2)=some (.int .i64 c) ∧
 drM e fun a=>
 K (.int .i64 (i64.wrap ((i64.wrap (c+(i64.wrap (64*(i64.wrap ((d:Int)-1))))))+f))) a
def Ch0 (N:Nums) (P:Program) (qd:Bool) (qb:OA) (qe qg:Nat) (qf:Int) (w:World) (K:KV):Prop:=
 Ac8 #[.bool qd,.slice qb qe qg,.int .i64 qf] N.Hs7 w fun a b=>
 Ac8 #[.bool false,.slice none 0 0] N.Hr0 b fun b c=>
 cS_ c (a.add 1) fun d e f=>
 Ad7 (σ:=Unit) (fun d=>
 Ac3 (σ:=Int×Unit) (fun c f g=>
 cond (decide (c.1<(e:Int)))
 (Aa1 P N.Hq5 #[.pointer (some b),.pointer (some b),.int .u64 64] g fun d e=>
 ∃ l:(OA),d=(.pointer l) ∧
 Ac8 #[.bool false,.slice none 0 0] N.Hr0 e fun d e=>
 cS_ e (a.add 1) fun g h i=>
 cS_ e (a.add 1) fun a i j=>
 (0:Int)≤(i64.wrap ((i64.wrap ((i:Int)-1))-c.1))∧(i64.wrap ((i64.wrap ((i:Int)-1))-c.1))<(h:Nat) ∧
 Ab6 g fun a=>
 ∃ g,e.cell? (a.add ((i64.wrap ((i64.wrap ((i:Int)-1))-c.1)).toNat*1))=some (.int .u64 g) ∧
 Aa1 P N.Hi5 #[.pointer (some d),.int .u64 g] e fun a d=>
 ∃ k:(OA),a=(.pointer k) ∧
 Aa1 P N.Hs6 #[.pointer (some b),.pointer (some b),.pointer k] d fun a b=>
 ∃ m:(OA),a=(.pointer m) ∧
 f ((i64.wrap (c.1+1)),()) b)
 (d (()) g))
 (0,()) c)
 (fun c d=>
 cB_ d a fun a=>
 Ad7 (σ:=Unit) (fun c=>
 cond a
 (Aa1 P N.Hq8 #[.pointer (some b),.pointer (some b)] d fun a b=>
 ∃ n:(OA),a=(.pointer n) ∧
 c (()) b)
 (c (()) d))
 (fun a c=>
 K (.pointer (some b)) c))
def Ek6 (N:Nums) (P:Program) (i:OA) (g:OA) (j:Int) (w:World) (K:KV):Prop:=
 Ab6 g fun a=>
 cB_ w a fun b=>
 Ab6 g fun c=>
 cS_ w (c.add 1) fun c d e=>
 drM w fun f=>
 Aa1 P N.Hp7 #[.slice c d e,.int .u64 j] f fun c d=>
 vS_ c fun c e f=>
 d.cell? a=some (.bool b) ∧
 drM d fun a=>
 Aa1 P N.Hp8 #[.pointer i,.bool b,.slice c e f] a fun a b=>
 ∃ h:(OA),a=(.pointer h) ∧
 drM b fun a=>
 K (.pointer h) a
def En7 (N:Nums) (P:Program) (h:OA) (i:OA) (w:World) (K:KV):Prop:=
 Ab6 h fun a=>
 cB_ w a fun a=>
 Ab6 i fun b=>
 cB_ w b fun b=>
 drM w fun c=>
 cond (!(a==b))
 (Ab6 h fun a=>
 cB_ c a fun a=>
 cond a
 (K (.int .i64 (-1)) c)
 (K (.int .i64 1) c))
 (Ab6 h fun a=>
 cS_ c (a.add 1) fun a b d=>
 Ab6 i fun e=>
 cS_ c (e.add 1) fun e f g=>
 drM c fun c=>
 Aa1 P N.Hr8 #[.slice a b d,.slice e f g] c fun a b=>
 ∃ c,a=(.int .i64 c) ∧
 drM b fun a=>
 Ab6 h fun b=>
 cB_ a b fun b=>
 cond b
 (K (.int .i64 (i64.wrap (0-c))) a)
 (K (.int .i64 c) a))
def By5 (N:Nums) (P:Program) (qd:Bool) (qb:OA) (qe qg:Nat) (qf:Int) (w:World) (K:KV):Prop:=
 Ac8 #[.bool qd,.slice qb qe qg,.int .i64 qf] N.Hp2 w fun a b=>
 cI_ b (a.add 2) fun c=>
 cS_ b (a.add 1) fun d e f=>
 drM b fun b=>
 Aa1 P N.Hj6 #[.slice d e f] b fun b d=>
 ∃ e,b=(.int .i64 e) ∧
 d.cell? (a.add 2)=some (.int .i64 c) ∧
 drM d fun a=>
 K (.int .i64 (i64.wrap (c+e))) a
def Fg6 (N:Nums) (P:Program) (n:OA) (k:OA) (l:OA) (w:World) (K:KV):Prop:=
 Ab6 k fun a=>
 cS_ w (a.add 1) fun a b c=>
 Ab6 l fun a=>
 cS_ w (a.add 1) fun a c d=>
 drM w fun a=>
 Aa1 P N.Hr3 #[.pointer k,.int .i64 (i64.wrap ((if (c:Int)>(b:Int) then (c:Int) else (b:Int))+1))] a fun a d=>
 vS_ a fun a e f=>
 Aa1 P N.Hr3 #[.pointer l,.int .i64 (i64.wrap ((if (c:Int)>(b:Int) then (c:Int) else (b:Int))+1))] d fun d g=>
 vS_ d fun d h i=>
 Ad7 (σ:=Unit) (fun f=>
 Ac3 (σ:=Int×Unit) (fun g i j=>
 cond (decide (g.1<(i64.wrap ((if (c:Int)>(b:Int) then (c:Int) else (b:Int))+1))))
 ((0:Int)≤g.1∧g.1<(e:Nat) ∧
 Ab6 a fun b=>
 cW_ j (b.add (g.1.toNat*1)) fun b=>
 (0:Int)≤g.1∧g.1<(h:Nat) ∧
 Ab6 d fun c=>
 cW_ j (c.add (g.1.toNat*1)) fun c=>
 (0:Int)≤g.1∧g.1<(e:Nat) ∧
 Ab6 a fun a=>
 drM j fun d=>
 stM (a.add (g.1.toNat*1)) (.int .u32 (u32.wrap (AA u32.bits b ||| AA u32.bits c).toNat)) d fun a=>
 drM a fun a=>
 i ((i64.wrap (g.1+1)),()) a)
 (f (()) j))
 (0,()) g)
 (fun b c=>
 Aa1 P N.Hs5 #[.pointer n,.slice a e f] c fun a b=>
 ∃ m:(OA),a=(.pointer m) ∧
 K (.pointer m) b)
def Bs9 (N:Nums) (P:Program) (f:OA) (g:Int) (w:World) (K:KV):Prop:=
 Aa1 P N.Ho6 #[.int .u64 g] w fun a b=>
 vS_ a fun a c d=>
 Aa1 P N.Hp8 #[.pointer f,.bool false,.slice a c d] b fun a b=>
 ∃ e:(OA),a=(.pointer e) ∧
 K (.pointer e) b
def Eb6 (N:Nums) (P:Program) (c:OA) (d:Bool) (e:OA) (vo jn:Nat) (w:World) (K:KV):Prop:=
 Ab6 c fun a=>
 stM (a.add 1) (.slice e vo jn) w fun a=>
 cond d
 (Ab6 c fun b=>
 stM b (.bool (decide ((vo:Int)>0))) a fun a=>
 K (.pointer c) a)
 (Ab6 c fun b=>
 stM b (.bool false) a fun a=>
 K (.pointer c) a)
def Ek0 (N:Nums) (P:Program) (g:Bool) (e:OA) (qu vf:Nat) (h:Bool) (f:OA) (vu yc:Nat) (w:World) (K:KV):Prop:=
 cond (g==h)
 (Aa1 P N.Hq1 #[.slice e qu vf,.slice f vu yc] w fun a b=>
 vS_ a fun a c d=>
 K (.tuple #[.bool g,.slice a c d]) b)
 (Aa1 P N.Hr8 #[.slice e qu vf,.slice f vu yc] w fun a b=>
 ∃ c,a=(.int .i64 c) ∧
 cond (decide (c≥0))
 (Aa1 P N.Hq4 #[.slice e qu vf,.slice f vu yc] b fun a b=>
 vS_ a fun a c d=>
 K (.tuple #[.bool g,.slice a c d]) b)
 (Aa1 P N.Hq4 #[.slice f vu yc,.slice e qu vf] b fun a b=>
 vS_ a fun a c d=>
 K (.tuple #[.bool h,.slice a c d]) b))
def Er0 (N:Nums) (P:Program) (d:OA) (qj qq:Nat) (c:Int) (w:World) (K:KV):Prop:=
 cond (!(decide (c<0)))
 ((32:Int)≠0 ∧
 cond (decide ((i64.wrap (c.tdiv 32))≥(qj:Int)))
 (K (.int .u64 0) w)
 ((32:Int)≠0 ∧
 (0:Int)≤(i64.wrap (c.tdiv 32))∧(i64.wrap (c.tdiv 32))<(qj:Nat) ∧
 Ab6 d fun a=>
 ∃ b,w.cell? (a.add ((i64.wrap (c.tdiv 32)).toNat*1))=some (.int .u32 b) ∧
 (32:Int)≠0 ∧
 (0:Int)≤((u64.wrap c).tmod 32) ∧
 K (.int .u64 (u64.wrap (AA u64.bits (u64.wrap (b.fdiv (2^(min ((u64.wrap c).tmod 32).toNat u32.bits)))) &&& AA u64.bits 1).toNat)) w))
 (K (.int .u64 0) w)
def Co4 (N:Nums) (P:Program) (e:OA) (qj qq:Nat) (w:World) (K:KV):Prop:=
 cond ((qj:Int)==0)
 (K (.int .i64 0) w)
 ((0:Int)≤(i64.wrap ((qj:Int)-1))∧(i64.wrap ((qj:Int)-1))<(qj:Nat) ∧
 Ab6 e fun a=>
 ∃ b,w.cell? (a.add ((i64.wrap ((qj:Int)-1)).toNat*1))=some (.int .u32 b) ∧
 Ad7 (σ:=Int×Unit) (fun a=>
 Ac3 (σ:=Int×Int×Unit) (fun b c d=>
 cond (b.2.1 != 0)
 ((0:Int)≤1 ∧
 c ((i64.wrap (b.1+1)),(b.2.1.fdiv (2^(min (1:Int).toNat u32.bits))),()) d)
 (a (b.1,()) d))
 (0,b,()) w)
 (fun a b=>
 K (.int .i64 (i64.wrap ((i64.wrap ((i64.wrap ((qj:Int)-1))*32))+a.1))) b))
def En9 (N:Nums) (P:Program) (g:OA) (qj qq:Nat) (h:OA) (qu vf:Nat) (w:World) (K:KV):Prop:=
 Ad7 (σ:=(OA×Nat×Nat)×(OA×Nat×Nat)×Unit) (fun a=>
 cond (decide ((qj:Int)<(qu:Int)))
 (a ((h,qu,vf),(g,qj,qq),()) w)
 (a ((g,qj,qq),(h,qu,vf),()) w))
 (fun a b=>
 mkM N.Hq9 1 4 #[.int .u32 0] (i64.wrap (((a.1.2.1:Nat):Int)+1)) (i64.wrap (((a.1.2.1:Nat):Int)+1)) b fun b c=>
 Ad7 (σ:=Int×Unit) (fun d=>
 Ac3 (σ:=Int×Int×Unit) (fun c e f=>
 cond (decide (c.2.1<((a.1.2.1:Nat):Int)))
 ((0:Int)≤c.2.1∧c.2.1<(a.1.2.1:Nat) ∧
 Ab6 a.1.1 fun d=>
 cW_ f (d.add (c.2.1.toNat*1)) fun d=>
 Ad7 (σ:=Int×Unit) (fun b=>
 cond (decide (c.2.1<((a.2.1.2.1:Nat):Int)))
 ((0:Int)≤c.2.1∧c.2.1<(a.2.1.2.1:Nat) ∧
 Ab6 a.2.1.1 fun a=>
 cW_ f (a.add (c.2.1.toNat*1)) fun a=>
 b ((u64.wrap ((u64.wrap (c.1+(u64.wrap d)))+(u64.wrap a))),()) f)
 (b ((u64.wrap (c.1+(u64.wrap d))),()) f))
 (fun d f=>
 (0:Int)≤c.2.1∧c.2.1<((i64.wrap (((a.1.2.1:Nat):Int)+1)).toNat:Nat) ∧
 stM (b.add (c.2.1.toNat*1)) (.int .u32 (u32.wrap d.1)) f fun a=>
 (0:Int)≤32 ∧
 e ((d.1.fdiv (2^(min (32:Int).toNat u64.bits))),(i64.wrap (c.2.1+1)),()) a))
 (d (c.1,()) f))
 (0,0,()) c)
 (fun c d=>
 (0:Int)≤((a.1.2.1:Nat):Int)∧((a.1.2.1:Nat):Int)<((i64.wrap (((a.1.2.1:Nat):Int)+1)).toNat:Nat) ∧
 stM (b.add (((a.1.2.1:Nat):Int).toNat*1)) (.int .u32 (u32.wrap c.1)) d fun c=>
 Aa1 P N.Hp6 #[.slice (some b) ((i64.wrap (((a.1.2.1:Nat):Int)+1)).toNat) ((i64.wrap (((a.1.2.1:Nat):Int)+1)).toNat)] c fun a b=>
 vS_ a fun a c d=>
 K (.slice a c d) b))
def Dd6 (N:Nums) (P:Program) (h:OA) (qj qq:Nat) (g:Int) (w:World) (K:KV):Prop:=
 (32:Int)≠0 ∧
 (32:Int)≠0 ∧
 cond (decide ((i64.wrap (u64.wrap (g.tdiv 32)))≥(qj:Int)))
 (K (.slice none 0 0) w)
 (mkM N.Hq9 1 4 #[.int .u32 0] (i64.wrap ((qj:Int)-(i64.wrap (u64.wrap (g.tdiv 32))))) (i64.wrap ((qj:Int)-(i64.wrap (u64.wrap (g.tdiv 32))))) w fun a b=>
 Ad7 (σ:=Unit) (fun c=>
 Ac3 (σ:=Int×Unit) (fun b d e=>
 cond (decide (b.1<(((i64.wrap ((qj:Int)-(i64.wrap (u64.wrap (g.tdiv 32))))).toNat:Nat):Int)))
 ((0:Int)≤(i64.wrap (b.1+(i64.wrap (u64.wrap (g.tdiv 32)))))∧(i64.wrap (b.1+(i64.wrap (u64.wrap (g.tdiv 32)))))<(qj:Nat) ∧
 Ab6 h fun c=>
 ∃ f,e.cell? (c.add ((i64.wrap (b.1+(i64.wrap (u64.wrap (g.tdiv 32))))).toNat*1))=some (.int .u32 f) ∧
 Ad7 (σ:=Int×Unit) (fun a=>
 cond (decide ((i64.wrap ((i64.wrap (b.1+(i64.wrap (u64.wrap (g.tdiv 32)))))+1))<(qj:Int)))
 ((0:Int)≤(i64.wrap ((i64.wrap (b.1+(i64.wrap (u64.wrap (g.tdiv 32)))))+1))∧(i64.wrap ((i64.wrap (b.1+(i64.wrap (u64.wrap (g.tdiv 32)))))+1))<(qj:Nat) ∧
 Ab6 h fun c=>
 ∃ d,e.cell? (c.add ((i64.wrap ((i64.wrap (b.1+(i64.wrap (u64.wrap (g.tdiv 32)))))+1)).toNat*1))=some (.int .u32 d) ∧
 (0:Int)≤32 ∧
 a ((u64.wrap (AA u64.bits (u64.wrap f) ||| AA u64.bits (u64.wrap ((u64.wrap d)*2^(min (32:Int).toNat u64.bits)))).toNat),()) e)
 (a ((u64.wrap f),()) e))
 (fun c e=>
 (0:Int)≤(g.tmod 32) ∧
 (0:Int)≤b.1∧b.1<((i64.wrap ((qj:Int)-(i64.wrap (u64.wrap (g.tdiv 32))))).toNat:Nat) ∧
 stM (a.add (b.1.toNat*1)) (.int .u32 (u32.wrap (c.1.fdiv (2^(min (g.tmod 32).toNat u64.bits))))) e fun a=>
 d ((i64.wrap (b.1+1)),()) a))
 (c (()) e))
 (0,()) b)
 (fun b c=>
 Aa1 P N.Hp6 #[.slice (some a) ((i64.wrap ((qj:Int)-(i64.wrap (u64.wrap (g.tdiv 32))))).toNat) ((i64.wrap ((qj:Int)-(i64.wrap (u64.wrap (g.tdiv 32))))).toNat)] c fun a b=>
 vS_ a fun a c d=>
 K (.slice a c d) b))
def Eq5 (N:Nums) (P:Program) (f:OA) (qj qq:Nat) (g:OA) (qu vf:Nat) (w:World) (K:KV):Prop:=
 mkM N.Hq9 1 4 #[.int .u32 0] (qj:Int) (qj:Int) w fun a b=>
 Ad7 (σ:=Unit) (fun c=>
 Ac3 (σ:=Int×Int×Unit) (fun b d e=>
 cond (decide (b.2.1<(qj:Int)))
 ((0:Int)≤b.2.1∧b.2.1<(qj:Nat) ∧
 Ab6 f fun c=>
 cW_ e (c.add (b.2.1.toNat*1)) fun c=>
 Ad7 (σ:=Int×Unit) (fun a=>
 cond (decide (b.2.1<(qu:Int)))
 ((0:Int)≤b.2.1∧b.2.1<(qu:Nat) ∧
 Ab6 g fun d=>
 cW_ e (d.add (b.2.1.toNat*1)) fun d=>
 a ((u64.wrap ((u64.wrap ((u64.wrap c)-b.1))-(u64.wrap d))),()) e)
 (a ((u64.wrap ((u64.wrap c)-b.1)),()) e))
 (fun c e=>
 (0:Int)≤b.2.1∧b.2.1<((qj:Int).toNat:Nat) ∧
 stM (a.add (b.2.1.toNat*1)) (.int .u32 (u32.wrap c.1)) e fun a=>
 (0:Int)≤63 ∧
 d ((c.1.fdiv (2^(min (63:Int).toNat u64.bits))),(i64.wrap (b.2.1+1)),()) a))
 (c (()) e))
 (0,0,()) b)
 (fun b c=>
 Aa1 P N.Hp6 #[.slice (some a) ((qj:Int).toNat) ((qj:Int).toNat)] c fun a b=>
 vS_ a fun a c d=>
 K (.slice a c d) b)
def Cb6 (N:Nums) (P:Program) (g:OA) (e:Int) (w:World) (K:KV):Prop:=
 Ad7 (σ:=Int×Unit) (fun a=>
 cond (decide (e<0))
 (a ((u64.wrap (0-(u64.wrap e))),()) w)
 (a ((u64.wrap e),()) w))
 (fun a b=>
 Aa1 P N.Ho6 #[.int .u64 a.1] b fun a b=>
 vS_ a fun a c d=>
 Aa1 P N.Hp8 #[.pointer g,.bool (decide (e<0)),.slice a c d] b fun a b=>
 ∃ f:(OA),a=(.pointer f) ∧
 K (.pointer f) b)
def Az4 (N:Nums) (P:Program) (i:OA) (j:Int) (w:World) (K:KV):Prop:=
 Ad7 (σ:=Int×Int×Unit) (fun a=>
 Ac3 (σ:=Int×Int×Int×Unit) (fun b c d=>
 Ab6 i fun e=>
 cS_ d e fun e f g=>
 cond (decide (b.2.2.1<(f:Int)))
 (Ad7 (σ:=Int×Int×Unit) (fun c=>
 Ac3 (σ:=Int×Int×Int×Unit) (fun d e f=>
 cond (decide (d.2.2.1<b.2.2.1))
 (Ab6 i fun c=>
 cS_ f c fun c g h=>
 (0:Int)≤b.2.2.1∧b.2.2.1<(g:Nat) ∧
 Ab6 c fun c=>
 cS_ f (c.add (b.2.2.1.toNat*1)) fun c g h=>
 (0:Int)≤d.2.2.1∧d.2.2.1<(g:Nat) ∧
 Ab6 c fun c=>
 ∃ k:(OA),f.cell? (c.add (d.2.2.1.toNat*1))=some (.pointer k) ∧
 Aa1 P N.Hp5 #[.pointer k] f fun c f=>
 ∃ g,c=(.int .i64 g) ∧
 cond (g != 0)
 (a (b.2.2.1,d.2.2.1,()) f)
 (e (d.1,d.2.1,(i64.wrap (d.2.2.1+1)),()) f))
 (c (d.1,d.2.1,()) f))
 (b.1,b.2.1,j,()) d)
 (fun a d=>
 c (a.1,a.2.1,(i64.wrap (b.2.2.1+1)),()) d))
 (a (b.1,b.2.1,()) d))
 ((-1),(-1),j,()) w)
 (fun a b=>
 Ad7 (σ:=Unit) (fun a=>
 Ac3 (σ:=Int×Unit) (fun b c d=>
 Ab6 i fun e=>
 cS_ d e fun e f g=>
 cond (decide (b.1<(f:Int)))
 (Ab6 i fun a=>
 cS_ d a fun a e f=>
 (0:Int)≤b.1∧b.1<(e:Nat) ∧
 Ab6 a fun a=>
 cS_ d (a.add (b.1.toNat*1)) fun a e f=>
 (0:Int)≤b.1∧b.1<(e:Nat) ∧
 Ab6 a fun a=>
 ∃ l:(OA),d.cell? (a.add (b.1.toNat*1))=some (.pointer l) ∧
 Aa1 P N.Hp5 #[.pointer l] d fun a d=>
 ∃ e,a=(.int .i64 e) ∧
 cond (e != 0)
 (K (.tuple #[.int .i64 b.1,.int .i64 b.1]) d)
 (c ((i64.wrap (b.1+1)),()) d))
 (a (()) d))
 (j,()) b)
 (fun b c=>
 K (.tuple #[.int .i64 a.1,.int .i64 a.2.1]) c))
def Ep4 (N:Nums) (P:Program) (i:OA) (qj qq:Nat) (j:OA) (qu vf:Nat) (w:World) (K:KV):Prop:=
 Ad7 (σ:=Bool×Unit) (fun a=>
 cond (!((qj:Int)==0))
 (a (((qu:Int)==0),()) w)
 (a (true,()) w))
 (fun a b=>
 cond a.1
 (K (.slice none 0 0) b)
 (mkM N.Hq9 1 4 #[.int .u32 0] (i64.wrap ((qj:Int)+(qu:Int))) (i64.wrap ((qj:Int)+(qu:Int))) b fun a b=>
 Ad7 (σ:=Unit) (fun c=>
 Ac3 (σ:=Int×Unit) (fun b d e=>
 cond (decide (b.1<(qj:Int)))
 (Ad7 (σ:=Int×Unit) (fun c=>
 Ac3 (σ:=Int×Int×Unit) (fun d e f=>
 cond (decide (d.2.1<(qu:Int)))
 ((0:Int)≤b.1∧b.1<(qj:Nat) ∧
 Ab6 i fun c=>
 cW_ f (c.add (b.1.toNat*1)) fun c=>
 (0:Int)≤d.2.1∧d.2.1<(qu:Nat) ∧
 Ab6 j fun g=>
 cW_ f (g.add (d.2.1.toNat*1)) fun g=>
 (0:Int)≤(i64.wrap (b.1+d.2.1))∧(i64.wrap (b.1+d.2.1))<((i64.wrap ((qj:Int)+(qu:Int))).toNat:Nat) ∧
 ∃ h,f.cell? (a.add ((i64.wrap (b.1+d.2.1)).toNat*1))=some (.int .u32 h) ∧
 drM f fun f=>
 (0:Int)≤(i64.wrap (b.1+d.2.1))∧(i64.wrap (b.1+d.2.1))<((i64.wrap ((qj:Int)+(qu:Int))).toNat:Nat) ∧
 stM (a.add ((i64.wrap (b.1+d.2.1)).toNat*1)) (.int .u32 (u32.wrap (u64.wrap (d.1+(u64.wrap ((u64.wrap ((u64.wrap c)*(u64.wrap g)))+(u64.wrap h))))))) f fun a=>
 (0:Int)≤32 ∧
 e (((u64.wrap (d.1+(u64.wrap ((u64.wrap ((u64.wrap c)*(u64.wrap g)))+(u64.wrap h))))).fdiv (2^(min (32:Int).toNat u64.bits))),(i64.wrap (d.2.1+1)),()) a)
 (c (d.1,()) f))
 (0,0,()) e)
 (fun c e=>
 (0:Int)≤(i64.wrap (b.1+(qu:Int)))∧(i64.wrap (b.1+(qu:Int)))<((i64.wrap ((qj:Int)+(qu:Int))).toNat:Nat) ∧
 stM (a.add ((i64.wrap (b.1+(qu:Int))).toNat*1)) (.int .u32 (u32.wrap c.1)) e fun a=>
 d ((i64.wrap (b.1+1)),()) a))
 (c (()) e))
 (0,()) b)
 (fun b c=>
 Aa1 P N.Hp6 #[.slice (some a) ((i64.wrap ((qj:Int)+(qu:Int))).toNat) ((i64.wrap ((qj:Int)+(qu:Int))).toNat)] c fun a b=>
 vS_ a fun a c d=>
 K (.slice a c d) b)))
def Cq3 (N:Nums) (P:Program) (k:OA) (l:OA) (m:OA) (n:OA) (w:World) (K:KV):Prop:=
 Ab6 l fun a=>
 cB_ w a fun a=>
 Ab6 m fun b=>
 cB_ w b fun b=>
 drM w fun c=>
 Ab6 l fun d=>
 cS_ c (d.add 1) fun d e f=>
 Ab6 m fun g=>
 cS_ c (g.add 1) fun g h i=>
 drM c fun c=>
 Aa1 P N.Hp9 #[.slice d e f,.slice g h i] c fun c d=>
 ∃ e f g,∃ h i j,c=(.tuple #[.slice e f g,.slice h i j]) ∧
 drM d fun c=>
 Aa1 P N.Hp8 #[.pointer k,.bool (!(a==b)),.slice e f g] c fun b c=>
 ∃ o:(OA),b=(.pointer o) ∧
 Aa1 P N.Hp8 #[.pointer n,.bool a,.slice h i j] c fun a b=>
 ∃ p:(OA),a=(.pointer p) ∧
 K (.tuple #[.pointer k,.pointer n]) b
def Cu0 (N:Nums) (P:Program) (j:OA) (qj qq:Nat) (i:Int) (w:World) (K:KV):Prop:=
 Aa1 P N.Hk9 #[.slice j qj qq] w fun a b=>
 vS_ a fun a c d=>
 cond ((c:Int)==0)
 (K (.slice none 0 0) b)
 ((32:Int)≠0 ∧
 mkM N.Hr2 1 8 #[.int .u64 0] (i64.wrap (i.tdiv 32)) (i64.wrap (i.tdiv 32)) b fun b d=>
 Ad7 (σ:=Int×Unit) (fun a=>
 Ac3 (σ:=Int×Int×Unit) (fun b c d=>
 (32:Int)≠0 ∧
 cond (decide (b.2.1<(i.tmod 32)))
 (c ((u64.wrap (2*b.1)),(i64.wrap (b.2.1+1)),()) d)
 (a (b.1,()) d))
 (1,0,()) d)
 (fun d e=>
 Ad7 (σ:=(OA×Nat×Nat)×Int×Unit) (fun f=>
 Ac3 (σ:=(OA×Nat×Nat)×Int×Int×Unit) (fun b e g=>
 cond (decide (b.2.2.1<(c:Int)))
 ((0:Int)≤b.2.2.1∧b.2.2.1<(c:Nat) ∧
 Ab6 a fun a=>
 cU_ g (a.add (b.2.2.1.toNat*1)) fun a=>
 (4294967296:Int)≠0 ∧
 Ac8 #[.int .u64 ((u64.wrap ((u64.wrap (a*d.1))+b.2.1)).tmod 4294967296)] N.Hr2 g fun c f=>
 Bn8 N.Hr2 1 8 #[.int .u64 0] b.1.1 b.1.2.1 b.1.2.2 (some c) 1 f fun c f g h=>
 (4294967296:Int)≠0 ∧
 e ((c,f,g),(u64.wrap ((u64.wrap ((u64.wrap (a*d.1))+b.2.1)).tdiv 4294967296)),(i64.wrap (b.2.2.1+1)),()) h)
 (f ((b.1.1,b.1.2.1,b.1.2.2),b.2.1,()) g))
 (((some b),(i64.wrap (i.tdiv 32)).toNat,(i64.wrap (i.tdiv 32)).toNat),0,0,()) e)
 (fun a b=>
 Ac8 #[.int .u64 a.2.1] N.Hr2 b fun b c=>
 Bn8 N.Hr2 1 8 #[.int .u64 0] a.1.1 a.1.2.1 a.1.2.2 (some b) 1 c fun a b c d=>
 Aa1 P N.Hm9 #[.slice a b c] d fun a b=>
 vS_ a fun a c d=>
 K (.slice a c d) b)))
def Ci4 (N:Nums) (P:Program) (l:OA) (qj qq:Nat) (m:OA) (qu vf:Nat) (w:World) (K:KV):Prop:=
 Aa1 P N.Hk9 #[.slice l qj qq] w fun a b=>
 vS_ a fun a c d=>
 Aa1 P N.Hk9 #[.slice m qu vf] b fun b e=>
 vS_ b fun b f g=>
 Ad7 (σ:=(OA×Nat×Nat)×Unit) (fun h=>
 Ac3 (σ:=(OA×Nat×Nat)×Int×Int×Unit) (fun e i j=>
 Ad7 (σ:=Bool×Unit) (fun a=>
 cond (!(decide (e.2.2.1<(c:Int))))
 (cond (!(decide (e.2.2.1<(f:Int))))
 (a ((decide (e.2.1>0)),()) j)
 (a (true,()) j))
 (a (true,()) j))
 (fun j k=>
 cond j.1
 (Aa1 P N.Hn3 #[.slice a c d,.int .i64 e.2.2.1] k fun a c=>
 ∃ d,a=(.int .u64 d) ∧
 Aa1 P N.Hn3 #[.slice b f g,.int .i64 e.2.2.1] c fun a b=>
 ∃ c,a=(.int .u64 c) ∧
 (4294967296:Int)≠0 ∧
 Ac8 #[.int .u64 ((u64.wrap ((u64.wrap (d+c))+e.2.1)).tmod 4294967296)] N.Hr2 b fun a b=>
 Bn8 N.Hr2 1 8 #[.int .u64 0] e.1.1 e.1.2.1 e.1.2.2 (some a) 1 b fun a b f g=>
 (4294967296:Int)≠0 ∧
 i ((a,b,f),(u64.wrap ((u64.wrap ((u64.wrap (d+c))+e.2.1)).tdiv 4294967296)),(i64.wrap (e.2.2.1+1)),()) g)
 (h ((e.1.1,e.1.2.1,e.1.2.2),()) k)))
 ((none,0,0),0,0,()) e)
 (fun a b=>
 Aa1 P N.Hm9 #[.slice a.1.1 a.1.2.1 a.1.2.2] b fun a b=>
 vS_ a fun a c d=>
 K (.slice a c d) b)
def Cg5 (N:Nums) (P:Program) (j:OA) (qj qq:Nat) (k:OA) (qu vf:Nat) (w:World) (K:KV):Prop:=
 Aa1 P N.Hj4 #[.slice j qj qq] w fun a b=>
 vS_ a fun a c d=>
 Aa1 P N.Hj4 #[.slice k qu vf] b fun b d=>
 vS_ b fun b e f=>
 cond ((c:Int) != (e:Int))
 (cond (decide ((c:Int)<(e:Int)))
 (K (.int .i64 (-1)) d)
 (K (.int .i64 1) d))
 (Ad7 (σ:=Unit) (fun f=>
 Ac3 (σ:=Int×Unit) (fun d g h=>
 cond (decide (d.1≥0))
 ((0:Int)≤d.1∧d.1<(c:Nat) ∧
 Ab6 a fun f=>
 cU_ h (f.add (d.1.toNat*1)) fun f=>
 (0:Int)≤d.1∧d.1<(e:Nat) ∧
 Ab6 b fun i=>
 cU_ h (i.add (d.1.toNat*1)) fun i=>
 drM h fun h=>
 cond (decide (f<i))
 (K (.int .i64 (-1)) h)
 ((0:Int)≤d.1∧d.1<(c:Nat) ∧
 Ab6 a fun a=>
 cU_ h (a.add (d.1.toNat*1)) fun a=>
 (0:Int)≤d.1∧d.1<(e:Nat) ∧
 Ab6 b fun b=>
 cU_ h (b.add (d.1.toNat*1)) fun b=>
 drM h fun c=>
 cond (decide (a>b))
 (K (.int .i64 1) c)
 (g ((i64.wrap (d.1-1)),()) c)))
 (f (()) h))
 ((i64.wrap ((c:Int)-1)),()) d)
 (fun a b=>
 K (.int .i64 0) b))
def Ch5 (N:Nums) (P:Program) (j:OA) (qj qq:Nat) (k:OA) (qu vf:Nat) (w:World) (K:KV):Prop:=
 Aa1 P N.Hk9 #[.slice j qj qq] w fun a b=>
 vS_ a fun a c d=>
 Aa1 P N.Hk9 #[.slice k qu vf] b fun b d=>
 vS_ b fun b e f=>
 Ad7 (σ:=(OA×Nat×Nat)×Unit) (fun g=>
 Ac3 (σ:=(OA×Nat×Nat)×Int×Int×Unit) (fun d h i=>
 cond (decide (d.2.2.1<(c:Int)))
 ((0:Int)≤d.2.2.1∧d.2.2.1<(c:Nat) ∧
 Ab6 a fun a=>
 cU_ i (a.add (d.2.2.1.toNat*1)) fun c=>
 drM i fun g=>
 Aa1 P N.Hn3 #[.slice b e f,.int .i64 d.2.2.1] g fun b e=>
 ∃ f,b=(.int .u64 f) ∧
 e.cell? (a.add (d.2.2.1.toNat*1))=some (.int .u64 c) ∧
 drM e fun a=>
 (4294967296:Int)≠0 ∧
 Ac8 #[.int .u64 ((u64.wrap ((u64.wrap ((u64.wrap (4294967296+c))-f))-d.2.1)).tmod 4294967296)] N.Hr2 a fun a b=>
 Bn8 N.Hr2 1 8 #[.int .u64 0] d.1.1 d.1.2.1 d.1.2.2 (some a) 1 b fun a b e g=>
 (4294967296:Int)≠0 ∧
 h ((a,b,e),(u64.wrap (1-(u64.wrap ((u64.wrap ((u64.wrap ((u64.wrap (4294967296+c))-f))-d.2.1)).tdiv 4294967296)))),(i64.wrap (d.2.2.1+1)),()) g)
 (g ((d.1.1,d.1.2.1,d.1.2.2),()) i))
 ((none,0,0),0,0,()) d)
 (fun a b=>
 Aa1 P N.Hm9 #[.slice a.1.1 a.1.2.1 a.1.2.2] b fun a b=>
 vS_ a fun a c d=>
 K (.slice a c d) b)
def Cj4 (N:Nums) (P:Program) (h:OA) (qj qq:Nat) (i:OA) (qu vf:Nat) (w:World) (K:KV):Prop:=
 Aa1 P N.Hk9 #[.slice h qj qq] w fun a b=>
 vS_ a fun a c d=>
 Aa1 P N.Hk9 #[.slice i qu vf] b fun b e=>
 vS_ b fun b f g=>
 Aa1 P N.Hj0 #[.slice a c d,.slice b f g] e fun a b=>
 vS_ a fun a c d=>
 Aa1 P N.Hm9 #[.slice a c d] b fun a b=>
 vS_ a fun a c d=>
 K (.slice a c d) b
def Dr9 (N:Nums) (P:Program) (e:OA) (qj qq:Nat) (w:World) (K:KV):Prop:=
 Bn8 N.Hq9 1 4 #[.int .u32 0] none 0 0 e qj w fun a b c d=>
 K (.slice a b c) d
def Cq5 (N:Nums) (P:Program) (h:OA) (i:Int) (w:World) (K:KV):Prop:=
 Ac8 #[.bool false,.slice none 0 0,.int .i64 0] N.Hs7 w fun a b=>
 Aa1 P N.Hp5 #[.pointer h] b fun b c=>
 ∃ d,b=(.int .i64 d) ∧
 cond (d==0)
 (s3D a false none 0 0 0 c fun b=>
 c3D b a fun a c d e f=>
 K (.tuple #[.agg #[.bool a,.slice c d e,.int .i64 f],.int .i64 0]) b)
 (Aa1 P N.Hg4 #[.pointer h] c fun b c=>
 ∃ d,b=(.int .u64 d) ∧
 cond (decide (i>65536))
 (s3D a false none 0 0 0 c fun b=>
 c3D b a fun a c d e f=>
 K (.tuple #[.agg #[.bool a,.slice c d e,.int .i64 f],.int .i64 3]) b)
 (cond (decide (i<(i64.wrap ((-65536)-(i64.wrap d)))))
 (s3D a false none 0 0 0 c fun b=>
 c3D b a fun a c d e f=>
 K (.tuple #[.agg #[.bool a,.slice c d e,.int .i64 f],.int .i64 3]) b)
 (cond (decide ((i64.wrap (i+(i64.wrap d)))>65536))
 (s3D a false none 0 0 0 c fun b=>
 c3D b a fun a c d e f=>
 K (.tuple #[.agg #[.bool a,.slice c d e,.int .i64 f],.int .i64 3]) b)
 (Aa1 P N.Hm4 #[.pointer h] c fun b c=>
 ∃ e,b=(.int .i64 e) ∧
 cond (decide ((i64.wrap (e-(i64.wrap d)))>16384))
 (s3D a false none 0 0 0 c fun b=>
 c3D b a fun a c d e f=>
 K (.tuple #[.agg #[.bool a,.slice c d e,.int .i64 f],.int .i64 3]) b)
 (Aa1 P N.Hp5 #[.pointer h] c fun b c=>
 ∃ e,b=(.int .i64 e) ∧
 Ac8 #[.bool false,.slice none 0 0] N.Hr0 c fun b c=>
 Ac8 #[.bool false,.slice none 0 0] N.Hr0 c fun c f=>
 Aa1 P N.Hq3 #[.pointer (some c),.pointer h] f fun c f=>
 ∃ j:(OA),c=(.pointer j) ∧
 Aa1 P N.Hr1 #[.pointer (some b),.pointer j,.int .u64 (u64.wrap (i64.wrap d))] f fun b c=>
 ∃ k:(OA),b=(.pointer k) ∧
 Aa1 P N.Hl0 #[.pointer k] c fun b c=>
 vS_ b fun b f g=>
 stM a (.bool (decide (e<0))) c fun c=>
 stM (a.add 1) (.slice b f g) c fun b=>
 stM (a.add 2) (.int .i64 (i64.wrap (i+(i64.wrap d)))) b fun b=>
 c3D b a fun a c d e f=>
 K (.tuple #[.agg #[.bool a,.slice c d e,.int .i64 f],.int .i64 0]) b)))))
def Bz0 (N:Nums) (P:Program) (i:OA) (qj qq:Nat) (h:Int) (w:World) (K:KV):Prop:=
 Aa1 P N.Hk9 #[.slice i qj qq] w fun a b=>
 vS_ a fun a c d=>
 Ad7 (σ:=Bool×Unit) (fun d=>
 Ac3 (σ:=Bool×Int×Unit) (fun b e f=>
 (32:Int)≠0 ∧
 cond (decide (b.2.1<(i64.wrap (h.tdiv 32))))
 (cond (decide (b.2.1<(c:Int)))
 (cond (!b.1)
 ((0:Int)≤b.2.1∧b.2.1<(c:Nat) ∧
 Ab6 a fun a=>
 cU_ f (a.add (b.2.1.toNat*1)) fun a=>
 e ((a != 0),(i64.wrap (b.2.1+1)),()) f)
 (e (true,(i64.wrap (b.2.1+1)),()) f))
 (d (b.1,()) f))
 (d (b.1,()) f))
 (false,0,()) b)
 (fun b e=>
 (32:Int)≠0 ∧
 cond (decide ((i64.wrap (h.tdiv 32))≥(c:Int)))
 (K (.tuple #[.slice none 0 0,.bool b.1]) e)
 (Ad7 (σ:=Int×Unit) (fun a=>
 Ac3 (σ:=Int×Int×Unit) (fun b c d=>
 (32:Int)≠0 ∧
 cond (decide (b.2.1<(h.tmod 32)))
 (c ((u64.wrap (2*b.1)),(i64.wrap (b.2.1+1)),()) d)
 (a (b.1,()) d))
 (1,0,()) e)
 (fun e f=>
 (32:Int)≠0 ∧
 (0:Int)≤(i64.wrap (h.tdiv 32))∧(i64.wrap (h.tdiv 32))≤(c:Nat) ∧
 Aa1 P N.Hm7 #[.slice (Ak1 a ((i64.wrap (h.tdiv 32)).toNat) d 1) (c-(i64.wrap (h.tdiv 32)).toNat) (d-(i64.wrap (h.tdiv 32)).toNat),.int .u64 e.1] f fun a c=>
 ∃ d e f,∃ g,a=(.tuple #[.slice d e f,.int .u64 g]) ∧
 Aa1 P N.Hm9 #[.slice d e f] c fun a c=>
 vS_ a fun a d e=>
 cond (!b.1)
 (K (.tuple #[.slice a d e,.bool (g != 0)]) c)
 (K (.tuple #[.slice a d e,.bool true]) c))))
def Dq5 (N:Nums) (P:Program) (h:OA) (qj qq:Nat) (g:Int) (w:World) (K:KV):Prop:=
 cond ((qj:Int)==0)
 (K (.slice none 0 0) w)
 ((32:Int)≠0 ∧
 (32:Int)≠0 ∧
 mkM N.Hq9 1 4 #[.int .u32 0] (i64.wrap ((i64.wrap ((qj:Int)+(i64.wrap (u64.wrap (g.tdiv 32)))))+1)) (i64.wrap ((i64.wrap ((qj:Int)+(i64.wrap (u64.wrap (g.tdiv 32)))))+1)) w fun a b=>
 Ad7 (σ:=Unit) (fun c=>
 Ac3 (σ:=Int×Unit) (fun b d e=>
 cond (decide (b.1<(qj:Int)))
 ((0:Int)≤b.1∧b.1<(qj:Nat) ∧
 Ab6 h fun c=>
 cW_ e (c.add (b.1.toNat*1)) fun c=>
 (0:Int)≤(g.tmod 32) ∧
 (0:Int)≤(i64.wrap (b.1+(i64.wrap (u64.wrap (g.tdiv 32)))))∧(i64.wrap (b.1+(i64.wrap (u64.wrap (g.tdiv 32)))))<((i64.wrap ((i64.wrap ((qj:Int)+(i64.wrap (u64.wrap (g.tdiv 32)))))+1)).toNat:Nat) ∧
 ∃ f,e.cell? (a.add ((i64.wrap (b.1+(i64.wrap (u64.wrap (g.tdiv 32))))).toNat*1))=some (.int .u32 f) ∧
 (0:Int)≤(i64.wrap (b.1+(i64.wrap (u64.wrap (g.tdiv 32)))))∧(i64.wrap (b.1+(i64.wrap (u64.wrap (g.tdiv 32)))))<((i64.wrap ((i64.wrap ((qj:Int)+(i64.wrap (u64.wrap (g.tdiv 32)))))+1)).toNat:Nat) ∧
 stM (a.add ((i64.wrap (b.1+(i64.wrap (u64.wrap (g.tdiv 32))))).toNat*1)) (.int .u32 (u32.wrap (AA u32.bits f ||| AA u32.bits (u32.wrap (u64.wrap ((u64.wrap c)*2^(min (g.tmod 32).toNat u64.bits))))).toNat)) e fun e=>
 (0:Int)≤(i64.wrap ((i64.wrap (b.1+(i64.wrap (u64.wrap (g.tdiv 32)))))+1))∧(i64.wrap ((i64.wrap (b.1+(i64.wrap (u64.wrap (g.tdiv 32)))))+1))<((i64.wrap ((i64.wrap ((qj:Int)+(i64.wrap (u64.wrap (g.tdiv 32)))))+1)).toNat:Nat) ∧
 ∃ f,e.cell? (a.add ((i64.wrap ((i64.wrap (b.1+(i64.wrap (u64.wrap (g.tdiv 32)))))+1)).toNat*1))=some (.int .u32 f) ∧
 (0:Int)≤32 ∧
 (0:Int)≤(i64.wrap ((i64.wrap (b.1+(i64.wrap (u64.wrap (g.tdiv 32)))))+1))∧(i64.wrap ((i64.wrap (b.1+(i64.wrap (u64.wrap (g.tdiv 32)))))+1))<((i64.wrap ((i64.wrap ((qj:Int)+(i64.wrap (u64.wrap (g.tdiv 32)))))+1)).toNat:Nat) ∧
 stM (a.add ((i64.wrap ((i64.wrap (b.1+(i64.wrap (u64.wrap (g.tdiv 32)))))+1)).toNat*1)) (.int .u32 (u32.wrap (AA u32.bits f ||| AA u32.bits (u32.wrap ((u64.wrap ((u64.wrap c)*2^(min (g.tmod 32).toNat u64.bits))).fdiv (2^(min (32:Int).toNat u64.bits))))).toNat)) e fun a=>
 d ((i64.wrap (b.1+1)),()) a)
 (c (()) e))
 (0,()) b)
 (fun b c=>
 Aa1 P N.Hp6 #[.slice (some a) ((i64.wrap ((i64.wrap ((qj:Int)+(i64.wrap (u64.wrap (g.tdiv 32)))))+1)).toNat) ((i64.wrap ((i64.wrap ((qj:Int)+(i64.wrap (u64.wrap (g.tdiv 32)))))+1)).toNat)] c fun a b=>
 vS_ a fun a c d=>
 K (.slice a c d) b))
def Eo7 (N:Nums) (P:Program) (f:OA) (qj qq:Nat) (g:OA) (qu vf:Nat) (w:World) (K:KV):Prop:=
 cond ((qj:Int) != (qu:Int))
 (cond (decide ((qj:Int)<(qu:Int)))
 (K (.int .i64 (-1)) w)
 (K (.int .i64 1) w))
 (Ad7 (σ:=Unit) (fun a=>
 Ac3 (σ:=Int×Unit) (fun b c d=>
 cond (decide (b.1≥0))
 ((0:Int)≤b.1∧b.1<(qj:Nat) ∧
 Ab6 f fun a=>
 cW_ d (a.add (b.1.toNat*1)) fun a=>
 (0:Int)≤b.1∧b.1<(qu:Nat) ∧
 Ab6 g fun e=>
 cW_ d (e.add (b.1.toNat*1)) fun e=>
 drM d fun d=>
 cond (a != e)
 ((0:Int)≤b.1∧b.1<(qj:Nat) ∧
 Ab6 f fun a=>
 cW_ d (a.add (b.1.toNat*1)) fun a=>
 (0:Int)≤b.1∧b.1<(qu:Nat) ∧
 Ab6 g fun c=>
 cW_ d (c.add (b.1.toNat*1)) fun b=>
 drM d fun c=>
 cond (decide (a<b))
 (K (.int .i64 (-1)) c)
 (K (.int .i64 1) c))
 (c ((i64.wrap (b.1-1)),()) d))
 (a (()) d))
 ((i64.wrap ((qj:Int)-1)),()) w)
 (fun a b=>
 K (.int .i64 0) b))
def Eq8 (N:Nums) (P:Program) (g:OA) (f:Int) (w:World) (K:KV):Prop:=
 mkM N.Hq9 1 4 #[.int .u32 0] f f w fun a b=>
 Ab6 g fun c=>
 cS_ b (c.add 1) fun c d e=>
 Gt9 1 (some a) f.toNat c d b fun b=>
 Ab6 g fun c=>
 cB_ b c fun c=>
 Ad7 (σ:=Unit) (fun d=>
 cond c
 (Ad7 (σ:=Unit) (fun c=>
 Ac3 (σ:=Int×Int×Unit) (fun b d e=>
 cond (decide (b.2.1<f))
 ((0:Int)≤b.2.1∧b.2.1<(f.toNat:Nat) ∧
 cW_ e (a.add (b.2.1.toNat*1)) fun c=>
 (0:Int)≤b.2.1∧b.2.1<(f.toNat:Nat) ∧
 stM (a.add (b.2.1.toNat*1)) (.int .u32 (u32.wrap (u64.wrap (b.1+(u64.wrap (u32.wrap (AA u32.bits (u32.max) ^^^ AA u32.bits c).toNat)))))) e fun a=>
 (0:Int)≤32 ∧
 d (((u64.wrap (b.1+(u64.wrap (u32.wrap (AA u32.bits (u32.max) ^^^ AA u32.bits c).toNat)))).fdiv (2^(min (32:Int).toNat u64.bits))),(i64.wrap (b.2.1+1)),()) a)
 (c (()) e))
 (1,0,()) b)
 (fun a b=>
 d (()) b))
 (d (()) b))
 (fun b c=>
 K (.slice (some a) f.toNat f.toNat) c)
def Fl7 (N:Nums) (P:Program) (g:OA) (f:OA) (qu vf:Nat) (w:World) (K:KV):Prop:=
 Ad7 (σ:=Bool×Unit) (fun a=>
 cond (decide ((qu:Int)>0))
 ((0:Int)≤(i64.wrap ((qu:Int)-1))∧(i64.wrap ((qu:Int)-1))<(qu:Nat) ∧
 Ab6 f fun b=>
 ∃ c,w.cell? (b.add ((i64.wrap ((qu:Int)-1)).toNat*1))=some (.int .u32 c) ∧
 (0:Int)≤31 ∧
 a (((c.fdiv (2^(min (31:Int).toNat u32.bits)))==1),()) w)
 (a (false,()) w))
 (fun a b=>
 cond a.1
 (Ad7 (σ:=Unit) (fun a=>
 Ac3 (σ:=Int×Int×Unit) (fun b c d=>
 cond (decide (b.2.1<(qu:Int)))
 ((0:Int)≤b.2.1∧b.2.1<(qu:Nat) ∧
 Ab6 f fun a=>
 cW_ d (a.add (b.2.1.toNat*1)) fun a=>
 (0:Int)≤b.2.1∧b.2.1<(qu:Nat) ∧
 Ab6 f fun e=>
 stM (e.add (b.2.1.toNat*1)) (.int .u32 (u32.wrap (u64.wrap (b.1+(u64.wrap (u32.wrap (AA u32.bits (u32.max) ^^^ AA u32.bits a).toNat)))))) d fun d=>
 (0:Int)≤32 ∧
 c (((u64.wrap (b.1+(u64.wrap (u32.wrap (AA u32.bits (u32.max) ^^^ AA u32.bits a).toNat)))).fdiv (2^(min (32:Int).toNat u64.bits))),(i64.wrap (b.2.1+1)),()) d)
 (a (()) d))
 (1,0,()) b)
 (fun a b=>
 Aa1 P N.Hp6 #[.slice f qu vf] b fun a b=>
 vS_ a fun a c d=>
 Aa1 P N.Hp8 #[.pointer g,.bool true,.slice a c d] b fun a b=>
 ∃ h:(OA),a=(.pointer h) ∧
 K (.pointer h) b))
 (Aa1 P N.Hp6 #[.slice f qu vf] b fun a b=>
 vS_ a fun a c d=>
 Aa1 P N.Hp8 #[.pointer g,.bool false,.slice a c d] b fun a b=>
 ∃ i:(OA),a=(.pointer i) ∧
 K (.pointer i) b))
def Dg8 (N:Nums) (P:Program) (e:Int) (w:World) (K:KV):Prop:=
 (0:Int)≤32 ∧
 Ac8 #[.int .u32 (u32.wrap e),.int .u32 (u32.wrap (e.fdiv (2^(min (32:Int).toNat u64.bits))))] N.Hq9 w fun a b=>
 Aa1 P N.Hp6 #[.slice (some a) 2 2] b fun a b=>
 vS_ a fun a c d=>
 K (.slice a c d) b
def Dr7 (N:Nums) (P:Program) (g:OA) (qj qq:Nat) (w:World) (K:KV):Prop:=
 Ad7 (σ:=Int×Unit) (fun a=>
 Ac3 (σ:=Int×Unit) (fun b c d=>
 cond (decide (b.1>0))
 ((0:Int)≤(i64.wrap (b.1-1))∧(i64.wrap (b.1-1))<(qj:Nat) ∧
 Ab6 g fun e=>
 ∃ f,d.cell? (e.add ((i64.wrap (b.1-1)).toNat*1))=some (.int .u32 f) ∧
 cond (f==0)
 (c ((i64.wrap (b.1-1)),()) d)
 (a (b.1,()) d))
 (a (b.1,()) d))
 ((qj:Int),()) w)
 (fun a b=>
 (0:Int)≤a.1∧a.1≤(qq:Nat) ∧
 K (.slice (Ak1 g 0 qq 1) a.1.toNat qq) b)
def Eo0 (N:Nums) (P:Program) (l:OA) (qj qq:Nat) (m:OA) (qu vf:Nat) (w:World) (K:KV):Prop:=
 cond ((qu:Int)==0)
 (K (.tuple #[.slice none 0 0,.slice none 0 0]) w)
 (Aa1 P N.Hr8 #[.slice l qj qq,.slice m qu vf] w fun a b=>
 ∃ c,a=(.int .i64 c) ∧
 cond (decide (c<0))
 (Aa1 P N.Hp1 #[.slice l qj qq] b fun a b=>
 vS_ a fun a c d=>
 K (.tuple #[.slice none 0 0,.slice a c d]) b)
 (cond (decide ((qj:Int)≤2))
 (Aa1 P N.Hn8 #[.slice l qj qq] b fun a b=>
 ∃ c,a=(.int .u64 c) ∧
 Aa1 P N.Hn8 #[.slice m qu vf] b fun a b=>
 ∃ d,a=(.int .u64 d) ∧
 (d:Int)≠0 ∧
 (d:Int)≠0 ∧
 drM b fun a=>
 Aa1 P N.Ho6 #[.int .u64 (u64.wrap (c.tdiv d))] a fun a b=>
 vS_ a fun a e f=>
 drM b fun b=>
 Aa1 P N.Ho6 #[.int .u64 (c.tmod d)] b fun b c=>
 vS_ b fun b d g=>
 drM c fun c=>
 K (.tuple #[.slice a e f,.slice b d g]) c)
 (cond ((qu:Int)==1)
 ((0:Int)≤(0:Int)∧(0:Int)<(qu:Nat) ∧
 Ab6 m fun a=>
 cW_ b (a.add ((0:Int).toNat*1)) fun a=>
 Aa1 P N.Ho0 #[.slice l qj qq,.int .u32 a] b fun a b=>
 ∃ c d e,∃ f,a=(.tuple #[.slice c d e,.int .u32 f]) ∧
 Ac8 #[.int .u32 f] N.Hq9 b fun a b=>
 Aa1 P N.Hp6 #[.slice (some a) 1 1] b fun a b=>
 vS_ a fun a f g=>
 K (.tuple #[.slice c d e,.slice a f g]) b)
 (Aa1 P N.Hl9 #[.slice m qu vf] b fun a b=>
 ∃ c,a=(.int .i64 c) ∧
 (32:Int)≠0 ∧
 Aa1 P N.Hp7 #[.slice m qu vf,.int .u64 (u64.wrap (i64.wrap ((i64.wrap (32-((i64.wrap (c-1)).tmod 32)))-1)))] b fun a b=>
 vS_ a fun a d e=>
 mkM N.Hq9 1 4 #[.int .u32 0] (i64.wrap ((qj:Int)+2)) (i64.wrap ((qj:Int)+2)) b fun b e=>
 Aa1 P N.Hp7 #[.slice l qj qq,.int .u64 (u64.wrap (i64.wrap ((i64.wrap (32-((i64.wrap (c-1)).tmod 32)))-1)))] e fun e f=>
 vS_ e fun e g h=>
 Gt9 1 (some b) ((i64.wrap ((qj:Int)+2)).toNat) e g f fun e=>
 mkM N.Hq9 1 4 #[.int .u32 0] (i64.wrap ((i64.wrap ((i64.wrap ((((i64.wrap ((qj:Int)+2)).toNat:Nat):Int)-(d:Int)))-1))+1)) (i64.wrap ((i64.wrap ((i64.wrap ((((i64.wrap ((qj:Int)+2)).toNat:Nat):Int)-(d:Int)))-1))+1)) e fun e f=>
 (0:Int)≤(i64.wrap ((d:Int)-1))∧(i64.wrap ((d:Int)-1))<(d:Nat) ∧
 Ab6 a fun g=>
 ∃ h,f.cell? (g.add ((i64.wrap ((d:Int)-1)).toNat*1))=some (.int .u32 h) ∧
 (0:Int)≤(i64.wrap ((d:Int)-2))∧(i64.wrap ((d:Int)-2))<(d:Nat) ∧
 Ab6 a fun g=>
 ∃ i,f.cell? (g.add ((i64.wrap ((d:Int)-2)).toNat*1))=some (.int .u32 i) ∧
 drM f fun f=>
 Ad7 (σ:=Unit) (fun c=>
 Ac3 (σ:=Int×Unit) (fun f g j=>
 cond (decide (f.1≥0))
 ((0:Int)≤(i64.wrap (f.1+(d:Int)))∧(i64.wrap (f.1+(d:Int)))<((i64.wrap ((qj:Int)+2)).toNat:Nat) ∧
 ∃ c,j.cell? (b.add ((i64.wrap (f.1+(d:Int))).toNat*1))=some (.int .u32 c) ∧
 (0:Int)≤32 ∧
 (0:Int)≤(i64.wrap ((i64.wrap (f.1+(d:Int)))-1))∧(i64.wrap ((i64.wrap (f.1+(d:Int)))-1))<((i64.wrap ((qj:Int)+2)).toNat:Nat) ∧
 ∃ k,j.cell? (b.add ((i64.wrap ((i64.wrap (f.1+(d:Int)))-1)).toNat*1))=some (.int .u32 k) ∧
 drM j fun j=>
 ((u64.wrap h):Int)≠0 ∧
 ((u64.wrap h):Int)≠0 ∧
 drM j fun j=>
 Ad7 (σ:=Int×Unit) (fun a=>
 Ac3 (σ:=Int×Int×Unit) (fun c e g=>
 cond (!(decide (c.1>4294967295)))
 ((0:Int)≤32 ∧
 (0:Int)≤(i64.wrap ((i64.wrap (f.1+(d:Int)))-2))∧(i64.wrap ((i64.wrap (f.1+(d:Int)))-2))<((i64.wrap ((qj:Int)+2)).toNat:Nat) ∧
 ∃ j,g.cell? (b.add ((i64.wrap ((i64.wrap (f.1+(d:Int)))-2)).toNat*1))=some (.int .u32 j) ∧
 cond (decide ((u64.wrap (c.1*(u64.wrap i)))>(u64.wrap (AA u64.bits (u64.wrap (c.2.1*2^(min (32:Int).toNat u64.bits))) ||| AA u64.bits (u64.wrap j)).toNat)))
 (cond (decide ((u64.wrap (c.2.1+(u64.wrap h)))>4294967295))
 (a ((u64.wrap (c.1-1)),()) g)
 (e ((u64.wrap (c.1-1)),(u64.wrap (c.2.1+(u64.wrap h))),()) g))
 (a (c.1,()) g))
 (cond (decide ((u64.wrap (c.2.1+(u64.wrap h)))>4294967295))
 (a ((u64.wrap (c.1-1)),()) g)
 (e ((u64.wrap (c.1-1)),(u64.wrap (c.2.1+(u64.wrap h))),()) g)))
 ((u64.wrap ((u64.wrap (AA u64.bits (u64.wrap ((u64.wrap c)*2^(min (32:Int).toNat u64.bits))) ||| AA u64.bits (u64.wrap k)).toNat).tdiv (u64.wrap h))),((u64.wrap (AA u64.bits (u64.wrap ((u64.wrap c)*2^(min (32:Int).toNat u64.bits))) ||| AA u64.bits (u64.wrap k)).toNat).tmod (u64.wrap h)),()) j)
 (fun c h=>
 Ad7 (σ:=Int×Int×Unit) (fun e=>
 Ac3 (σ:=Int×Int×Int×Unit) (fun g h i=>
 cond (decide (g.2.2.1<(d:Int)))
 ((0:Int)≤g.2.2.1∧g.2.2.1<(d:Nat) ∧
 Ab6 a fun a=>
 cW_ i (a.add (g.2.2.1.toNat*1)) fun a=>
 (0:Int)≤(i64.wrap (g.2.2.1+f.1))∧(i64.wrap (g.2.2.1+f.1))<((i64.wrap ((qj:Int)+2)).toNat:Nat) ∧
 ∃ d,i.cell? (b.add ((i64.wrap (g.2.2.1+f.1)).toNat*1))=some (.int .u32 d) ∧
 (0:Int)≤(i64.wrap (g.2.2.1+f.1))∧(i64.wrap (g.2.2.1+f.1))<((i64.wrap ((qj:Int)+2)).toNat:Nat) ∧
 stM (b.add ((i64.wrap (g.2.2.1+f.1)).toNat*1)) (.int .u32 (u32.wrap (u64.wrap ((u64.wrap ((u64.wrap d)-(u64.wrap (u32.wrap (u64.wrap (g.1+(u64.wrap (c.1*(u64.wrap a)))))))))-g.2.1)))) i fun b=>
 (0:Int)≤63 ∧
 (0:Int)≤32 ∧
 h (((u64.wrap (g.1+(u64.wrap (c.1*(u64.wrap a))))).fdiv (2^(min (32:Int).toNat u64.bits))),((u64.wrap ((u64.wrap ((u64.wrap d)-(u64.wrap (u32.wrap (u64.wrap (g.1+(u64.wrap (c.1*(u64.wrap a)))))))))-g.2.1)).fdiv (2^(min (63:Int).toNat u64.bits))),(i64.wrap (g.2.2.1+1)),()) b)
 (e (g.1,g.2.1,()) i))
 (0,0,0,()) h)
 (fun h i=>
 (0:Int)≤(i64.wrap (f.1+(d:Int)))∧(i64.wrap (f.1+(d:Int)))<((i64.wrap ((qj:Int)+2)).toNat:Nat) ∧
 ∃ j,i.cell? (b.add ((i64.wrap (f.1+(d:Int))).toNat*1))=some (.int .u32 j) ∧
 (0:Int)≤(i64.wrap (f.1+(d:Int)))∧(i64.wrap (f.1+(d:Int)))<((i64.wrap ((qj:Int)+2)).toNat:Nat) ∧
 stM (b.add ((i64.wrap (f.1+(d:Int))).toNat*1)) (.int .u32 (u32.wrap (u64.wrap ((u64.wrap ((u64.wrap j)-h.1))-h.2.1)))) i fun i=>
 (0:Int)≤63 ∧
 Ad7 (σ:=Int×Unit) (fun e=>
 cond (((u64.wrap ((u64.wrap ((u64.wrap j)-h.1))-h.2.1)).fdiv (2^(min (63:Int).toNat u64.bits))) != 0)
 (Ad7 (σ:=Int×Unit) (fun c=>
 Ac3 (σ:=Int×Int×Unit) (fun e g h=>
 cond (decide (e.2.1<(d:Int)))
 ((0:Int)≤(i64.wrap (e.2.1+f.1))∧(i64.wrap (e.2.1+f.1))<((i64.wrap ((qj:Int)+2)).toNat:Nat) ∧
 ∃ c,h.cell? (b.add ((i64.wrap (e.2.1+f.1)).toNat*1))=some (.int .u32 c) ∧
 (0:Int)≤e.2.1∧e.2.1<(d:Nat) ∧
 Ab6 a fun a=>
 cW_ h (a.add (e.2.1.toNat*1)) fun a=>
 drM h fun d=>
 (0:Int)≤(i64.wrap (e.2.1+f.1))∧(i64.wrap (e.2.1+f.1))<((i64.wrap ((qj:Int)+2)).toNat:Nat) ∧
 stM (b.add ((i64.wrap (e.2.1+f.1)).toNat*1)) (.int .u32 (u32.wrap (u64.wrap (e.1+(u64.wrap ((u64.wrap c)+(u64.wrap a))))))) d fun b=>
 (0:Int)≤32 ∧
 g (((u64.wrap (e.1+(u64.wrap ((u64.wrap c)+(u64.wrap a))))).fdiv (2^(min (32:Int).toNat u64.bits))),(i64.wrap (e.2.1+1)),()) b)
 (c (e.1,()) h))
 (0,0,()) i)
 (fun a g=>
 (0:Int)≤(i64.wrap (f.1+(d:Int)))∧(i64.wrap (f.1+(d:Int)))<((i64.wrap ((qj:Int)+2)).toNat:Nat) ∧
 ∃ h,g.cell? (b.add ((i64.wrap (f.1+(d:Int))).toNat*1))=some (.int .u32 h) ∧
 (0:Int)≤(i64.wrap (f.1+(d:Int)))∧(i64.wrap (f.1+(d:Int)))<((i64.wrap ((qj:Int)+2)).toNat:Nat) ∧
 stM (b.add ((i64.wrap (f.1+(d:Int))).toNat*1)) (.int .u32 (u32.wrap (h+(u32.wrap a.1)))) g fun a=>
 e ((u64.wrap (c.1-1)),()) a))
 (e (c.1,()) i))
 (fun a b=>
 (0:Int)≤f.1∧f.1<((i64.wrap ((i64.wrap ((i64.wrap ((((i64.wrap ((qj:Int)+2)).toNat:Nat):Int)-(d:Int)))-1))+1)).toNat:Nat) ∧
 stM (e.add (f.1.toNat*1)) (.int .u32 (u32.wrap a.1)) b fun a=>
 g ((i64.wrap (f.1-1)),()) a))))
 (c (()) j))
 ((i64.wrap ((i64.wrap ((((i64.wrap ((qj:Int)+2)).toNat:Nat):Int)-(d:Int)))-1)),()) f)
 (fun a f=>
 Aa1 P N.Hp6 #[.slice (some e) ((i64.wrap ((i64.wrap ((i64.wrap ((((i64.wrap ((qj:Int)+2)).toNat:Nat):Int)-(d:Int)))-1))+1)).toNat) ((i64.wrap ((i64.wrap ((i64.wrap ((((i64.wrap ((qj:Int)+2)).toNat:Nat):Int)-(d:Int)))-1))+1)).toNat)] f fun a d=>
 vS_ a fun a e f=>
 Aa1 P N.Hp6 #[.slice (some b) ((i64.wrap ((qj:Int)+2)).toNat) ((i64.wrap ((qj:Int)+2)).toNat)] d fun b d=>
 vS_ b fun b g h=>
 Aa1 P N.Ho3 #[.slice b g h,.int .u64 (u64.wrap (i64.wrap ((i64.wrap (32-((i64.wrap (c-1)).tmod 32)))-1)))] d fun b c=>
 vS_ b fun b d g=>
 K (.tuple #[.slice a e f,.slice b d g]) c)))))
def Ck8 (N:Nums) (P:Program) (g:OA) (qj qq:Nat) (w:World) (K:KV):Prop:=
 Ad7 (σ:=(OA×Nat×Nat)×Unit) (fun a=>
 Ac3 (σ:=(OA×Nat×Nat)×Int×Unit) (fun b c d=>
 cond (decide (b.2.1<(qj:Int)))
 ((0:Int)≤b.2.1∧b.2.1<(qj:Nat) ∧
 Ab6 g fun a=>
 cU_ d (a.add (b.2.1.toNat*1)) fun a=>
 (4294967296:Int)≠0 ∧
 (0:Int)≤b.2.1∧b.2.1<(qj:Nat) ∧
 Ab6 g fun e=>
 cU_ d (e.add (b.2.1.toNat*1)) fun e=>
 (4294967296:Int)≠0 ∧
 drM d fun d=>
 Ac8 #[.int .u64 (a.tmod 4294967296),.int .u64 (u64.wrap (e.tdiv 4294967296))] N.Hr2 d fun a d=>
 drM d fun d=>
 Bn8 N.Hr2 1 8 #[.int .u64 0] b.1.1 b.1.2.1 b.1.2.2 (some a) 2 d fun a d e f=>
 drM f fun f=>
 c ((a,d,e),(i64.wrap (b.2.1+1)),()) f)
 (a ((b.1.1,b.1.2.1,b.1.2.2),()) d))
 ((none,0,0),0,()) w)
 (fun a b=>
 Aa1 P N.Hp3 #[.slice a.1.1 a.1.2.1 a.1.2.2] b fun a b=>
 vS_ a fun a c d=>
 K (.slice a c d) b)
def Cp5 (N:Nums) (P:Program) (g:OA) (qj qq:Nat) (w:World) (K:KV):Prop:=
 Ad7 (σ:=(OA×Nat×Nat)×Unit) (fun a=>
 Ac3 (σ:=(OA×Nat×Nat)×Int×Unit) (fun b c d=>
 cond (decide (b.2.1<(qj:Int)))
 ((0:Int)≤b.2.1∧b.2.1<(qj:Nat) ∧
 Ab6 g fun a=>
 cU_ d (a.add (b.2.1.toNat*1)) fun a=>
 Ad7 (σ:=Int×Unit) (fun c=>
 cond (decide ((i64.wrap (b.2.1+1))<(qj:Int)))
 ((0:Int)≤(i64.wrap (b.2.1+1))∧(i64.wrap (b.2.1+1))<(qj:Nat) ∧
 Ab6 g fun e=>
 ∃ f,d.cell? (e.add ((i64.wrap (b.2.1+1)).toNat*1))=some (.int .u64 f) ∧
 c ((u64.wrap (a+(u64.wrap (4294967296*f)))),()) d)
 (c (a,()) d))
 (fun a d=>
 Ac8 #[.int .u64 a.1] N.Hr2 d fun a d=>
 Bn8 N.Hr2 1 8 #[.int .u64 0] b.1.1 b.1.2.1 b.1.2.2 (some a) 1 d fun a d e f=>
 c ((a,d,e),(i64.wrap (b.2.1+2)),()) f))
 (a ((b.1.1,b.1.2.1,b.1.2.2),()) d))
 ((none,0,0),0,()) w)
 (fun a b=>
 Aa1 P N.Hj4 #[.slice a.1.1 a.1.2.1 a.1.2.2] b fun a b=>
 vS_ a fun a c d=>
 K (.slice a c d) b)
def Cs6 (N:Nums) (P:Program) (c:OA) (qj qq:Nat) (b:Int) (w:World) (K:KV):Prop:=
 cond (decide (b<(qj:Int)))
 ((0:Int)≤b∧b<(qj:Nat) ∧
 Ab6 c fun a=>
 cU_ w (a.add (b.toNat*1)) fun a=>
 K (.int .u64 a) w)
 (K (.int .u64 0) w)
def Cb1 (N:Nums) (P:Program) (i:OA) (qj qq:Nat) (j:OA) (qu vf:Nat) (w:World) (K:KV):Prop:=
 mkM N.Hr2 1 8 #[.int .u64 0] (i64.wrap ((qj:Int)+(qu:Int))) (i64.wrap ((qj:Int)+(qu:Int))) w fun a b=>
 Ad7 (σ:=Unit) (fun c=>
 Ac3 (σ:=Int×Unit) (fun b d e=>
 cond (decide (b.1<(qj:Int)))
 (Ad7 (σ:=Int×Unit) (fun c=>
 Ac3 (σ:=Int×Int×Unit) (fun d e f=>
 cond (decide (d.2.1<(qu:Int)))
 ((0:Int)≤b.1∧b.1<(qj:Nat) ∧
 Ab6 i fun c=>
 cU_ f (c.add (b.1.toNat*1)) fun c=>
 (0:Int)≤d.2.1∧d.2.1<(qu:Nat) ∧
 Ab6 j fun g=>
 cU_ f (g.add (d.2.1.toNat*1)) fun g=>
 (0:Int)≤(i64.wrap (b.1+d.2.1))∧(i64.wrap (b.1+d.2.1))<((i64.wrap ((qj:Int)+(qu:Int))).toNat:Nat) ∧
 ∃ h,f.cell? (a.add ((i64.wrap (b.1+d.2.1)).toNat*1))=some (.int .u64 h) ∧
 drM f fun f=>
 (4294967296:Int)≠0 ∧
 (0:Int)≤(i64.wrap (b.1+d.2.1))∧(i64.wrap (b.1+d.2.1))<((i64.wrap ((qj:Int)+(qu:Int))).toNat:Nat) ∧
 stM (a.add ((i64.wrap (b.1+d.2.1)).toNat*1)) (.int .u64 ((u64.wrap ((u64.wrap ((u64.wrap (c*g))+h))+d.1)).tmod 4294967296)) f fun a=>
 (4294967296:Int)≠0 ∧
 e ((u64.wrap ((u64.wrap ((u64.wrap ((u64.wrap (c*g))+h))+d.1)).tdiv 4294967296)),(i64.wrap (d.2.1+1)),()) a)
 (c (d.1,()) f))
 (0,0,()) e)
 (fun c e=>
 (0:Int)≤(i64.wrap (b.1+(qu:Int)))∧(i64.wrap (b.1+(qu:Int)))<((i64.wrap ((qj:Int)+(qu:Int))).toNat:Nat) ∧
 stM (a.add ((i64.wrap (b.1+(qu:Int))).toNat*1)) (.int .u64 c.1) e fun a=>
 d ((i64.wrap (b.1+1)),()) a))
 (c (()) e))
 (0,()) b)
 (fun b c=>
 Aa1 P N.Hp3 #[.slice (some a) ((i64.wrap ((qj:Int)+(qu:Int))).toNat) ((i64.wrap ((qj:Int)+(qu:Int))).toNat)] c fun a b=>
 vS_ a fun a c d=>
 K (.slice a c d) b)
def Ci7 (N:Nums) (P:Program) (k:OA) (w:World) (K:KV):Prop:=
 Ac8 #[.bool false,.slice none 0 0] N.Hr0 w fun a b=>
 Aa1 P N.Hq3 #[.pointer (some a),.pointer k] b fun a b=>
 ∃ h:(OA),a=(.pointer h) ∧
 Ac8 #[.bool false,.slice none 0 0] N.Hr0 b fun a b=>
 Ac8 #[.bool false,.slice none 0 0] N.Hr0 b fun b c=>
 Aa1 P N.Hi5 #[.pointer (some b),.int .u64 18446744073709551615] c fun b c=>
 ∃ i:(OA),b=(.pointer i) ∧
 Ad7 (σ:=(OA×Nat×Nat)×Unit) (fun b=>
 Ac3 (σ:=(OA×Nat×Nat)×Unit) (fun c d e=>
 Aa1 P N.Hp5 #[.pointer h] e fun e f=>
 ∃ g,e=(.int .i64 g) ∧
 cond (decide (g>0))
 (Aa1 P N.Hr6 #[.pointer (some a),.pointer h,.pointer i] f fun a b=>
 ∃ j:(OA),a=(.pointer j) ∧
 Aa1 P N.Hn1 #[.pointer j] b fun a b=>
 ∃ e,a=(.int .u64 e) ∧
 Ac8 #[.int .u64 e] N.Hr2 b fun a b=>
 Bn8 N.Hr2 1 8 #[.int .u64 0] c.1.1 c.1.2.1 c.1.2.2 (some a) 1 b fun a b c e=>
 Aa1 P N.Hr1 #[.pointer h,.pointer h,.int .u64 64] e fun e f=>
 ∃ l:(OA),e=(.pointer l) ∧
 d ((a,b,c),()) f)
 (b ((c.1.1,c.1.2.1,c.1.2.2),()) f))
 ((none,0,0),()) c)
 (fun a b=>
 K (.slice a.1.1 a.1.2.1 a.1.2.2) b)
def Cr4 (N:Nums) (P:Program) (g:OA) (qj qq:Nat) (f:Int) (w:World) (K:KV):Prop:=
 mkM N.Hr2 1 8 #[.int .u64 0] (qj:Int) (qj:Int) w fun a b=>
 Ad7 (σ:=Int×Unit) (fun c=>
 Ac3 (σ:=Int×Int×Unit) (fun b d e=>
 cond (decide (b.2.1≥0))
 ((0:Int)≤b.2.1∧b.2.1<(qj:Nat) ∧
 Ab6 g fun c=>
 cU_ e (c.add (b.2.1.toNat*1)) fun c=>
 (f:Int)≠0 ∧
 (0:Int)≤b.2.1∧b.2.1<((qj:Int).toNat:Nat) ∧
 stM (a.add (b.2.1.toNat*1)) (.int .u64 (u64.wrap ((u64.wrap ((u64.wrap (b.1*4294967296))+c)).tdiv f))) e fun a=>
 (f:Int)≠0 ∧
 d (((u64.wrap ((u64.wrap (b.1*4294967296))+c)).tmod f),(i64.wrap (b.2.1-1)),()) a)
 (c (b.1,()) e))
 (0,(i64.wrap ((qj:Int)-1)),()) b)
 (fun b c=>
 Aa1 P N.Hp3 #[.slice (some a) ((qj:Int).toNat) ((qj:Int).toNat)] c fun a c=>
 vS_ a fun a d e=>
 K (.tuple #[.slice a d e,.int .u64 b.1]) c)
def De6 (N:Nums) (P:Program) (e:OA) (qj qq:Nat) (w:World) (K:KV):Prop:=
 Ad7 (σ:=Int×Unit) (fun a=>
 cond (decide ((qj:Int)>0))
 ((0:Int)≤(0:Int)∧(0:Int)<(qj:Nat) ∧
 Ab6 e fun b=>
 cW_ w (b.add ((0:Int).toNat*1)) fun b=>
 a ((u64.wrap b),()) w)
 (a (0,()) w))
 (fun a b=>
 Ad7 (σ:=Int×Unit) (fun c=>
 cond (decide ((qj:Int)>1))
 ((0:Int)≤(1:Int)∧(1:Int)<(qj:Nat) ∧
 Ab6 e fun d=>
 cW_ b (d.add ((1:Int).toNat*1)) fun d=>
 (0:Int)≤32 ∧
 c ((u64.wrap (AA u64.bits a.1 ||| AA u64.bits (u64.wrap ((u64.wrap d)*2^(min (32:Int).toNat u64.bits)))).toNat),()) b)
 (c (a.1,()) b))
 (fun a b=>
 K (.int .u64 a.1) b))
def Di2 (N:Nums) (P:Program) (g:OA) (qj qq:Nat) (f:Int) (w:World) (K:KV):Prop:=
 mkM N.Hq9 1 4 #[.int .u32 0] (qj:Int) (qj:Int) w fun a b=>
 Ad7 (σ:=Int×Unit) (fun c=>
 Ac3 (σ:=Int×Int×Unit) (fun b d e=>
 cond (decide (b.2.1≥0))
 ((0:Int)≤32 ∧
 (0:Int)≤b.2.1∧b.2.1<(qj:Nat) ∧
 Ab6 g fun c=>
 cW_ e (c.add (b.2.1.toNat*1)) fun c=>
 ((u64.wrap f):Int)≠0 ∧
 (0:Int)≤b.2.1∧b.2.1<((qj:Int).toNat:Nat) ∧
 stM (a.add (b.2.1.toNat*1)) (.int .u32 (u32.wrap (u64.wrap ((u64.wrap (AA u64.bits (u64.wrap (b.1*2^(min (32:Int).toNat u64.bits))) ||| AA u64.bits (u64.wrap c)).toNat).tdiv (u64.wrap f))))) e fun a=>
 ((u64.wrap f):Int)≠0 ∧
 d (((u64.wrap (AA u64.bits (u64.wrap (b.1*2^(min (32:Int).toNat u64.bits))) ||| AA u64.bits (u64.wrap c)).toNat).tmod (u64.wrap f)),(i64.wrap (b.2.1-1)),()) a)
 (c (b.1,()) e))
 (0,(i64.wrap ((qj:Int)-1)),()) b)
 (fun b c=>
 Aa1 P N.Hp6 #[.slice (some a) ((qj:Int).toNat) ((qj:Int).toNat)] c fun a c=>
 vS_ a fun a d e=>
 K (.tuple #[.slice a d e,.int .u32 (u32.wrap b.1)]) c)
def Dt1 (N:Nums) (P:Program) (g:OA) (qj qq:Nat) (w:World) (K:KV):Prop:=
 Ad7 (σ:=Int×Unit) (fun a=>
 Ac3 (σ:=Int×Unit) (fun b c d=>
 cond (decide (b.1>0))
 ((0:Int)≤(i64.wrap (b.1-1))∧(i64.wrap (b.1-1))<(qj:Nat) ∧
 Ab6 g fun e=>
 ∃ f,d.cell? (e.add ((i64.wrap (b.1-1)).toNat*1))=some (.int .u64 f) ∧
 cond (f==0)
 (c ((i64.wrap (b.1-1)),()) d)
 (a (b.1,()) d))
 (a (b.1,()) d))
 ((qj:Int),()) w)
 (fun a b=>
 (0:Int)≤a.1∧a.1≤(qq:Nat) ∧
 K (.slice (Ak1 g 0 qq 1) a.1.toNat qq) b)
def Ej9 (N:Nums) (P:Program) (n:OA) (k:OA) (l:OA) (w:World) (K:KV):Prop:=
 Ab6 k fun a=>
 cS_ w (a.add 1) fun a b c=>
 Ab6 l fun a=>
 cS_ w (a.add 1) fun a c d=>
 drM w fun a=>
 Aa1 P N.Hr3 #[.pointer k,.int .i64 (i64.wrap ((if (c:Int)>(b:Int) then (c:Int) else (b:Int))+1))] a fun a d=>
 vS_ a fun a e f=>
 Aa1 P N.Hr3 #[.pointer l,.int .i64 (i64.wrap ((if (c:Int)>(b:Int) then (c:Int) else (b:Int))+1))] d fun d g=>
 vS_ d fun d h i=>
 Ad7 (σ:=Unit) (fun f=>
 Ac3 (σ:=Int×Unit) (fun g i j=>
 cond (decide (g.1<(i64.wrap ((if (c:Int)>(b:Int) then (c:Int) else (b:Int))+1))))
 ((0:Int)≤g.1∧g.1<(e:Nat) ∧
 Ab6 a fun b=>
 cW_ j (b.add (g.1.toNat*1)) fun b=>
 (0:Int)≤g.1∧g.1<(h:Nat) ∧
 Ab6 d fun c=>
 cW_ j (c.add (g.1.toNat*1)) fun c=>
 (0:Int)≤g.1∧g.1<(e:Nat) ∧
 Ab6 a fun a=>
 drM j fun d=>
 stM (a.add (g.1.toNat*1)) (.int .u32 (u32.wrap (AA u32.bits b &&& AA u32.bits c).toNat)) d fun a=>
 drM a fun a=>
 i ((i64.wrap (g.1+1)),()) a)
 (f (()) j))
 (0,()) g)
 (fun b c=>
 Aa1 P N.Hs5 #[.pointer n,.slice a e f] c fun a b=>
 ∃ m:(OA),a=(.pointer m) ∧
 K (.pointer m) b)
end Go.Eng
