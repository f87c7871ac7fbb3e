/-
 Some of the functions as propositions in the manner of a weakest precondition, printed off the structured code by a program of the session. No condition.
-/
import Derived.Test.YtlnelldekejadaaGreatTbl
import Derived.Test.YtlnelldekejadaaGreatNm
set_option linter.all false
set_option maxRecDepth 100000
namespace Go.Eng
open Go
open Go.IntKind (i64 u64 u32 u8)
def Be4 (N:Nums) (P:Program) (qd:Int) (qb:Int) (qf:OA) (qk qm:Nat) (qt:Bool) (qs:OA) (qo qp:Nat) (qw:Int) (w:World) (K:KV):Prop:=
 Ac8 #[.int .i64 qd,.int .i64 qb,.slice qf qk qm] N.Hs3 w fun a b=>
 Ac8 #[.bool qt,.slice qs qo qp,.int .i64 qw] N.Hs7 b fun b c=>
 Ad7 (σ:=Bool×Unit) (fun d=>
 c3G c a fun a e f g h=>
 Aa1 P N.Hm3 #[.agg #[.int .i64 a,.int .i64 e,.slice f g h]] c fun a c=>
 vB_ a fun a=>
 cond (!a)
 (cS_ c (b.add 1) fun a b e=>
 d ((decide ((b:Int)>300)),()) c)
 (d (true,()) c))
 (fun c d=>
 cond c.1
 (Aa1 P N.Hn5 #[] d fun a b=>
 vB_ a fun a=>
 K (.bool a) b)
 (Ad7 (σ:=(OA)×(OA)×Unit) (fun c=>
 c3G d a fun e f g h i=>
 c3D d b fun j k l m n=>
 (drM d fun a=>
 Aa1 P N.Hh1 #[.agg #[.int .i64 e,.int .i64 f,.slice g h i]] a fun a d=>
 ∃ e,∃ f,∃ g h i,a=(.agg #[.int .i64 e,.int .i64 f,.slice g h i]) ∧
 k3D d b j k l m n fun _=>
 (drM d fun a=>
 Aa1 P N.Hk5 #[.agg #[.bool j,.slice k l m,.int .i64 n]] a fun a b=>
 v3D a fun a d j k l=>
 (drM b fun b=>
 Ac8 #[.int .i64 0,.int .i64 0,.slice none 0 0] N.Hs3 b fun b m=>
 drM m fun m=>
 Ac8 #[.bool false,.slice none 0 0,.int .i64 0] N.Hs7 m fun m n=>
 drM n fun n=>
 s3G b e f g h i n fun e=>
 drM e fun e=>
 s3D m a d j k l e fun a=>
 drM a fun a=>
 c ((some b),(some m),()) a) ∧
 (drM b fun b=>
 Ac8 #[.bool false,.slice none 0 0,.int .i64 0] N.Hs7 b fun b m=>
 drM m fun m=>
 Ac8 #[.int .i64 0,.int .i64 0,.slice none 0 0] N.Hs3 m fun m n=>
 drM n fun n=>
 s3G m e f g h i n fun e=>
 drM e fun e=>
 s3D b a d j k l e fun a=>
 drM a fun a=>
 c ((some m),(some b),()) a)) ∧
 (drM d fun a=>
 Ac8 #[.int .i64 0,.int .i64 0,.slice none 0 0] N.Hs3 a fun a d=>
 k3D d b j k l m n fun _=>
 (drM d fun b=>
 Aa1 P N.Hk5 #[.agg #[.bool j,.slice k l m,.int .i64 n]] b fun b d=>
 v3D b fun b j k l m=>
 drM d fun d=>
 Ac8 #[.bool false,.slice none 0 0,.int .i64 0] N.Hs7 d fun d n=>
 drM n fun n=>
 s3G a e f g h i n fun e=>
 drM e fun e=>
 s3D d b j k l m e fun b=>
 drM b fun b=>
 c ((some a),(some d),()) b) ∧
 (drM d fun d=>
 Ac8 #[.bool false,.slice none 0 0,.int .i64 0] N.Hs7 d fun d o=>
 k3D o b j k l m n fun _=>
 drM o fun b=>
 Aa1 P N.Hk5 #[.agg #[.bool j,.slice k l m,.int .i64 n]] b fun b j=>
 v3D b fun b k l m n=>
 drM j fun j=>
 s3G a e f g h i j fun e=>
 drM e fun e=>
 s3D d b k l m n e fun b=>
 drM b fun b=>
 c ((some a),(some d),()) b)) ∧
 (drM d fun a=>
 Ac8 #[.bool false,.slice none 0 0,.int .i64 0] N.Hs7 a fun a d=>
 k3D d b j k l m n fun _=>
 (drM d fun b=>
 Aa1 P N.Hk5 #[.agg #[.bool j,.slice k l m,.int .i64 n]] b fun b d=>
 v3D b fun b j k l m=>
 drM d fun d=>
 Ac8 #[.int .i64 0,.int .i64 0,.slice none 0 0] N.Hs3 d fun d n=>
 drM n fun n=>
 s3G d e f g h i n fun e=>
 drM e fun e=>
 s3D a b j k l m e fun b=>
 drM b fun b=>
 c ((some d),(some a),()) b) ∧
 (drM d fun d=>
 Ac8 #[.int .i64 0,.int .i64 0,.slice none 0 0] N.Hs3 d fun d o=>
 k3D o b j k l m n fun _=>
 drM o fun b=>
 Aa1 P N.Hk5 #[.agg #[.bool j,.slice k l m,.int .i64 n]] b fun b j=>
 v3D b fun b k l m n=>
 drM j fun j=>
 s3G d e f g h i j fun e=>
 drM e fun e=>
 s3D a b k l m n e fun b=>
 drM b fun b=>
 c ((some d),(some a),()) b))) ∧
 (drM d fun d=>
 Ac8 #[.int .i64 0,.int .i64 0,.slice none 0 0] N.Hs3 d fun d o=>
 k3D o b j k l m n fun _=>
 o.cell? a=some (.int .i64 e) ∧
 o.cell? (a.add 1)=some (.int .i64 f) ∧
 o.cell? (a.add 2)=some (.slice g h i) ∧
 (drM o fun a=>
 Aa1 P N.Hh1 #[.agg #[.int .i64 e,.int .i64 f,.slice g h i]] a fun a e=>
 ∃ f,∃ g,∃ h i o,a=(.agg #[.int .i64 f,.int .i64 g,.slice h i o]) ∧
 k3D e b j k l m n fun _=>
 (drM e fun a=>
 Aa1 P N.Hk5 #[.agg #[.bool j,.slice k l m,.int .i64 n]] a fun a b=>
 v3D a fun a e j k l=>
 drM b fun b=>
 Ac8 #[.bool false,.slice none 0 0,.int .i64 0] N.Hs7 b fun b m=>
 drM m fun m=>
 s3G d f g h i o m fun f=>
 drM f fun f=>
 s3D b a e j k l f fun a=>
 drM a fun a=>
 c ((some d),(some b),()) a) ∧
 (drM e fun a=>
 Ac8 #[.bool false,.slice none 0 0,.int .i64 0] N.Hs7 a fun a e=>
 k3D e b j k l m n fun _=>
 drM e fun b=>
 Aa1 P N.Hk5 #[.agg #[.bool j,.slice k l m,.int .i64 n]] b fun b e=>
 v3D b fun b j k l m=>
 drM e fun e=>
 s3G d f g h i o e fun e=>
 drM e fun e=>
 s3D a b j k l m e fun b=>
 drM b fun b=>
 c ((some d),(some a),()) b)) ∧
 (drM o fun o=>
 Ac8 #[.bool false,.slice none 0 0,.int .i64 0] N.Hs7 o fun o p=>
 k3D p b j k l m n fun _=>
 p.cell? a=some (.int .i64 e) ∧
 p.cell? (a.add 1)=some (.int .i64 f) ∧
 p.cell? (a.add 2)=some (.slice g h i) ∧
 drM p fun a=>
 Aa1 P N.Hh1 #[.agg #[.int .i64 e,.int .i64 f,.slice g h i]] a fun a e=>
 ∃ f,∃ g,∃ h i p,a=(.agg #[.int .i64 f,.int .i64 g,.slice h i p]) ∧
 k3D e b j k l m n fun _=>
 drM e fun a=>
 Aa1 P N.Hk5 #[.agg #[.bool j,.slice k l m,.int .i64 n]] a fun a b=>
 v3D a fun a e j k l=>
 drM b fun b=>
 s3G d f g h i p b fun b=>
 drM b fun b=>
 s3D o a e j k l b fun a=>
 drM a fun a=>
 c ((some d),(some o),()) a)) ∧
 (drM d fun d=>
 Ac8 #[.bool false,.slice none 0 0,.int .i64 0] N.Hs7 d fun d o=>
 k3D o b j k l m n fun _=>
 o.cell? a=some (.int .i64 e) ∧
 o.cell? (a.add 1)=some (.int .i64 f) ∧
 o.cell? (a.add 2)=some (.slice g h i) ∧
 (drM o fun a=>
 Aa1 P N.Hh1 #[.agg #[.int .i64 e,.int .i64 f,.slice g h i]] a fun a e=>
 ∃ f,∃ g,∃ h i o,a=(.agg #[.int .i64 f,.int .i64 g,.slice h i o]) ∧
 k3D e b j k l m n fun _=>
 (drM e fun a=>
 Aa1 P N.Hk5 #[.agg #[.bool j,.slice k l m,.int .i64 n]] a fun a b=>
 v3D a fun a e j k l=>
 drM b fun b=>
 Ac8 #[.int .i64 0,.int .i64 0,.slice none 0 0] N.Hs3 b fun b m=>
 drM m fun m=>
 s3G b f g h i o m fun f=>
 drM f fun f=>
 s3D d a e j k l f fun a=>
 drM a fun a=>
 c ((some b),(some d),()) a) ∧
 (drM e fun a=>
 Ac8 #[.int .i64 0,.int .i64 0,.slice none 0 0] N.Hs3 a fun a e=>
 k3D e b j k l m n fun _=>
 drM e fun b=>
 Aa1 P N.Hk5 #[.agg #[.bool j,.slice k l m,.int .i64 n]] b fun b e=>
 v3D b fun b j k l m=>
 drM e fun e=>
 s3G a f g h i o e fun e=>
 drM e fun e=>
 s3D d b j k l m e fun b=>
 drM b fun b=>
 c ((some a),(some d),()) b)) ∧
 (drM o fun o=>
 Ac8 #[.int .i64 0,.int .i64 0,.slice none 0 0] N.Hs3 o fun o p=>
 k3D p b j k l m n fun _=>
 p.cell? a=some (.int .i64 e) ∧
 p.cell? (a.add 1)=some (.int .i64 f) ∧
 p.cell? (a.add 2)=some (.slice g h i) ∧
 drM p fun a=>
 Aa1 P N.Hh1 #[.agg #[.int .i64 e,.int .i64 f,.slice g h i]] a fun a e=>
 ∃ f,∃ g,∃ h i p,a=(.agg #[.int .i64 f,.int .i64 g,.slice h i p]) ∧
 k3D e b j k l m n fun _=>
 drM e fun a=>
 Aa1 P N.Hk5 #[.agg #[.bool j,.slice k l m,.int .i64 n]] a fun a b=>
 v3D a fun a e j k l=>
 drM b fun b=>
 s3G o f g h i p b fun b=>
 drM b fun b=>
 s3D d a e j k l b fun a=>
 drM a fun a=>
 c ((some o),(some d),()) a)))
 (fun c d=>
 Ab6 c.1 fun e=>
 c3G d e fun e f g h i=>
 Aa1 P N.Hh5 #[.agg #[.int .i64 e,.int .i64 f,.slice g h i]] d fun d e=>
 ∃ f,∃ g,∃ h,∃ i,d=(.tuple #[.agg #[.int .i64 f,.int .i64 g,.int .i64 h],.int .i64 i]) ∧
 Ac8 #[.int .i64 0,.int .i64 0,.int .i64 0] N.Hs2 e fun d e=>
 stM d (.int .i64 f) e fun e=>
 stM (d.add 1) (.int .i64 g) e fun e=>
 stM (d.add 2) (.int .i64 h) e fun e=>
 c3G e a fun f g h j k=>
 Aa1 P N.Hl6 #[.agg #[.int .i64 f,.int .i64 g,.slice h j k]] e fun e f=>
 ∃ g,∃ h,∃ j,∃ k,e=(.tuple #[.agg #[.int .i64 g,.int .i64 h,.int .i64 j],.int .i64 k]) ∧
 Ac8 #[.int .i64 0,.int .i64 0,.int .i64 0] N.Hs2 f fun e f=>
 stM e (.int .i64 g) f fun f=>
 stM (e.add 1) (.int .i64 h) f fun f=>
 stM (e.add 2) (.int .i64 j) f fun f=>
 Ab6 c.1 fun g=>
 c3G f g fun g h j l m=>
 Ab6 c.2.1 fun n=>
 c3D f n fun n o p q r=>
 Aa1 P N.Hh7 #[.agg #[.int .i64 g,.int .i64 h,.slice j l m],.agg #[.bool n,.slice o p q,.int .i64 r]] f fun f g=>
 ∃ h,∃ j,f=(.tuple #[.int .i64 h,.int .i64 j]) ∧
 c3G g a fun f l m n o=>
 c3D g b fun p q r s t=>
 Aa1 P N.Hn7 #[.agg #[.int .i64 f,.int .i64 l,.slice m n o],.agg #[.bool p,.slice q r s,.int .i64 t]] g fun f g=>
 ∃ l,∃ m,f=(.tuple #[.int .i64 l,.int .i64 m]) ∧
 Ab6 c.1 fun f=>
 c3G g f fun f n o p q=>
 Aa1 P N.Hi2 #[.agg #[.int .i64 f,.int .i64 n,.slice o p q]] g fun f g=>
 ∃ n o p,∃ q,f=(.tuple #[.slice n o p,.int .i64 q]) ∧
 c3G g a fun f r s t u=>
 Aa1 P N.Ho4 #[.agg #[.int .i64 f,.int .i64 r,.slice s t u]] g fun f g=>
 ∃ r s t,∃ u,f=(.tuple #[.slice r s t,.int .i64 u]) ∧
 Ad7 (σ:=Bool×Unit) (fun b=>
 c3S g d fun f v x=>
 c3S g e fun y z α=>
 drM g fun g=>
 k3S g e y z α fun _=>
 k3S g d f v x fun _=>
 cond (!(!(f==y&&(v==z&&x==α))))
 (cond (!(i != k))
 (cond (!(h != l))
 (cond (!(j != m))
 (cond (!(q != u))
 (drM g fun g=>
 Aa1 P N.Hi8 #[.slice n o p,.slice r s t] g fun g h=>
 vB_ g fun g=>
 k3S h e y z α fun _=>
 k3S h d f v x fun _=>
 cond (!(!g))
 (Ab6 c.1 fun g=>
 c3G h g fun g i j k l=>
 c3G h a fun m n o p q=>
 drM h fun h=>
 Aa1 P N.Hh9 #[.agg #[.int .i64 g,.int .i64 i,.slice j k l]] h fun g h=>
 vB_ g fun g=>
 h.cell? a=some (.int .i64 m) ∧
 h.cell? (a.add 1)=some (.int .i64 n) ∧
 h.cell? (a.add 2)=some (.slice o p q) ∧
 k3S h e y z α fun _=>
 k3S h d f v x fun _=>
 drM h fun h=>
 Aa1 P N.Hn4 #[.agg #[.int .i64 m,.int .i64 n,.slice o p q]] h fun h i=>
 vB_ h fun h=>
 k3S i e y z α fun _=>
 k3S i d f v x fun _=>
 cond (!(!(g==h)))
 (Ab6 c.1 fun c=>
 c3G i c fun c g h j k=>
 c3G i a fun l m n o p=>
 drM i fun i=>
 Aa1 P N.Hg6 #[.agg #[.int .i64 c,.int .i64 g,.slice h j k]] i fun c g=>
 vB_ c fun c=>
 g.cell? a=some (.int .i64 l) ∧
 g.cell? (a.add 1)=some (.int .i64 m) ∧
 g.cell? (a.add 2)=some (.slice n o p) ∧
 k3S g e y z α fun _=>
 k3S g d f v x fun _=>
 drM g fun a=>
 Aa1 P N.Hh6 #[.agg #[.int .i64 l,.int .i64 m,.slice n o p]] a fun a g=>
 vB_ a fun a=>
 k3S g e y z α fun _=>
 k3S g d f v x fun _=>
 drM g fun d=>
 b ((!(c==a)),()) d)
 (drM i fun a=>
 k3S a e y z α fun _=>
 k3S a d f v x fun _=>
 drM a fun a=>
 k3S a e y z α fun _=>
 k3S a d f v x fun _=>
 drM a fun a=>
 b (true,()) a))
 (drM h fun a=>
 k3S a e y z α fun _=>
 k3S a d f v x fun _=>
 drM a fun a=>
 k3S a e y z α fun _=>
 k3S a d f v x fun _=>
 drM a fun a=>
 k3S a e y z α fun _=>
 k3S a d f v x fun _=>
 drM a fun a=>
 k3S a e y z α fun _=>
 k3S a d f v x fun _=>
 drM a fun a=>
 b (true,()) a))
 (drM g fun a=>
 k3S a e y z α fun _=>
 k3S a d f v x fun _=>
 drM a fun a=>
 k3S a e y z α fun _=>
 k3S a d f v x fun _=>
 drM a fun a=>
 k3S a e y z α fun _=>
 k3S a d f v x fun _=>
 drM a fun a=>
 k3S a e y z α fun _=>
 k3S a d f v x fun _=>
 drM a fun a=>
 k3S a e y z α fun _=>
 k3S a d f v x fun _=>
 drM a fun a=>
 b (true,()) a))
 (drM g fun a=>
 k3S a e y z α fun _=>
 k3S a d f v x fun _=>
 drM a fun a=>
 k3S a e y z α fun _=>
 k3S a d f v x fun _=>
 drM a fun a=>
 k3S a e y z α fun _=>
 k3S a d f v x fun _=>
 drM a fun a=>
 k3S a e y z α fun _=>
 k3S a d f v x fun _=>
 drM a fun a=>
 k3S a e y z α fun _=>
 k3S a d f v x fun _=>
 drM a fun a=>
 b (true,()) a))
 (drM g fun a=>
 k3S a e y z α fun _=>
 k3S a d f v x fun _=>
 drM a fun a=>
 k3S a e y z α fun _=>
 k3S a d f v x fun _=>
 drM a fun a=>
 k3S a e y z α fun _=>
 k3S a d f v x fun _=>
 drM a fun a=>
 k3S a e y z α fun _=>
 k3S a d f v x fun _=>
 drM a fun a=>
 k3S a e y z α fun _=>
 k3S a d f v x fun _=>
 drM a fun a=>
 b (true,()) a))
 (drM g fun a=>
 k3S a e y z α fun _=>
 k3S a d f v x fun _=>
 drM a fun a=>
 k3S a e y z α fun _=>
 k3S a d f v x fun _=>
 drM a fun a=>
 k3S a e y z α fun _=>
 k3S a d f v x fun _=>
 drM a fun a=>
 k3S a e y z α fun _=>
 k3S a d f v x fun _=>
 drM a fun a=>
 k3S a e y z α fun _=>
 k3S a d f v x fun _=>
 drM a fun a=>
 b (true,()) a))
 (drM g fun a=>
 k3S a e y z α fun _=>
 k3S a d f v x fun _=>
 drM a fun a=>
 k3S a e y z α fun _=>
 k3S a d f v x fun _=>
 drM a fun a=>
 k3S a e y z α fun _=>
 k3S a d f v x fun _=>
 drM a fun a=>
 k3S a e y z α fun _=>
 k3S a d f v x fun _=>
 drM a fun a=>
 k3S a e y z α fun _=>
 k3S a d f v x fun _=>
 drM a fun a=>
 b (true,()) a))
 (fun d e=>
 cond d.1
 (K (.bool false) e)
 (Ab6 c.1 fun d=>
 c3G e d fun d f g h i=>
 c3G e a fun a j k l m=>
 Aa1 P N.Hh4 #[.agg #[.int .i64 d,.int .i64 f,.slice g h i],.agg #[.int .i64 a,.int .i64 j,.slice k l m]] e fun a d=>
 vB_ a fun a=>
 cond a
 (Ab6 c.2.1 fun a=>
 c3D d a fun a c e f g=>
 c3D d b fun b h i j k=>
 Aa1 P N.Hk1 #[.agg #[.bool a,.slice c e f,.int .i64 g],.agg #[.bool b,.slice h i j,.int .i64 k]] d fun a b=>
 vB_ a fun a=>
 cond a
 (Aa1 P N.Hn5 #[] b fun a b=>
 vB_ a fun a=>
 K (.bool a) b)
 (K (.bool false) b))
 (K (.bool false) d))))))
def Cv2 (N:Nums) (P:Program) (qd:Int) (qb:Int) (qf:OA) (qk qm:Nat) (w:World) (K:KV):Prop:=
 Ac8 #[.int .i64 qd,.int .i64 qb,.slice qf qk qm] N.Hs3 w fun a b=>
 Ad7 (σ:=Int×Unit) (fun c=>
 Ac3 (σ:=Int×Int×Unit) (fun b d e=>
 cS_ e (a.add 2) fun f g h=>
 cond (decide (b.2.1<(g:Int)))
 (cond (decide (b.1≤400))
 (cS_ e (a.add 2) fun a c f=>
 (0:Int)≤b.2.1∧b.2.1<(c:Nat) ∧
 Ab6 a fun a=>
 cS_ e ((a.add (b.2.1.toNat*3)).add 1) fun a c f=>
 d ((i64.wrap (b.1+(c:Int))),(i64.wrap (b.2.1+1)),()) e)
 (c (b.1,()) e))
 (c (b.1,()) e))
 (0,0,()) b)
 (fun b c=>
 cI_ c a fun d=>
 cond (!(decide (d>8)))
 (cI_ c (a.add 1) fun a=>
 cond (!(decide (a>8)))
 (K (.bool (decide (b.1>400))) c)
 (K (.bool true) c))
 (K (.bool true) c))
def Cw4 (N:Nums) (P:Program)  (w:World) (K:KV):Prop:=
 Ac8 #[.int .i64 1,.int .i64 2,.int .i64 2,.int .i64 1] N.Hs4 w fun a b=>
 Aa1 P N.Hr9 #[.int .i64 2,.slice (some a) 4 4] b fun a b=>
 ∃ c,∃ d,∃ e f g,a=(.agg #[.int .i64 c,.int .i64 d,.slice e f g]) ∧
 Aa1 P N.Hh5 #[.agg #[.int .i64 c,.int .i64 d,.slice e f g]] b fun a b=>
 ∃ c,∃ d,∃ e,∃ f,a=(.tuple #[.agg #[.int .i64 c,.int .i64 d,.int .i64 e],.int .i64 f]) ∧
 Ac8 #[.int .i64 0,.int .i64 0,.int .i64 0] N.Hs2 b fun a b=>
 stM a (.int .i64 c) b fun b=>
 stM (a.add 1) (.int .i64 d) b fun b=>
 stM (a.add 2) (.int .i64 e) b fun b=>
 Ac8 #[.int .i64 1,.int .i64 2,.int .i64 2,.int .i64 1] N.Hs4 b fun b c=>
 Aa1 P N.Hr9 #[.int .i64 2,.slice (some b) 4 4] c fun b c=>
 ∃ d,∃ e,∃ g h i,b=(.agg #[.int .i64 d,.int .i64 e,.slice g h i]) ∧
 Aa1 P N.Hi2 #[.agg #[.int .i64 d,.int .i64 e,.slice g h i]] c fun b c=>
 ∃ d e g,∃ h,b=(.tuple #[.slice d e g,.int .i64 h]) ∧
 Ac8 #[.int .i64 1,.int .i64 2,.int .i64 2,.int .i64 1] N.Hs4 c fun b c=>
 Aa1 P N.Hr9 #[.int .i64 2,.slice (some b) 4 4] c fun b c=>
 ∃ i,∃ j,∃ k l m,b=(.agg #[.int .i64 i,.int .i64 j,.slice k l m]) ∧
 Aa1 P N.Hp4 #[.int .i64 4] c fun b c=>
 v3D b fun b n o p q=>
 Aa1 P N.Hh7 #[.agg #[.int .i64 i,.int .i64 j,.slice k l m],.agg #[.bool b,.slice n o p,.int .i64 q]] c fun b c=>
 ∃ i,∃ j,b=(.tuple #[.int .i64 i,.int .i64 j]) ∧
 cond (f==0)
 (cond (h==0)
 (cond (j==0)
 (cond (i==2)
 (c3S c a fun a b f=>
 cond (a==1&&(b==0&&f==1))
 (Ac8 #[.int .i64 (-3),.int .i64 (-2),.int .i64 1] N.Hs4 c fun a b=>
 Aa1 P N.Hr9 #[.int .i64 3,.slice (some a) 3 3] b fun a b=>
 ∃ c,∃ f,∃ h i j,a=(.agg #[.int .i64 c,.int .i64 f,.slice h i j]) ∧
 Aa1 P N.Hi8 #[.slice d e g,.slice h i j] b fun a b=>
 vB_ a fun a=>
 K (.bool a) b)
 (K (.bool false) c))
 (K (.bool false) c))
 (K (.bool false) c))
 (K (.bool false) c))
 (K (.bool false) c)
def Bm5 (N:Nums) (P:Program) (qd:Int) (qb:Int) (qf:OA) (qk qm:Nat) (w:World) (K:KV):Prop:=
 Ac8 #[.int .i64 qd,.int .i64 qb,.slice qf qk qm] N.Hs3 w fun a b=>
 Ac8 #[.int .i64 0,.int .i64 0,.slice none 0 0] N.Hs3 b fun b c=>
 cS_ c (a.add 2) fun d e f=>
 Aa1 P N.Hj1 #[.slice d e f] c fun c d=>
 vS_ c fun c e f=>
 stM (a.add 2) (.slice c e f) d fun c=>
 c3G c a fun a d e f g=>
 s3G b a d e f g c fun a=>
 c3G a b fun b c d e f=>
 K (.agg #[.int .i64 b,.int .i64 c,.slice d e f]) a
def Ck0 (N:Nums) (P:Program) (qd:Bool) (qb:OA) (qe qg:Nat) (qf:Int) (w:World) (K:KV):Prop:=
 Ac8 #[.bool qd,.slice qb qe qg,.int .i64 qf] N.Hs7 w fun a b=>
 Ac8 #[.bool false,.slice none 0 0,.int .i64 0] N.Hs7 b fun b c=>
 cS_ c (a.add 1) fun d e f=>
 Aa1 P N.Hj3 #[.slice d e f] c fun c d=>
 vS_ c fun c e f=>
 stM (a.add 1) (.slice c e f) d fun c=>
 c3D c a fun a d e f g=>
 s3D b a d e f g c fun a=>
 c3D a b fun b c d e f=>
 K (.agg #[.bool b,.slice c d e,.int .i64 f]) a
def Bp5 (N:Nums) (P:Program) (qd:Int) (qb:Int) (qf:OA) (qk qm:Nat) (w:World) (K:KV):Prop:=
 Ac8 #[.int .i64 qd,.int .i64 qb,.slice qf qk qm] N.Hs3 w fun a b=>
 Ac8 #[.int .i64 0,.int .i64 0,.int .i64 0] N.Hs2 b fun b c=>
 c3G c a fun d e f g h=>
 Aa1 P N.Hg6 #[.agg #[.int .i64 d,.int .i64 e,.slice f g h]] c fun c d=>
 vB_ c fun c=>
 cond (!c)
 (stM b (.int .i64 0) d fun a=>
 stM (b.add 1) (.int .i64 0) a fun a=>
 stM (b.add 2) (.int .i64 0) a fun a=>
 c3S a b fun b c d=>
 K (.tuple #[.agg #[.int .i64 b,.int .i64 c,.int .i64 d],.int .i64 4]) a)
 (c3G d a fun a c e f g=>
 Aa1 P N.Hh3 #[.agg #[.int .i64 a,.int .i64 c,.slice e f g],.agg #[.bool false,.slice none 0 0,.int .i64 0]] d fun a c=>
 ∃ d e f,∃ g,∃ h,a=(.tuple #[.agg #[.slice d e f,.int .i64 g],.bool h]) ∧
 Ac8 #[.slice none 0 0,.int .i64 0] N.Hi4 c fun a c=>
 stM a (.slice d e f) c fun c=>
 stM (a.add 1) (.int .i64 g) c fun c=>
 cond (!h)
 (stM b (.int .i64 0) c fun a=>
 stM (b.add 1) (.int .i64 0) a fun a=>
 stM (b.add 2) (.int .i64 0) a fun a=>
 c3S a b fun b c d=>
 K (.tuple #[.agg #[.int .i64 b,.int .i64 c,.int .i64 d],.int .i64 3]) a)
 (Aa1 P N.Hg3 #[.pointer (some a)] c fun a c=>
 ∃ d,∃ e,∃ f,a=(.agg #[.int .i64 d,.int .i64 e,.int .i64 f]) ∧
 stM b (.int .i64 d) c fun a=>
 stM (b.add 1) (.int .i64 e) a fun a=>
 stM (b.add 2) (.int .i64 f) a fun a=>
 c3S a b fun b c d=>
 K (.tuple #[.agg #[.int .i64 b,.int .i64 c,.int .i64 d],.int .i64 0]) a))
def Cq1 (N:Nums) (P:Program) (qd:Int) (qb:Int) (qf:OA) (qk qm:Nat) (w:World) (K:KV):Prop:=
 Ac8 #[.int .i64 qd,.int .i64 qb,.slice qf qk qm] N.Hs3 w fun a b=>
 Ac8 #[.int .i64 0,.int .i64 0,.int .i64 0] N.Hs2 b fun b c=>
 c3G c a fun d e f g h=>
 Aa1 P N.Hh6 #[.agg #[.int .i64 d,.int .i64 e,.slice f g h]] c fun c d=>
 vB_ c fun c=>
 cond (!c)
 (stM b (.int .i64 0) d fun a=>
 stM (b.add 1) (.int .i64 0) a fun a=>
 stM (b.add 2) (.int .i64 0) a fun a=>
 c3S a b fun b c d=>
 K (.tuple #[.agg #[.int .i64 b,.int .i64 c,.int .i64 d],.int .i64 4]) a)
 (c3G d a fun c e f g h=>
 drM d fun d=>
 Aa1 P N.Hl8 #[.int .i64 0] d fun d i=>
 v3D d fun d j k l m=>
 i.cell? a=some (.int .i64 c) ∧
 i.cell? (a.add 1)=some (.int .i64 e) ∧
 i.cell? (a.add 2)=some (.slice f g h) ∧
 drM i fun i=>
 Aa1 P N.Hj8 #[.agg #[.int .i64 c,.int .i64 e,.slice f g h],.agg #[.bool d,.slice j k l,.int .i64 m]] i fun c d=>
 vS_ c fun c e f=>
 drM d fun d=>
 cI_ d a fun g=>
 Aa1 P N.Hp0 #[.slice c e f,.int .i64 g] d fun d g=>
 vB_ d fun d=>
 cond d
 (stM b (.int .i64 0) g fun a=>
 stM (b.add 1) (.int .i64 0) a fun a=>
 stM (b.add 2) (.int .i64 0) a fun a=>
 c3S a b fun b c d=>
 K (.tuple #[.agg #[.int .i64 b,.int .i64 c,.int .i64 d],.int .i64 3]) a)
 (cI_ g a fun a=>
 Aa1 P N.Hg7 #[.slice c e f,.int .i64 a] g fun a c=>
 vS_ a fun a d e=>
 Aa1 P N.Hm6 #[.slice a d e] c fun a c=>
 ∃ d,∃ e,∃ f,a=(.agg #[.int .i64 d,.int .i64 e,.int .i64 f]) ∧
 stM b (.int .i64 d) c fun a=>
 stM (b.add 1) (.int .i64 e) a fun a=>
 stM (b.add 2) (.int .i64 f) a fun a=>
 c3S a b fun b c d=>
 K (.tuple #[.agg #[.int .i64 b,.int .i64 c,.int .i64 d],.int .i64 0]) a))
def Bo2 (N:Nums) (P:Program) (qd:Int) (qb:Int) (qf:OA) (qk qm:Nat) (qt:Bool) (qs:OA) (qo qp:Nat) (qw:Int) (w:World) (K:KV):Prop:=
 Ac8 #[.int .i64 qd,.int .i64 qb,.slice qf qk qm] N.Hs3 w fun a b=>
 Ac8 #[.bool qt,.slice qs qo qp,.int .i64 qw] N.Hs7 b fun b c=>
 c3G c a fun d e f g h=>
 Aa1 P N.Hg6 #[.agg #[.int .i64 d,.int .i64 e,.slice f g h]] c fun c d=>
 vB_ c fun c=>
 cond (!c)
 (K (.tuple #[.int .i64 0,.int .i64 4]) d)
 (c3D d b fun c e f g h=>
 Aa1 P N.Hk6 #[.agg #[.bool c,.slice e f g,.int .i64 h]] d fun c d=>
 vB_ c fun c=>
 cond (!c)
 (K (.tuple #[.int .i64 0,.int .i64 2]) d)
 (c3G d a fun a c e f g=>
 c3D d b fun b h i j k=>
 Aa1 P N.Hh3 #[.agg #[.int .i64 a,.int .i64 c,.slice e f g],.agg #[.bool b,.slice h i j,.int .i64 k]] d fun a b=>
 ∃ c d e,∃ f,∃ g,a=(.tuple #[.agg #[.slice c d e,.int .i64 f],.bool g]) ∧
 Ac8 #[.slice none 0 0,.int .i64 0] N.Hi4 b fun a b=>
 stM a (.slice c d e) b fun b=>
 stM (a.add 1) (.int .i64 f) b fun b=>
 cond (!g)
 (K (.tuple #[.int .i64 0,.int .i64 3]) b)
 (Aa1 P N.Hg3 #[.pointer (some a)] b fun a b=>
 ∃ c,∃ d,∃ e,a=(.agg #[.int .i64 c,.int .i64 d,.int .i64 e]) ∧
 K (.tuple #[.int .i64 c,.int .i64 0]) b)))
def Cq8 (N:Nums) (P:Program) (qd:Int) (qb:Int) (qf:OA) (qk qm:Nat) (qt:Bool) (qs:OA) (qo qp:Nat) (qw:Int) (w:World) (K:KV):Prop:=
 Ac8 #[.int .i64 qd,.int .i64 qb,.slice qf qk qm] N.Hs3 w fun a b=>
 Ac8 #[.bool qt,.slice qs qo qp,.int .i64 qw] N.Hs7 b fun b c=>
 c3G c a fun d e f g h=>
 Aa1 P N.Hh6 #[.agg #[.int .i64 d,.int .i64 e,.slice f g h]] c fun c d=>
 vB_ c fun c=>
 cond (!c)
 (K (.tuple #[.int .i64 0,.int .i64 4]) d)
 (c3D d b fun c e f g h=>
 Aa1 P N.Hm8 #[.agg #[.bool c,.slice e f g,.int .i64 h]] d fun c d=>
 vB_ c fun c=>
 cond (!c)
 (K (.tuple #[.int .i64 0,.int .i64 2]) d)
 (c3G d a fun c e f g h=>
 c3D d b fun b i j k l=>
 drM d fun d=>
 Aa1 P N.Ho2 #[.agg #[.bool b,.slice i j k,.int .i64 l]] d fun b d=>
 v3D b fun b i j k l=>
 d.cell? a=some (.int .i64 c) ∧
 d.cell? (a.add 1)=some (.int .i64 e) ∧
 d.cell? (a.add 2)=some (.slice f g h) ∧
 drM d fun d=>
 Aa1 P N.Hj8 #[.agg #[.int .i64 c,.int .i64 e,.slice f g h],.agg #[.bool b,.slice i j k,.int .i64 l]] d fun b c=>
 vS_ b fun b d e=>
 drM c fun c=>
 cI_ c a fun f=>
 Aa1 P N.Hp0 #[.slice b d e,.int .i64 f] c fun c f=>
 vB_ c fun c=>
 cond c
 (K (.tuple #[.int .i64 0,.int .i64 3]) f)
 (cI_ f a fun a=>
 Aa1 P N.Hg7 #[.slice b d e,.int .i64 a] f fun a b=>
 vS_ a fun a c d=>
 Aa1 P N.Hm6 #[.slice a c d] b fun a b=>
 ∃ c,∃ d,∃ e,a=(.agg #[.int .i64 c,.int .i64 d,.int .i64 e]) ∧
 K (.tuple #[.int .i64 c,.int .i64 0]) b)))
def Bu1 (N:Nums) (P:Program) (qd:Int) (qb:Int) (qf:OA) (qk qm:Nat) (w:World) (K:KV):Prop:=
 Ac8 #[.int .i64 qd,.int .i64 qb,.slice qf qk qm] N.Hs3 w fun a b=>
 c3G b a fun c d e f g=>
 Aa1 P N.Hg6 #[.agg #[.int .i64 c,.int .i64 d,.slice e f g]] b fun b c=>
 vB_ b fun b=>
 cond (!b)
 (K (.tuple #[.slice none 0 0,.int .i64 4]) c)
 (c3G c a fun a b d e f=>
 Aa1 P N.Hh3 #[.agg #[.int .i64 a,.int .i64 b,.slice d e f],.agg #[.bool false,.slice none 0 0,.int .i64 0]] c fun a b=>
 ∃ c d e,∃ f,∃ g,a=(.tuple #[.agg #[.slice c d e,.int .i64 f],.bool g]) ∧
 Ac8 #[.slice none 0 0,.int .i64 0] N.Hi4 b fun a b=>
 stM a (.slice c d e) b fun b=>
 stM (a.add 1) (.int .i64 f) b fun b=>
 cond (!g)
 (K (.tuple #[.slice none 0 0,.int .i64 3]) b)
 (Aa1 P N.Hg1 #[.pointer (some a)] b fun b c=>
 vS_ b fun b d e=>
 Ad7 (σ:=(OA×Nat×Nat)×Unit) (fun e=>
 Ac3 (σ:=(OA×Nat×Nat)×Int×Unit) (fun c f g=>
 cond (decide (c.2.1<(d:Int)))
 ((0:Int)≤c.2.1∧c.2.1<(d:Nat) ∧
 Ab6 b fun b=>
 ∃ k:(OA),g.cell? (b.add (c.2.1.toNat*1))=some (.pointer k) ∧
 cI_ g (a.add 1) fun a=>
 Aa1 P N.Hi1 #[.pointer k,.int .i64 (i64.wrap (c.2.1*a))] g fun a b=>
 ∃ d,∃ e g h,∃ i,∃ j,a=(.tuple #[.agg #[.bool d,.slice e g h,.int .i64 i],.int .i64 j]) ∧
 Ac8 #[.bool false,.slice none 0 0,.int .i64 0] N.Hs7 b fun a b=>
 s3D a d e g h i b fun b=>
 cond (j != 0)
 (K (.tuple #[.slice none 0 0,.int .i64 3]) b)
 (c3D b a fun a d e g h=>
 Ac8 #[.bool a,.slice d e g,.int .i64 h] N.Hs7 b fun a b=>
 Bn8 N.Hs7 3 40 #[.bool false,.slice none 0 0,.int .i64 0] c.1.1 c.1.2.1 c.1.2.2 (some a) 1 b fun a b d e=>
 f ((a,b,d),(i64.wrap (c.2.1+1)),()) e))
 (e ((c.1.1,c.1.2.1,c.1.2.2),()) g))
 ((none,0,0),0,()) c)
 (fun a b=>
 Aa1 P N.Hf9 #[.slice a.1.1 a.1.2.1 a.1.2.2] b fun b c=>
 b=(.tuple #[]) ∧
 K (.tuple #[.slice a.1.1 a.1.2.1 a.1.2.2,.int .i64 0]) c)))
def Di4 (N:Nums) (P:Program) (qd:Int) (qb:Int) (qf:OA) (qk qm:Nat) (w:World) (K:KV):Prop:=
 Ac8 #[.int .i64 qd,.int .i64 qb,.slice qf qk qm] N.Hs3 w fun a b=>
 c3G b a fun c d e f g=>
 Aa1 P N.Hh6 #[.agg #[.int .i64 c,.int .i64 d,.slice e f g]] b fun b c=>
 vB_ b fun b=>
 cond (!b)
 (K (.tuple #[.slice none 0 0,.int .i64 4]) c)
 (c3G c a fun b d e f g=>
 drM c fun c=>
 Aa1 P N.Hl8 #[.int .i64 0] c fun c h=>
 v3D c fun c i j k l=>
 h.cell? a=some (.int .i64 b) ∧
 h.cell? (a.add 1)=some (.int .i64 d) ∧
 h.cell? (a.add 2)=some (.slice e f g) ∧
 drM h fun h=>
 Aa1 P N.Hj8 #[.agg #[.int .i64 b,.int .i64 d,.slice e f g],.agg #[.bool c,.slice i j k,.int .i64 l]] h fun b c=>
 vS_ b fun b d e=>
 drM c fun c=>
 cI_ c a fun f=>
 Aa1 P N.Hp0 #[.slice b d e,.int .i64 f] c fun c f=>
 vB_ c fun c=>
 cond c
 (K (.tuple #[.slice none 0 0,.int .i64 3]) f)
 (cI_ f a fun a=>
 Aa1 P N.Hg7 #[.slice b d e,.int .i64 a] f fun a b=>
 vS_ a fun a c d=>
 Ad7 (σ:=(OA×Nat×Nat)×Unit) (fun d=>
 Ac3 (σ:=(OA×Nat×Nat)×Int×Unit) (fun b e f=>
 cond (decide (b.2.1≥0))
 ((0:Int)≤b.2.1∧b.2.1<(c:Nat) ∧
 Ab6 a fun a=>
 cB_ f (a.add (b.2.1.toNat*3)) fun c=>
 cS_ f ((a.add (b.2.1.toNat*3)).add 1) fun d g h=>
 cI_ f ((a.add (b.2.1.toNat*3)).add 2) fun a=>
 Aa1 P N.Ho1 #[.agg #[.bool c,.slice d g h,.int .i64 a]] f fun a c=>
 ∃ d,∃ f g h,∃ i,∃ j,a=(.tuple #[.agg #[.bool d,.slice f g h,.int .i64 i],.int .i64 j]) ∧
 Ac8 #[.bool false,.slice none 0 0,.int .i64 0] N.Hs7 c fun a c=>
 s3D a d f g h i c fun c=>
 cond (j != 0)
 (K (.tuple #[.slice none 0 0,.int .i64 3]) c)
 (c3D c a fun a d f g h=>
 Ac8 #[.bool a,.slice d f g,.int .i64 h] N.Hs7 c fun a c=>
 Bn8 N.Hs7 3 40 #[.bool false,.slice none 0 0,.int .i64 0] b.1.1 b.1.2.1 b.1.2.2 (some a) 1 c fun a c d f=>
 e ((a,c,d),(i64.wrap (b.2.1-1)),()) f))
 (d ((b.1.1,b.1.2.1,b.1.2.2),()) f))
 ((none,0,0),(i64.wrap ((c:Int)-1)),()) b)
 (fun a b=>
 K (.tuple #[.slice a.1.1 a.1.2.1 a.1.2.2,.int .i64 0]) b)))
def Ca8 (N:Nums) (P:Program) (n:OA) (qj qq:Nat) (o:OA) (qu vf:Nat) (w:World) (K:KV):Prop:=
 cond ((qj:Int) != (qu:Int))
 (K (.bool false) w)
 (Ad7 (σ:=Unit) (fun a=>
 Ac3 (σ:=Int×Unit) (fun b c d=>
 cond (decide (b.1<(qj:Int)))
 ((0:Int)≤b.1∧b.1<(qj:Nat) ∧
 Ab6 n fun a=>
 cB_ d (a.add (b.1.toNat*3)) fun e=>
 cS_ d ((a.add (b.1.toNat*3)).add 1) fun f g h=>
 cI_ d ((a.add (b.1.toNat*3)).add 2) fun a=>
 (0:Int)≤b.1∧b.1<(qu:Nat) ∧
 Ab6 o fun i=>
 cB_ d (i.add (b.1.toNat*3)) fun j=>
 cS_ d ((i.add (b.1.toNat*3)).add 1) fun k l m=>
 cI_ d ((i.add (b.1.toNat*3)).add 2) fun i=>
 drM d fun d=>
 Aa1 P N.Hk7 #[.agg #[.bool e,.slice f g h,.int .i64 a],.agg #[.bool j,.slice k l m,.int .i64 i]] d fun a d=>
 vB_ a fun a=>
 drM d fun d=>
 cond (!a)
 (K (.bool false) d)
 (c ((i64.wrap (b.1+1)),()) d))
 (a (()) d))
 (0,()) w)
 (fun a b=>
 K (.bool true) b))
def Bp9 (N:Nums) (P:Program) (qd:Int) (qb:Int) (qf:OA) (qk qm:Nat) (w:World) (K:KV):Prop:=
 Ac8 #[.int .i64 qd,.int .i64 qb,.slice qf qk qm] N.Hs3 w fun a b=>
 cI_ b a fun c=>
 Aa1 P N.Hi6 #[.int .i64 c] b fun b c=>
 vB_ b fun b=>
 cond b
 (cI_ c (a.add 1) fun b=>
 Aa1 P N.Hi6 #[.int .i64 b] c fun b c=>
 vB_ b fun b=>
 cond b
 (cS_ c (a.add 2) fun b d e=>
 cI_ c a fun b=>
 cI_ c (a.add 1) fun e=>
 cond ((d:Int)==(i64.wrap (b*e)))
 (cS_ c (a.add 2) fun a b d=>
 Aa1 P N.Hf7 #[.slice a b d,.func (.func N.Hg9) #[] #[]] c fun a b=>
 vB_ a fun a=>
 K (.bool (!a)) b)
 (K (.bool false) c))
 (K (.bool false) c))
 (K (.bool false) c)
def Cz0 (N:Nums) (P:Program) (qd:Int) (qb:Int) (qf:OA) (qk qm:Nat) (w:World) (K:KV):Prop:=
 Ac8 #[.int .i64 qd,.int .i64 qb,.slice qf qk qm] N.Hs3 w fun a b=>
 Ad7 (σ:=Bool×Unit) (fun c=>
 cI_ b a fun d=>
 cond (!(decide (d<0)))
 (cI_ b a fun d=>
 cond (!(decide (d>48)))
 (cI_ b (a.add 1) fun d=>
 cond (!(decide (d<0)))
 (cI_ b (a.add 1) fun d=>
 cond (!(decide (d>48)))
 (cS_ b (a.add 2) fun d e f=>
 cI_ b a fun d=>
 cI_ b (a.add 1) fun a=>
 c (((e:Int) != (i64.wrap (d*a))),()) b)
 (c (true,()) b))
 (c (true,()) b))
 (c (true,()) b))
 (c (true,()) b))
 (fun b c=>
 cond b.1
 (K (.bool false) c)
 (Ad7 (σ:=Unit) (fun b=>
 Ac3 (σ:=Int×Unit) (fun c d e=>
 cS_ e (a.add 2) fun f g h=>
 cond (decide (c.1<(g:Int)))
 (cS_ e (a.add 2) fun a b f=>
 (0:Int)≤c.1∧c.1<(b:Nat) ∧
 Ab6 a fun a=>
 cB_ e (a.add (c.1.toNat*3)) fun b=>
 cS_ e ((a.add (c.1.toNat*3)).add 1) fun f g h=>
 cI_ e ((a.add (c.1.toNat*3)).add 2) fun a=>
 Aa1 P N.Hm8 #[.agg #[.bool b,.slice f g h,.int .i64 a]] e fun a b=>
 vB_ a fun a=>
 cond (!a)
 (K (.bool false) b)
 (d ((i64.wrap (c.1+1)),()) b))
 (b (()) e))
 (0,()) c)
 (fun a b=>
 K (.bool true) b)))
def Bc3 (N:Nums) (P:Program) (qd:Int) (qb:Int) (qf:OA) (qk qm:Nat) (w:World) (K:KV):Prop:=
 Ac8 #[.int .i64 qd,.int .i64 qb,.slice qf qk qm] N.Hs3 w fun a b=>
 Ad7 (σ:=Bool×Unit) (fun c=>
 c3G b a fun d e f g h=>
 Aa1 P N.Hh9 #[.agg #[.int .i64 d,.int .i64 e,.slice f g h]] b fun b d=>
 vB_ b fun b=>
 cond (!(!b))
 (cI_ d a fun b=>
 cI_ d (a.add 1) fun a=>
 c ((b != a),()) d)
 (c (true,()) d))
 (fun b c=>
 cond b.1
 (K (.bool false) c)
 (cI_ c a fun b=>
 Ad7 (σ:=Unit) (fun d=>
 Ac3 (σ:=Int×Unit) (fun c e f=>
 cond (decide (c.1<b))
 (Ad7 (σ:=Unit) (fun b=>
 Ac3 (σ:=Int×Unit) (fun d e f=>
 cond (decide (d.1<c.1))
 (cS_ f (a.add 2) fun b g h=>
 cI_ f (a.add 1) fun h=>
 (0:Int)≤(i64.wrap ((i64.wrap (c.1*h))+d.1))∧(i64.wrap ((i64.wrap (c.1*h))+d.1))<(g:Nat) ∧
 Ab6 b fun b=>
 ∃ g,f.cell? (b.add ((i64.wrap ((i64.wrap (c.1*h))+d.1)).toNat*3))=some (.bool g) ∧
 ∃ i j k,f.cell? ((b.add ((i64.wrap ((i64.wrap (c.1*h))+d.1)).toNat*3)).add 1)=some (.slice i j k) ∧
 ∃ l,f.cell? ((b.add ((i64.wrap ((i64.wrap (c.1*h))+d.1)).toNat*3)).add 2)=some (.int .i64 l) ∧
 cS_ f (a.add 2) fun b h m=>
 cI_ f (a.add 1) fun a=>
 (0:Int)≤(i64.wrap ((i64.wrap (d.1*a))+c.1))∧(i64.wrap ((i64.wrap (d.1*a))+c.1))<(h:Nat) ∧
 Ab6 b fun b=>
 ∃ h,f.cell? (b.add ((i64.wrap ((i64.wrap (d.1*a))+c.1)).toNat*3))=some (.bool h) ∧
 ∃ m n o,f.cell? ((b.add ((i64.wrap ((i64.wrap (d.1*a))+c.1)).toNat*3)).add 1)=some (.slice m n o) ∧
 ∃ p,f.cell? ((b.add ((i64.wrap ((i64.wrap (d.1*a))+c.1)).toNat*3)).add 2)=some (.int .i64 p) ∧
 drM f fun a=>
 Aa1 P N.Hn9 #[.agg #[.bool g,.slice i j k,.int .i64 l],.agg #[.bool h,.slice m n o,.int .i64 p]] a fun a b=>
 ∃ c,∃ f,a=(.tuple #[.int .i64 c,.int .i64 f]) ∧
 drM b fun a=>
 cond (c != 0)
 (K (.bool false) a)
 (e ((i64.wrap (d.1+1)),()) a))
 (b (()) f))
 (0,()) f)
 (fun a b=>
 e ((i64.wrap (c.1+1)),()) b))
 (d (()) f))
 (0,()) c)
 (fun a b=>
 K (.bool true) b)))
def Bo7 (N:Nums) (P:Program) (qd:Int) (qb:Int) (qf:OA) (qk qm:Nat) (w:World) (K:KV):Prop:=
 Ac8 #[.int .i64 qd,.int .i64 qb,.slice qf qk qm] N.Hs3 w fun a b=>
 Ad7 (σ:=Bool×Unit) (fun c=>
 c3G b a fun d e f g h=>
 Aa1 P N.Hn4 #[.agg #[.int .i64 d,.int .i64 e,.slice f g h]] b fun b d=>
 vB_ b fun b=>
 cond (!(!b))
 (cI_ d a fun b=>
 cI_ d (a.add 1) fun a=>
 c ((b != a),()) d)
 (c (true,()) d))
 (fun b c=>
 cond b.1
 (K (.bool false) c)
 (Ad7 (σ:=Unit) (fun b=>
 Ac3 (σ:=Int×Unit) (fun c d e=>
 cI_ e a fun f=>
 cond (decide (c.1<f))
 (Ad7 (σ:=Unit) (fun b=>
 Ac3 (σ:=Int×Unit) (fun d e f=>
 cond (decide (d.1<c.1))
 (cS_ f (a.add 2) fun b g h=>
 cI_ f (a.add 1) fun h=>
 (0:Int)≤(i64.wrap ((i64.wrap (c.1*h))+d.1))∧(i64.wrap ((i64.wrap (c.1*h))+d.1))<(g:Nat) ∧
 Ab6 b fun b=>
 ∃ g,f.cell? (b.add ((i64.wrap ((i64.wrap (c.1*h))+d.1)).toNat*3))=some (.bool g) ∧
 ∃ i j k,f.cell? ((b.add ((i64.wrap ((i64.wrap (c.1*h))+d.1)).toNat*3)).add 1)=some (.slice i j k) ∧
 ∃ l,f.cell? ((b.add ((i64.wrap ((i64.wrap (c.1*h))+d.1)).toNat*3)).add 2)=some (.int .i64 l) ∧
 cS_ f (a.add 2) fun b h m=>
 cI_ f (a.add 1) fun n=>
 (0:Int)≤(i64.wrap ((i64.wrap (d.1*n))+c.1))∧(i64.wrap ((i64.wrap (d.1*n))+c.1))<(h:Nat) ∧
 Ab6 b fun o=>
 ∃ p,f.cell? (o.add ((i64.wrap ((i64.wrap (d.1*n))+c.1)).toNat*3))=some (.bool p) ∧
 ∃ q r s,f.cell? ((o.add ((i64.wrap ((i64.wrap (d.1*n))+c.1)).toNat*3)).add 1)=some (.slice q r s) ∧
 ∃ t,f.cell? ((o.add ((i64.wrap ((i64.wrap (d.1*n))+c.1)).toNat*3)).add 2)=some (.int .i64 t) ∧
 drM f fun f=>
 Aa1 P N.Ho2 #[.agg #[.bool g,.slice i j k,.int .i64 l]] f fun f g=>
 v3D f fun f i j k l=>
 g.cell? (o.add ((i64.wrap ((i64.wrap (d.1*n))+c.1)).toNat*3))=some (.bool p) ∧
 g.cell? ((o.add ((i64.wrap ((i64.wrap (d.1*n))+c.1)).toNat*3)).add 1)=some (.slice q r s) ∧
 g.cell? ((o.add ((i64.wrap ((i64.wrap (d.1*n))+c.1)).toNat*3)).add 2)=some (.int .i64 t) ∧
 g.cell? (a.add 1)=some (.int .i64 n) ∧
 g.cell? (a.add 2)=some (.slice b h m) ∧
 drM g fun a=>
 Aa1 P N.Ho2 #[.agg #[.bool p,.slice q r s,.int .i64 t]] a fun a b=>
 v3D a fun a c g h m=>
 drM b fun b=>
 Aa1 P N.Hj7 #[.agg #[.bool f,.slice i j k,.int .i64 l],.agg #[.bool a,.slice c g h,.int .i64 m]] b fun a b=>
 ∃ c,a=(.int .i64 c) ∧
 drM b fun a=>
 cond (c != 0)
 (K (.bool false) a)
 (e ((i64.wrap (d.1+1)),()) a))
 (b (()) f))
 (0,()) e)
 (fun a b=>
 d ((i64.wrap (c.1+1)),()) b))
 (b (()) e))
 (0,()) c)
 (fun a b=>
 K (.bool true) b)))
def Bn0 (N:Nums) (P:Program) (qd:Int) (qb:Int) (qf:OA) (qk qm:Nat) (qt:Int) (qs:Int) (qw:OA) (vm vn:Nat) (w:World) (K:KV):Prop:=
 Ac8 #[.int .i64 qd,.int .i64 qb,.slice qf qk qm] N.Hs3 w fun a b=>
 Ac8 #[.int .i64 qt,.int .i64 qs,.slice qw vm vn] N.Hs3 b fun b c=>
 c3G c a fun d e f g h=>
 c3G c b fun i j k l m=>
 Aa1 P N.Hh2 #[.agg #[.int .i64 d,.int .i64 e,.slice f g h],.agg #[.int .i64 i,.int .i64 j,.slice k l m]] c fun c d=>
 vB_ c fun c=>
 cond c
 (cS_ d (a.add 2) fun a c e=>
 cS_ d (b.add 2) fun b f g=>
 Aa1 P N.Hj5 #[.slice a c e,.slice b f g] d fun a b=>
 vB_ a fun a=>
 K (.bool a) b)
 (K (.bool false) d)
def Cj8 (N:Nums) (P:Program) (qd:Bool) (qb:OA) (qe qg:Nat) (qf:Int) (qt:Bool) (qs:OA) (qo qp:Nat) (qw:Int) (w:World) (K:KV):Prop:=
 Ac8 #[.bool qd,.slice qb qe qg,.int .i64 qf] N.Hs7 w fun a b=>
 Ac8 #[.bool qt,.slice qs qo qp,.int .i64 qw] N.Hs7 b fun b c=>
 c3D c a fun d e f g h=>
 c3D c b fun i j k l m=>
 Aa1 P N.Hk7 #[.agg #[.bool d,.slice e f g,.int .i64 h],.agg #[.bool i,.slice j k l,.int .i64 m]] c fun c d=>
 vB_ c fun c=>
 cond c
 (cS_ d (a.add 1) fun a c e=>
 cS_ d (b.add 1) fun b f g=>
 Aa1 P N.Hj9 #[.slice a c e,.slice b f g] d fun a b=>
 vB_ a fun a=>
 K (.bool a) b)
 (K (.bool false) d)
def Er3 (N:Nums) (P:Program) (m:Int) (n:OA) (qu vf:Nat) (w:World) (K:KV):Prop:=
 Ac8 #[.int .i64 0,.int .i64 0,.slice none 0 0] N.Hs3 w fun a b=>
 Ac8 #[.int .i64 0,.int .i64 0,.slice none 0 0] N.Hs3 b fun b c=>
 s3G b m m none 0 0 c fun c=>
 Ad7 (σ:=Unit) (fun a=>
 Ac3 (σ:=Int×Unit) (fun c d e=>
 cond (decide (c.1<(qu:Int)))
 (cS_ e (b.add 2) fun a f g=>
 (0:Int)≤c.1∧c.1<(qu:Nat) ∧
 Ab6 n fun h=>
 cI_ e (h.add (c.1.toNat*1)) fun h=>
 drM e fun e=>
 Aa1 P N.Hp4 #[.int .i64 h] e fun e h=>
 v3D e fun e i j k l=>
 h.cell? (b.add 2)=some (.slice a f g) ∧
 drM h fun h=>
 Ac8 #[.bool e,.slice i j k,.int .i64 l] N.Hs7 h fun e h=>
 h.cell? (b.add 2)=some (.slice a f g) ∧
 drM h fun h=>
 Bn8 N.Hs7 3 40 #[.bool false,.slice none 0 0,.int .i64 0] a f g (some e) 1 h fun a e f g=>
 drM g fun g=>
 stM (b.add 2) (.slice a e f) g fun a=>
 drM a fun a=>
 d ((i64.wrap (c.1+1)),()) a)
 (a (()) e))
 (0,()) c)
 (fun c d=>
 c3G d b fun b c e f g=>
 s3G a b c e f g d fun b=>
 c3G b a fun a c d e f=>
 K (.agg #[.int .i64 a,.int .i64 c,.slice d e f]) b)
def Dr2 (N:Nums) (P:Program) (j:Int) (w:World) (K:KV):Prop:=
 Ac8 #[.bool false,.slice none 0 0,.int .i64 0] N.Hs7 w fun a b=>
 Aa1 P N.Hl8 #[.int .i64 j] b fun b c=>
 v3D b fun b d e f g=>
 Aa1 P N.Ho1 #[.agg #[.bool b,.slice d e f,.int .i64 g]] c fun b c=>
 ∃ d,∃ e f g,∃ h,∃ i,b=(.tuple #[.agg #[.bool d,.slice e f g,.int .i64 h],.int .i64 i]) ∧
 Ac8 #[.bool false,.slice none 0 0,.int .i64 0] N.Hs7 c fun b c=>
 s3D b d e f g h c fun c=>
 c3D c b fun b d e f g=>
 s3D a b d e f g c fun b=>
 c3D b a fun a c d e f=>
 K (.agg #[.bool a,.slice c d e,.int .i64 f]) b
def Bz6 (N:Nums) (P:Program) (j:OA) (qj qq:Nat) (w:World) (K:KV):Prop:=
 mkM N.Hs7 3 40 #[.bool false,.slice none 0 0,.int .i64 0] 0 (i64.wrap ((qj:Int)+12)) w fun a b=>
 Ad7 (σ:=(OA×Nat×Nat)×Unit) (fun c=>
 Ac3 (σ:=(OA×Nat×Nat)×Int×Unit) (fun a b d=>
 cond (decide (a.2.1<(qj:Int)))
 ((0:Int)≤a.2.1∧a.2.1<(qj:Nat) ∧
 Ab6 j fun c=>
 cB_ d (c.add (a.2.1.toNat*3)) fun e=>
 cS_ d ((c.add (a.2.1.toNat*3)).add 1) fun f g h=>
 cI_ d ((c.add (a.2.1.toNat*3)).add 2) fun c=>
 Aa1 P N.Hk5 #[.agg #[.bool e,.slice f g h,.int .i64 c]] d fun c d=>
 v3D c fun c e f g h=>
 Ac8 #[.bool false,.slice none 0 0,.int .i64 0] N.Hs7 d fun d i=>
 s3D d c e f g h i fun c=>
 c3D c d fun d e f g h=>
 Ac8 #[.bool d,.slice e f g,.int .i64 h] N.Hs7 c fun c d=>
 Bn8 N.Hs7 3 40 #[.bool false,.slice none 0 0,.int .i64 0] a.1.1 a.1.2.1 a.1.2.2 (some c) 1 d fun c d e f=>
 b ((c,d,e),(i64.wrap (a.2.1+1)),()) f)
 (c ((a.1.1,a.1.2.1,a.1.2.2),()) d))
 (((some a),(0:Int).toNat,(i64.wrap ((qj:Int)+12)).toNat),0,()) b)
 (fun a b=>
 Ad7 (σ:=(OA×Nat×Nat)×Unit) (fun c=>
 Ac3 (σ:=(OA×Nat×Nat)×Int×Unit) (fun a b d=>
 cond (decide (a.2.1<12))
 (Aa1 P N.Hk3 #[.int .i64 1,.int .i64 a.2.1] d fun c d=>
 v3D c fun c e f g h=>
 Ac8 #[.bool c,.slice e f g,.int .i64 h] N.Hs7 d fun c d=>
 Bn8 N.Hs7 3 40 #[.bool false,.slice none 0 0,.int .i64 0] a.1.1 a.1.2.1 a.1.2.2 (some c) 1 d fun c d e f=>
 b ((c,d,e),(i64.wrap (a.2.1+1)),()) f)
 (c ((a.1.1,a.1.2.1,a.1.2.2),()) d))
 ((a.1.1,a.1.2.1,a.1.2.2),0,()) b)
 (fun a b=>
 (0:Int)≤(qj:Int)∧(qj:Int)≤(a.1.2.2:Nat) ∧
 K (.slice (Ak1 a.1.1 0 a.1.2.2 3) ((qj:Int).toNat) a.1.2.2) b))
def Ca5 (N:Nums) (P:Program) (g:OA) (qj qq:Nat) (w:World) (K:KV):Prop:=
 mkM N.Hr2 1 8 #[.int .u64 0] 0 (i64.wrap ((qj:Int)+12)) w fun a b=>
 Bn8 N.Hr2 1 8 #[.int .u64 0] (some a) ((0:Int).toNat) ((i64.wrap ((qj:Int)+12)).toNat) g qj b fun a b c d=>
 Ad7 (σ:=(OA×Nat×Nat)×Unit) (fun e=>
 Ac3 (σ:=(OA×Nat×Nat)×Int×Unit) (fun a b c=>
 cond (decide (a.2.1<12))
 (Aa1 P N.Hs1 #[.int .i64 1,.int .i64 a.2.1] c fun c d=>
 ∃ e,c=(.int .i64 e) ∧
 Ac8 #[.int .u64 (u64.wrap e)] N.Hr2 d fun c d=>
 Bn8 N.Hr2 1 8 #[.int .u64 0] a.1.1 a.1.2.1 a.1.2.2 (some c) 1 d fun c d e f=>
 b ((c,d,e),(i64.wrap (a.2.1+1)),()) f)
 (e ((a.1.1,a.1.2.1,a.1.2.2),()) c))
 ((a,b,c),0,()) d)
 (fun a b=>
 (0:Int)≤(qj:Int)∧(qj:Int)≤(a.1.2.2:Nat) ∧
 K (.slice (Ak1 a.1.1 0 a.1.2.2 1) ((qj:Int).toNat) a.1.2.2) b)
def Bl6 (N:Nums) (P:Program) (qd:Int) (qb:Int) (qf:OA) (qk qm:Nat) (qt:Bool) (qs:OA) (qo qp:Nat) (qw:Int) (w:World) (K:KV):Prop:=
 Ac8 #[.int .i64 qd,.int .i64 qb,.slice qf qk qm] N.Hs3 w fun a b=>
 Ac8 #[.bool qt,.slice qs qo qp,.int .i64 qw] N.Hs7 b fun b c=>
 Ac8 #[.slice none 0 0,.int .i64 0] N.Hi4 c fun c d=>
 cI_ d a fun e=>
 mkM N.Hl3 1 24 #[.slice none 0 0] e e d fun d f=>
 Ac8 #[.slice none 0 0,.int .i64 0] N.Hi4 f fun f g=>
 stM f (.slice (some d) e.toNat e.toNat) g fun d=>
 stM (f.add 1) (.int .i64 65536) d fun d=>
 Ad7 (σ:=(OA×Nat×Nat)×Int×Int×Unit) (fun c=>
 cS_ d (a.add 2) fun e f g=>
 c3D d b fun h i j k l=>
 (drM d fun a=>
 Aa1 P N.Hg0 #[.slice e f g] a fun a d=>
 vS_ a fun a e f=>
 k3D d b h i j k l fun _=>
 drM d fun b=>
 Ac8 #[.bool h,.slice i j k,.int .i64 l] N.Hs7 b fun b d=>
 drM d fun d=>
 Bn8 N.Hs7 3 40 #[.bool false,.slice none 0 0,.int .i64 0] a e f (some b) 1 d fun a b d e=>
 drM e fun e=>
 c ((a,b,d),(b:Int),0,()) e) ∧
 (drM d fun b=>
 Ac8 #[.bool h,.slice i j k,.int .i64 l] N.Hs7 b fun b d=>
 d.cell? (a.add 2)=some (.slice e f g) ∧
 drM d fun a=>
 Aa1 P N.Hg0 #[.slice e f g] a fun a d=>
 vS_ a fun a e f=>
 drM d fun d=>
 Bn8 N.Hs7 3 40 #[.bool false,.slice none 0 0,.int .i64 0] a e f (some b) 1 d fun a b d e=>
 drM e fun e=>
 c ((a,b,d),(b:Int),0,()) e))
 (fun d e=>
 Ad7 (σ:=Unit) (fun a=>
 Ac3 (σ:=Int×Unit) (fun b c e=>
 cond (decide (b.1<d.2.1))
 (Ad7 (σ:=Unit) (fun a=>
 (0:Int)≤b.1∧b.1<(d.1.2.1:Nat) ∧
 Ab6 d.1.1 fun c=>
 cB_ e (c.add (b.1.toNat*3)) fun d=>
 cS_ e ((c.add (b.1.toNat*3)).add 1) fun g h i=>
 cI_ e ((c.add (b.1.toNat*3)).add 2) fun b=>
 Ac8 #[.bool false,.slice none 0 0,.int .i64 0] N.Hs7 e fun c e=>
 s3D c d g h i b e fun b=>
 cS_ b (c.add 1) fun d e g=>
 Ad7 (σ:=Unit) (fun a=>
 cond (decide ((e:Int)>0))
 (cI_ b (f.add 1) fun d=>
 cI_ b (c.add 2) fun c=>
 stM (f.add 1) (.int .i64 (if c<d then c else d)) b fun b=>
 a (()) b)
 (a (()) b))
 (fun b c=>
 a (()) c))
 (fun a d=>
 c ((i64.wrap (b.1+1)),()) d))
 (a (()) e))
 (d.2.2.1,()) e)
 (fun d e=>
 cI_ e a fun d=>
 Ad7 (σ:=Int×Int×Unit) (fun c=>
 Ac3 (σ:=Int×Int×Int×Unit) (fun e g h=>
 cond (decide (e.2.2.1<d))
 (cI_ h (a.add 1) fun c=>
 Ad7 (σ:=Int×Int×Unit) (fun d=>
 Ac3 (σ:=Int×Int×Int×Unit) (fun g h i=>
 cond (decide (g.2.2.1<c))
 (cS_ i (a.add 2) fun c d j=>
 cI_ i (a.add 1) fun a=>
 (0:Int)≤(i64.wrap ((i64.wrap (e.2.2.1*a))+g.2.2.1))∧(i64.wrap ((i64.wrap (e.2.2.1*a))+g.2.2.1))<(d:Nat) ∧
 Ab6 c fun c=>
 ∃ d,i.cell? (c.add ((i64.wrap ((i64.wrap (e.2.2.1*a))+g.2.2.1)).toNat*3))=some (.bool d) ∧
 ∃ j k l,i.cell? ((c.add ((i64.wrap ((i64.wrap (e.2.2.1*a))+g.2.2.1)).toNat*3)).add 1)=some (.slice j k l) ∧
 ∃ m,i.cell? ((c.add ((i64.wrap ((i64.wrap (e.2.2.1*a))+g.2.2.1)).toNat*3)).add 2)=some (.int .i64 m) ∧
 cI_ i (f.add 1) fun a=>
 drM i fun c=>
 Aa1 P N.Hh8 #[.agg #[.bool d,.slice j k l,.int .i64 m],.int .i64 a] c fun a c=>
 ∃ r:(OA),a=(.pointer r) ∧
 drM c fun a=>
 Ad7 (σ:=Unit) (fun c=>
 cond (e.2.2.1==g.2.2.1)
 (c3D a b fun b d e g h=>
 cI_ a (f.add 1) fun f=>
 Aa1 P N.Hh8 #[.agg #[.bool b,.slice d e g,.int .i64 h],.int .i64 f] a fun a b=>
 ∃ t:(OA),a=(.pointer t) ∧
 Aa1 P N.Hq6 #[.pointer r,.pointer r,.pointer t] b fun a b=>
 ∃ u:(OA),a=(.pointer u) ∧
 c (()) b)
 (c (()) a))
 (fun a b=>
 Aa1 P N.Hp5 #[.pointer r] b fun a b=>
 ∃ c,a=(.int .i64 c) ∧
 Ad7 (σ:=Int×Int×Unit) (fun a=>
 cond (c != 0)
 (Aa1 P N.Hg4 #[.pointer r] b fun b c=>
 ∃ d,b=(.int .u64 d) ∧
 Aa1 P N.Hm4 #[.pointer r] c fun b c=>
 ∃ e,b=(.int .i64 e) ∧
 a ((if (i64.wrap d)<g.1 then (i64.wrap d) else g.1),(if e>g.2.1 then e else g.2.1),()) c)
 (a (g.1,g.2.1,()) b))
 (fun a b=>
 cS_ b f fun c d i=>
 cS_ b f fun j k l=>
 (0:Int)≤e.2.2.1∧e.2.2.1<(k:Nat) ∧
 Ab6 j fun m=>
 cS_ b (m.add (e.2.2.1.toNat*1)) fun n o p=>
 drM b fun b=>
 Ac8 #[.pointer r] N.Ho7 b fun b q=>
 q.cell? (m.add (e.2.2.1.toNat*1))=some (.slice n o p) ∧
 q.cell? f=some (.slice j k l) ∧
 q.cell? f=some (.slice c d i) ∧
 drM q fun j=>
 Bn8 N.Ho7 1 8 #[.pointer none] n o p (some b) 1 j fun b j k l=>
 l.cell? f=some (.slice c d i) ∧
 (0:Int)≤e.2.2.1∧e.2.2.1<(d:Nat) ∧
 Ab6 c fun c=>
 drM l fun d=>
 stM (c.add (e.2.2.1.toNat*1)) (.slice b j k) d fun b=>
 drM b fun b=>
 h (a.1,a.2.1,(i64.wrap (g.2.2.1+1)),()) b)))
 (d (g.1,g.2.1,()) i))
 (e.1,e.2.1,0,()) h)
 (fun a b=>
 g (a.1,a.2.1,(i64.wrap (e.2.2.1+1)),()) b))
 (c (e.1,e.2.1,()) h))
 (1073741824,0,0,()) e)
 (fun b d=>
 cond (b.2.1==0)
 (cS_ d f fun a b e=>
 cI_ d (f.add 1) fun f=>
 stM c (.slice a b e) d fun a=>
 stM (c.add 1) (.int .i64 f) a fun a=>
 cS_ a c fun b d e=>
 cI_ a (c.add 1) fun c=>
 K (.tuple #[.agg #[.slice b d e,.int .i64 c],.bool true]) a)
 (cS_ d f fun e g h=>
 Ad7 (σ:=Unit) (fun a=>
 Ac3 (σ:=Int×Unit) (fun c d f=>
 cond (decide (c.1<(g:Int)))
 ((0:Int)≤c.1∧c.1<(g:Nat) ∧
 Ab6 e fun a=>
 cS_ f (a.add (c.1.toNat*1)) fun a e g=>
 Ad7 (σ:=Unit) (fun c=>
 Ac3 (σ:=Int×Unit) (fun d f g=>
 cond (decide (d.1<(e:Int)))
 ((0:Int)≤d.1∧d.1<(e:Nat) ∧
 Ab6 a fun a=>
 ∃ s:(OA),g.cell? (a.add (d.1.toNat*1))=some (.pointer s) ∧
 Aa1 P N.Hr1 #[.pointer s,.pointer s,.int .u64 (u64.wrap b.1)] g fun a b=>
 ∃ v:(OA),a=(.pointer v) ∧
 f ((i64.wrap (d.1+1)),()) b)
 (c (()) g))
 (0,()) f)
 (fun a b=>
 d ((i64.wrap (c.1+1)),()) b))
 (a (()) f))
 (0,()) d)
 (fun d e=>
 cI_ e (f.add 1) fun d=>
 stM (f.add 1) (.int .i64 (i64.wrap (d+b.1))) e fun d=>
 cS_ d f fun e g h=>
 cI_ d (f.add 1) fun f=>
 cI_ d a fun i=>
 drM d fun d=>
 stM c (.slice e g h) d fun d=>
 stM (c.add 1) (.int .i64 f) d fun d=>
 d.cell? a=some (.int .i64 i) ∧
 drM d fun a=>
 cS_ a c fun d e f=>
 cI_ a (c.add 1) fun c=>
 K (.tuple #[.agg #[.slice d e f,.int .i64 c],.bool (decide ((i64.wrap ((i64.wrap (b.2.1-b.1))*i))≤8192))]) a)))))
def Aw9 (N:Nums) (P:Program) (z:OA) (w:World) (K:KV):Prop:=
 Ac8 #[.int .i64 0,.int .i64 0,.int .i64 0] N.Hs2 w fun a b=>
 Ab6 z fun c=>
 cS_ b c fun c d e=>
 Aa1 P N.Hm0 #[.int .i64 1] b fun b c=>
 ∃ p7:(OA),b=(.pointer p7) ∧
 Ac8 #[.int .i64 0,.int .i64 0,.int .i64 0] N.Hs2 c fun b c=>
 Ad7 (σ:=Unit) (fun e=>
 Ac3 (σ:=(OA)×Int×Unit) (fun c f g=>
 cond (decide (c.2.1<(d:Int)))
 (Aa1 P N.Hg2 #[.pointer z,.int .i64 c.2.1] g fun e g=>
 vB_ e fun e=>
 cond (!e)
 (stM (b.add 1) (.int .i64 (i64.wrap ((d:Int)-c.2.1))) g fun c=>
 c3S c b fun b d e=>
 stM a (.int .i64 b) c fun b=>
 stM (a.add 1) (.int .i64 d) b fun b=>
 stM (a.add 2) (.int .i64 e) b fun b=>
 c3S b a fun a c d=>
 K (.agg #[.int .i64 a,.int .i64 c,.int .i64 d]) b)
 (Ab6 z fun a=>
 cS_ g a fun a e h=>
 (0:Int)≤c.2.1∧c.2.1<(e:Nat) ∧
 Ab6 a fun a=>
 cS_ g (a.add (c.2.1.toNat*1)) fun a e h=>
 (0:Int)≤c.2.1∧c.2.1<(e:Nat) ∧
 Ab6 a fun a=>
 ∃ ab:(OA),g.cell? (a.add (c.2.1.toNat*1))=some (.pointer ab) ∧
 Aa1 P N.Hp5 #[.pointer ab] g fun a e=>
 ∃ g,a=(.int .i64 g) ∧
 Aa1 P N.Hp5 #[.pointer c.1] e fun a e=>
 ∃ h,a=(.int .i64 h) ∧
 Ad7 (σ:=Unit) (fun a=>
 cond (g==h)
 (cI_ e (b.add 2) fun c=>
 stM (b.add 2) (.int .i64 (i64.wrap (c+1))) e fun b=>
 a (()) b)
 (cI_ e b fun c=>
 stM b (.int .i64 (i64.wrap (c+1))) e fun b=>
 a (()) b))
 (fun a b=>
 Ad7 (σ:=Unit) (fun a=>
 Ac3 (σ:=Int×Unit) (fun b e f=>
 cond (decide (b.1<(d:Int)))
 (Ad7 (σ:=Unit) (fun a=>
 Ac3 (σ:=Int×Unit) (fun e f g=>
 cond (decide (e.1<(d:Int)))
 (Ac8 #[.bool false,.slice none 0 0] N.Hr0 g fun a d=>
 Ab6 z fun g=>
 cS_ d g fun g h i=>
 (0:Int)≤b.1∧b.1<(h:Nat) ∧
 Ab6 g fun g=>
 cS_ d (g.add (b.1.toNat*1)) fun g h i=>
 (0:Int)≤e.1∧e.1<(h:Nat) ∧
 Ab6 g fun g=>
 ∃ ae:(OA),d.cell? (g.add (e.1.toNat*1))=some (.pointer ae) ∧
 Aa1 P N.Hq7 #[.pointer (some a),.pointer ab,.pointer ae] d fun a d=>
 ∃ aa:(OA),a=(.pointer aa) ∧
 Ab6 z fun a=>
 cS_ d a fun g h i=>
 (0:Int)≤b.1∧b.1<(h:Nat) ∧
 Ab6 g fun j=>
 cS_ d (j.add (b.1.toNat*1)) fun k l m=>
 (0:Int)≤c.2.1∧c.2.1<(l:Nat) ∧
 Ab6 k fun n=>
 ∃ ac:(OA),d.cell? (n.add (c.2.1.toNat*1))=some (.pointer ac) ∧
 Ab6 z fun o=>
 cS_ d o fun p q r=>
 (0:Int)≤c.2.1∧c.2.1<(q:Nat) ∧
 Ab6 p fun s=>
 cS_ d (s.add (c.2.1.toNat*1)) fun t u v=>
 (0:Int)≤e.1∧e.1<(u:Nat) ∧
 Ab6 t fun x=>
 ∃ ad:(OA),d.cell? (x.add (e.1.toNat*1))=some (.pointer ad) ∧
 drM d fun d=>
 Ac8 #[.bool false,.slice none 0 0] N.Hr0 d fun d y=>
 y.cell? (x.add (e.1.toNat*1))=some (.pointer ad) ∧
 y.cell? (s.add (c.2.1.toNat*1))=some (.slice t u v) ∧
 y.cell? o=some (.slice p q r) ∧
 y.cell? (n.add (c.2.1.toNat*1))=some (.pointer ac) ∧
 y.cell? (j.add (b.1.toNat*1))=some (.slice k l m) ∧
 y.cell? a=some (.slice g h i) ∧
 drM y fun a=>
 Aa1 P N.Hq7 #[.pointer (some d),.pointer ac,.pointer ad] a fun a d=>
 ∃ af:(OA),a=(.pointer af) ∧
 drM d fun a=>
 Aa1 P N.Hq6 #[.pointer aa,.pointer aa,.pointer af] a fun a d=>
 ∃ ah:(OA),a=(.pointer ah) ∧
 drM d fun a=>
 Ab6 z fun d=>
 cS_ a d fun g h i=>
 (0:Int)≤b.1∧b.1<(h:Nat) ∧
 Ab6 g fun j=>
 cS_ a (j.add (b.1.toNat*1)) fun k l m=>
 drM a fun a=>
 Aa1 P N.Hs0 #[.pointer aa,.pointer aa,.pointer c.1] a fun a c=>
 ∃ ag:(OA),a=(.pointer ag) ∧
 c.cell? (j.add (b.1.toNat*1))=some (.slice k l m) ∧
 c.cell? d=some (.slice g h i) ∧
 (0:Int)≤e.1∧e.1<(l:Nat) ∧
 Ab6 k fun a=>
 drM c fun b=>
 stM (a.add (e.1.toNat*1)) (.pointer ag) b fun a=>
 drM a fun a=>
 f ((i64.wrap (e.1+1)),()) a)
 (a (()) g))
 ((i64.wrap (c.2.1+1)),()) f)
 (fun a c=>
 e ((i64.wrap (b.1+1)),()) c))
 (a (()) f))
 ((i64.wrap (c.2.1+1)),()) b)
 (fun a b=>
 f (ab,(i64.wrap (c.2.1+1)),()) b))))
 (e (()) g))
 (p7,0,()) c)
 (fun c d=>
 c3S d b fun b c e=>
 stM a (.int .i64 b) d fun b=>
 stM (a.add 1) (.int .i64 c) b fun b=>
 stM (a.add 2) (.int .i64 e) b fun b=>
 c3S b a fun a c d=>
 K (.agg #[.int .i64 a,.int .i64 c,.int .i64 d]) b)
def By4 (N:Nums) (P:Program) (qd:Int) (qb:Int) (qf:OA) (qk qm:Nat) (qt:Bool) (qs:OA) (qo qp:Nat) (qw:Int) (w:World) (K:KV):Prop:=
 Ac8 #[.int .i64 qd,.int .i64 qb,.slice qf qk qm] N.Hs3 w fun a b=>
 Ac8 #[.bool qt,.slice qs qo qp,.int .i64 qw] N.Hp2 b fun b c=>
 Ad7 (σ:=(OA×Nat×Nat)×Unit) (fun d=>
 Ac3 (σ:=(OA×Nat×Nat)×Int×Unit) (fun c e f=>
 cS_ f (a.add 2) fun g h i=>
 cond (decide (c.2.1<(h:Int)))
 (cS_ f (a.add 2) fun d g h=>
 (0:Int)≤c.2.1∧c.2.1<(g:Nat) ∧
 Ab6 d fun d=>
 cB_ f (d.add (c.2.1.toNat*3)) fun g=>
 cS_ f ((d.add (c.2.1.toNat*3)).add 1) fun h i j=>
 cI_ f ((d.add (c.2.1.toNat*3)).add 2) fun d=>
 Aa1 P N.Ho2 #[.agg #[.bool g,.slice h i j,.int .i64 d]] f fun d f=>
 v3D d fun d g h i j=>
 Ac8 #[.bool false,.slice none 0 0,.int .i64 0] N.Hp2 f fun f k=>
 s3D f d g h i j k fun d=>
 cI_ d (a.add 1) fun g=>
 (g:Int)≠0 ∧
 cI_ d (a.add 1) fun a=>
 (a:Int)≠0 ∧
 drM d fun d=>
 Ad7 (σ:=Unit) (fun e=>
 cond ((i64.wrap (c.2.1.tdiv g))==(c.2.1.tmod a))
 (c3D d f fun a c g h i=>
 c3D d b fun b j k l m=>
 drM d fun d=>
 Aa1 P N.Hn6 #[.agg #[.bool b,.slice j k l,.int .i64 m]] d fun b d=>
 v3D b fun b j k l m=>
 k3D d f a c g h i fun _=>
 drM d fun d=>
 Aa1 P N.Ho5 #[.agg #[.bool a,.slice c g h,.int .i64 i],.agg #[.bool b,.slice j k l,.int .i64 m]] d fun a b=>
 v3D a fun a c d g h=>
 drM b fun b=>
 s3D f a c d g h b fun a=>
 drM a fun a=>
 e (()) a)
 (e (()) d))
 (fun a b=>
 c3D b f fun a d f g h=>
 Ac8 #[.bool a,.slice d f g,.int .i64 h] N.Hp2 b fun a b=>
 Bn8 N.Hp2 3 40 #[.bool false,.slice none 0 0,.int .i64 0] c.1.1 c.1.2.1 c.1.2.2 (some a) 1 b fun a b d f=>
 e ((a,b,d),(i64.wrap (c.2.1+1)),()) f))
 (d ((c.1.1,c.1.2.1,c.1.2.2),()) f))
 ((none,0,0),0,()) c)
 (fun a b=>
 K (.slice a.1.1 a.1.2.1 a.1.2.2) b)
def Cv9 (N:Nums) (P:Program) (h:Int) (w:World) (K:KV):Prop:=
 Ac8 #[.bool false,.slice none 0 0,.int .i64 0] N.Hp2 w fun a b=>
 Ac8 #[.bool false,.slice none 0 0,.int .i64 0] N.Hp2 b fun b c=>
 stM b (.bool (decide (h<0))) c fun c=>
 stM (b.add 1) (.slice none 0 0) c fun c=>
 stM (b.add 2) (.int .i64 0) c fun c=>
 Ad7 (σ:=Int×Unit) (fun a=>
 cond (decide (h<0))
 (a ((u64.wrap (0-(u64.wrap h))),()) c)
 (a ((u64.wrap h),()) c))
 (fun c d=>
 Aa1 P N.Hm5 #[.int .u64 c.1] d fun c d=>
 vS_ c fun c e f=>
 stM (b.add 1) (.slice c e f) d fun c=>
 c3D c b fun b d e f g=>
 s3D a b d e f g c fun b=>
 c3D b a fun a c d e f=>
 K (.agg #[.bool a,.slice c d e,.int .i64 f]) b)
def Df7 (N:Nums) (P:Program) (k:OA) (qj qq:Nat) (l:Int) (w:World) (K:KV):Prop:=
 Ad7 (σ:=Int×Int×Unit) (fun a=>
 Ac3 (σ:=Int×Int×Int×Unit) (fun b c d=>
 cond (decide (b.2.2.1<(qj:Int)))
 (Ad7 (σ:=Int×Int×Unit) (fun a=>
 (0:Int)≤b.2.2.1∧b.2.2.1<(qj:Nat) ∧
 Ab6 k fun c=>
 cB_ d (c.add (b.2.2.1.toNat*3)) fun e=>
 cS_ d ((c.add (b.2.2.1.toNat*3)).add 1) fun f g h=>
 cI_ d ((c.add (b.2.2.1.toNat*3)).add 2) fun c=>
 Aa1 P N.Hi0 #[.agg #[.bool e,.slice f g h,.int .i64 c]] d fun c d=>
 vB_ c fun c=>
 cond c
 (a (b.1,b.2.1,()) d)
 ((0:Int)≤b.2.2.1∧b.2.2.1<(qj:Nat) ∧
 Ab6 k fun c=>
 cI_ d ((c.add (b.2.2.1.toNat*3)).add 2) fun e=>
 (0:Int)≤b.2.2.1∧b.2.2.1<(qj:Nat) ∧
 Ab6 k fun f=>
 cS_ d ((f.add (b.2.2.1.toNat*3)).add 1) fun f g h=>
 drM d fun d=>
 Aa1 P N.Hm2 #[.slice f g h] d fun d f=>
 ∃ g,d=(.int .i64 g) ∧
 f.cell? ((c.add (b.2.2.1.toNat*3)).add 2)=some (.int .i64 e) ∧
 drM f fun c=>
 (0:Int)≤b.2.2.1∧b.2.2.1<(qj:Nat) ∧
 Ab6 k fun d=>
 cI_ c ((d.add (b.2.2.1.toNat*3)).add 2) fun f=>
 (0:Int)≤b.2.2.1∧b.2.2.1<(qj:Nat) ∧
 Ab6 k fun h=>
 cS_ c ((h.add (b.2.2.1.toNat*3)).add 1) fun h i j=>
 drM c fun c=>
 Aa1 P N.Hj6 #[.slice h i j] c fun c h=>
 ∃ i,c=(.int .i64 i) ∧
 h.cell? ((d.add (b.2.2.1.toNat*3)).add 2)=some (.int .i64 f) ∧
 drM h fun c=>
 a ((if (i64.wrap (e+g))<b.1 then (i64.wrap (e+g)) else b.1),(if (i64.wrap (f+i))>b.2.1 then (i64.wrap (f+i)) else b.2.1),()) c))
 (fun a d=>
 c (a.1,a.2.1,(i64.wrap (b.2.2.1+1)),()) d))
 (a (b.1,b.2.1,()) d))
 (1099511627776,(-1099511627776),0,()) w)
 (fun a b=>
 cond (decide (a.2.1>a.1))
 (K (.bool (decide ((i64.wrap ((i64.wrap (a.2.1-a.1))*l))>8192))) b)
 (K (.bool false) b))
def Cw0 (N:Nums) (P:Program) (j:OA) (qj qq:Nat) (w:World) (K:KV):Prop:=
 Ac8 #[.int .i64 0,.int .i64 0,.int .i64 0] N.Hs2 w fun a b=>
 Ac8 #[.int .i64 0,.int .i64 0,.int .i64 0] N.Hs2 b fun b c=>
 Ad7 (σ:=Unit) (fun a=>
 Ac3 (σ:=Int×Int×Unit) (fun c d e=>
 cond (decide (c.2.1≤(i64.wrap ((qj:Int)-1))))
 (Ad7 (σ:=Int×Unit) (fun a=>
 (0:Int)≤c.2.1∧c.2.1<(qj:Nat) ∧
 Ab6 j fun d=>
 cB_ e (d.add (c.2.1.toNat*3)) fun f=>
 cS_ e ((d.add (c.2.1.toNat*3)).add 1) fun g h i=>
 cI_ e ((d.add (c.2.1.toNat*3)).add 2) fun d=>
 Aa1 P N.Hi3 #[.agg #[.bool f,.slice g h i,.int .i64 d]] e fun d e=>
 ∃ f,d=(.int .i64 f) ∧
 cond (f==0)
 (a (c.1,()) e)
 (Ad7 (σ:=Unit) (fun a=>
 cond (f != c.1)
 (cI_ e (b.add 2) fun c=>
 stM (b.add 2) (.int .i64 (i64.wrap (c+1))) e fun b=>
 a (()) b)
 (a (()) e))
 (fun d e=>
 stM (b.add 1) (.int .i64 (i64.wrap ((i64.wrap ((qj:Int)-1))-c.2.1))) e fun b=>
 a (f,()) b)))
 (fun a b=>
 d (a.1,(i64.wrap (c.2.1+1)),()) b))
 (a (()) e))
 (1,0,()) c)
 (fun c d=>
 cI_ d (b.add 1) fun c=>
 cI_ d (b.add 2) fun e=>
 stM b (.int .i64 (i64.wrap ((i64.wrap ((i64.wrap ((qj:Int)-1))-c))-e))) d fun c=>
 c3S c b fun b d e=>
 stM a (.int .i64 b) c fun b=>
 stM (a.add 1) (.int .i64 d) b fun b=>
 stM (a.add 2) (.int .i64 e) b fun b=>
 c3S b a fun a c d=>
 K (.agg #[.int .i64 a,.int .i64 c,.int .i64 d]) b)
def Bf6 (N:Nums) (P:Program) (x:OA) (qj qq:Nat) (v:Int) (w:World) (K:KV):Prop:=
 Aa1 P N.Hl8 #[.int .i64 1] w fun a b=>
 v3D a fun a c d e f=>
 Ac8 #[.bool a,.slice c d e,.int .i64 f] N.Hp2 b fun a b=>
 Ad7 (σ:=(OA×Nat×Nat)×Unit) (fun c=>
 Ac3 (σ:=(OA×Nat×Nat)×Int×Unit) (fun a b d=>
 cond (decide (a.2.1<v))
 ((0:Int)≤(i64.wrap ((i64.wrap (a.2.1*v))+a.2.1))∧(i64.wrap ((i64.wrap (a.2.1*v))+a.2.1))<(qj:Nat) ∧
 Ab6 x fun c=>
 ∃ e,d.cell? (c.add ((i64.wrap ((i64.wrap (a.2.1*v))+a.2.1)).toNat*3))=some (.bool e) ∧
 ∃ f g h,d.cell? ((c.add ((i64.wrap ((i64.wrap (a.2.1*v))+a.2.1)).toNat*3)).add 1)=some (.slice f g h) ∧
 ∃ i,d.cell? ((c.add ((i64.wrap ((i64.wrap (a.2.1*v))+a.2.1)).toNat*3)).add 2)=some (.int .i64 i) ∧
 drM d fun d=>
 Aa1 P N.Hl8 #[.int .i64 1] d fun d j=>
 v3D d fun d k l m n=>
 j.cell? (c.add ((i64.wrap ((i64.wrap (a.2.1*v))+a.2.1)).toNat*3))=some (.bool e) ∧
 j.cell? ((c.add ((i64.wrap ((i64.wrap (a.2.1*v))+a.2.1)).toNat*3)).add 1)=some (.slice f g h) ∧
 j.cell? ((c.add ((i64.wrap ((i64.wrap (a.2.1*v))+a.2.1)).toNat*3)).add 2)=some (.int .i64 i) ∧
 drM j fun c=>
 Aa1 P N.Hn6 #[.agg #[.bool e,.slice f g h,.int .i64 i]] c fun c e=>
 v3D c fun c f g h i=>
 drM e fun e=>
 Ac8 #[.bool d,.slice k l m,.int .i64 n,.bool c,.slice f g h,.int .i64 i] N.Hp2 e fun c d=>
 drM d fun d=>
 mkM N.Hp2 3 40 #[.bool false,.slice none 0 0,.int .i64 0] a.2.1 a.2.1 d fun d e=>
 Ad7 (σ:=Unit) (fun b=>
 Ac3 (σ:=Int×Unit) (fun c e f=>
 cond (decide (c.1<a.2.1))
 ((0:Int)≤(i64.wrap ((i64.wrap (c.1*v))+a.2.1))∧(i64.wrap ((i64.wrap (c.1*v))+a.2.1))<(qj:Nat) ∧
 Ab6 x fun b=>
 ∃ g,f.cell? (b.add ((i64.wrap ((i64.wrap (c.1*v))+a.2.1)).toNat*3))=some (.bool g) ∧
 ∃ h i j,f.cell? ((b.add ((i64.wrap ((i64.wrap (c.1*v))+a.2.1)).toNat*3)).add 1)=some (.slice h i j) ∧
 ∃ k,f.cell? ((b.add ((i64.wrap ((i64.wrap (c.1*v))+a.2.1)).toNat*3)).add 2)=some (.int .i64 k) ∧
 (0:Int)≤c.1∧c.1<(a.2.1.toNat:Nat) ∧
 stM (d.add (c.1.toNat*3)) (.bool g) f fun a=>
 stM ((d.add (c.1.toNat*3)).add 1) (.slice h i j) a fun a=>
 stM ((d.add (c.1.toNat*3)).add 2) (.int .i64 k) a fun a=>
 e ((i64.wrap (c.1+1)),()) a)
 (b (()) f))
 (0,()) e)
 (fun e f=>
 Ad7 (σ:=(OA×Nat×Nat)×Unit) (fun b=>
 Ac3 (σ:=(OA×Nat×Nat)×(OA×Nat×Nat)×Int×Unit) (fun c d e=>
 cond (decide (c.2.2.1<a.2.1))
 (Aa1 P N.Hl8 #[.int .i64 0] e fun b e=>
 v3D b fun b f g h i=>
 Ac8 #[.bool false,.slice none 0 0,.int .i64 0] N.Hp2 e fun e j=>
 s3D e b f g h i j fun b=>
 Ad7 (σ:=Unit) (fun d=>
 Ac3 (σ:=Int×Unit) (fun b f g=>
 cond (decide (b.1<a.2.1))
 (c3D g e fun d h i j k=>
 (0:Int)≤(i64.wrap ((i64.wrap (a.2.1*v))+b.1))∧(i64.wrap ((i64.wrap (a.2.1*v))+b.1))<(qj:Nat) ∧
 Ab6 x fun l=>
 ∃ m,g.cell? (l.add ((i64.wrap ((i64.wrap (a.2.1*v))+b.1)).toNat*3))=some (.bool m) ∧
 ∃ n o p,g.cell? ((l.add ((i64.wrap ((i64.wrap (a.2.1*v))+b.1)).toNat*3)).add 1)=some (.slice n o p) ∧
 ∃ q,g.cell? ((l.add ((i64.wrap ((i64.wrap (a.2.1*v))+b.1)).toNat*3)).add 2)=some (.int .i64 q) ∧
 (0:Int)≤b.1∧b.1<(c.2.1.2.1:Nat) ∧
 Ab6 c.2.1.1 fun a=>
 cB_ g (a.add (b.1.toNat*3)) fun c=>
 cS_ g ((a.add (b.1.toNat*3)).add 1) fun l r s=>
 cI_ g ((a.add (b.1.toNat*3)).add 2) fun a=>
 drM g fun g=>
 Aa1 P N.Hl7 #[.agg #[.bool m,.slice n o p,.int .i64 q],.agg #[.bool c,.slice l r s,.int .i64 a]] g fun a c=>
 v3D a fun a g l m n=>
 k3D c e d h i j k fun _=>
 drM c fun c=>
 Aa1 P N.Ho5 #[.agg #[.bool d,.slice h i j,.int .i64 k],.agg #[.bool a,.slice g l m,.int .i64 n]] c fun a c=>
 v3D a fun a d g h i=>
 drM c fun c=>
 s3D e a d g h i c fun a=>
 drM a fun a=>
 f ((i64.wrap (b.1+1)),()) a)
 (d (()) g))
 (0,()) b)
 (fun b f=>
 c3D f e fun b e g h i=>
 Aa1 P N.Hn6 #[.agg #[.bool b,.slice e g h,.int .i64 i]] f fun b e=>
 v3D b fun b f g h i=>
 Ac8 #[.bool b,.slice f g h,.int .i64 i] N.Hp2 e fun b e=>
 Bn8 N.Hp2 3 40 #[.bool false,.slice none 0 0,.int .i64 0] c.1.1 c.1.2.1 c.1.2.2 (some b) 1 e fun b e f g=>
 mkM N.Hp2 3 40 #[.bool false,.slice none 0 0,.int .i64 0] a.2.1 a.2.1 g fun g h=>
 Ad7 (σ:=Unit) (fun b=>
 Ac3 (σ:=Int×Unit) (fun d e f=>
 cond (decide (d.1<a.2.1))
 (Aa1 P N.Hl8 #[.int .i64 0] f fun b f=>
 v3D b fun b h i j k=>
 (0:Int)≤d.1∧d.1<(a.2.1.toNat:Nat) ∧
 stM (g.add (d.1.toNat*3)) (.bool b) f fun b=>
 stM ((g.add (d.1.toNat*3)).add 1) (.slice h i j) b fun b=>
 stM ((g.add (d.1.toNat*3)).add 2) (.int .i64 k) b fun b=>
 Ad7 (σ:=Unit) (fun e=>
 Ac3 (σ:=Int×Unit) (fun b f h=>
 cond (decide (b.1<a.2.1))
 ((0:Int)≤d.1∧d.1<(a.2.1.toNat:Nat) ∧
 cB_ h (g.add (d.1.toNat*3)) fun e=>
 cS_ h ((g.add (d.1.toNat*3)).add 1) fun i j k=>
 cI_ h ((g.add (d.1.toNat*3)).add 2) fun l=>
 (0:Int)≤(i64.wrap ((i64.wrap (d.1*v))+b.1))∧(i64.wrap ((i64.wrap (d.1*v))+b.1))<(qj:Nat) ∧
 Ab6 x fun m=>
 ∃ n,h.cell? (m.add ((i64.wrap ((i64.wrap (d.1*v))+b.1)).toNat*3))=some (.bool n) ∧
 ∃ o p q,h.cell? ((m.add ((i64.wrap ((i64.wrap (d.1*v))+b.1)).toNat*3)).add 1)=some (.slice o p q) ∧
 ∃ r,h.cell? ((m.add ((i64.wrap ((i64.wrap (d.1*v))+b.1)).toNat*3)).add 2)=some (.int .i64 r) ∧
 (0:Int)≤b.1∧b.1<(c.2.1.2.1:Nat) ∧
 Ab6 c.2.1.1 fun c=>
 cB_ h (c.add (b.1.toNat*3)) fun m=>
 cS_ h ((c.add (b.1.toNat*3)).add 1) fun s t u=>
 cI_ h ((c.add (b.1.toNat*3)).add 2) fun c=>
 drM h fun h=>
 Aa1 P N.Hl7 #[.agg #[.bool n,.slice o p q,.int .i64 r],.agg #[.bool m,.slice s t u,.int .i64 c]] h fun c h=>
 v3D c fun c m n o p=>
 h.cell? (g.add (d.1.toNat*3))=some (.bool e) ∧
 h.cell? ((g.add (d.1.toNat*3)).add 1)=some (.slice i j k) ∧
 h.cell? ((g.add (d.1.toNat*3)).add 2)=some (.int .i64 l) ∧
 drM h fun h=>
 Aa1 P N.Ho5 #[.agg #[.bool e,.slice i j k,.int .i64 l],.agg #[.bool c,.slice m n o,.int .i64 p]] h fun c e=>
 v3D c fun c h i j k=>
 (0:Int)≤d.1∧d.1<(a.2.1.toNat:Nat) ∧
 drM e fun a=>
 stM (g.add (d.1.toNat*3)) (.bool c) a fun a=>
 stM ((g.add (d.1.toNat*3)).add 1) (.slice h i j) a fun a=>
 stM ((g.add (d.1.toNat*3)).add 2) (.int .i64 k) a fun a=>
 drM a fun a=>
 f ((i64.wrap (b.1+1)),()) a)
 (e (()) h))
 (0,()) b)
 (fun a b=>
 e ((i64.wrap (d.1+1)),()) b))
 (b (()) f))
 (0,()) h)
 (fun h i=>
 d ((b,e,f),((some g),a.2.1.toNat,a.2.1.toNat),(i64.wrap (c.2.2.1+1)),()) i)))
 (b ((c.1.1,c.1.2.1,c.1.2.2),()) e))
 (((some c),2,2),((some d),a.2.1.toNat,a.2.1.toNat),0,()) f)
 (fun c d=>
 mkM N.Hp2 3 40 #[.bool false,.slice none 0 0,.int .i64 0] (i64.wrap (a.2.1+2)) (i64.wrap (a.2.1+2)) d fun d e=>
 Ad7 (σ:=Unit) (fun b=>
 Ac3 (σ:=Int×Unit) (fun e f g=>
 cond (decide (e.1<(i64.wrap (a.2.1+2))))
 (Aa1 P N.Hl8 #[.int .i64 0] g fun b g=>
 v3D b fun b h i j k=>
 (0:Int)≤e.1∧e.1<((i64.wrap (a.2.1+2)).toNat:Nat) ∧
 stM (d.add (e.1.toNat*3)) (.bool b) g fun b=>
 stM ((d.add (e.1.toNat*3)).add 1) (.slice h i j) b fun b=>
 stM ((d.add (e.1.toNat*3)).add 2) (.int .i64 k) b fun b=>
 Ad7 (σ:=Unit) (fun f=>
 Ac3 (σ:=Int×Unit) (fun b g h=>
 Ad7 (σ:=Bool×Unit) (fun c=>
 cond (decide (b.1≤e.1))
 (c ((decide (b.1<((a.1.2.1:Nat):Int))),()) h)
 (c (false,()) h))
 (fun h i=>
 cond h.1
 ((0:Int)≤e.1∧e.1<((i64.wrap (a.2.1+2)).toNat:Nat) ∧
 cB_ i (d.add (e.1.toNat*3)) fun f=>
 cS_ i ((d.add (e.1.toNat*3)).add 1) fun h j k=>
 cI_ i ((d.add (e.1.toNat*3)).add 2) fun l=>
 (0:Int)≤(i64.wrap (e.1-b.1))∧(i64.wrap (e.1-b.1))<(c.1.2.1:Nat) ∧
 Ab6 c.1.1 fun c=>
 ∃ m,i.cell? (c.add ((i64.wrap (e.1-b.1)).toNat*3))=some (.bool m) ∧
 ∃ n o p,i.cell? ((c.add ((i64.wrap (e.1-b.1)).toNat*3)).add 1)=some (.slice n o p) ∧
 ∃ q,i.cell? ((c.add ((i64.wrap (e.1-b.1)).toNat*3)).add 2)=some (.int .i64 q) ∧
 (0:Int)≤b.1∧b.1<(a.1.2.1:Nat) ∧
 Ab6 a.1.1 fun c=>
 cB_ i (c.add (b.1.toNat*3)) fun r=>
 cS_ i ((c.add (b.1.toNat*3)).add 1) fun s t u=>
 cI_ i ((c.add (b.1.toNat*3)).add 2) fun c=>
 drM i fun i=>
 Aa1 P N.Hl7 #[.agg #[.bool m,.slice n o p,.int .i64 q],.agg #[.bool r,.slice s t u,.int .i64 c]] i fun c i=>
 v3D c fun c m n o p=>
 i.cell? (d.add (e.1.toNat*3))=some (.bool f) ∧
 i.cell? ((d.add (e.1.toNat*3)).add 1)=some (.slice h j k) ∧
 i.cell? ((d.add (e.1.toNat*3)).add 2)=some (.int .i64 l) ∧
 drM i fun i=>
 Aa1 P N.Ho5 #[.agg #[.bool f,.slice h j k,.int .i64 l],.agg #[.bool c,.slice m n o,.int .i64 p]] i fun c f=>
 v3D c fun c h i j k=>
 (0:Int)≤e.1∧e.1<((i64.wrap (a.2.1+2)).toNat:Nat) ∧
 drM f fun a=>
 stM (d.add (e.1.toNat*3)) (.bool c) a fun a=>
 stM ((d.add (e.1.toNat*3)).add 1) (.slice h i j) a fun a=>
 stM ((d.add (e.1.toNat*3)).add 2) (.int .i64 k) a fun a=>
 drM a fun a=>
 g ((i64.wrap (b.1+1)),()) a)
 (f (()) i)))
 (0,()) b)
 (fun a b=>
 f ((i64.wrap (e.1+1)),()) b))
 (b (()) g))
 (0,()) e)
 (fun c e=>
 b (((some d),(i64.wrap (a.2.1+2)).toNat,(i64.wrap (a.2.1+2)).toNat),(i64.wrap (a.2.1+1)),()) e))))
 (c ((a.1.1,a.1.2.1,a.1.2.2),()) d))
 (((some a),1,1),0,()) b)
 (fun a b=>
 K (.slice a.1.1 a.1.2.1 a.1.2.2) b)
def Cj1 (N:Nums) (P:Program) (qd:Bool) (qb:OA) (qe qg:Nat) (qf:Int) (w:World) (K:KV):Prop:=
 Ac8 #[.bool qd,.slice qb qe qg,.int .i64 qf] N.Hs7 w fun a b=>
 cS_ b (a.add 1) fun c d e=>
 cond ((d:Int)==0)
 (cB_ b a fun c=>
 cond (!c)
 (cI_ b (a.add 2) fun a=>
 K (.bool (a==0)) b)
 (K (.bool false) b))
 (cond (decide ((d:Int)≤256))
 (cS_ b (a.add 1) fun c e f=>
 (0:Int)≤(i64.wrap ((d:Int)-1))∧(i64.wrap ((d:Int)-1))<(e:Nat) ∧
 Ab6 c fun c=>
 ∃ e,b.cell? (c.add ((i64.wrap ((d:Int)-1)).toNat*1))=some (.int .u64 e) ∧
 cond (e != 0)
 (cS_ b (a.add 1) fun c d e=>
 (0:Int)≤(0:Int)∧(0:Int)<(d:Nat) ∧
 Ab6 c fun c=>
 cU_ b (c.add ((0:Int).toNat*1)) fun c=>
 cond ((u64.wrap (BitVec.ofInt u64.bits c &&& BitVec.ofInt u64.bits 1).toNat)==1)
 (cI_ b (a.add 2) fun c=>
 cond (decide (((-65536):Int)≤c))
 (cI_ b (a.add 2) fun a=>
 K (.bool (decide (a≤65536))) b)
 (K (.bool false) b))
 (K (.bool false) b))
 (K (.bool false) b))
 (K (.bool false) b))
def Cw2 (N:Nums) (P:Program) (qd:Bool) (qb:OA) (qe qg:Nat) (qf:Int) (w:World) (K:KV):Prop:=
 Ac8 #[.bool qd,.slice qb qe qg,.int .i64 qf] N.Hs7 w fun a b=>
 cS_ b (a.add 1) fun c d e=>
 cond ((d:Int)==0)
 (cB_ b a fun c=>
 cond (!c)
 (cI_ b (a.add 2) fun a=>
 K (.bool (a==0)) b)
 (K (.bool false) b))
 (cS_ b (a.add 1) fun c d e=>
 cond (decide ((d:Int)≤256))
 (cS_ b (a.add 1) fun c d e=>
 cS_ b (a.add 1) fun e f g=>
 (0:Int)≤(i64.wrap ((f:Int)-1))∧(i64.wrap ((f:Int)-1))<(d:Nat) ∧
 Ab6 c fun c=>
 ∃ d,b.cell? (c.add ((i64.wrap ((f:Int)-1)).toNat*1))=some (.int .u64 d) ∧
 cond (d != 0)
 (cS_ b (a.add 1) fun c d e=>
 (0:Int)≤(0:Int)∧(0:Int)<(d:Nat) ∧
 Ab6 c fun c=>
 cU_ b (c.add ((0:Int).toNat*1)) fun c=>
 (2:Int)≠0 ∧
 cond ((c.tmod 2)==1)
 (cI_ b (a.add 2) fun c=>
 cond (decide (c≥(-65536)))
 (cI_ b (a.add 2) fun a=>
 K (.bool (decide (a≤65536))) b)
 (K (.bool false) b))
 (K (.bool false) b))
 (K (.bool false) b))
 (K (.bool false) b))
def Dh2 (N:Nums) (P:Program) (qd:Bool) (qb:OA) (qe qg:Nat) (qf:Int) (w:World) (K:KV):Prop:=
 Ac8 #[.bool qd,.slice qb qe qg,.int .i64 qf] N.Hs7 w fun a b=>
 Ac8 #[.bool false,.slice none 0 0,.int .i64 0] N.Hp2 b fun b c=>
 c3D c a fun d e f g h=>
 drM c fun c=>
 Aa1 P N.Hj4 #[.slice e f g] c fun c e=>
 vS_ c fun c f g=>
 e.cell? (a.add 2)=some (.int .i64 h) ∧
 e.cell? a=some (.bool d) ∧
 drM e fun a=>
 s3D b d c f g h a fun a=>
 drM a fun a=>
 c3D a b fun b c d e f=>
 K (.agg #[.bool b,.slice c d e,.int .i64 f]) a
def Ao1 (N:Nums) (P:Program) (l:OA) (w:World) (K:KV):Prop:=
 Ab6 l fun a=>
 cS_ w a fun a b c=>
 Aa1 P N.Hm0 #[.int .i64 1] w fun a c=>
 ∃ m:(OA),a=(.pointer m) ∧
 Ac8 #[.pointer m] N.Ho7 c fun a c=>
 mkM N.Hl3 1 24 #[.slice none 0 0] (b:Int) (b:Int) c fun c d=>
 Ad7 (σ:=Unit) (fun a=>
 Ac3 (σ:=Int×Unit) (fun d e f=>
 cond (decide (d.1<(b:Int)))
 (Ad7 (σ:=Unit) (fun a=>
 Ac3 (σ:=Int×Unit) (fun e f g=>
 cond (decide (e.1<(b:Int)))
 ((0:Int)≤d.1∧d.1<((b:Int).toNat:Nat) ∧
 cS_ g (c.add (d.1.toNat*1)) fun a h i=>
 Ac8 #[.bool false,.slice none 0 0] N.Hr0 g fun g j=>
 Ac8 #[.pointer (some g)] N.Ho7 j fun g j=>
 Bn8 N.Ho7 1 8 #[.pointer none] a h i (some g) 1 j fun a g h i=>
 (0:Int)≤d.1∧d.1<((b:Int).toNat:Nat) ∧
 stM (c.add (d.1.toNat*1)) (.slice a g h) i fun a=>
 f ((i64.wrap (e.1+1)),()) a)
 (a (()) g))
 (0,()) f)
 (fun a b=>
 e ((i64.wrap (d.1+1)),()) b))
 (a (()) f))
 (0,()) d)
 (fun d e=>
 Ad7 (σ:=(OA×Nat×Nat)×Unit) (fun d=>
 Ac3 (σ:=(OA×Nat×Nat)×(OA×Nat×Nat)×Int×Unit) (fun a c e=>
 cond (decide (a.2.2.1<(b:Int)))
 (Ad7 (σ:=Unit) (fun c=>
 Ac3 (σ:=Int×Unit) (fun d e f=>
 cond (decide (d.1<(b:Int)))
 ((0:Int)≤d.1∧d.1<(a.2.1.2.1:Nat) ∧
 Ab6 a.2.1.1 fun b=>
 cS_ f (b.add (d.1.toNat*1)) fun b c g=>
 (0:Int)≤d.1∧d.1<(c:Nat) ∧
 Ab6 b fun b=>
 ∃ n:(OA),f.cell? (b.add (d.1.toNat*1))=some (.pointer n) ∧
 (0:Int)≤d.1∧d.1<(a.2.1.2.1:Nat) ∧
 Ab6 a.2.1.1 fun b=>
 cS_ f (b.add (d.1.toNat*1)) fun b c g=>
 (0:Int)≤d.1∧d.1<(c:Nat) ∧
 Ab6 b fun b=>
 ∃ o:(OA),f.cell? (b.add (d.1.toNat*1))=some (.pointer o) ∧
 (0:Int)≤a.2.2.1∧a.2.2.1<(a.1.2.1:Nat) ∧
 Ab6 a.1.1 fun b=>
 ∃ p:(OA),f.cell? (b.add (a.2.2.1.toNat*1))=some (.pointer p) ∧
 drM f fun a=>
 Aa1 P N.Hq0 #[.pointer n,.pointer o,.pointer p] a fun a b=>
 ∃ x:(OA),a=(.pointer x) ∧
 drM b fun a=>
 e ((i64.wrap (d.1+1)),()) a)
 (c (()) f))
 (0,()) e)
 (fun d e=>
 mkM N.Hl3 1 24 #[.slice none 0 0] (b:Int) (b:Int) e fun d e=>
 Ac8 #[.bool false,.slice none 0 0] N.Hr0 e fun e f=>
 Ad7 (σ:=Unit) (fun c=>
 Ac3 (σ:=Int×Unit) (fun f g h=>
 cond (decide (f.1<(b:Int)))
 (Ad7 (σ:=Unit) (fun c=>
 Ac3 (σ:=Int×Unit) (fun e g h=>
 cond (decide (e.1<(b:Int)))
 (Ac8 #[.bool false,.slice none 0 0] N.Hr0 h fun c h=>
 Ac8 #[.bool false,.slice none 0 0] N.Hr0 h fun h i=>
 Ad7 (σ:=Unit) (fun d=>
 Ac3 (σ:=Int×Unit) (fun g i j=>
 cond (decide (g.1<(b:Int)))
 (Ab6 l fun b=>
 cS_ j b fun b d k=>
 (0:Int)≤f.1∧f.1<(d:Nat) ∧
 Ab6 b fun b=>
 cS_ j (b.add (f.1.toNat*1)) fun b d f=>
 (0:Int)≤g.1∧g.1<(d:Nat) ∧
 Ab6 b fun b=>
 ∃ q:(OA),j.cell? (b.add (g.1.toNat*1))=some (.pointer q) ∧
 (0:Int)≤g.1∧g.1<(a.2.1.2.1:Nat) ∧
 Ab6 a.2.1.1 fun a=>
 cS_ j (a.add (g.1.toNat*1)) fun a b d=>
 (0:Int)≤e.1∧e.1<(b:Nat) ∧
 Ab6 a fun a=>
 ∃ r:(OA),j.cell? (a.add (e.1.toNat*1))=some (.pointer r) ∧
 drM j fun a=>
 Aa1 P N.Hq7 #[.pointer (some h),.pointer q,.pointer r] a fun a b=>
 ∃ s:(OA),a=(.pointer s) ∧
 drM b fun a=>
 Aa1 P N.Hq0 #[.pointer (some c),.pointer (some c),.pointer s] a fun a b=>
 ∃ y:(OA),a=(.pointer y) ∧
 drM b fun a=>
 i ((i64.wrap (g.1+1)),()) a)
 (d (()) j))
 (0,()) i)
 (fun a h=>
 (0:Int)≤f.1∧f.1<((b:Int).toNat:Nat) ∧
 cS_ h (d.add (f.1.toNat*1)) fun a i j=>
 Ac8 #[.pointer (some c)] N.Ho7 h fun c h=>
 Bn8 N.Ho7 1 8 #[.pointer none] a i j (some c) 1 h fun a c h i=>
 (0:Int)≤f.1∧f.1<((b:Int).toNat:Nat) ∧
 stM (d.add (f.1.toNat*1)) (.slice a c h) i fun a=>
 g ((i64.wrap (e.1+1)),()) a))
 (c (()) h))
 (0,()) h)
 (fun a c=>
 (0:Int)≤f.1∧f.1<((b:Int).toNat:Nat) ∧
 cS_ c (d.add (f.1.toNat*1)) fun a b d=>
 (0:Int)≤f.1∧f.1<(b:Nat) ∧
 Ab6 a fun a=>
 ∃ t:(OA),c.cell? (a.add (f.1.toNat*1))=some (.pointer t) ∧
 Aa1 P N.Hq0 #[.pointer (some e),.pointer (some e),.pointer t] c fun a b=>
 ∃ z:(OA),a=(.pointer z) ∧
 g ((i64.wrap (f.1+1)),()) b))
 (c (()) h))
 (0,()) f)
 (fun f g=>
 Aa1 P N.Hm0 #[.int .i64 (i64.wrap (a.2.2.1+1))] g fun f g=>
 ∃ u:(OA),f=(.pointer u) ∧
 Aa1 P N.Hs0 #[.pointer (some e),.pointer (some e),.pointer u] g fun f g=>
 ∃ aa:(OA),f=(.pointer aa) ∧
 Aa1 P N.Hq8 #[.pointer (some e),.pointer (some e)] g fun e f=>
 ∃ v:(OA),e=(.pointer v) ∧
 Ac8 #[.pointer v] N.Ho7 f fun e f=>
 Bn8 N.Ho7 1 8 #[.pointer none] a.1.1 a.1.2.1 a.1.2.2 (some e) 1 f fun e f g h=>
 c ((e,f,g),((some d),(b:Int).toNat,(b:Int).toNat),(i64.wrap (a.2.2.1+1)),()) h)))
 (d ((a.1.1,a.1.2.1,a.1.2.2),()) e))
 (((some a),1,1),((some c),(b:Int).toNat,(b:Int).toNat),0,()) e)
 (fun a b=>
 K (.slice a.1.1 a.1.2.1 a.1.2.2) b))
def Bu7 (N:Nums) (P:Program) (k:OA) (l:Int) (w:World) (K:KV):Prop:=
 Ac8 #[.bool false,.slice none 0 0,.int .i64 0] N.Hs7 w fun a b=>
 Aa1 P N.Hp5 #[.pointer k] b fun b c=>
 ∃ d,b=(.int .i64 d) ∧
 Ac8 #[.bool false,.slice none 0 0,.int .i64 0] N.Hs7 c fun b c=>
 stM b (.bool (decide (d<0))) c fun c=>
 stM (b.add 1) (.slice none 0 0) c fun c=>
 stM (b.add 2) (.int .i64 l) c fun c=>
 Ac8 #[.bool false,.slice none 0 0] N.Hr0 c fun c d=>
 Aa1 P N.Hq3 #[.pointer (some c),.pointer k] d fun c d=>
 ∃ j:(OA),c=(.pointer j) ∧
 Ad7 (σ:=Unit) (fun a=>
 Ac3 (σ:=Unit) (fun c d e=>
 Aa1 P N.Hp5 #[.pointer j] e fun c e=>
 ∃ f,c=(.int .i64 f) ∧
 cond (decide (f>0))
 (cS_ e (b.add 1) fun a c f=>
 drM e fun e=>
 Aa1 P N.Hn1 #[.pointer j] e fun e g=>
 ∃ h,e=(.int .u64 h) ∧
 g.cell? (b.add 1)=some (.slice a c f) ∧
 drM g fun e=>
 Ac8 #[.int .u64 h] N.Hr2 e fun e g=>
 g.cell? (b.add 1)=some (.slice a c f) ∧
 drM g fun g=>
 Bn8 N.Hr2 1 8 #[.int .u64 0] a c f (some e) 1 g fun a c e f=>
 drM f fun f=>
 stM (b.add 1) (.slice a c e) f fun a=>
 drM a fun a=>
 Aa1 P N.Hr1 #[.pointer j,.pointer j,.int .u64 64] a fun a b=>
 ∃ m:(OA),a=(.pointer m) ∧
 d (()) b)
 (a (()) e))
 (()) d)
 (fun c d=>
 c3D d b fun b c e f g=>
 Aa1 P N.Hn2 #[.agg #[.bool b,.slice c e f,.int .i64 g]] d fun b c=>
 ∃ d,∃ e f g,∃ h,∃ i,b=(.tuple #[.agg #[.bool d,.slice e f g,.int .i64 h],.int .i64 i]) ∧
 s3D a d e f g h c fun b=>
 c3D b a fun a c d e f=>
 K (.tuple #[.agg #[.bool a,.slice c d e,.int .i64 f],.int .i64 i]) b)
def Ai6 (N:Nums) (P:Program) (o:OA) (qj qq:Nat) (w:World) (K:KV):Prop:=
 Ad7 (σ:=Unit) (fun a=>
 Ac3 (σ:=Int×Int×Unit) (fun b c d=>
 cond (decide (b.1<b.2.1))
 ((0:Int)≤b.2.1∧b.2.1<(qj:Nat) ∧
 Ab6 o fun a=>
 cB_ d (a.add (b.2.1.toNat*3)) fun e=>
 cS_ d ((a.add (b.2.1.toNat*3)).add 1) fun f g h=>
 cI_ d ((a.add (b.2.1.toNat*3)).add 2) fun a=>
 (0:Int)≤b.1∧b.1<(qj:Nat) ∧
 Ab6 o fun i=>
 cB_ d (i.add (b.1.toNat*3)) fun j=>
 cS_ d ((i.add (b.1.toNat*3)).add 1) fun k l m=>
 cI_ d ((i.add (b.1.toNat*3)).add 2) fun i=>
 (0:Int)≤b.1∧b.1<(qj:Nat) ∧
 Ab6 o fun n=>
 drM d fun d=>
 stM (n.add (b.1.toNat*3)) (.bool e) d fun d=>
 stM ((n.add (b.1.toNat*3)).add 1) (.slice f g h) d fun d=>
 stM ((n.add (b.1.toNat*3)).add 2) (.int .i64 a) d fun a=>
 (0:Int)≤b.2.1∧b.2.1<(qj:Nat) ∧
 Ab6 o fun d=>
 drM a fun a=>
 stM (d.add (b.2.1.toNat*3)) (.bool j) a fun a=>
 stM ((d.add (b.2.1.toNat*3)).add 1) (.slice k l m) a fun a=>
 stM ((d.add (b.2.1.toNat*3)).add 2) (.int .i64 i) a fun a=>
 drM a fun a=>
 c ((i64.wrap (b.1+1)),(i64.wrap (b.2.1-1)),()) a)
 (a (()) d))
 (0,(i64.wrap ((qj:Int)-1)),()) w)
 (fun a b=>
 K (.tuple #[]) b)
def Dd9 (N:Nums) (P:Program) (qd:Bool) (qb:OA) (qe qg:Nat) (qf:Int) (w:World) (K:KV):Prop:=
 Ac8 #[.bool qd,.slice qb qe qg,.int .i64 qf] N.Hp2 w fun a b=>
 Ac8 #[.bool false,.slice none 0 0,.int .i64 0] N.Hs7 b fun b c=>
 c3D c a fun a d e f g=>
 Aa1 P N.Ho8 #[.agg #[.bool a,.slice d e f,.int .i64 g]] c fun a c=>
 ∃ d,∃ e f g,∃ h,∃ i,a=(.tuple #[.agg #[.bool d,.slice e f g,.int .i64 h],.int .i64 i]) ∧
 s3D b d e f g h c fun a=>
 c3D a b fun b c d e f=>
 K (.tuple #[.agg #[.bool b,.slice c d e,.int .i64 f],.int .i64 i]) a
def Ci0 (N:Nums) (P:Program) (qd:Bool) (qb:OA) (qe qg:Nat) (qf:Int) (qt:Bool) (qs:OA) (qo qp:Nat) (qw:Int) (w:World) (K:KV):Prop:=
 Ac8 #[.bool qd,.slice qb qe qg,.int .i64 qf] N.Hs7 w fun a b=>
 Ac8 #[.bool qt,.slice qs qo qp,.int .i64 qw] N.Hs7 b fun b c=>
 cB_ c a fun d=>
 cB_ c b fun e=>
 cond (d==e)
 (cS_ c (a.add 1) fun d e f=>
 cS_ c (b.add 1) fun g h i=>
 Aa1 P N.Hj2 #[.slice d e f,.slice g h i] c fun c d=>
 vB_ c fun c=>
 cond c
 (cI_ d (a.add 2) fun a=>
 cI_ d (b.add 2) fun b=>
 K (.bool (a==b)) d)
 (K (.bool false) d))
 (K (.bool false) c)
def Bs6 (N:Nums) (P:Program) (a:Int) (w:World) (K:KV):Prop:=
 cond (decide (a≥0))
 (K (.bool (decide (a≤48))) w)
 (K (.bool false) w)
def Ah1 (N:Nums) (P:Program) (d:OA) (qj qq:Nat) (e:Value) (w:World) (K:KV):Prop:=
 Aa1 P N.Hf8 #[.slice d qj qq,e] w fun a b=>
 ∃ c,a=(.int .i64 c) ∧
 K (.bool (decide (c≥0))) b
def Bi0 (N:Nums) (P:Program) (qd:Bool) (qb:OA) (qe qg:Nat) (qf:Int) (w:World) (K:KV):Prop:=
 Ac8 #[.bool qd,.slice qb qe qg,.int .i64 qf] N.Hs7 w fun a b=>
 c3D b a fun a c d e f=>
 Aa1 P N.Hk6 #[.agg #[.bool a,.slice c d e,.int .i64 f]] b fun a b=>
 vB_ a fun a=>
 K (.bool (!a)) b
def Dh6 (N:Nums) (P:Program) (qd:Bool) (qb:OA) (qe qg:Nat) (qf:Int) (qt:Bool) (qs:OA) (qo qp:Nat) (qw:Int) (w:World) (K:KV):Prop:=
 Ac8 #[.bool qd,.slice qb qe qg,.int .i64 qf] N.Hs7 w fun a b=>
 Ac8 #[.bool qt,.slice qs qo qp,.int .i64 qw] N.Hs7 b fun b c=>
 c3D c a fun d e f g h=>
 Aa1 P N.Hl5 #[.agg #[.bool d,.slice e f g,.int .i64 h]] c fun c d=>
 ∃ e,∃ f,c=(.tuple #[.int .i64 e,.int .i64 f]) ∧
 c3D d b fun c g h i j=>
 Aa1 P N.Hl5 #[.agg #[.bool c,.slice g h i,.int .i64 j]] d fun c d=>
 ∃ g,∃ h,c=(.tuple #[.int .i64 g,.int .i64 h]) ∧
 Ad7 (σ:=Bool×Unit) (fun a=>
 cond (!(f != 0))
 (a ((h != 0),()) d)
 (a (true,()) d))
 (fun c d=>
 cond c.1
 (K (.tuple #[.int .i64 0,.int .i64 2]) d)
 (cond (e != g)
 (cond (decide (e<g))
 (K (.tuple #[.int .i64 (-1),.int .i64 0]) d)
 (K (.tuple #[.int .i64 1,.int .i64 0]) d))
 (cond (e==0)
 (K (.tuple #[.int .i64 0,.int .i64 0]) d)
 (c3D d a fun c f g h i=>
 c3D d b fun j k l m n=>
 drM d fun d=>
 Aa1 P N.Ho9 #[.agg #[.bool c,.slice f g h,.int .i64 i]] d fun c d=>
 ∃ f,c=(.int .i64 f) ∧
 k3D d b j k l m n fun _=>
 drM d fun c=>
 Aa1 P N.Ho9 #[.agg #[.bool j,.slice k l m,.int .i64 n]] c fun c d=>
 ∃ g,c=(.int .i64 g) ∧
 drM d fun c=>
 cond (f != g)
 (c3D c a fun a d f g h=>
 c3D c b fun i j k l m=>
 drM c fun c=>
 Aa1 P N.Ho9 #[.agg #[.bool a,.slice d f g,.int .i64 h]] c fun a c=>
 ∃ d,a=(.int .i64 d) ∧
 k3D c b i j k l m fun _=>
 drM c fun a=>
 Aa1 P N.Ho9 #[.agg #[.bool i,.slice j k l,.int .i64 m]] a fun a b=>
 ∃ c,a=(.int .i64 c) ∧
 drM b fun a=>
 cond (decide (d<c))
 (K (.tuple #[.int .i64 (i64.wrap (0-e)),.int .i64 0]) a)
 (K (.tuple #[.int .i64 e,.int .i64 0]) a))
 (c3D c a fun d e f g h=>
 c3D c b fun i j k l m=>
 drM c fun c=>
 Aa1 P N.Hk2 #[.agg #[.bool d,.slice e f g,.int .i64 h]] c fun c d=>
 ∃ o:(OA),c=(.pointer o) ∧
 k3D d b i j k l m fun _=>
 drM d fun c=>
 Aa1 P N.Hk2 #[.agg #[.bool i,.slice j k l,.int .i64 m]] c fun c d=>
 ∃ p:(OA),c=(.pointer p) ∧
 drM d fun c=>
 cI_ c (a.add 2) fun d=>
 cI_ c (b.add 2) fun e=>
 Ad7 (σ:=Unit) (fun f=>
 cond (decide (d>e))
 (cI_ c (a.add 2) fun a=>
 cI_ c (b.add 2) fun b=>
 Aa1 P N.Hq5 #[.pointer o,.pointer o,.int .u64 (u64.wrap (i64.wrap (a-b)))] c fun a b=>
 ∃ q:(OA),a=(.pointer q) ∧
 f (()) b)
 (cI_ c (b.add 2) fun b=>
 cI_ c (a.add 2) fun a=>
 Aa1 P N.Hq5 #[.pointer p,.pointer p,.int .u64 (u64.wrap (i64.wrap (b-a)))] c fun a b=>
 ∃ r:(OA),a=(.pointer r) ∧
 f (()) b))
 (fun a b=>
 Aa1 P N.Hr4 #[.pointer o,.pointer p] b fun a b=>
 ∃ c,a=(.int .i64 c) ∧
 K (.tuple #[.int .i64 c,.int .i64 0]) b))))))
def Cc2 (N:Nums) (P:Program) (qd:Bool) (qb:OA) (qe qg:Nat) (qf:Int) (qt:Bool) (qs:OA) (qo qp:Nat) (qw:Int) (w:World) (K:KV):Prop:=
 Ac8 #[.bool qd,.slice qb qe qg,.int .i64 qf] N.Hp2 w fun a b=>
 Ac8 #[.bool qt,.slice qs qo qp,.int .i64 qw] N.Hp2 b fun b c=>
 c3D c a fun d e f g h=>
 c3D c b fun i j k l m=>
 drM c fun c=>
 Aa1 P N.Hi3 #[.agg #[.bool d,.slice e f g,.int .i64 h]] c fun c d=>
 ∃ e,c=(.int .i64 e) ∧
 k3D d b i j k l m fun _=>
 drM d fun c=>
 Aa1 P N.Hi3 #[.agg #[.bool i,.slice j k l,.int .i64 m]] c fun c d=>
 ∃ f,c=(.int .i64 f) ∧
 drM d fun c=>
 Ad7 (σ:=Bool×Unit) (fun a=>
 cond (!(e != f))
 (a ((e==0),()) c)
 (a (true,()) c))
 (fun c d=>
 cond c.1
 (cond (decide (e<f))
 (K (.int .i64 (-1)) d)
 (cond (decide (e>f))
 (K (.int .i64 1) d)
 (K (.int .i64 0) d)))
 (c3D d a fun c f g h i=>
 c3D d b fun j k l m n=>
 drM d fun d=>
 Aa1 P N.Hk0 #[.agg #[.bool c,.slice f g h,.int .i64 i]] d fun c d=>
 ∃ f,c=(.int .i64 f) ∧
 k3D d b j k l m n fun _=>
 drM d fun c=>
 Aa1 P N.Hk0 #[.agg #[.bool j,.slice k l m,.int .i64 n]] c fun c d=>
 ∃ g,c=(.int .i64 g) ∧
 drM d fun c=>
 cond (f != g)
 (c3D c a fun a d f g h=>
 c3D c b fun i j k l m=>
 drM c fun c=>
 Aa1 P N.Hk0 #[.agg #[.bool a,.slice d f g,.int .i64 h]] c fun a c=>
 ∃ d,a=(.int .i64 d) ∧
 k3D c b i j k l m fun _=>
 drM c fun a=>
 Aa1 P N.Hk0 #[.agg #[.bool i,.slice j k l,.int .i64 m]] a fun a b=>
 ∃ c,a=(.int .i64 c) ∧
 drM b fun a=>
 cond (decide (d<c))
 (K (.int .i64 (i64.wrap (0-e))) a)
 (K (.int .i64 e) a))
 (c3D c a fun d e f g h=>
 c3D c b fun b i j k l=>
 drM c fun c=>
 Aa1 P N.Hn6 #[.agg #[.bool b,.slice i j k,.int .i64 l]] c fun b c=>
 v3D b fun b i j k l=>
 k3D c a d e f g h fun _=>
 drM c fun a=>
 Aa1 P N.Ho5 #[.agg #[.bool d,.slice e f g,.int .i64 h],.agg #[.bool b,.slice i j k,.int .i64 l]] a fun a b=>
 v3D a fun a c d e f=>
 drM b fun b=>
 Aa1 P N.Hi3 #[.agg #[.bool a,.slice c d e,.int .i64 f]] b fun a b=>
 ∃ c,a=(.int .i64 c) ∧
 drM b fun a=>
 K (.int .i64 c) a)))
def Bl9 (N:Nums) (P:Program) (qd:Int) (qb:Int) (qf:OA) (qk qm:Nat) (qt:Int) (qs:Int) (qw:OA) (vm vn:Nat) (w:World) (K:KV):Prop:=
 Ac8 #[.int .i64 qd,.int .i64 qb,.slice qf qk qm] N.Hs3 w fun a b=>
 Ac8 #[.int .i64 qt,.int .i64 qs,.slice qw vm vn] N.Hs3 b fun b c=>
 cI_ c a fun d=>
 cI_ c b fun e=>
 cond (d==e)
 (cI_ c (a.add 1) fun d=>
 cI_ c (b.add 1) fun e=>
 cond (d==e)
 (cS_ c (a.add 2) fun a d e=>
 cS_ c (b.add 2) fun b f g=>
 Aa1 P N.Hi8 #[.slice a d e,.slice b f g] c fun a b=>
 vB_ a fun a=>
 K (.bool a) b)
 (K (.bool false) c))
 (K (.bool false) c)
def Bx2 (N:Nums) (P:Program) (o:OA) (qj qq:Nat) (p:OA) (qu vf:Nat) (w:World) (K:KV):Prop:=
 cond ((qj:Int) != (qu:Int))
 (K (.bool false) w)
 ((0:Int)≤(i64.wrap ((qu:Int)+12))∧(i64.wrap ((qu:Int)+12))≤(qq:Nat) ∧
 Ad7 (σ:=Unit) (fun a=>
 Ac3 (σ:=Int×Unit) (fun b c d=>
 cond (decide (b.1<(((i64.wrap ((qu:Int)+12)).toNat:Nat):Int)))
 (cond (decide (b.1<(qu:Int)))
 ((0:Int)≤b.1∧b.1<((i64.wrap ((qu:Int)+12)).toNat:Nat) ∧
 Ab6 (Ak1 o 0 qq 3) fun a=>
 cB_ d (a.add (b.1.toNat*3)) fun e=>
 cS_ d ((a.add (b.1.toNat*3)).add 1) fun f g h=>
 cI_ d ((a.add (b.1.toNat*3)).add 2) fun a=>
 (0:Int)≤b.1∧b.1<(qu:Nat) ∧
 Ab6 p fun i=>
 cB_ d (i.add (b.1.toNat*3)) fun j=>
 cS_ d ((i.add (b.1.toNat*3)).add 1) fun k l m=>
 cI_ d ((i.add (b.1.toNat*3)).add 2) fun i=>
 drM d fun d=>
 Aa1 P N.Hk1 #[.agg #[.bool e,.slice f g h,.int .i64 a],.agg #[.bool j,.slice k l m,.int .i64 i]] d fun a d=>
 vB_ a fun a=>
 cond (!(!a))
 (cond (decide (b.1≥(qu:Int)))
 ((0:Int)≤b.1∧b.1<((i64.wrap ((qu:Int)+12)).toNat:Nat) ∧
 Ab6 (Ak1 o 0 qq 3) fun a=>
 cB_ d (a.add (b.1.toNat*3)) fun e=>
 cS_ d ((a.add (b.1.toNat*3)).add 1) fun f g h=>
 cI_ d ((a.add (b.1.toNat*3)).add 2) fun i=>
 drM d fun d=>
 Aa1 P N.Hk3 #[.int .i64 1,.int .i64 (i64.wrap (b.1-(qu:Int)))] d fun d j=>
 v3D d fun d k l m n=>
 j.cell? (a.add (b.1.toNat*3))=some (.bool e) ∧
 j.cell? ((a.add (b.1.toNat*3)).add 1)=some (.slice f g h) ∧
 j.cell? ((a.add (b.1.toNat*3)).add 2)=some (.int .i64 i) ∧
 drM j fun a=>
 Aa1 P N.Hk7 #[.agg #[.bool e,.slice f g h,.int .i64 i],.agg #[.bool d,.slice k l m,.int .i64 n]] a fun a d=>
 vB_ a fun a=>
 drM d fun d=>
 cond (!a)
 (K (.bool false) d)
 (c ((i64.wrap (b.1+1)),()) d))
 (drM d fun a=>
 drM a fun a=>
 drM a fun a=>
 c ((i64.wrap (b.1+1)),()) a))
 (drM d fun a=>
 drM a fun a=>
 drM a fun a=>
 K (.bool false) a))
 (drM d fun a=>
 cond (decide (b.1≥(qu:Int)))
 ((0:Int)≤b.1∧b.1<((i64.wrap ((qu:Int)+12)).toNat:Nat) ∧
 Ab6 (Ak1 o 0 qq 3) fun d=>
 cB_ a (d.add (b.1.toNat*3)) fun e=>
 cS_ a ((d.add (b.1.toNat*3)).add 1) fun f g h=>
 cI_ a ((d.add (b.1.toNat*3)).add 2) fun i=>
 drM a fun a=>
 Aa1 P N.Hk3 #[.int .i64 1,.int .i64 (i64.wrap (b.1-(qu:Int)))] a fun a j=>
 v3D a fun a k l m n=>
 j.cell? (d.add (b.1.toNat*3))=some (.bool e) ∧
 j.cell? ((d.add (b.1.toNat*3)).add 1)=some (.slice f g h) ∧
 j.cell? ((d.add (b.1.toNat*3)).add 2)=some (.int .i64 i) ∧
 drM j fun d=>
 Aa1 P N.Hk7 #[.agg #[.bool e,.slice f g h,.int .i64 i],.agg #[.bool a,.slice k l m,.int .i64 n]] d fun a d=>
 vB_ a fun a=>
 drM d fun d=>
 cond (!a)
 (K (.bool false) d)
 (c ((i64.wrap (b.1+1)),()) d))
 (drM a fun a=>
 drM a fun a=>
 drM a fun a=>
 c ((i64.wrap (b.1+1)),()) a)))
 (a (()) d))
 (0,()) w)
 (fun a b=>
 K (.bool true) b))
def Ca6 (N:Nums) (P:Program) (l:OA) (qj qq:Nat) (m:OA) (qu vf:Nat) (w:World) (K:KV):Prop:=
 cond ((qj:Int) != (qu:Int))
 (K (.bool false) w)
 ((0:Int)≤(i64.wrap ((qu:Int)+12))∧(i64.wrap ((qu:Int)+12))≤(qq:Nat) ∧
 Ad7 (σ:=Unit) (fun a=>
 Ac3 (σ:=Int×Unit) (fun b c d=>
 cond (decide (b.1<(((i64.wrap ((qu:Int)+12)).toNat:Nat):Int)))
 (cond (decide (b.1<(qu:Int)))
 ((0:Int)≤b.1∧b.1<((i64.wrap ((qu:Int)+12)).toNat:Nat) ∧
 Ab6 (Ak1 l 0 qq 1) fun a=>
 cU_ d (a.add (b.1.toNat*1)) fun e=>
 (0:Int)≤b.1∧b.1<(qu:Nat) ∧
 Ab6 m fun f=>
 cU_ d (f.add (b.1.toNat*1)) fun g=>
 cond (!(!(e==g)))
 (cond (decide (b.1≥(qu:Int)))
 ((0:Int)≤b.1∧b.1<((i64.wrap ((qu:Int)+12)).toNat:Nat) ∧
 Ab6 (Ak1 l 0 qq 1) fun h=>
 cU_ d (h.add (b.1.toNat*1)) fun i=>
 drM d fun d=>
 Aa1 P N.Hs1 #[.int .i64 1,.int .i64 (i64.wrap (b.1-(qu:Int)))] d fun d j=>
 ∃ k,d=(.int .i64 k) ∧
 j.cell? (h.add (b.1.toNat*1))=some (.int .u64 i) ∧
 j.cell? (f.add (b.1.toNat*1))=some (.int .u64 g) ∧
 j.cell? (a.add (b.1.toNat*1))=some (.int .u64 e) ∧
 drM j fun a=>
 cond (!(i==(u64.wrap k)))
 (K (.bool false) a)
 (c ((i64.wrap (b.1+1)),()) a))
 (drM d fun d=>
 d.cell? (f.add (b.1.toNat*1))=some (.int .u64 g) ∧
 d.cell? (a.add (b.1.toNat*1))=some (.int .u64 e) ∧
 drM d fun a=>
 c ((i64.wrap (b.1+1)),()) a))
 (drM d fun c=>
 c.cell? (f.add (b.1.toNat*1))=some (.int .u64 g) ∧
 c.cell? (a.add (b.1.toNat*1))=some (.int .u64 e) ∧
 drM c fun a=>
 K (.bool false) a))
 (cond (decide (b.1≥(qu:Int)))
 ((0:Int)≤b.1∧b.1<((i64.wrap ((qu:Int)+12)).toNat:Nat) ∧
 Ab6 (Ak1 l 0 qq 1) fun a=>
 cU_ d (a.add (b.1.toNat*1)) fun e=>
 drM d fun d=>
 Aa1 P N.Hs1 #[.int .i64 1,.int .i64 (i64.wrap (b.1-(qu:Int)))] d fun d f=>
 ∃ g,d=(.int .i64 g) ∧
 f.cell? (a.add (b.1.toNat*1))=some (.int .u64 e) ∧
 drM f fun a=>
 cond (!(e==(u64.wrap g)))
 (K (.bool false) a)
 (c ((i64.wrap (b.1+1)),()) a))
 (drM d fun a=>
 drM a fun a=>
 c ((i64.wrap (b.1+1)),()) a)))
 (a (()) d))
 (0,()) w)
 (fun a b=>
 K (.bool true) b))
def Cj7 (N:Nums) (P:Program) (g:Int) (h:Int) (w:World) (K:KV):Prop:=
 Ac8 #[.bool false,.slice none 0 0,.int .i64 0] N.Hs7 w fun a b=>
 Aa1 P N.Hs1 #[.int .i64 g,.int .i64 h] b fun b c=>
 ∃ d,b=(.int .i64 d) ∧
 s3D a false none 0 0 d c fun b=>
 c3D b a fun a c d e f=>
 K (.agg #[.bool a,.slice c d e,.int .i64 f]) b
def Em3 (N:Nums) (P:Program) (a:Int) (b:Int) (w:World) (K:KV):Prop:=
 K (.int .i64 (i64.wrap ((i64.wrap (1000003*(i64.wrap (a+7))))+b))) w
def Aj3 (N:Nums) (P:Program) (e:OA) (qj qq:Nat) (w:World) (K:KV):Prop:=
 cond (Option.isNone e)
 (K (.slice none 0 0) w)
 (Ac8 #[] N.Hs7 w fun a b=>
 Bn8 N.Hs7 3 40 #[.bool false,.slice none 0 0,.int .i64 0] (some a) 0 0 e qj b fun a b c d=>
 K (.slice a b c) d)
end Go.Eng
