/-
 Functions of plain Lean beside functions of the program, printed by a program of the session. No condition.
-/
import Derived.Test.YtlnelldekejadaaGreatBgo
set_option linter.all false
set_option maxRecDepth 100000
open BitVec renaming ofInt→AA
namespace Go.Eng
open Go
open Go.IntKind (i64 u64 u32 u8)
def Az6 (l0:List Int):Int→Option (Int⊕(Int)):=fun st=>match st with
| a=>
 cond (decide (a>0))
  ((atI l0 (i64.wrap (a-1))).bind fun b=>
   cond (b==0)
    (some (.inl (i64.wrap (a-1))))
    (some (.inr a)))
  (some (.inr a))
def Ag5 (l0:List Int):Option Int:=
 (some ((l0.length:Nat):Int)).bind fun b=>
 (Af5 (Az6 l0) FU b).bind fun a=>
 (Cd8 l0 0 a).bind fun c=>
 some a
def Az7 (l0:List Int) (a:Int):(Int×List Int)→Option ((Int×List Int)⊕(List Int)):=fun st=>match st with
| (b,c)=>
 (some ((l0.length:Nat):Int)).bind fun f=>
 cond (decide (b<f))
  ((atI l0 b).bind fun e=>
   (nn (a.tmod 32)).bind fun j=>
   (atI c (i64.wrap (b+(i64.wrap (u64.wrap (a.tdiv 32)))))).bind fun g=>
   (atI c (i64.wrap (b+(i64.wrap (u64.wrap (a.tdiv 32)))))).bind fun k=>
   (some (c.set ((i64.wrap (b+(i64.wrap (u64.wrap (a.tdiv 32)))))).toNat (u32.wrap (AA u32.bits g ||| AA u32.bits (u32.wrap (u64.wrap ((u64.wrap e)*2^(min (a.tmod 32).toNat u64.bits))))).toNat))).bind fun d=>
   (atI d (i64.wrap ((i64.wrap (b+(i64.wrap (u64.wrap (a.tdiv 32)))))+1))).bind fun h=>
   (atI d (i64.wrap ((i64.wrap (b+(i64.wrap (u64.wrap (a.tdiv 32)))))+1))).bind fun l=>
   (some (d.set ((i64.wrap ((i64.wrap (b+(i64.wrap (u64.wrap (a.tdiv 32)))))+1))).toNat (u32.wrap (AA u32.bits h ||| AA u32.bits (u32.wrap ((u64.wrap ((u64.wrap e)*2^(min (a.tmod 32).toNat u64.bits))).fdiv (2^(min (32:Int).toNat u64.bits))))).toNat))).bind fun i=>
   some (.inl ((i64.wrap (b+1)),i)))
  (some (.inr c))
def Bc7 (l0:List Int) (a:Int):Option (List Int):=
 (some ((l0.length:Nat):Int)).bind fun d=>
 cond (d==0)
  (some ([]:List Int))
  ((some ((l0.length:Nat):Int)).bind fun b=>
   (mkL 0 (i64.wrap ((i64.wrap (b+(i64.wrap (u64.wrap (a.tdiv 32)))))+1)) (i64.wrap ((i64.wrap (b+(i64.wrap (u64.wrap (a.tdiv 32)))))+1))).bind fun e=>
   (Af5 (Az7 l0 a) FU (0,e)).bind fun c=>
   (Ag5 c).bind fun f=>
   (Cd8 c 0 f).bind fun g=>
   some g)
def Cn7 (b:Bool) (l1_1:List Int) (c:Int):Option (Bool×List Int):=
 (Bc7 l1_1 c).bind fun a=>
 (some (b&&decide (0<a.length))).bind fun d=>
 some (d,a)
def Au2 (a:Int):Option (List Int):=
 (some [(u32.wrap a),(u32.wrap (a.fdiv (2^(min (32:Int).toNat u64.bits))))]).bind fun b=>
 (Ag5 b).bind fun c=>
 (Cd8 b 0 c).bind fun d=>
 some d
def Ay9 (b:Int):Option (Bool×List Int):=
 (Au2 b).bind fun a=>
 (some (false&&decide (0<a.length))).bind fun c=>
 some (c,a)
def Cw6 (e:Int):(Int×Int×List Int)→Option ((Int×Int×List Int)⊕(List Int)):=fun st=>match st with
| (c,a,b)=>
 cond (decide (a<e))
  ((atI b a).bind fun d=>
   (atI b a).bind fun g=>
   (some (b.set (a).toNat (u32.wrap (u64.wrap (c+(u64.wrap (u32.wrap (AA u32.bits (u32.max) ^^^ AA u32.bits d).toNat))))))).bind fun f=>
   some (.inl (((u64.wrap (c+(u64.wrap (u32.wrap (AA u32.bits (u32.max) ^^^ AA u32.bits d).toNat)))).fdiv (2^(min (32:Int).toNat u64.bits))),(i64.wrap (a+1)),f)))
  (some (.inr b))
def Be6 (c:Bool) (l0_1:List Int) (a:Int):Option (List Int):=
 (mkL 0 a a).bind fun d=>
 (some (Fd1 d l0_1)).bind fun b=>
 (cond c
   ((Af5 (Cw6 a) FU (1,0,b)).bind fun e=>
    some e)
   (some b)).bind fun f=>
 some f
def Df6  : (Int×Int×List Int)→Option ((Int×Int×List Int)⊕(List Int)):=fun st=>match st with
| (c,a,b)=>
 (some ((b.length:Nat):Int)).bind fun e=>
 cond (decide (a<e))
  ((atI b a).bind fun d=>
   (atI b a).bind fun g=>
   (some (b.set (a).toNat (u32.wrap (u64.wrap (c+(u64.wrap (u32.wrap (AA u32.bits (u32.max) ^^^ AA u32.bits d).toNat))))))).bind fun f=>
   some (.inl (((u64.wrap (c+(u64.wrap (u32.wrap (AA u32.bits (u32.max) ^^^ AA u32.bits d).toNat)))).fdiv (2^(min (32:Int).toNat u64.bits))),(i64.wrap (a+1)),f)))
  (some (.inr b))
def Ce1 (a:List Int):Option (Bool×List Int):=
 ((some ((a.length:Nat):Int)).bind fun e=>
  cond (decide (e>0))
   ((some ((a.length:Nat):Int)).bind fun f=>
    (atI a (i64.wrap (f-1))).bind fun g=>
    some ((g.fdiv (2^(min (31:Int).toNat u32.bits)))==1))
   (some false)).bind fun h=>
 cond h
  ((Af5 (Df6) FU (1,0,a)).bind fun b=>
   (Ag5 b).bind fun i=>
   (Cd8 b 0 i).bind fun c=>
   (some (true&&decide (0<c.length))).bind fun j=>
   some (j,c))
  ((Ag5 a).bind fun k=>
   (Cd8 a 0 k).bind fun d=>
   (some (false&&decide (0<d.length))).bind fun l=>
   some (l,d))
def Bg8 (c:Int) (d:Int) (e:List Int):(Int×List Int)→Option ((Int×List Int)⊕(List Int)):=fun st=>match st with
| (a,b)=>
 cond (decide (a<(i64.wrap ((if c>d then c else d)+1))))
  ((atI b a).bind fun f=>
   (atI e a).bind fun g=>
   (atI b a).bind fun i=>
   (some (b.set (a).toNat (u32.wrap (AA u32.bits f ||| AA u32.bits g).toNat))).bind fun h=>
   some (.inl ((i64.wrap (a+1)),h)))
  (some (.inr b))
def Dn3 (d:Bool) (l1_1:List Int) (e:Bool) (c:List Int):Option (Bool×List Int):=
 (some ((l1_1.length:Nat):Int)).bind fun a=>
 (some ((c.length:Nat):Int)).bind fun b=>
 (Be6 d l1_1 (i64.wrap ((if b>a then b else a)+1))).bind fun f=>
 (Be6 e c (i64.wrap ((if b>a then b else a)+1))).bind fun g=>
 (Af5 (Bg8 b a g) FU (0,f)).bind fun h=>
 (Ce1 h).bind fun o=>match o with
 | (i,j)=>
 some (i,j)
def Bc4 (l0:List Int):Option (List Int):=
 (Dp2 ([]:List Int) l0).bind fun a=>
 some a
def Co3 (b:Bool) (l1_1:List Int):Option (Bool×List Int):=
 (Bc4 l1_1).bind fun a=>
 (some ((!b)&&decide (0<a.length))).bind fun c=>
 some (c,a)
def Ar0 (l0:List Int) (b:List Int):Int→Option (Int⊕(Unit⊕Int)):=fun st=>match st with
| a=>
 cond (decide (a≥0))
  ((atI l0 a).bind fun c=>
   (atI b a).bind fun d=>
   cond (c != d)
    ((atI l0 a).bind fun e=>
     (atI b a).bind fun f=>
     cond (decide (e<f))
      (some (.inr (.inr (-1))))
      (some (.inr (.inr 1))))
    (some (.inl (i64.wrap (a-1)))))
  (some (.inr (.inl ())))
def Bk1 (l0:List Int) (a:List Int):Option Int:=
 (some ((l0.length:Nat):Int)).bind fun b=>
 (some ((a.length:Nat):Int)).bind fun c=>
 cond (b != c)
  ((some ((l0.length:Nat):Int)).bind fun d=>
   (some ((a.length:Nat):Int)).bind fun e=>
   cond (decide (d<e))
    (some (-1))
    (some 1))
  ((some ((l0.length:Nat):Int)).bind fun f=>
   ((Af5 (Ar0 l0 a) FU (i64.wrap (f-1)):Option (Unit⊕Int))).bind fun o=>match o with
   | .inl ()=>some 0
   | .inr v=>some v)
def Co1 (a:Bool) (l0_1:List Int) (c:Bool) (l1_1:List Int):Option Int:=
 cond (!(a==c))
  (cond a
    (some (-1))
    (some 1))
  ((Bk1 l0_1 l1_1).bind fun b=>
   cond a
    (some (i64.wrap (0-b)))
    (some b))
def At2 (d:List Int) (e:List Int):(Int×Int×List Int)→Option ((Int×Int×List Int)⊕((Int×List Int))):=fun st=>match st with
| (b,a,c)=>
 (some ((d.length:Nat):Int)).bind fun h=>
 cond (decide (a<h))
  ((atI d a).bind fun f=>
   (some ((e.length:Nat):Int)).bind fun i=>
   (cond (decide (a<i))
     ((atI e a).bind fun j=>
      some (u64.wrap ((u64.wrap (b+(u64.wrap f)))+(u64.wrap j))))
     (some (u64.wrap (b+(u64.wrap f))))).bind fun g=>
   (atI c a).bind fun l=>
   (some (c.set (a).toNat (u32.wrap g))).bind fun k=>
   some (.inl ((g.fdiv (2^(min (32:Int).toNat u64.bits))),(i64.wrap (a+1)),k)))
  (some (.inr (b,c)))
def Br2 (l0:List Int) (a:List Int):Option (List Int):=
 (some ((l0.length:Nat):Int)).bind fun g=>
 (some ((a.length:Nat):Int)).bind fun h=>
 (cond (decide (g<h))
   (some (a,l0))
   (some (l0,a))).bind fun o=>match o with
 | (b,i)=>
 (some ((b.length:Nat):Int)).bind fun c=>
 (mkL 0 (i64.wrap (c+1)) (i64.wrap (c+1))).bind fun j=>
 (Af5 (At2 b i) FU (0,0,j)).bind fun o=>match o with
 | (k,d)=>
 (some ((b.length:Nat):Int)).bind fun e=>
 (atI d e).bind fun n=>
 (some (d.set (e).toNat (u32.wrap k))).bind fun f=>
 (Ag5 f).bind fun l=>
 (Cd8 f 0 l).bind fun m=>
 some m
def Ax7 (l0:List Int) (c:List Int):(Int×Int×List Int)→Option ((Int×Int×List Int)⊕(List Int)):=fun st=>match st with
| (d,a,b)=>
 (some ((l0.length:Nat):Int)).bind fun g=>
 cond (decide (a<g))
  ((atI l0 a).bind fun e=>
   (some ((c.length:Nat):Int)).bind fun h=>
   (cond (decide (a<h))
     ((atI c a).bind fun i=>
      some (u64.wrap ((u64.wrap ((u64.wrap e)-d))-(u64.wrap i))))
     (some (u64.wrap ((u64.wrap e)-d)))).bind fun f=>
   (atI b a).bind fun k=>
   (some (b.set (a).toNat (u32.wrap f))).bind fun j=>
   some (.inl ((f.fdiv (2^(min (63:Int).toNat u64.bits))),(i64.wrap (a+1)),j)))
  (some (.inr b))
def Bj9 (l0:List Int) (c:List Int):Option (List Int):=
 (some ((l0.length:Nat):Int)).bind fun a=>
 (mkL 0 a a).bind fun d=>
 (Af5 (Ax7 l0 c) FU (0,0,d)).bind fun b=>
 (Ag5 b).bind fun e=>
 (Cd8 b 0 e).bind fun f=>
 some f
def Br0 (c:Bool) (a:List Int) (d:Bool) (b:List Int):Option (Bool×List Int):=
 cond (c==d)
  ((Br2 a b).bind fun e=>
   some (c,e))
  ((Bk1 a b).bind fun f=>
   cond (decide (f≥0))
    ((Bj9 a b).bind fun g=>
     some (c,g))
    ((Bj9 b a).bind fun h=>
     some (d,h)))
def Cn0 (b:Bool) (l1_1:List Int) (c:Bool) (d:List Int):Option (Bool×List Int):=
 (Br0 b l1_1 (!c) d).bind fun o=>match o with
 | (e,a)=>
 (some (e&&decide (0<a.length))).bind fun f=>
 some (f,a)
def Bz1 (a:Bool) (l0_1:List Int):Option Int:=
 (some ((l0_1.length:Nat):Int)).bind fun b=>
 cond (b==0)
  (some 0)
  (cond a
    (some (-1))
    (some 1))
def Cb2 (l0:List Int) (a:Int):Option Int:=
 cond (!(decide (a<0)))
  ((some ((l0.length:Nat):Int)).bind fun b=>
   cond (decide ((i64.wrap (a.tdiv 32))≥b))
    (some 0)
    ((atI l0 (i64.wrap (a.tdiv 32))).bind fun c=>
     (nn ((u64.wrap a).tmod 32)).bind fun d=>
     some (u64.wrap (AA u64.bits (u64.wrap (c.fdiv (2^(min ((u64.wrap a).tmod 32).toNat u32.bits)))) &&& AA u64.bits 1).toNat)))
  (some 0)
def Af3 (l0_1:List Int):Int→Option (Int⊕(Int)):=fun st=>match st with
| a=>
 (Cb2 l0_1 (i64.wrap a)).bind fun b=>
 cond (b==0)
  (some (.inl (u64.wrap (a+1))))
  (some (.inr a))
def Ak8 (c:Bool) (l0_1:List Int):Option Int:=
 (some ((l0_1.length:Nat):Int)).bind fun a=>
 cond (a==0)
  (some 0)
  ((Af5 (Af3 l0_1) FU 0).bind fun b=>
   some b)
def Ao6  : (Int×Int)→Option ((Int×Int)⊕(Int)):=fun st=>match st with
| (a,b)=>
 cond (b != 0)
  (some (.inl ((i64.wrap (a+1)),(b.fdiv (2^(min (1:Int).toNat u32.bits))))))
  (some (.inr a))
def Ax9 (l0:List Int):Option Int:=
 (some ((l0.length:Nat):Int)).bind fun a=>
 cond (a==0)
  (some 0)
  ((some ((l0.length:Nat):Int)).bind fun b=>
   (atI l0 (i64.wrap (b-1))).bind fun c=>
   (Af5 (Ao6) FU (0,c)).bind fun d=>
   (some ((l0.length:Nat):Int)).bind fun e=>
   some (i64.wrap ((i64.wrap ((i64.wrap (e-1))*32))+d)))
def Bj4 (b:Bool) (l0_1:List Int):Option Int:=
 (Ax9 l0_1).bind fun a=>
 some a
def Ar4 (l0:List Int) (b:Int):(Int×List Int)→Option ((Int×List Int)⊕(List Int)):=fun st=>match st with
| (a,c)=>
 (some ((c.length:Nat):Int)).bind fun e=>
 cond (decide (a<e))
  ((atI l0 (i64.wrap (a+(i64.wrap (u64.wrap (b.tdiv 32)))))).bind fun d=>
   (some ((l0.length:Nat):Int)).bind fun f=>
   (cond (decide ((i64.wrap ((i64.wrap (a+(i64.wrap (u64.wrap (b.tdiv 32)))))+1))<f))
     ((atI l0 (i64.wrap ((i64.wrap (a+(i64.wrap (u64.wrap (b.tdiv 32)))))+1))).bind fun g=>
      some (u64.wrap (AA u64.bits (u64.wrap d) ||| AA u64.bits (u64.wrap ((u64.wrap g)*2^(min (32:Int).toNat u64.bits)))).toNat))
     (some (u64.wrap d))).bind fun h=>
   (nn (b.tmod 32)).bind fun j=>
   (atI c a).bind fun k=>
   (some (c.set (a).toNat (u32.wrap (h.fdiv (2^(min (b.tmod 32).toNat u64.bits)))))).bind fun i=>
   some (.inl ((i64.wrap (a+1)),i)))
  (some (.inr c))
def Ar3 (l0:List Int) (a:Int):Option (List Int):=
 (some ((l0.length:Nat):Int)).bind fun d=>
 cond (decide ((i64.wrap (u64.wrap (a.tdiv 32)))≥d))
  (some ([]:List Int))
  ((some ((l0.length:Nat):Int)).bind fun b=>
   (mkL 0 (i64.wrap (b-(i64.wrap (u64.wrap (a.tdiv 32))))) (i64.wrap (b-(i64.wrap (u64.wrap (a.tdiv 32)))))).bind fun e=>
   (Af5 (Ar4 l0 a) FU (0,e)).bind fun c=>
   (Ag5 c).bind fun f=>
   (Cd8 c 0 f).bind fun g=>
   some g)
def Bf7 (d:Bool) (l1_1:List Int) (a:Int):Option (Bool×List Int):=
 cond d
  ((some [1]).bind fun e=>
   (Bj9 l1_1 e).bind fun f=>
   (Ar3 f a).bind fun g=>
   (some [1]).bind fun h=>
   (Br2 g h).bind fun b=>
   (some (true&&decide (0<b.length))).bind fun i=>
   some (i,b))
  ((Ar3 l1_1 a).bind fun c=>
   (some (false&&decide (0<c.length))).bind fun j=>
   some (j,c))
def Bb7 (a:Int):Option (Bool×List Int):=
 (cond (decide (a<0))
   (some (u64.wrap (0-(u64.wrap a))))
   (some (u64.wrap a))).bind fun c=>
 (Au2 c).bind fun b=>
 (some ((decide (a<0))&&decide (0<b.length))).bind fun d=>
 some (d,b)
def Cn5 (b:Bool) (l1_1:List Int) (c:Bool) (d:List Int):Option (Bool×List Int):=
 (Br0 b l1_1 c d).bind fun o=>match o with
 | (e,a)=>
 (some (e&&decide (0<a.length))).bind fun f=>
 some (f,a)
def At1 (e:List Int) (l0:List Int) (b:Int):(Int×Int×List Int)→Option ((Int×Int×List Int)⊕((Int×List Int))):=fun st=>match st with
| (d,a,c)=>
 (some ((e.length:Nat):Int)).bind fun i=>
 cond (decide (a<i))
  ((atI l0 b).bind fun f=>
   (atI e a).bind fun g=>
   (atI c (i64.wrap (b+a))).bind fun h=>
   (atI c (i64.wrap (b+a))).bind fun k=>
   (some (c.set ((i64.wrap (b+a))).toNat (u32.wrap (u64.wrap (d+(u64.wrap ((u64.wrap ((u64.wrap f)*(u64.wrap g)))+(u64.wrap h)))))))).bind fun j=>
   some (.inl (((u64.wrap (d+(u64.wrap ((u64.wrap ((u64.wrap f)*(u64.wrap g)))+(u64.wrap h))))).fdiv (2^(min (32:Int).toNat u64.bits))),(i64.wrap (a+1)),j)))
  (some (.inr (d,c)))
def Bd5 (l0:List Int) (b:List Int):(Int×List Int)→Option ((Int×List Int)⊕(List Int)):=fun st=>match st with
| (a,c)=>
 (some ((l0.length:Nat):Int)).bind fun f=>
 cond (decide (a<f))
  ((Af5 (At1 b l0 a) FU (0,0,c)).bind fun o=>match o with
   | (g,d)=>
   (some ((b.length:Nat):Int)).bind fun e=>
   (atI d (i64.wrap (a+e))).bind fun i=>
   (some (d.set ((i64.wrap (a+e))).toNat (u32.wrap g))).bind fun h=>
   some (.inl ((i64.wrap (a+1)),h)))
  (some (.inr c))
def By2 (l0:List Int) (a:List Int):Option (List Int):=
 ((some ((l0.length:Nat):Int)).bind fun e=>
  cond (!(e==0))
   ((some ((a.length:Nat):Int)).bind fun f=>
    some (f==0))
   (some true)).bind fun g=>
 cond g
  (some ([]:List Int))
  ((some ((l0.length:Nat):Int)).bind fun b=>
   (some ((a.length:Nat):Int)).bind fun c=>
   (mkL 0 (i64.wrap (b+c)) (i64.wrap (b+c))).bind fun h=>
   (Af5 (Bd5 l0 a) FU (0,h)).bind fun d=>
   (Ag5 d).bind fun i=>
   (Cd8 d 0 i).bind fun j=>
   some j)
def Cn6 (b:Bool) (l1_1:List Int) (c:Bool) (d:List Int):Option (Bool×List Int):=
 (By2 l1_1 d).bind fun a=>
 (some ((!(b==c))&&decide (0<a.length))).bind fun e=>
 some (e,a)
def Bb9 (l0:List Int):Option Int:=
 (some ((l0.length:Nat):Int)).bind fun b=>
 (cond (decide (b>0))
   ((atI l0 0).bind fun c=>
    some (u64.wrap c))
   (some 0)).bind fun a=>
 (some ((l0.length:Nat):Int)).bind fun d=>
 (cond (decide (d>1))
   ((atI l0 1).bind fun e=>
    some (u64.wrap (AA u64.bits a ||| AA u64.bits (u64.wrap ((u64.wrap e)*2^(min (32:Int).toNat u64.bits)))).toNat))
   (some a)).bind fun f=>
 some f
def Aw2 (l0:List Int) (b:Int):(Int×Int×List Int)→Option ((Int×Int×List Int)⊕((Int×List Int))):=fun st=>match st with
| (c,a,d)=>
 cond (decide (a≥0))
  ((atI l0 a).bind fun e=>
   (nz (u64.wrap b)).bind fun g=>
   (atI d a).bind fun h=>
   (some (d.set (a).toNat (u32.wrap (u64.wrap ((u64.wrap (AA u64.bits (u64.wrap (c*2^(min (32:Int).toNat u64.bits))) ||| AA u64.bits (u64.wrap e)).toNat).tdiv (u64.wrap b)))))).bind fun f=>
   (nz (u64.wrap b)).bind fun i=>
   some (.inl (((u64.wrap (AA u64.bits (u64.wrap (c*2^(min (32:Int).toNat u64.bits))) ||| AA u64.bits (u64.wrap e)).toNat).tmod (u64.wrap b)),(i64.wrap (a-1)),f)))
  (some (.inr (c,d)))
def Bh6 (l0:List Int) (c:Int):Option (List Int×Int):=
 (some ((l0.length:Nat):Int)).bind fun a=>
 (mkL 0 a a).bind fun d=>
 (some ((l0.length:Nat):Int)).bind fun e=>
 (Af5 (Aw2 l0 c) FU (0,(i64.wrap (e-1)),d)).bind fun o=>match o with
 | (f,b)=>
 (Ag5 b).bind fun g=>
 (Cd8 b 0 g).bind fun h=>
 some (h,(u32.wrap f))
def Az3 (d:List Int) (e:Int) (f:Int) (g:Int) (c:Int):(Int×Int)→Option ((Int×Int)⊕(Int)):=fun st=>match st with
| (a,b)=>
 cond (!(decide (a>4294967295)))
  ((atI d (i64.wrap ((i64.wrap (e+f))-2))).bind fun h=>
   cond (decide ((u64.wrap (a*(u64.wrap g)))>(u64.wrap (AA u64.bits (u64.wrap (b*2^(min (32:Int).toNat u64.bits))) ||| AA u64.bits (u64.wrap h)).toNat)))
    (cond (decide ((u64.wrap (b+(u64.wrap c)))>4294967295))
      (some (.inr (u64.wrap (a-1))))
      (some (.inl ((u64.wrap (a-1)),(u64.wrap (b+(u64.wrap c)))))))
    (some (.inr a)))
  (cond (decide ((u64.wrap (b+(u64.wrap c)))>4294967295))
    (some (.inr (u64.wrap (a-1))))
    (some (.inl ((u64.wrap (a-1)),(u64.wrap (b+(u64.wrap c)))))))
def Au8 (i:Int) (j:List Int) (d:Int) (e:Int):(Int×Int×Int×List Int)→Option ((Int×Int×Int×List Int)⊕((Int×Int×List Int))):=fun st=>match st with
| (b,f,a,c)=>
 cond (decide (a<i))
  ((atI j a).bind fun g=>
   (atI c (i64.wrap (a+d))).bind fun h=>
   (atI c (i64.wrap (a+d))).bind fun l=>
   (some (c.set ((i64.wrap (a+d))).toNat (u32.wrap (u64.wrap ((u64.wrap ((u64.wrap h)-(u64.wrap (u32.wrap (u64.wrap (b+(u64.wrap (e*(u64.wrap g)))))))))-f))))).bind fun k=>
   some (.inl (((u64.wrap (b+(u64.wrap (e*(u64.wrap g))))).fdiv (2^(min (32:Int).toNat u64.bits))),((u64.wrap ((u64.wrap ((u64.wrap h)-(u64.wrap (u32.wrap (u64.wrap (b+(u64.wrap (e*(u64.wrap g)))))))))-f)).fdiv (2^(min (63:Int).toNat u64.bits))),(i64.wrap (a+1)),k)))
  (some (.inr (b,f,c)))
def Au7 (g:Int) (c:Int) (h:List Int):(Int×Int×List Int)→Option ((Int×Int×List Int)⊕((Int×List Int))):=fun st=>match st with
| (d,a,b)=>
 cond (decide (a<g))
  ((atI b (i64.wrap (a+c))).bind fun e=>
   (atI h a).bind fun f=>
   (atI b (i64.wrap (a+c))).bind fun j=>
   (some (b.set ((i64.wrap (a+c))).toNat (u32.wrap (u64.wrap (d+(u64.wrap ((u64.wrap e)+(u64.wrap f)))))))).bind fun i=>
   some (.inl (((u64.wrap (d+(u64.wrap ((u64.wrap e)+(u64.wrap f))))).fdiv (2^(min (32:Int).toNat u64.bits))),(i64.wrap (a+1)),i)))
  (some (.inr (d,b)))
def Aq5 (b:Int) (c:Int) (q:Int) (i:List Int):(Int×List Int×List Int)→Option ((Int×List Int×List Int)⊕((List Int×List Int))):=fun st=>match st with
| (a,e,d)=>
 cond (decide (a≥0))
  ((atI d (i64.wrap (a+b))).bind fun j=>
   (atI d (i64.wrap ((i64.wrap (a+b))-1))).bind fun k=>
   (nz (u64.wrap c)).bind fun y=>
   (nz (u64.wrap c)).bind fun z=>
   (Af5 (Az3 d a b q c) FU ((u64.wrap ((u64.wrap (AA u64.bits (u64.wrap ((u64.wrap j)*2^(min (32:Int).toNat u64.bits))) ||| AA u64.bits (u64.wrap k)).toNat).tdiv (u64.wrap c))),((u64.wrap (AA u64.bits (u64.wrap ((u64.wrap j)*2^(min (32:Int).toNat u64.bits))) ||| AA u64.bits (u64.wrap k)).toNat).tmod (u64.wrap c)))).bind fun f=>
   (Af5 (Au8 b i a f) FU (0,0,0,d)).bind fun o=>match o with
   | (l,m,g)=>
   (atI g (i64.wrap (a+b))).bind fun n=>
   (atI g (i64.wrap (a+b))).bind fun aa=>
   (some (g.set ((i64.wrap (a+b))).toNat (u32.wrap (u64.wrap ((u64.wrap ((u64.wrap n)-l))-m))))).bind fun p=>
   (cond (((u64.wrap ((u64.wrap ((u64.wrap n)-l))-m)).fdiv (2^(min (63:Int).toNat u64.bits))) != 0)
     ((Af5 (Au7 b a i) FU (0,0,p)).bind fun o=>match o with
      | (r,h)=>
      (atI h (i64.wrap (a+b))).bind fun s=>
      (atI h (i64.wrap (a+b))).bind fun ab=>
      (some (h.set ((i64.wrap (a+b))).toNat (u32.wrap (s+(u32.wrap r))))).bind fun t=>
      some ((u64.wrap (f-1)),t))
     (some (f,p))).bind fun o=>match o with
   | (u,v)=>
   (atI e a).bind fun ac=>
   (some (e.set (a).toNat (u32.wrap u))).bind fun x=>
   some (.inl ((i64.wrap (a-1)),x,v)))
  (some (.inr (e,d)))
def Bx7 (l0:List Int) (a:List Int):Option (List Int×List Int):=
 (some ((a.length:Nat):Int)).bind fun m=>
 cond (m==0)
  (some (([]:List Int),([]:List Int)))
  ((Bk1 l0 a).bind fun n=>
   cond (decide (n<0))
    ((Bc4 l0).bind fun p=>
     some (([]:List Int),p))
    ((some ((l0.length:Nat):Int)).bind fun q=>
     cond (decide (q≤2))
      ((Bb9 l0).bind fun g=>
       (Bb9 a).bind fun c=>
       (nz c).bind fun ak=>
       (nz c).bind fun t9=>
       (Au2 (u64.wrap (g.tdiv c))).bind fun r=>
       (Au2 (g.tmod c)).bind fun s=>
       some (r,s))
      ((some ((a.length:Nat):Int)).bind fun t=>
       cond (t==1)
        ((atI a 0).bind fun u=>
         (Bh6 l0 u).bind fun o=>match o with
         | (v,x)=>
         (some [x]).bind fun h=>
         (Ag5 h).bind fun y=>
         (Cd8 h 0 y).bind fun z=>
         some (v,z))
        ((Ax9 a).bind fun e=>
         (Bc7 a (u64.wrap (i64.wrap ((i64.wrap (32-((i64.wrap (e-1)).tmod 32)))-1)))).bind fun d=>
         (some ((l0.length:Nat):Int)).bind fun i=>
         (mkL 0 (i64.wrap (i+2)) (i64.wrap (i+2))).bind fun aa=>
         (Bc7 l0 (u64.wrap (i64.wrap ((i64.wrap (32-((i64.wrap (e-1)).tmod 32)))-1)))).bind fun ab=>
         (some (Fd1 aa ab)).bind fun j=>
         (some ((d.length:Nat):Int)).bind fun b=>
         (some ((j.length:Nat):Int)).bind fun f=>
         (mkL 0 (i64.wrap ((i64.wrap ((i64.wrap (f-b))-1))+1)) (i64.wrap ((i64.wrap ((i64.wrap (f-b))-1))+1))).bind fun ac=>
         (atI d (i64.wrap (b-1))).bind fun ad=>
         (atI d (i64.wrap (b-2))).bind fun ae=>
         (Af5 (Aq5 b ad ae d) FU ((i64.wrap ((i64.wrap (f-b))-1)),ac,j)).bind fun o=>match o with
         | (k,l)=>
         (Ag5 k).bind fun af=>
         (Cd8 k 0 af).bind fun ag=>
         (Ag5 l).bind fun ah=>
         (Cd8 l 0 ah).bind fun ai=>
         (Ar3 ai (u64.wrap (i64.wrap ((i64.wrap (32-((i64.wrap (e-1)).tmod 32)))-1)))).bind fun aj=>
         some (ag,aj)))))
def Cn9 (c:Bool) (l1_1:List Int):Option (Bool×List Int):=
 (Bc4 l1_1).bind fun a=>
 (some (false&&decide (0<a.length))).bind fun b=>
 some (b,a)
def Bj7 (g:Bool) (l0_1:List Int):Option Int:=
 (some ((l0_1.length:Nat):Int)).bind fun b=>
 (cond (decide (b>0))
   ((atI l0_1 0).bind fun c=>
    some (u64.wrap c))
   (some 0)).bind fun a=>
 (some ((l0_1.length:Nat):Int)).bind fun d=>
 (cond (decide (d>1))
   ((atI l0_1 1).bind fun e=>
    some (u64.wrap (AA u64.bits a ||| AA u64.bits (u64.wrap ((u64.wrap e)*2^(min (32:Int).toNat u64.bits)))).toNat))
   (some a)).bind fun f=>
 some f
def Bd0 (c:Int) (d:Int) (e:List Int):(Int×List Int)→Option ((Int×List Int)⊕(List Int)):=fun st=>match st with
| (a,b)=>
 cond (decide (a<(i64.wrap ((if c>d then c else d)+1))))
  ((atI b a).bind fun f=>
   (atI e a).bind fun g=>
   (atI b a).bind fun i=>
   (some (b.set (a).toNat (u32.wrap (AA u32.bits f &&& AA u32.bits g).toNat))).bind fun h=>
   some (.inl ((i64.wrap (a+1)),h)))
  (some (.inr b))
def Co2 (d:Bool) (l1_1:List Int) (e:Bool) (c:List Int):Option (Bool×List Int):=
 (some ((l1_1.length:Nat):Int)).bind fun a=>
 (some ((c.length:Nat):Int)).bind fun b=>
 (Be6 d l1_1 (i64.wrap ((if b>a then b else a)+1))).bind fun f=>
 (Be6 e c (i64.wrap ((if b>a then b else a)+1))).bind fun g=>
 (Af5 (Bd0 b a g) FU (0,f)).bind fun h=>
 (Ce1 h).bind fun o=>match o with
 | (i,j)=>
 some (i,j)
end Go.Eng
