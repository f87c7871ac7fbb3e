/-
  A definitional reading of the model's structured code: 'codeD' turns a body into a plain proposition in the manner of a weakest precondition; here the definitions alone. No condition.
-/
import Derived.Calls
import Derived.Still
import Derived.StillTail
import Derived.Deep.Draws
import Derived.Test.YtlnelldekejadaaGreatFl2
set_option linter.all false
open BitVec renaming ofInt→AA
open Nat renaming beq→AB,ble→AC
namespace Go.Eng
open Go
def Out (P:Program) (K:Value→World→Prop):Result Next→Prop
 | .ok (.value v) w=>K v w
 | .ok .skip w=>K undef w
 | .ok (.enter f args) w=>Calls P f args w fun e w'=>∃ v,e = .returned v∧K v w'
 | _=>False
def Aa1 (P:Program) (f:FuncId) (args:Array Value) (w:World) (K:Value→World→Prop):Prop:=Out P K ((callFunc f args).run P w)
inductive TD where
 | bool | int (k:IntKind) | float (k:FloatKind) | string
 | ptr (e:Nat) | slice (e:Nat) | array (n e:Nat) | struct (fs:List (Nat×Nat)) | tuple (ts:List Nat)
 | func | other
structure TI where
 d:TD
 size:Nat
 bytes:Nat
 zero:Value
 eq3:Bool:=false
def TD.isAgg:TD→Bool
 | .array _ _ | .struct _=>true
 | _=>false
def Eh2 {α:Type}:List (Nat×α)→Nat→Option α
 | [],_=>none
 | (k,v)::l,t=>cond (AB k t) (some v) (Eh2 l t)
inductive Ce where
 | int (k:IntKind) | bool | f64 | str | slice | ptr | raw
def Ce.ex:Ce→(Value→Prop)→Prop
 | .int k,K=>∃ n:Int,K (.int k n)
 | .bool,K=>∃ b:Bool,K (.bool b)
 | .f64,K=>∃ x:Nat,K (.float .f64 x)
 | .str,K=>∃ s:ByteArray,K (.string s)
 | .slice,K=>∃ (a:Option Addr) (l c:Nat),K (.slice a l c)
 | .ptr,K=>∃ p:Option Addr,K (.pointer p)
 | .raw,K=>∃ v:Value,K v
def Gx3:List Ce→(List Value→Prop)→Prop
 | [],K=>K []
 | c::cs,K=>c.ex fun v=>Gx3 cs fun vs=>K (v::vs)
def Ce.of:Value→Ce
 | .int k _ => .int k
 | .bool _ => .bool
 | .float .f64 _ => .f64
 | .string _ => .str
 | .slice _ _ _ => .slice
 | .pointer _ => .ptr
 | _ => .raw
def Ai5:Value→List Value
 | .agg cs=>cs.toList
 | v=>[v]
def ces:List Value→List Ce
 | []=>[]
 | v::vs=>Ce.of v::ces vs
def Gy4 (ti:TI) (K:Value→Prop):Prop:=
 cond ti.d.isAgg (Gx3 (ces (Ai5 ti.zero)) fun vs=>K (.agg vs.toArray)) ((Ce.of ti.zero).ex K)
def Fp2 (T:Nat→Option TI):List Nat→(List Value→Prop)→Prop
 | [],K=>K []
 | t::ts,K=>match T t with
   | some ti=>Gy4 ti fun v=>Fp2 T ts fun vs=>K (v::vs)
   | none=>False
def Fs2 (T:Nat→Option TI) (ty:Nat) (K:Value→Prop):Prop:=
 match T ty with
 | some ti=>match ti.d with
   | .tuple ts=>Fp2 T ts fun vs=>K (.tuple vs.toArray)
   | _=>Gy4 ti K
 | none=>False
def Ab6 {α:Type}:Option α→(α→Prop)→Prop
 | some a,K=>K a
 | none,_=>False
def ldC (c:Ce) (w:World) (a:Addr) (K:Value→Prop):Prop:=c.ex fun v=>w.cell? a=some v∧K v
def Fo3:List Ce→Addr→Nat→World→(List Value→Prop)→Prop
 | [],_,_,_,K=>K []
 | c::cs,a,i,w,K=>ldC c w (a.add i) fun v=>Fo3 cs a (i+1) w fun vs=>K (v::vs)
def Gv2 (w:World) (a:Addr):Prop:=(∃ u,w.cell? a=some u)∧w.frozen? a=false
def stM (a:Addr) (v:Value) (w:World) (K:World→Prop):Prop:=Gv2 w a∧K (w.setCell a v)
def Cu7:Value→Bool
 | .agg _ | .tuple _=>false
 | _=>true
def Gx8:List Value→Addr→Nat→World→(World→Prop)→Prop
 | [],_,_,w,K=>K w
 | v::vs,a,i,w,K=>cond (Cu7 v) (stM (a.add i) v w fun w'=>Gx8 vs a (i+1) w' K) False
def Fn1 (ti:TI) (p:Value) (w:World) (K:Value→Prop):Prop:=
 match p with
 | .pointer o=>Ab6 o fun a=>cond ti.d.isAgg (Fo3 (ces (Ai5 ti.zero)) a 0 w fun vs=>K (.agg vs.toArray)) (ldC (Ce.of ti.zero) w a K)
 | _=>False
def Ey5 (ti:TI) (p v:Value) (w:World) (K:World→Prop):Prop:=
 match p with
 | .pointer o=>Ab6 o fun a=>cond (AB (Ai5 v).length ti.size) (Gx8 (Ai5 v) a 0 w K) False
 | _=>False
def Cz6 (n:Nat) (zero:Array Value):Array Value:=(Array.range n).map (zero[· % zero.size]!)
def nxt (w:World):Addr:=⟨w.heap.size,0,none⟩
def Gf6 (w:World) (a:Addr) (l:List Value):Prop:=∀ i,i<l.length→w.cell? (a.add i)=l[i]?
def Dp4 (w:World) (a:Option Addr) (l:List Value):Prop:=
 match a with
 | some a=>Gf6 w a l
 | none=>l = []
def Az9:List Value→Addr→Nat→World→World
 | [],_,_,w=>w
 | v::vs,a,i,w=>Az9 vs a (i+1) (w.setCell (a.add i) v)
def Fx2:List Value→Addr→Nat→World→Prop
 | [],_,_,_=>True
 | v::vs,a,i,w=>Cu7 v=true∧Gv2 w (a.add i)∧Fx2 vs a (i+1) (w.setCell (a.add i) v)
def Bn8 (e size bytes:Nat) (zero:Array Value) (a:Option Addr) (len cap:Nat) (b:Option Addr) (n:Nat) (w:World) (K:Option Addr→Nat→Nat→World→Prop):Prop:=
 ∃ new:List Value,new.length=n*size∧Dp4 w b new ∧
   (len+n≤cap→match a with
    | some x=>Fx2 new (x.add (len*size)) 0 w∧K (some x) (len+n) cap (Az9 new (x.add (len*size)) 0 w)
    | none=>K none (len+n) cap w) ∧
   (cap<len+n→len+n≤35184372088832∧(len+n)*bytes≤35184372088832∧bytes≤4096∧∃ old:List Value,old.length=len*size∧Dp4 w a old ∧
    ∀ (c d:Nat),len+n≤c→K (some (nxt w)) (len+n) c ((w.drewN d).alloc (.cells ((old++new).toArray++Cz6 ((c-(len+n))*zero.size) zero) e)))
def Gt9 (size:Nat) (a:Option Addr) (len:Nat) (b:Option Addr) (n:Nat) (w:World) (K:World→Prop):Prop:=
 ∃ new:List Value,new.length=min n len*size∧Dp4 w b new ∧
   (match a with
   | some x=>Fx2 new x 0 w∧K (Az9 new x 0 w)
   | none=>K w)
def Ak1 (a:Option Addr) (l m size:Nat):Option Addr:=if m=l then a else a.map (·.add (l*size))
def Ac8 (c:Array Value) (t:Nat) (w:World) (K:Addr→World→Prop):Prop:=K (nxt w) (w.alloc (.cells c t))
def mkM (e size bytes:Nat) (zero:Array Value) (l c:Int) (w:World) (K:Addr→World→Prop):Prop:=
 0≤l∧l≤c∧c≤1099511627776∧c*bytes≤281474976710656∧K (nxt w) (w.alloc (.cells (Cz6 (c.toNat*size) zero) e))
def drM (w:World) (K:World→Prop):Prop:=∀ d,K (w.drewN d)
abbrev Env:=Nat→Option Value
def upd (e:Env) (d:Nat) (v:Value):Env:=fun t=>cond (AB t d) (some v) (e t)
def ev (e:Env):Operand→Option Value
 | .tmp t=>e t
 | .const v=>some v
 | .global g=>some (.pointer (some ⟨g,0,none⟩))
 | .func f=>some (.func (.func f) #[] #[])
def evs (e:Env):List Operand→Option (List Value)
 | []=>some []
 | x::xs=>match ev e x with
   | some v=>match evs e xs with
     | some vs=>some (v::vs)
     | none=>none
   | none=>none
def Fd7 (e:Env):List (Nat×Operand)→Option (List (Nat×Value))
 | []=>some []
 | (i,x)::xs=>match ev e x with
   | some v=>match Fd7 e xs with
     | some vs=>some ((i,v)::vs)
     | none=>none
   | none=>none
def evo (e:Env):Option Operand→Option (Option Value)
 | none=>some none
 | some x=>match ev e x with
   | some v=>some (some v)
   | none=>none
def Gy1 (x:Nat) (w:World) (K:Nat→World→Prop):Prop:=∀ r d:Nat,nf r=x→K r (w.drewN d)
def Gm5 (x:Nat) (w:World) (K:Value→World→Prop):Prop:=Gy1 x w fun r w'=>K (.float .f64 r) w'
def f2i (x:Nat) (k:IntKind):Option Int:=
 match (Ieee.double.read x).toInt .zero with
 | some n=>if k.min≤n∧n≤k.max then some n else none
 | none=>none
def He9 (x:Nat) (k:IntKind) (w:World) (K:Int→World→Prop):Prop:=
 (∀ n,f2i x k=some n→K n w)∧(f2i x k=none→∀ (n:Int) (d:Nat),k.wrap n=n→K n (w.drewN d))
def Dg0 (op:BinOp) (k:IntKind) (a b:Int) (K:Value→Prop):Prop:=
 match op with
 | .add=>K (.int k (k.wrap (a+b)))
 | .sub=>K (.int k (k.wrap (a-b)))
 | .mul=>K (.int k (k.wrap (a*b)))
 | .quo=>b≠0∧K (.int k (k.wrap (a.tdiv b)))
 | .rem=>b≠0∧K (.int k (a.tmod b))
 | .and=>K (.int k (k.wrap (AA k.bits a &&& AA k.bits b).toNat))
 | .or=>K (.int k (k.wrap (AA k.bits a ||| AA k.bits b).toNat))
 | .xor=>K (.int k (k.wrap (AA k.bits a ^^^ AA k.bits b).toNat))
 | .andNot=>K (.int k (k.wrap (AA k.bits a &&& ~~~AA k.bits b).toNat))
 | .eql=>K (.bool (a==b))
 | .neq=>K (.bool (a != b))
 | .lss=>K (.bool (decide (a<b)))
 | .leq=>K (.bool (decide (a≤b)))
 | .gtr=>K (.bool (decide (a>b)))
 | .geq=>K (.bool (decide (a≥b)))
 | _=>False
def Dp6 (op:BinOp) (a b:Nat) (w:World) (K:Value→World→Prop):Prop:=
 match op with
 | .add=>Gm5 (He4 a b) w K
 | .sub=>Gm5 (Hf2 a b) w K
 | .mul=>Gm5 (He5 a b) w K
 | .quo=>Gm5 (fdiv a b) w K
 | .eql=>K (.bool (feq a b)) w
 | .neq=>K (.bool (!feq a b)) w
 | .lss=>K (.bool (flt a b)) w
 | .leq=>K (.bool (flt a b||feq a b)) w
 | .gtr=>K (.bool (fgt a b)) w
 | .geq=>K (.bool (fgt a b||feq a b)) w
 | _=>False
def kEq:IntKind→IntKind→Bool
 | .i8,.i8 | .i16,.i16 | .i32,.i32 | .i64,.i64 | .u8,.u8 | .u16,.u16 | .u32,.u32 | .u64,.u64=>true
 | _,_=>false
def Gl5 (op:BinOp) (xs ys:List Value) (w:World) (K:Value→World→Prop):Prop:=
 match xs,ys with
 | [.int .i64 a,.int .i64 b,.int .i64 c],[.int .i64 a',.int .i64 b',.int .i64 c']=>match op with
   | .eql=>K (.bool (a==a'&&(b==b'&&c==c'))) w
   | .neq=>K (.bool (!(a==a'&&(b==b'&&c==c')))) w
   | _=>False
 | _,_=>False
def Cj3 (ti:TI) (op:BinOp) (x y:Value) (w:World) (K:Value→World→Prop):Prop:=
 match x,y with
 | .int k a,.int k' b=>match op with
   | .shl=>0≤b∧K (.int k (k.wrap (a*2^(min b.toNat k.bits)))) w
   | .shr=>0≤b∧K (.int k (a.fdiv (2^(min b.toNat k.bits)))) w
   | op=>cond (kEq k k') (Dg0 op k a b fun v=>K v w) False
 | .float .f64 a,.float .f64 b=>match ti.d with
   | .float _=>Dp6 op a b w K
   | _=>False
 | .bool a,.bool b=>match ti.d with
   | .bool=>match op with
     | .eql=>K (.bool (a==b)) w
     | .neq=>K (.bool (!(a==b))) w
     | _=>False
   | _=>False
 | .pointer p,.pointer none=>match ti.d with
   | .ptr _=>match op with
     | .eql=>K (.bool p.isNone) w
     | .neq=>K (.bool (!p.isNone)) w
     | _=>False
   | _=>False
 | .slice p _ _,.slice none _ _=>match ti.d with
   | .slice _=>match op with
     | .eql=>K (.bool p.isNone) w
     | .neq=>K (.bool (!p.isNone)) w
     | _=>False
   | _=>False
 | .string a,.string b=>match op with
   | .eql=>K (.bool (a.toList==b.toList)) w
   | .neq=>K (.bool (!(a.toList==b.toList))) w
   | _=>False
 | .agg xs,.agg ys=>cond ti.eq3 (Gl5 op xs.toList ys.toList w K) False
 | _,_=>False
def unD (op:UnOp) (x:Value) (K:Value→Prop):Prop:=
 match op,x with
 | .neg,.int k n=>K (.int k (k.wrap (0-n)))
 | .xor,.int k n=>K (.int k (k.wrap (AA k.bits (cond k.signed (-1) k.max) ^^^ AA k.bits n).toNat))
 | .neg,.float .f64 b=>K (.float .f64 (He2 b))
 | .not,.bool b=>K (.bool !b)
 | _,_=>False
def Db9 (src dst:TD) (x:Value) (w:World) (K:Value→World→Prop):Prop:=
 match src,dst,x with
 | .int _,.int k,.int _ n=>K (.int k (k.wrap n)) w
 | .int _,.float .f64,.int _ n=>K (.float .f64 (FloatKind.f64.nearest n)) w
 | .float .f64,.int k,.float .f64 b=>He9 b k w fun n w'=>K (.int k n) w'
 | .float .f64,.float .f64,.float .f64 b=>K (.float .f64 b) w
 | _,_,_=>False
def Ev9 (off:Nat):List Value→List Value→List Value
 | [],cs=>cs
 | v::vs,cs=>Ev9 (off+1) vs (cs.set off v)
def Da0 (pl:Nat→Option (Nat×Nat)) (cells:List Value):List (Nat×Value)→Option (List Value)
 | []=>some cells
 | (i,v)::rest=>match pl i with
   | none=>none
   | some (off,size)=>cond (AB (Ai5 v).length size) (cond (AC (off+size) cells.length) (Da0 pl (Ev9 off (Ai5 v) cells) rest) none) none
def nth {α:Type}:List α→Nat→Option α
 | [],_=>none
 | a::_,0=>some a
 | _::l,n+1=>nth l n
def Bg5 (T:Nat→Option TI) (t:Nat):Option Nat:=match T t with | some ti=>some ti.size | none=>none
def Gf2 (T:Nat→Option TI):List (Nat×Nat)→Option (List (Nat×Nat))
 | []=>some []
 | (t,off)::fs=>match Bg5 T t with
   | some s=>match Gf2 T fs with
     | some r=>some ((off,s)::r)
     | none=>none
   | none=>none
def rep (l:List Value):Nat→List Value
 | 0=>[]
 | n+1=>l++rep l n
def Cb8 (size:Nat) (a:Option Addr) (len cap:Nat) (lo hi mx:Option Value) (K:Value→Prop):Prop:=
 match lo,hi,mx with
 | none,none,none=>K (.slice (Ak1 a 0 cap size) len cap)
 | some (.int .i64 l),none,none=>0≤l∧l≤len∧K (.slice (Ak1 a l.toNat cap size) (len-l.toNat) (cap-l.toNat))
 | none,some (.int .i64 h),none=>0≤h∧h≤cap∧K (.slice (Ak1 a 0 cap size) h.toNat cap)
 | some (.int .i64 l),some (.int .i64 h),none=>0≤h∧h≤cap∧0≤l∧l≤h∧K (.slice (Ak1 a l.toNat cap size) (h.toNat-l.toNat) (cap-l.toNat))
 | some (.int .i64 l),some (.int .i64 h),some (.int .i64 m)=>0≤m∧m≤cap∧0≤h∧h≤m∧0≤l∧l≤h∧K (.slice (Ak1 a l.toNat m.toNat size) (h.toNat-l.toNat) (m.toNat-l.toNat))
 | _,_,_=>False
def Ar1 (o:Option Value) (K:Value→Prop):Prop:=match o with | some v=>K v | none=>False
def Ac6 {α:Type} (o:Option α) (K:α→Prop):Prop:=match o with | some v=>K v | none=>False
def fnM (v:Value) (k:FuncId→Array Value→Array Value→Prop):Prop:=
 match v with
 | .func (.func f) first cap=>k f first cap
 | _=>False
def Fq0 (isMax:Bool) (x y:Nat) (w:World) (K:Nat→World→Prop):Prop:=
 match Ieee.double.order x y with
 | none=>∀ r d:Nat,isNaN r=true→K r (w.drewN d)
 | some .lt=>K (cond isMax y x) w
 | some .gt=>K (cond isMax x y) w
 | some .eq=>K (cond isMax (cond (Ieee.double.read x).neg y x) (cond (Ieee.double.read x).neg x y)) w
def mm2 (isMax:Bool) (x y:Value) (w:World) (K:Value→World→Prop):Prop:=
 match x,y with
 | .int k a,.int k' b=>cond (kEq k k') (K (.int k (cond isMax (if b>a then b else a) (if b<a then b else a))) w) False
 | .float .f64 a,.float .f64 b=>Fq0 isMax a b w fun x w'=>K (.float .f64 x) w'
 | _,_=>False
def mmD (isMax:Bool) (x:Value):List Value→World→(Value→World→Prop)→Prop
 | [],w,K=>K x w
 | y::ys,w,K=>mm2 isMax x y w fun v w'=>mmD isMax v ys w' K
def Ap4 (T:Nat→Option TI) (b:Builtin) (ts:List Nat) (args:List Value) (w:World) (K:Value→World→Prop):Prop:=
 match b,args with
 | .len,[.slice _ n _]=>Ac6 (nth ts 0) fun t=>Ac6 (T t) fun ti=>match ti.d with | .slice _=>K (.int .i64 n) w | _=>False
 | .len,[.string s]=>Ac6 (nth ts 0) fun t=>Ac6 (T t) fun ti=>match ti.d with | .string=>K (.int .i64 s.size) w | _=>False
 | .len,[.pointer _]=>Ac6 (nth ts 0) fun t=>Ac6 (T t) fun ti=>match ti.d with
   | .ptr e=>Ac6 (T e) fun te=>match te.d with | .array n _=>K (.int .i64 n) w | _=>False
   | _=>False
 | .len,[.agg _]=>Ac6 (nth ts 0) fun t=>Ac6 (T t) fun ti=>match ti.d with | .array n _=>K (.int .i64 n) w | _=>False
 | .cap,[.slice _ _ c]=>Ac6 (nth ts 0) fun t=>Ac6 (T t) fun ti=>match ti.d with | .slice _=>K (.int .i64 c) w | _=>False
 | .append,[.slice a len cap,.slice b n _]=>Ac6 (nth ts 0) fun t=>Ac6 (T t) fun ti=>match ti.d with
   | .slice e=>Ac6 (nth ts 1) fun t'=>Ac6 (T t') fun ti'=>match ti'.d with
     | .slice _=>Ac6 (T e) fun te=>Bn8 e te.size te.bytes (Ai5 te.zero).toArray a len cap b n w fun a l c w'=>K (.slice a l c) w'
     | _=>False
   | _=>False
 | .copy,[.slice a len _,.slice b n _]=>Ac6 (nth ts 0) fun t=>Ac6 (T t) fun ti=>match ti.d with
   | .slice e=>Ac6 (T e) fun te=>Gt9 te.size a len b n w fun w'=>K (.int .i64 (min n len:Nat)) w'
   | _=>False
 | .max,x::xs=>mmD true x xs w K
 | .min,x::xs=>mmD false x xs w K
 | _,_=>False
def opD (P:Program) (T:Nat→Option TI) (e:Env) (ty:Nat) (o:Op) (w:World) (K:Value→World→Prop):Prop:=
 match o with
 | .move x=>Ar1 (ev e x) fun v=>K v w
 | .assign x=>Ar1 (ev e x) fun v=>K v w
 | .pick c a b=>Ar1 (ev e c) fun vc=>match vc with
   | .bool t=>cond t (Ar1 (ev e a) fun v=>K v w) (Ar1 (ev e b) fun v=>K v w)
   | _=>False
 | .alloc t=>Ac6 (T t) fun ti=>Ac8 (Ai5 ti.zero).toArray t w fun p w'=>K (.pointer (some p)) w'
 | .box t x=>Ar1 (ev e x) fun v=>Ac8 (Ai5 v).toArray t w fun p w'=>K (.pointer (some p)) w'
 | .build t ps=>Ac6 (T t) fun ti=>match ti.d with
   | .struct fs=>Ac6 (Gf2 T fs) fun pl=>Ac6 (Fd7 e ps.toList) fun vs=>Ac6 (Da0 (nth pl) (Ai5 ti.zero) vs) fun cs=>K (.agg cs.toArray) w
   | .array _ el=>Ac6 (Bg5 T el) fun s=>Ac6 (Fd7 e ps.toList) fun vs=>Ac6 (Da0 (fun i=>some (i*s,s)) (Ai5 ti.zero) vs) fun cs=>K (.agg cs.toArray) w
   | _=>False
 | .buildSlice t n ps=>Ac6 (T t) fun ti=>match ti.d with
   | .slice el=>Ac6 (T el) fun te=>Ac6 (Fd7 e ps.toList) fun vs=>
     cond (AC (n*te.size) 4096) (cond (AB (Ai5 te.zero).length te.size)
      (Ac6 (Da0 (fun i=>some (i*te.size,te.size)) (rep (Ai5 te.zero) n) vs) fun cs=>Ac8 cs.toArray el w fun p w'=>K (.slice (some p) n n) w') False) False
   | _=>False
 | .load t a=>Ac6 (T t) fun ti=>Ar1 (ev e a) fun p=>Fn1 ti p w fun v=>K v w
 | .store t a x=>Ac6 (T t) fun ti=>Ar1 (ev e a) fun p=>Ar1 (ev e x) fun v=>Ey5 ti p v w fun w'=>K undef w'
 | .nilCheck x=>Ar1 (ev e x) fun v=>match v with
   | .pointer p=>Ab6 p fun a=>K (.pointer (some a)) w
   | .func (.func f) a b=>K (.func (.func f) a b) w
   | _=>False
 | .binOp op t x y _=>Ac6 (T t) fun ti=>Ar1 (ev e x) fun a=>Ar1 (ev e y) fun b=>Cj3 ti op a b w K
 | .unOp op _ x=>Ar1 (ev e x) fun v=>unD op v fun v=>K v w
 | .convert s d x=>Ac6 (T s) fun ts=>Ac6 (T d) fun td=>Ar1 (ev e x) fun v=>Db9 ts.d td.d v w K
 | .makeFunc fn a b=>Ac6 (evs e a.toList) fun va=>Ac6 (evs e b.toList) fun vb=>K (.func fn va.toArray vb.toArray) w
 | .makeSlice t l c=>Ac6 (T t) fun ti=>match ti.d with
   | .slice el=>Ac6 (T el) fun te=>Ar1 (ev e l) fun vl=>Ar1 (ev e c) fun vc=>match vl,vc with
     | .int .i64 l,.int .i64 c=>mkM el te.size te.bytes (Ai5 te.zero).toArray l c w fun p w'=>K (.slice (some p) l.toNat c.toNat) w'
     | _,_=>False
   | _=>False
 | .slice t x lo hi mx=>Ac6 (T t) fun ti=>Ar1 (ev e x) fun v=>Ac6 (evo e lo) fun l=>Ac6 (evo e hi) fun h=>Ac6 (evo e mx) fun m=>match ti.d,v with
   | .slice el,.slice a len cap=>Ac6 (Bg5 T el) fun s=>Cb8 s a len cap l h m fun v=>K v w
   | .array n el,.pointer p=>Ab6 p fun a=>Ac6 (Bg5 T el) fun s=>Cb8 s (some a) n n l h m fun v=>K v w
   | _,_=>False
 | .fieldAddr t x i=>Ac6 (T t) fun ti=>match ti.d with
   | .struct fs=>Ac6 (nth fs i) fun f=>Ac6 (Bg5 T f.1) fun s=>cond (AB s 0) False (Ar1 (ev e x) fun v=>match v with
     | .pointer p=>Ab6 p fun a=>K (.pointer (some (a.add f.2))) w
     | _=>False)
   | _=>False
 | .field t x i=>Ac6 (T t) fun ti=>match ti.d with
   | .struct fs=>Ac6 (nth fs i) fun f=>Ac6 (T f.1) fun tf=>Ar1 (ev e x) fun v=>match v with
     | .agg cs=>cond tf.d.isAgg (K (.agg ((cs.toList.drop f.2).take tf.size).toArray) w) (Ac6 (nth cs.toList f.2) fun v=>K v w)
     | _=>False
   | _=>False
 | .indexAddr t x i=>Ac6 (T t) fun ti=>Ar1 (ev e x) fun v=>Ar1 (ev e i) fun vi=>match ti.d,v,vi with
   | .slice el,.slice a len _,.int _ i=>Ac6 (Bg5 T el) fun s=>0≤i∧i<len∧Ab6 a fun a=>K (.pointer (some (a.add (i.toNat*s)))) w
   | .array n el,.pointer p,.int _ i=>Ac6 (Bg5 T el) fun s=>0≤i∧i<n∧Ab6 p fun a=>K (.pointer (some (a.add (i.toNat*s)))) w
   | _,_,_=>False
 | .index t x i=>Ac6 (T t) fun ti=>Ar1 (ev e x) fun v=>Ar1 (ev e i) fun vi=>match ti.d,v,vi with
   | .array n el,.agg cs,.int _ i=>Ac6 (T el) fun te=>cond te.d.isAgg False (0≤i∧i<n∧∃ v,cs[i.toNat*te.size]?=some v∧K v w)
   | .string,.string s,.int _ i=>0≤i∧∃ b:UInt8,s[i.toNat]?=some b∧K (.int .u8 b.toNat) w
   | _,_,_=>False
 | .extract x i=>Ar1 (ev e x) fun v=>match v with
   | .tuple vs=>Ac6 (nth vs.toList i) fun v=>K v w
   | _=>False
 | .call c=>Ac6 (evs e c.args.toList) fun args=>match c.callee with
   | .builtin b=>Ap4 T b c.argTypes.toList args w K
   | .value f=>Ar1 (ev e f) fun v=>fnM v fun f first cap=>Aa1 P f (first.toList++(args++cap.toList)).toArray w fun v w'=>Fs2 T ty fun u=>v=u∧K u w'
   | _=>False
 | _=>False
def Fo1 (n:Nat) (e:Env) (d:Option Nat) (v:Value) (K:Env→Prop):Prop:=
 match d with
 | none=>K e
 | some d=>cond (Nat.blt d n) (K (upd e d v)) False
def Ew8 (ops:List Oper) (j:Nat):Option Nat:=match nth ops j with | some o=>o.dst | none=>none
def Ft6 (P:Program) (T:Nat→Option TI) (n:Nat) (ops:List Oper) (o:Oper) (e:Env) (w:World) (K:Env→World→Prop):Prop:=
 match o.guard with
 | none=>opD P T e o.type o.op w fun v w'=>Fo1 n e o.dst v fun e'=>K e' w'
 | some (j,want)=>Ac6 (Ew8 ops j) fun t=>match e t with
   | some (.bool b)=>cond (cond want b (!b))
    (opD P T (upd e t (.bool want)) o.type o.op w fun v w'=>Fo1 n (upd e t (.bool want)) o.dst v fun e'=>K e' w')
    (Fo1 n (upd e t (.bool !want)) o.dst undef fun e'=>K e' w)
   | some _=>Fo1 n e o.dst undef fun e'=>K e' w
   | none=>False
def Ha2 (P:Program) (T:Nat→Option TI) (n:Nat) (all:List Oper):List Oper→Env→World→(Env→World→Prop)→Prop
 | [],e,w,K=>K e w
 | o::os,e,w,K=>Ft6 P T n all o e w fun e' w'=>Ha2 P T n all os e' w' K
def Ce.T:Ce→Type
 | .int _=>Int
 | .bool=>Bool
 | .f64=>Nat
 | .str=>ByteArray
 | .slice=>Option Addr×Nat×Nat
 | .ptr=>Option Addr
 | .raw=>Value
def Ce.v:(c:Ce)→c.T→Value
 | .int k,n => .int k n
 | .bool,b => .bool b
 | .f64,x => .float .f64 x
 | .str,s => .string s
 | .slice,s => .slice s.1 s.2.1 s.2.2
 | .ptr,p => .pointer p
 | .raw,v=>v
def Ce.get:(c:Ce)→Value→Option c.T
 | .int k,.int k' n=>cond (kEq k k') (some n) none
 | .bool,.bool b=>some b
 | .f64,.float .f64 x=>some x
 | .str,.string s=>some s
 | .slice,.slice a l c=>some (a,l,c)
 | .ptr,.pointer p=>some p
 | .raw,v=>some v
 | _,_=>none
def CsT:List Ce→Type
 | []=>Unit
 | c::cs=>c.T×CsT cs
def csV:(cs:List Ce)→CsT cs→List Value
 | [],_=>[]
 | c::cs,s=>c.v s.1::csV cs s.2
def Dx3:(cs:List Ce)→List Value→Option (CsT cs)
 | [],[]=>some ()
 | c::cs,v::vs=>match c.get v with
   | some x=>match Dx3 cs vs with
     | some r=>some (x,r)
     | none=>none
   | none=>none
 | _,_=>none
inductive Sh where
 | one (k:Ce)
 | agg (cs:List Ce)
def Sh.T:Sh→Type
 | .one k=>k.T
 | .agg cs=>CsT cs
def Sh.v:(s:Sh)→s.T→Value
 | .one k,x=>k.v x
 | .agg cs,x => .agg (csV cs x).toArray
def Gm1:Value→Option (List Value)
 | .agg vs=>some vs.toList
 | _=>none
def Sh.get:(s:Sh)→Value→Option s.T
 | .one k,v=>k.get v
 | .agg cs,v=>match Gm1 v with
   | some vs=>Dx3 cs vs
   | none=>none
def Tup:List (Nat×Sh)→Type
 | []=>Unit
 | p::W=>p.2.T×Tup W
def Ck6:(W:List (Nat×Sh))→Env→Option (Tup W)
 | [],_=>some ()
 | p::W,e=>match e p.1 with
   | some v=>match p.2.get v with
     | some x=>match Ck6 W e with
       | some r=>some (x,r)
       | none=>none
     | none=>none
   | none=>none
def Er9:(W:List (Nat×Sh))→Tup W→Nat→Option Value
 | [],_,_=>none
 | p::W,s,t=>cond (AB t p.1) (some (p.2.v s.1)) (Er9 W s.2 t)
def inD:List (Nat×Nat)→Nat→Bool
 | [],_=>false
 | p::D,t=>cond (cond (AC p.1 t) (AC t p.2) false) true (inD D t)
def Eu6 (W:List (Nat×Sh)) (D:List (Nat×Nat)) (e:Env) (s:Tup W):Env:=fun t=>
 match Er9 W s t with
 | some v=>some v
 | none=>cond (inD D t) none (e t)
def Ad7 {σ:Type} (f:(σ→World→Prop)→Prop) (J:σ→World→Prop):Prop:=f J
def Ac3 {σ:Type} (body:σ→(σ→World→Prop)→World→Prop) (s:σ) (w:World):Prop:=
 ∀ X:σ→World→Prop,(∀ s w,body s X w→X s w)→X s w
abbrev Gm4:=List (Nat×Sh)×List (Nat×Nat)
def Ej6 (D:List (Nat×Nat)):List Oper→Bool
 | []=>true
 | o::os=>cond (match o.dst with | some d=>inD D d | none=>true) (Ej6 D os) false
def Bt0 (D:List (Nat×Nat)):Code→Bool
 | .region _ ops _=>Ej6 D ops.toList
 | .seq a b=>cond (Bt0 D a) (Bt0 D b) false
 | .cond _ a b=>cond (Bt0 D a) (Bt0 D b) false
 | .block _ c=>Bt0 D c
 | .loop c=>Bt0 D c
 | .rangeFunc _ _ _ _=>false
 | .scope c=>Bt0 D c
 | _=>true
def El0 (m:Option Gm4) (c:Code) (e:Env) (f:(Env→World→Prop)→Prop) (Kn:Env→World→Prop):Prop:=
 match m with
 | none=>f Kn
 | some (W,D)=>cond (Bt0 D c) (Ad7 (fun J:Tup W→World→Prop=>f fun e' w'=>Ac6 (Ck6 W e') fun s=>J s w') (fun s w'=>Kn (Eu6 W D e s) w')) False
def Ej2 (ts:Builtin):Bool:=match ts with | .len | .cap | .min | .max=>true | _=>false
def Bn7 (o:Op):Bool:=
 match o with
 | .move _ | .assign _ | .pick _ _ _ | .build _ _ | .load _ _ | .nilCheck _ | .binOp _ _ _ _ _ | .unOp _ _ _ | .convert _ _ _ | .makeFunc _ _ _
 | .slice _ _ _ _ _ | .fieldAddr _ _ _ | .field _ _ _ | .indexAddr _ _ _ | .index _ _ _ | .extract _ _=>true
 | .call c=>match c.callee with | .builtin b=>Ej2 b | _=>false
 | _=>false
def Dc7 (T:Nat→Option TI) (o:Op):Bool:=
 match o with
 | .binOp op t _ _ _=>match T t with
   | some ti=>match ti.d with
     | .float _=>match op with | .add | .sub | .mul | .quo=>true | _=>false
     | .int _ | .bool | .string | .ptr _ | .slice _=>false
     | _=>true
   | none=>true
 | .convert s d _=>match T s,T d with
   | some ts,some td=>match ts.d,td.d with | .int _,.int _=>false | .int _,.float _=>false | .float _,.float _=>false | _,_=>true
   | _,_=>true
 | .call c=>match c.callee with | .builtin b=>(match b with | .max | .min=>true | _=>false) | _=>true
 | _=>false
inductive Ord where
 | done
 | q (k:Nat) (r:Ord)
 | e (k:Nat) (r:Ord)
 | alt (a b:Ord)
abbrev Da1:=Nat×Addr×Value
def Ba0 (k:Nat) (a:Addr):Nat→List Value→List Da1
 | _,[]=>[]
 | i,v::vs=>(k,a.add i,v)::Ba0 k a (i+1) vs
def Gr6 (k:Nat) (ti:TI) (p:Value) (w:World) (K:Value→List Da1→Prop):Prop:=
 match p with
 | .pointer o=>Ab6 o fun a=>cond ti.d.isAgg (Fo3 (ces (Ai5 ti.zero)) a 0 w fun vs=>K (.agg vs.toArray) (Ba0 k a 0 vs)) (ldC (Ce.of ti.zero) w a fun v=>K v [(k,a,v)])
 | _=>False
def Fc8 (P:Program) (T:Nat→Option TI) (e:Env) (k ty:Nat) (o:Op) (w:World) (K:Value→List Da1→Prop):Prop:=
 match o with
 | .load t a=>Ac6 (T t) fun ti=>Ar1 (ev e a) fun p=>Gr6 k ti p w K
 | o=>opD P T e ty o w fun v _=>K v []
def Gc8 (P:Program) (T:Nat→Option TI) (n:Nat) (ops:List Oper) (k:Nat) (o:Oper) (e:Env) (w:World) (K:Env→List Da1→Prop):Prop:=
 match o.guard with
 | none=>Fc8 P T e k o.type o.op w fun v f=>Fo1 n e o.dst v fun e'=>K e' f
 | some (j,want)=>Ac6 (Ew8 ops j) fun t=>match e t with
   | some (.bool b)=>cond (cond want b (!b))
    (Fc8 P T (upd e t (.bool want)) k o.type o.op w fun v f=>Fo1 n (upd e t (.bool want)) o.dst v fun e'=>K e' f)
    (Fo1 n (upd e t (.bool !want)) o.dst undef fun e'=>K e' [])
   | some _=>Fo1 n e o.dst undef fun e'=>K e' []
   | none=>False
def Fo7 (o:Oper) (i:Nat):Bool:=o.after.toList.any fun e=>cond (Region.binds .any e) (AB e.on i) false
def Az0 (ops:Array Oper) (k:Nat):Nat→Oper→Bool
 | 0,o=>Fo7 o k
 | f+1,o=>Fo7 o k||o.after.toList.any fun e=>cond (Region.binds .any e) (match ops[e.on]? with | some p=>Az0 ops k f p | none=>false) false
def Ff5 (ops:Array Oper) (o:Oper):List Da1→List Da1
 | []=>[]
 | f::H=>cond (Az0 ops f.1 4 o) (Ff5 ops o H) (f::Ff5 ops o H)
def Dn1 (ops:Array Oper) (o:Oper) (H:List Da1):List Da1:=cond (Bn7 o.op) H (Ff5 ops o H)
def Fp6:List Da1→World→Prop→Prop
 | [],_,K=>K
 | f::H,w,K=>w.cell? f.2.1=some f.2.2∧Fp6 H w K
def Fy6 (P:Program) (T:Nat→Option TI) (n:Nat) (ops:List Oper):Ord→List Da1→Env→World→(Env→World→Prop)→Prop
 | .done,_,e,w,K=>drM w fun w'=>K e w'
 | .q k r,H,e,w,K=>Ac6 (nth ops k) fun o=>Gc8 P T n ops k o e w fun e' f=>Fy6 P T n ops r (f++H) e' w K
 | .e k r,H,e,w,K=>Ac6 (nth ops k) fun o=>drM w fun w0=>Ft6 P T n ops o e w0 fun e' w'=>Fp6 (Dn1 ops.toArray o H) w' (Fy6 P T n ops r (Dn1 ops.toArray o H) e' w' K)
 | .alt a b,H,e,w,K=>Fy6 P T n ops a H e w K∧Fy6 P T n ops b H e w K
def Ee6:Ord→List Nat
 | .done=>[]
 | .q _ _=>[]
 | .e k _=>[k]
 | .alt a b=>Ee6 a++Ee6 b
def Ct6 (ops:Array Oper) (listed:Array Bool) (k:Nat):Bool:=
 (List.range ops.size).all fun j=>listed.getD j true||(match ops[j]? with | some o=>Bn7 o.op||Az0 ops k 4 o | none=>true)
def Ay0 (T:Nat→Option TI) (ops:Array Oper):Ord→Bool→Nat→Array Bool→Bool
 | .done,chk,f,listed=>chk&&AB f 0&&(Region.ready .any ops listed).isEmpty
 | .q k r,chk,f,listed=>match f with
   | 0=>false
   | f+1=>chk&&(Region.ready .any ops listed).contains k&&Region.free .any ops listed k &&
     (match ops[k]? with | some o=>Bn7 o.op&&(!Dc7 T o.op||Ct6 ops listed k) | none=>false)&&Ay0 T ops r true f (listed.setIfInBounds k true)
 | .e k r,chk,f,listed=>match f with
   | 0=>false
   | f+1=>(!chk||(!(Region.ready .any ops listed).isEmpty&&(Region.ready .any ops listed).all fun j=>[k].contains j))&&(match ops[k]? with | some o => !Bn7 o.op||Dc7 T o.op | none=>false)&&Ay0 T ops r true f (listed.setIfInBounds k true)
 | .alt a b,chk,f,listed=>(!chk||(!(Region.ready .any ops listed).isEmpty&&(Region.ready .any ops listed).all fun j=>(Ee6 (.alt a b)).contains j))&&Ay0 T ops a false f listed&&Ay0 T ops b false f listed
def Eg2 (P:Program) (T:Nat→Option TI) (n:Nat) (ops:List Oper) (draw:Bool) (ord:Option Ord) (e:Env) (w:World) (K:Env→World→Prop):Prop:=
 match draw,ord with
 | false,_=>Ha2 P T n ops ops e w K
 | true,some o=>cond (cond (Region.noSelect ops.toArray) (Ay0 T ops.toArray o true ops.length (Array.replicate ops.length false)) false) (Fy6 P T n ops o [] e w K) False
 | true,none=>False
structure An where
 loops:List (Nat×Gm4)
 blocks:List (Nat×Gm4)
 regions:List (Nat×Gm4)
 conds:List (Nat×Gm4)
 ords:List (Nat×Ord)
def Gz3 (e:Env) (c:Operand) (b:Bool):Env:=match c with | .tmp t=>upd e t (.bool b) | _=>e
def Hf6 (c:Operand):Nat:=match c with | .tmp t=>t | _=>0
def Da4 (P:Program) (T:Nat→Option TI) (n:Nat) (an:An) :
    Code→Nat→Env→(Env→World→Prop)→(Nat→Env→World→Prop)→(Env→World→Prop)→World→Prop
 | .skip,_,e,Kn,_,_,w=>Kn e w
 | .region id ops draw,_,e,Kn,_,_,w=>El0 (Eh2 an.regions id) (.region id ops draw) e (fun K=>Eg2 P T n ops.toList draw (Eh2 an.ords id) e w K) Kn
 | .seq a b,cur,e,Kn,Kx,Kr,w=>Da4 P T n an a cur e (fun e' w'=>Da4 P T n an b cur e' Kn Kx Kr w') Kx Kr w
 | .cond c a b,cur,e,Kn,Kx,Kr,w=>El0 (Eh2 an.conds (Hf6 c)) (.cond c a b) e (fun K=>Ar1 (ev e c) fun v=>match v with
   | .bool t=>cond t (Da4 P T n an a cur (Gz3 e c true) K Kx Kr w) (Da4 P T n an b cur (Gz3 e c false) K Kx Kr w)
   | _=>False) Kn
 | .block id c,_,e,Kn,Kx,Kr,w=>El0 (Eh2 an.blocks id) (.block id c) e (fun K=>Da4 P T n an c id e K (fun j e' w'=>cond (AB j id) (K e' w') (Kx j e' w')) Kr w) Kn
 | .loop c,cur,e,_,Kx,Kr,w=>match Eh2 an.loops cur with
   | some (W,D)=>cond (Bt0 D c) (Ac6 (Ck6 W e) fun s0=>Ac3 (fun (s:Tup W) X w=>Da4 P T n an c cur (Eu6 W D e s) (fun e' w'=>Ac6 (Ck6 W e') fun s'=>X s' w') Kx Kr w) s0 w) False
   | none=>False
 | .scope c,cur,e,Kn,Kx,Kr,w=>Da4 P T n an c cur e Kn Kx Kr w
 | .label _,_,e,Kn,_,_,w=>Kn e w
 | .exit id,_,e,_,Kx,_,w=>Kx id e w
 | .ret,_,e,_,_,Kr,w=>Kr e w
 | _,_,_,_,_,_,_=>False
def Gm3 (T:Nat→Option TI):List ResultVar→Env→World→(List Value→Prop)→Prop
 | [],_,_,K=>K []
 | .tmp t::rs,e,w,K=>Ac6 (e t) fun v=>Gm3 T rs e w fun vs=>K (v::vs)
 | .cell a t::rs,e,w,K=>Ac6 (e a) fun p=>Ac6 (T t) fun ti=>Fn1 ti p w fun v=>Gm3 T rs e w fun vs=>K (v::vs)
def Eu7 (vs:List Value):Value:=match vs with | [v]=>v | vs => .tuple vs.toArray
def Gj1 (args:List Value):Env:=fun t=>match nth args t with | some v=>some v | none=>some undef
def Gn1 (P:Program) (T:Nat→Option TI) (fn:Func) (an:An) (args:List Value) (w:World) (K:Value→World→Prop):Prop:=
 match fn.body with
 | some c=>cond (AC args.length fn.ntmps)
  (Da4 P T fn.ntmps an c 0 (Gj1 args) (fun e w=>Gm3 T fn.results.toList e w fun vs=>K (Eu7 vs) w) (fun _ _ _=>False)
   (fun e w=>Gm3 T fn.results.toList e w fun vs=>K (Eu7 vs) w) w) False
 | none=>False
end Go.Eng
