/-
  A definitional reading of the model's structured code: 'codeD' turns a body into a plain proposition in the manner of a weakest precondition; here the definitions alone. No condition.
-/
import Derived.Calls
import Derived.Still
import Derived.StillTail
import Derived.Deep.Draws
import Derived.Test.YtgbilchfljlbeaaGreatDoorFl2
set_option linter.all false
namespace Go.Eng
open Go
def Out (P:Program) (K:Value→World→Prop):Result Next→Prop
  | .ok (.value v) w=>K v w
  | .ok .skip w=>K undef w
  | .ok (.enter f args) w=>Calls P f args w fun e w'=>∃ v,e = .returned v∧K v w'
  | _=>False
def Aa1 (P:Program) (f:FuncId) (args:Array Value) (w:World) (K:Value→World→Prop):Prop:=Out P K ((callFunc f args).run P w)
inductive TD where
  | bool | int (k:IntKind) | float (k:FloatKind) | string
  | ptr (e:Nat) | slice (e:Nat) | array (n e:Nat) | struct (fs:List (Nat×Nat)) | tuple (ts:List Nat)
  | func | other
structure TI where
  d:TD
  size:Nat
  bytes:Nat
  zero:Value
def TD.isAgg:TD→Bool
  | .array _ _ | .struct _=>true
  | _=>false
def Fd8 {α:Type}:List (Nat×α)→Nat→Option α
  | [],_=>none
  | (k,v)::l,t=>cond (Nat.beq k t) (some v) (Fd8 l t)
inductive Ce where
  | int (k:IntKind) | bool | f64 | str | slice | ptr | raw
def Ce.ex:Ce→(Value→Prop)→Prop
  | .int k,K=>∃ n:Int,K (.int k n)
  | .bool,K=>∃ b:Bool,K (.bool b)
  | .f64,K=>∃ x:Nat,K (.float .f64 x)
  | .str,K=>∃ s:ByteArray,K (.string s)
  | .slice,K=>∃ (a:Option Addr) (l c:Nat),K (.slice a l c)
  | .ptr,K=>∃ p:Option Addr,K (.pointer p)
  | .raw,K=>∃ v:Value,K v
def Ho4:List Ce→(List Value→Prop)→Prop
  | [],K=>K []
  | c::cs,K=>c.ex fun v=>Ho4 cs fun vs=>K (v::vs)
def Ce.of:Value→Ce
  | .int k _ => .int k
  | .bool _ => .bool
  | .float .f64 _ => .f64
  | .string _ => .str
  | .slice _ _ _ => .slice
  | .pointer _ => .ptr
  | _ => .raw
def Ai4:Value→List Value
  | .agg cs=>cs.toList
  | v=>[v]
def ces:List Value→List Ce
  | []=>[]
  | v::vs=>Ce.of v::ces vs
def Hp5 (ti:TI) (K:Value→Prop):Prop:=
  cond ti.d.isAgg (Ho4 (ces (Ai4 ti.zero)) fun vs=>K (.agg vs.toArray)) ((Ce.of ti.zero).ex K)
def Go5 (T:Nat→Option TI):List Nat→(List Value→Prop)→Prop
  | [],K=>K []
  | t::ts,K=>match T t with
    | some ti=>Hp5 ti fun v=>Go5 T ts fun vs=>K (v::vs)
    | none=>False
def Gn8 (T:Nat→Option TI) (ty:Nat) (K:Value→Prop):Prop:=
  match T ty with
  | some ti=>match ti.d with
    | .tuple ts=>Go5 T ts fun vs=>K (.tuple vs.toArray)
    | _=>Hp5 ti K
  | none=>False
def Ae0 {α:Type}:Option α→(α→Prop)→Prop
  | some a,K=>K a
  | none,_=>False
def ldC (c:Ce) (w:World) (a:Addr) (K:Value→Prop):Prop:=c.ex fun v=>w.cell? a=some v∧K v
def Gh1:List Ce→Addr→Nat→World→(List Value→Prop)→Prop
  | [],_,_,_,K=>K []
  | c::cs,a,i,w,K=>ldC c w (a.add i) fun v=>Gh1 cs a (i+1) w fun vs=>K (v::vs)
def Hm0 (w:World) (a:Addr):Prop:=(∃ u,w.cell? a=some u)∧w.frozen? a=false
def stM (a:Addr) (v:Value) (w:World) (K:World→Prop):Prop:=Hm0 w a∧K (w.setCell a v)
def Dx8:Value→Bool
  | .agg _ | .tuple _=>false
  | _=>true
def Hq8:List Value→Addr→Nat→World→(World→Prop)→Prop
  | [],_,_,w,K=>K w
  | v::vs,a,i,w,K=>cond (Dx8 v) (stM (a.add i) v w fun w'=>Hq8 vs a (i+1) w' K) False
def Gb8 (ti:TI) (p:Value) (w:World) (K:Value→Prop):Prop:=
  match p with
  | .pointer o=>Ae0 o fun a=>cond ti.d.isAgg (Gh1 (ces (Ai4 ti.zero)) a 0 w fun vs=>K (.agg vs.toArray)) (ldC (Ce.of ti.zero) w a K)
  | _=>False
def Fu5 (ti:TI) (p v:Value) (w:World) (K:World→Prop):Prop:=
  match p with
  | .pointer o=>Ae0 o fun a=>cond (Nat.beq (Ai4 v).length ti.size) (Hq8 (Ai4 v) a 0 w K) False
  | _=>False
def Fl6 (n:Nat) (zero:Array Value):Array Value:=(Array.range n).map (zero[· % zero.size]!)
def nxt (w:World):Addr:=⟨w.heap.size,0,none⟩
def Gy7 (w:World) (a:Addr) (l:List Value):Prop:=∀ i,i<l.length→w.cell? (a.add i)=l[i]?
def Do0 (w:World) (a:Option Addr) (l:List Value):Prop:=
  match a with
  | some a=>Gy7 w a l
  | none=>l = []
def Bd4:List Value→Addr→Nat→World→World
  | [],_,_,w=>w
  | v::vs,a,i,w=>Bd4 vs a (i+1) (w.setCell (a.add i) v)
def Gx3:List Value→Addr→Nat→World→Prop
  | [],_,_,_=>True
  | v::vs,a,i,w=>Dx8 v=true∧Hm0 w (a.add i)∧Gx3 vs a (i+1) (w.setCell (a.add i) v)
def Dp0 (e size bytes:Nat) (zero:Array Value) (a:Option Addr) (len cap:Nat) (b:Option Addr) (n:Nat) (w:World) (K:Option Addr→Nat→Nat→World→Prop):Prop:=
  ∃ new:List Value,new.length=n*size∧Do0 w b new ∧
    (len+n≤cap→match a with
      | some x=>Gx3 new (x.add (len*size)) 0 w∧K (some x) (len+n) cap (Bd4 new (x.add (len*size)) 0 w)
      | none=>K none (len+n) cap w) ∧
    (cap<len+n→len+n≤35184372088832∧(len+n)*bytes≤35184372088832∧bytes≤4096∧∃ old:List Value,old.length=len*size∧Do0 w a old ∧
      ∀ (c d:Nat),len+n≤c→K (some (nxt w)) (len+n) c ((w.drewN d).alloc (.cells ((old++new).toArray++Fl6 ((c-(len+n))*zero.size) zero) e)))
def Hl9 (size:Nat) (a:Option Addr) (len:Nat) (b:Option Addr) (n:Nat) (w:World) (K:World→Prop):Prop:=
  ∃ new:List Value,new.length=min n len*size∧Do0 w b new ∧
    (match a with
    | some x=>Gx3 new x 0 w∧K (Bd4 new x 0 w)
    | none=>K w)
def An7 (a:Option Addr) (l m size:Nat):Option Addr:=if m=l then a else a.map (·.add (l*size))
def Ad1 (c:Array Value) (t:Nat) (w:World) (K:Addr→World→Prop):Prop:=K (nxt w) (w.alloc (.cells c t))
def mkM (e size bytes:Nat) (zero:Array Value) (l c:Int) (w:World) (K:Addr→World→Prop):Prop:=
  0≤l∧l≤c∧c≤1099511627776∧c*bytes≤281474976710656∧K (nxt w) (w.alloc (.cells (Fl6 (c.toNat*size) zero) e))
def drM (w:World) (K:World→Prop):Prop:=∀ d,K (w.drewN d)
abbrev Env:=Nat→Option Value
def upd (e:Env) (d:Nat) (v:Value):Env:=fun t=>cond (Nat.beq t d) (some v) (e t)
def ev (e:Env):Operand→Option Value
  | .tmp t=>e t
  | .const v=>some v
  | .global g=>some (.pointer (some ⟨g,0,none⟩))
  | .func f=>some (.func (.func f) #[] #[])
def evs (e:Env):List Operand→Option (List Value)
  | []=>some []
  | x::xs=>match ev e x with
    | some v=>match evs e xs with
      | some vs=>some (v::vs)
      | none=>none
    | none=>none
def Gg3 (e:Env):List (Nat×Operand)→Option (List (Nat×Value))
  | []=>some []
  | (i,x)::xs=>match ev e x with
    | some v=>match Gg3 e xs with
      | some vs=>some ((i,v)::vs)
      | none=>none
    | none=>none
def evo (e:Env):Option Operand→Option (Option Value)
  | none=>some none
  | some x=>match ev e x with
    | some v=>some (some v)
    | none=>none
def At5 (x:Nat) (w:World) (K:Nat→World→Prop):Prop:=∀ r d:Nat,nf r=x→K r (w.drewN d)
def Hc7 (x:Nat) (w:World) (K:Value→World→Prop):Prop:=At5 x w fun r w'=>K (.float .f64 r) w'
def f2i (x:Nat) (k:IntKind):Option Int:=
  match (Ieee.double.read x).toInt .zero with
  | some n=>if k.min≤n∧n≤k.max then some n else none
  | none=>none
def Hp8 (x:Nat) (k:IntKind) (w:World) (K:Int→World→Prop):Prop:=
  (∀ n,f2i x k=some n→K n w)∧(f2i x k=none→∀ (n:Int) (d:Nat),k.wrap n=n→K n (w.drewN d))
def Ds2 (op:BinOp) (k:IntKind) (a b:Int) (K:Value→Prop):Prop:=
  match op with
  | .add=>K (.int k (k.wrap (a+b)))
  | .sub=>K (.int k (k.wrap (a-b)))
  | .mul=>K (.int k (k.wrap (a*b)))
  | .quo=>b≠0∧K (.int k (k.wrap (a.tdiv b)))
  | .rem=>b≠0∧K (.int k (a.tmod b))
  | .and=>K (.int k (k.wrap (BitVec.ofInt k.bits a &&& BitVec.ofInt k.bits b).toNat))
  | .or=>K (.int k (k.wrap (BitVec.ofInt k.bits a ||| BitVec.ofInt k.bits b).toNat))
  | .xor=>K (.int k (k.wrap (BitVec.ofInt k.bits a ^^^ BitVec.ofInt k.bits b).toNat))
  | .andNot=>K (.int k (k.wrap (BitVec.ofInt k.bits a &&& ~~~BitVec.ofInt k.bits b).toNat))
  | .eql=>K (.bool (a==b))
  | .neq=>K (.bool (a != b))
  | .lss=>K (.bool (decide (a<b)))
  | .leq=>K (.bool (decide (a≤b)))
  | .gtr=>K (.bool (decide (a>b)))
  | .geq=>K (.bool (decide (a≥b)))
  | _=>False
def En3 (op:BinOp) (a b:Nat) (w:World) (K:Value→World→Prop):Prop:=
  match op with
  | .add=>Hc7 (As2 a b) w K
  | .sub=>Hc7 (Bn1 a b) w K
  | .mul=>Hc7 (Cq0 a b) w K
  | .quo=>Hc7 (fdiv a b) w K
  | .eql=>K (.bool (feq a b)) w
  | .neq=>K (.bool (!feq a b)) w
  | .lss=>K (.bool (flt a b)) w
  | .leq=>K (.bool (flt a b||feq a b)) w
  | .gtr=>K (.bool (fgt a b)) w
  | .geq=>K (.bool (fgt a b||feq a b)) w
  | _=>False
def kEq:IntKind→IntKind→Bool
  | .i8,.i8 | .i16,.i16 | .i32,.i32 | .i64,.i64 | .u8,.u8 | .u16,.u16 | .u32,.u32 | .u64,.u64=>true
  | _,_=>false
def Cy9 (ti:TI) (op:BinOp) (x y:Value) (w:World) (K:Value→World→Prop):Prop:=
  match x,y with
  | .int k a,.int k' b=>match op with
    | .shl=>0≤b∧K (.int k (k.wrap (a*2^(min b.toNat k.bits)))) w
    | .shr=>0≤b∧K (.int k (a.fdiv (2^(min b.toNat k.bits)))) w
    | op=>cond (kEq k k') (Ds2 op k a b fun v=>K v w) False
  | .float .f64 a,.float .f64 b=>match ti.d with
    | .float _=>En3 op a b w K
    | _=>False
  | .bool a,.bool b=>match ti.d with
    | .bool=>match op with
      | .eql=>K (.bool (a==b)) w
      | .neq=>K (.bool (!(a==b))) w
      | _=>False
    | _=>False
  | .pointer p,.pointer none=>match ti.d with
    | .ptr _=>match op with
      | .eql=>K (.bool p.isNone) w
      | .neq=>K (.bool (!p.isNone)) w
      | _=>False
    | _=>False
  | .slice p _ _,.slice none _ _=>match ti.d with
    | .slice _=>match op with
      | .eql=>K (.bool p.isNone) w
      | .neq=>K (.bool (!p.isNone)) w
      | _=>False
    | _=>False
  | .string a,.string b=>match op with
    | .eql=>K (.bool (a.toList==b.toList)) w
    | .neq=>K (.bool (!(a.toList==b.toList))) w
    | _=>False
  | _,_=>False
def unD (op:UnOp) (x:Value) (K:Value→Prop):Prop:=
  match op,x with
  | .neg,.int k n=>K (.int k (k.wrap (0-n)))
  | .xor,.int k n=>K (.int k (k.wrap (BitVec.ofInt k.bits (cond k.signed (-1) k.max) ^^^ BitVec.ofInt k.bits n).toNat))
  | .neg,.float .f64 b=>K (.float .f64 (Bn0 b))
  | .not,.bool b=>K (.bool !b)
  | _,_=>False
def Dm5 (src dst:TD) (x:Value) (w:World) (K:Value→World→Prop):Prop:=
  match src,dst,x with
  | .int _,.int k,.int _ n=>K (.int k (k.wrap n)) w
  | .int _,.float .f64,.int _ n=>K (.float .f64 (FloatKind.f64.nearest n)) w
  | .float .f64,.int k,.float .f64 b=>Hp8 b k w fun n w'=>K (.int k n) w'
  | .float .f64,.float .f64,.float .f64 b=>K (.float .f64 b) w
  | _,_,_=>False
def Ft0 (off:Nat):List Value→List Value→List Value
  | [],cs=>cs
  | v::vs,cs=>Ft0 (off+1) vs (cs.set off v)
def Dl7 (pl:Nat→Option (Nat×Nat)) (cells:List Value):List (Nat×Value)→Option (List Value)
  | []=>some cells
  | (i,v)::rest=>match pl i with
    | none=>none
    | some (off,size)=>cond (Nat.beq (Ai4 v).length size) (cond (Nat.ble (off+size) cells.length) (Dl7 pl (Ft0 off (Ai4 v) cells) rest) none) none
def nth {α:Type}:List α→Nat→Option α
  | [],_=>none
  | a::_,0=>some a
  | _::l,n+1=>nth l n
def Bk4 (T:Nat→Option TI) (t:Nat):Option Nat:=match T t with | some ti=>some ti.size | none=>none
def Ha7 (T:Nat→Option TI):List (Nat×Nat)→Option (List (Nat×Nat))
  | []=>some []
  | (t,off)::fs=>match Bk4 T t with
    | some s=>match Ha7 T fs with
      | some r=>some ((off,s)::r)
      | none=>none
    | none=>none
def rep (l:List Value):Nat→List Value
  | 0=>[]
  | n+1=>l++rep l n
def Ci6 (size:Nat) (a:Option Addr) (len cap:Nat) (lo hi mx:Option Value) (K:Value→Prop):Prop:=
  match lo,hi,mx with
  | none,none,none=>K (.slice (An7 a 0 cap size) len cap)
  | some (.int .i64 l),none,none=>0≤l∧l≤len∧K (.slice (An7 a l.toNat cap size) (len-l.toNat) (cap-l.toNat))
  | none,some (.int .i64 h),none=>0≤h∧h≤cap∧K (.slice (An7 a 0 cap size) h.toNat cap)
  | some (.int .i64 l),some (.int .i64 h),none=>0≤h∧h≤cap∧0≤l∧l≤h∧K (.slice (An7 a l.toNat cap size) (h.toNat-l.toNat) (cap-l.toNat))
  | some (.int .i64 l),some (.int .i64 h),some (.int .i64 m)=>0≤m∧m≤cap∧0≤h∧h≤m∧0≤l∧l≤h∧K (.slice (An7 a l.toNat m.toNat size) (h.toNat-l.toNat) (m.toNat-l.toNat))
  | _,_,_=>False
def As8 (o:Option Value) (K:Value→Prop):Prop:=match o with | some v=>K v | none=>False
def Ac8 {α:Type} (o:Option α) (K:α→Prop):Prop:=match o with | some v=>K v | none=>False
def fnM (v:Value) (k:FuncId→Array Value→Array Value→Prop):Prop:=
  match v with
  | .func (.func f) first cap=>k f first cap
  | _=>False
def Gl0 (isMax:Bool) (x y:Nat) (w:World) (K:Nat→World→Prop):Prop:=
  match Ieee.double.order x y with
  | none=>∀ r d:Nat,isNaN r=true→K r (w.drewN d)
  | some .lt=>K (cond isMax y x) w
  | some .gt=>K (cond isMax x y) w
  | some .eq=>K (cond isMax (cond (Ieee.double.read x).neg y x) (cond (Ieee.double.read x).neg x y)) w
def mm2 (isMax:Bool) (x y:Value) (w:World) (K:Value→World→Prop):Prop:=
  match x,y with
  | .int k a,.int k' b=>cond (kEq k k') (K (.int k (cond isMax (if b>a then b else a) (if b<a then b else a))) w) False
  | .float .f64 a,.float .f64 b=>Gl0 isMax a b w fun x w'=>K (.float .f64 x) w'
  | _,_=>False
def mmD (isMax:Bool) (x:Value):List Value→World→(Value→World→Prop)→Prop
  | [],w,K=>K x w
  | y::ys,w,K=>mm2 isMax x y w fun v w'=>mmD isMax v ys w' K
def Aq1 (T:Nat→Option TI) (b:Builtin) (ts:List Nat) (args:List Value) (w:World) (K:Value→World→Prop):Prop:=
  match b,args with
  | .len,[.slice _ n _]=>Ac8 (nth ts 0) fun t=>Ac8 (T t) fun ti=>match ti.d with | .slice _=>K (.int .i64 n) w | _=>False
  | .len,[.string s]=>Ac8 (nth ts 0) fun t=>Ac8 (T t) fun ti=>match ti.d with | .string=>K (.int .i64 s.size) w | _=>False
  | .len,[.pointer _]=>Ac8 (nth ts 0) fun t=>Ac8 (T t) fun ti=>match ti.d with
    | .ptr e=>Ac8 (T e) fun te=>match te.d with | .array n _=>K (.int .i64 n) w | _=>False
    | _=>False
  | .len,[.agg _]=>Ac8 (nth ts 0) fun t=>Ac8 (T t) fun ti=>match ti.d with | .array n _=>K (.int .i64 n) w | _=>False
  | .cap,[.slice _ _ c]=>Ac8 (nth ts 0) fun t=>Ac8 (T t) fun ti=>match ti.d with | .slice _=>K (.int .i64 c) w | _=>False
  | .append,[.slice a len cap,.slice b n _]=>Ac8 (nth ts 0) fun t=>Ac8 (T t) fun ti=>match ti.d with
    | .slice e=>Ac8 (nth ts 1) fun t'=>Ac8 (T t') fun ti'=>match ti'.d with
      | .slice _=>Ac8 (T e) fun te=>Dp0 e te.size te.bytes (Ai4 te.zero).toArray a len cap b n w fun a l c w'=>K (.slice a l c) w'
      | _=>False
    | _=>False
  | .copy,[.slice a len _,.slice b n _]=>Ac8 (nth ts 0) fun t=>Ac8 (T t) fun ti=>match ti.d with
    | .slice e=>Ac8 (T e) fun te=>Hl9 te.size a len b n w fun w'=>K (.int .i64 (min n len:Nat)) w'
    | _=>False
  | .max,x::xs=>mmD true x xs w K
  | .min,x::xs=>mmD false x xs w K
  | _,_=>False
def opD (P:Program) (T:Nat→Option TI) (e:Env) (ty:Nat) (o:Op) (w:World) (K:Value→World→Prop):Prop:=
  match o with
  | .move x=>As8 (ev e x) fun v=>K v w
  | .assign x=>As8 (ev e x) fun v=>K v w
  | .pick c a b=>As8 (ev e c) fun vc=>match vc with
    | .bool t=>cond t (As8 (ev e a) fun v=>K v w) (As8 (ev e b) fun v=>K v w)
    | _=>False
  | .alloc t=>Ac8 (T t) fun ti=>Ad1 (Ai4 ti.zero).toArray t w fun p w'=>K (.pointer (some p)) w'
  | .box t x=>As8 (ev e x) fun v=>Ad1 (Ai4 v).toArray t w fun p w'=>K (.pointer (some p)) w'
  | .build t ps=>Ac8 (T t) fun ti=>match ti.d with
    | .struct fs=>Ac8 (Ha7 T fs) fun pl=>Ac8 (Gg3 e ps.toList) fun vs=>Ac8 (Dl7 (nth pl) (Ai4 ti.zero) vs) fun cs=>K (.agg cs.toArray) w
    | .array _ el=>Ac8 (Bk4 T el) fun s=>Ac8 (Gg3 e ps.toList) fun vs=>Ac8 (Dl7 (fun i=>some (i*s,s)) (Ai4 ti.zero) vs) fun cs=>K (.agg cs.toArray) w
    | _=>False
  | .buildSlice t n ps=>Ac8 (T t) fun ti=>match ti.d with
    | .slice el=>Ac8 (T el) fun te=>Ac8 (Gg3 e ps.toList) fun vs=>
      cond (Nat.ble (n*te.size) 4096) (cond (Nat.beq (Ai4 te.zero).length te.size)
        (Ac8 (Dl7 (fun i=>some (i*te.size,te.size)) (rep (Ai4 te.zero) n) vs) fun cs=>Ad1 cs.toArray el w fun p w'=>K (.slice (some p) n n) w') False) False
    | _=>False
  | .load t a=>Ac8 (T t) fun ti=>As8 (ev e a) fun p=>Gb8 ti p w fun v=>K v w
  | .store t a x=>Ac8 (T t) fun ti=>As8 (ev e a) fun p=>As8 (ev e x) fun v=>Fu5 ti p v w fun w'=>K undef w'
  | .nilCheck x=>As8 (ev e x) fun v=>match v with
    | .pointer p=>Ae0 p fun a=>K (.pointer (some a)) w
    | .func (.func f) a b=>K (.func (.func f) a b) w
    | _=>False
  | .binOp op t x y _=>Ac8 (T t) fun ti=>As8 (ev e x) fun a=>As8 (ev e y) fun b=>Cy9 ti op a b w K
  | .unOp op _ x=>As8 (ev e x) fun v=>unD op v fun v=>K v w
  | .convert s d x=>Ac8 (T s) fun ts=>Ac8 (T d) fun td=>As8 (ev e x) fun v=>Dm5 ts.d td.d v w K
  | .makeFunc fn a b=>Ac8 (evs e a.toList) fun va=>Ac8 (evs e b.toList) fun vb=>K (.func fn va.toArray vb.toArray) w
  | .makeSlice t l c=>Ac8 (T t) fun ti=>match ti.d with
    | .slice el=>Ac8 (T el) fun te=>As8 (ev e l) fun vl=>As8 (ev e c) fun vc=>match vl,vc with
      | .int .i64 l,.int .i64 c=>mkM el te.size te.bytes (Ai4 te.zero).toArray l c w fun p w'=>K (.slice (some p) l.toNat c.toNat) w'
      | _,_=>False
    | _=>False
  | .slice t x lo hi mx=>Ac8 (T t) fun ti=>As8 (ev e x) fun v=>Ac8 (evo e lo) fun l=>Ac8 (evo e hi) fun h=>Ac8 (evo e mx) fun m=>match ti.d,v with
    | .slice el,.slice a len cap=>Ac8 (Bk4 T el) fun s=>Ci6 s a len cap l h m fun v=>K v w
    | .array n el,.pointer p=>Ae0 p fun a=>Ac8 (Bk4 T el) fun s=>Ci6 s (some a) n n l h m fun v=>K v w
    | _,_=>False
  | .fieldAddr t x i=>Ac8 (T t) fun ti=>match ti.d with
    | .struct fs=>Ac8 (nth fs i) fun f=>Ac8 (Bk4 T f.1) fun s=>cond (Nat.beq s 0) False (As8 (ev e x) fun v=>match v with
      | .pointer p=>Ae0 p fun a=>K (.pointer (some (a.add f.2))) w
      | _=>False)
    | _=>False
  | .field t x i=>Ac8 (T t) fun ti=>match ti.d with
    | .struct fs=>Ac8 (nth fs i) fun f=>Ac8 (T f.1) fun tf=>As8 (ev e x) fun v=>match v with
      | .agg cs=>cond tf.d.isAgg (K (.agg ((cs.toList.drop f.2).take tf.size).toArray) w) (Ac8 (nth cs.toList f.2) fun v=>K v w)
      | _=>False
    | _=>False
  | .indexAddr t x i=>Ac8 (T t) fun ti=>As8 (ev e x) fun v=>As8 (ev e i) fun vi=>match ti.d,v,vi with
    | .slice el,.slice a len _,.int _ i=>Ac8 (Bk4 T el) fun s=>0≤i∧i<len∧Ae0 a fun a=>K (.pointer (some (a.add (i.toNat*s)))) w
    | .array n el,.pointer p,.int _ i=>Ac8 (Bk4 T el) fun s=>0≤i∧i<n∧Ae0 p fun a=>K (.pointer (some (a.add (i.toNat*s)))) w
    | _,_,_=>False
  | .index t x i=>Ac8 (T t) fun ti=>As8 (ev e x) fun v=>As8 (ev e i) fun vi=>match ti.d,v,vi with
    | .array n el,.agg cs,.int _ i=>Ac8 (T el) fun te=>cond te.d.isAgg False (0≤i∧i<n∧∃ v,cs[i.toNat*te.size]?=some v∧K v w)
    | .string,.string s,.int _ i=>0≤i∧∃ b:UInt8,s[i.toNat]?=some b∧K (.int .u8 b.toNat) w
    | _,_,_=>False
  | .extract x i=>As8 (ev e x) fun v=>match v with
    | .tuple vs=>Ac8 (nth vs.toList i) fun v=>K v w
    | _=>False
  | .call c=>Ac8 (evs e c.args.toList) fun args=>match c.callee with
    | .builtin b=>Aq1 T b c.argTypes.toList args w K
    | .value f=>As8 (ev e f) fun v=>fnM v fun f first cap=>Aa1 P f (first.toList++(args++cap.toList)).toArray w fun v w'=>Gn8 T ty fun u=>v=u∧K u w'
    | _=>False
  | _=>False
def Gh3 (n:Nat) (e:Env) (d:Option Nat) (v:Value) (K:Env→Prop):Prop:=
  match d with
  | none=>K e
  | some d=>cond (Nat.blt d n) (K (upd e d v)) False
def Fo8 (ops:List Oper) (j:Nat):Option Nat:=match nth ops j with | some o=>o.dst | none=>none
def Gp0 (P:Program) (T:Nat→Option TI) (n:Nat) (ops:List Oper) (o:Oper) (e:Env) (w:World) (K:Env→World→Prop):Prop:=
  match o.guard with
  | none=>opD P T e o.type o.op w fun v w'=>Gh3 n e o.dst v fun e'=>K e' w'
  | some (j,want)=>Ac8 (Fo8 ops j) fun t=>match e t with
    | some (.bool b)=>cond (cond want b (!b))
        (opD P T (upd e t (.bool want)) o.type o.op w fun v w'=>Gh3 n (upd e t (.bool want)) o.dst v fun e'=>K e' w')
        (Gh3 n (upd e t (.bool !want)) o.dst undef fun e'=>K e' w)
    | some _=>Gh3 n e o.dst undef fun e'=>K e' w
    | none=>False
def Hn4 (P:Program) (T:Nat→Option TI) (n:Nat) (all:List Oper):List Oper→Env→World→(Env→World→Prop)→Prop
  | [],e,w,K=>K e w
  | o::os,e,w,K=>Gp0 P T n all o e w fun e' w'=>Hn4 P T n all os e' w' K
def Ce.T:Ce→Type
  | .int _=>Int
  | .bool=>Bool
  | .f64=>Nat
  | .str=>ByteArray
  | .slice=>Option Addr×Nat×Nat
  | .ptr=>Option Addr
  | .raw=>Value
def Ce.v:(c:Ce)→c.T→Value
  | .int k,n => .int k n
  | .bool,b => .bool b
  | .f64,x => .float .f64 x
  | .str,s => .string s
  | .slice,s => .slice s.1 s.2.1 s.2.2
  | .ptr,p => .pointer p
  | .raw,v=>v
def Ce.get:(c:Ce)→Value→Option c.T
  | .int k,.int k' n=>cond (kEq k k') (some n) none
  | .bool,.bool b=>some b
  | .f64,.float .f64 x=>some x
  | .str,.string s=>some s
  | .slice,.slice a l c=>some (a,l,c)
  | .ptr,.pointer p=>some p
  | .raw,v=>some v
  | _,_=>none
def CsT:List Ce→Type
  | []=>Unit
  | c::cs=>c.T×CsT cs
def csV:(cs:List Ce)→CsT cs→List Value
  | [],_=>[]
  | c::cs,s=>c.v s.1::csV cs s.2
def Eo2:(cs:List Ce)→List Value→Option (CsT cs)
  | [],[]=>some ()
  | c::cs,v::vs=>match c.get v with
    | some x=>match Eo2 cs vs with
      | some r=>some (x,r)
      | none=>none
    | none=>none
  | _,_=>none
inductive Sh where
  | one (k:Ce)
  | agg (cs:List Ce)
def Sh.T:Sh→Type
  | .one k=>k.T
  | .agg cs=>CsT cs
def Sh.v:(s:Sh)→s.T→Value
  | .one k,x=>k.v x
  | .agg cs,x => .agg (csV cs x).toArray
def Gu6:Value→Option (List Value)
  | .agg vs=>some vs.toList
  | _=>none
def Sh.get:(s:Sh)→Value→Option s.T
  | .one k,v=>k.get v
  | .agg cs,v=>match Gu6 v with
    | some vs=>Eo2 cs vs
    | none=>none
def Tup:List (Nat×Sh)→Type
  | []=>Unit
  | p::W=>p.2.T×Tup W
def Cq9:(W:List (Nat×Sh))→Env→Option (Tup W)
  | [],_=>some ()
  | p::W,e=>match e p.1 with
    | some v=>match p.2.get v with
      | some x=>match Cq9 W e with
        | some r=>some (x,r)
        | none=>none
      | none=>none
    | none=>none
def Fn1:(W:List (Nat×Sh))→Tup W→Nat→Option Value
  | [],_,_=>none
  | p::W,s,t=>cond (Nat.beq t p.1) (some (p.2.v s.1)) (Fn1 W s.2 t)
def inD:List (Nat×Nat)→Nat→Bool
  | [],_=>false
  | p::D,t=>cond (cond (Nat.ble p.1 t) (Nat.ble t p.2) false) true (inD D t)
def Fo3 (W:List (Nat×Sh)) (D:List (Nat×Nat)) (e:Env) (s:Tup W):Env:=fun t=>
  match Fn1 W s t with
  | some v=>some v
  | none=>cond (inD D t) none (e t)
def Ae8 {σ:Type} (f:(σ→World→Prop)→Prop) (J:σ→World→Prop):Prop:=f J
def Ae7 {σ:Type} (body:σ→(σ→World→Prop)→World→Prop) (s:σ) (w:World):Prop:=
  ∀ X:σ→World→Prop,(∀ s w,body s X w→X s w)→X s w
abbrev Hc4:=List (Nat×Sh)×List (Nat×Nat)
def Fg4 (D:List (Nat×Nat)):List Oper→Bool
  | []=>true
  | o::os=>cond (match o.dst with | some d=>inD D d | none=>true) (Fg4 D os) false
def Ca3 (D:List (Nat×Nat)):Code→Bool
  | .region _ ops _=>Fg4 D ops.toList
  | .seq a b=>cond (Ca3 D a) (Ca3 D b) false
  | .cond _ a b=>cond (Ca3 D a) (Ca3 D b) false
  | .block _ c=>Ca3 D c
  | .loop c=>Ca3 D c
  | .rangeFunc _ _ _ _=>false
  | .scope c=>Ca3 D c
  | _=>true
def Hd2 (m:Option Hc4) (c:Code) (e:Env) (f:(Env→World→Prop)→Prop) (Kn:Env→World→Prop):Prop:=
  match m with
  | none=>f Kn
  | some (W,D)=>cond (Ca3 D c) (Ae8 (fun J:Tup W→World→Prop=>f fun e' w'=>Ac8 (Cq9 W e') fun s=>J s w') (fun s w'=>Kn (Fo3 W D e s) w')) False
def Fe3 (ts:Builtin):Bool:=match ts with | .len | .cap | .min | .max=>true | _=>false
def Bq4 (o:Op):Bool:=
  match o with
  | .move _ | .assign _ | .pick _ _ _ | .build _ _ | .load _ _ | .nilCheck _ | .binOp _ _ _ _ _ | .unOp _ _ _ | .convert _ _ _ | .makeFunc _ _ _
  | .slice _ _ _ _ _ | .fieldAddr _ _ _ | .field _ _ _ | .indexAddr _ _ _ | .index _ _ _ | .extract _ _=>true
  | .call c=>match c.callee with | .builtin b=>Fe3 b | _=>false
  | _=>false
def Dn8 (T:Nat→Option TI) (o:Op):Bool:=
  match o with
  | .binOp op t _ _ _=>match T t with
    | some ti=>match ti.d with
      | .float _=>match op with | .add | .sub | .mul | .quo=>true | _=>false
      | .int _ | .bool | .string | .ptr _ | .slice _=>false
      | _=>true
    | none=>true
  | .convert s d _=>match T s,T d with
    | some ts,some td=>match ts.d,td.d with | .int _,.int _=>false | .int _,.float _=>false | .float _,.float _=>false | _,_=>true
    | _,_=>true
  | .call c=>match c.callee with | .builtin b=>(match b with | .max | .min=>true | _=>false) | _=>true
  | _=>false
inductive Ord where
  | done
  | q (k:Nat) (r:Ord)
  | e (k:Nat) (r:Ord)
  | alt (a b:Ord)
abbrev Do7:=Nat×Addr×Value
def Bc3 (k:Nat) (a:Addr):Nat→List Value→List Do7
  | _,[]=>[]
  | i,v::vs=>(k,a.add i,v)::Bc3 k a (i+1) vs
def Hf2 (k:Nat) (ti:TI) (p:Value) (w:World) (K:Value→List Do7→Prop):Prop:=
  match p with
  | .pointer o=>Ae0 o fun a=>cond ti.d.isAgg (Gh1 (ces (Ai4 ti.zero)) a 0 w fun vs=>K (.agg vs.toArray) (Bc3 k a 0 vs)) (ldC (Ce.of ti.zero) w a fun v=>K v [(k,a,v)])
  | _=>False
def Fx3 (P:Program) (T:Nat→Option TI) (e:Env) (k ty:Nat) (o:Op) (w:World) (K:Value→List Do7→Prop):Prop:=
  match o with
  | .load t a=>Ac8 (T t) fun ti=>As8 (ev e a) fun p=>Hf2 k ti p w K
  | o=>opD P T e ty o w fun v _=>K v []
def Hb8 (P:Program) (T:Nat→Option TI) (n:Nat) (ops:List Oper) (k:Nat) (o:Oper) (e:Env) (w:World) (K:Env→List Do7→Prop):Prop:=
  match o.guard with
  | none=>Fx3 P T e k o.type o.op w fun v f=>Gh3 n e o.dst v fun e'=>K e' f
  | some (j,want)=>Ac8 (Fo8 ops j) fun t=>match e t with
    | some (.bool b)=>cond (cond want b (!b))
        (Fx3 P T (upd e t (.bool want)) k o.type o.op w fun v f=>Gh3 n (upd e t (.bool want)) o.dst v fun e'=>K e' f)
        (Gh3 n (upd e t (.bool !want)) o.dst undef fun e'=>K e' [])
    | some _=>Gh3 n e o.dst undef fun e'=>K e' []
    | none=>False
def Gh5 (o:Oper) (i:Nat):Bool:=o.after.toList.any fun e=>cond (Region.binds .any e) (Nat.beq e.on i) false
def Bb2 (ops:Array Oper) (k:Nat):Nat→Oper→Bool
  | 0,o=>Gh5 o k
  | f+1,o=>Gh5 o k||o.after.toList.any fun e=>cond (Region.binds .any e) (match ops[e.on]? with | some p=>Bb2 ops k f p | none=>false) false
def Fv7 (ops:Array Oper) (o:Oper):List Do7→List Do7
  | []=>[]
  | f::H=>cond (Bb2 ops f.1 4 o) (Fv7 ops o H) (f::Fv7 ops o H)
def Ee5 (ops:Array Oper) (o:Oper) (H:List Do7):List Do7:=cond (Bq4 o.op) H (Fv7 ops o H)
def Go1:List Do7→World→Prop→Prop
  | [],_,K=>K
  | f::H,w,K=>w.cell? f.2.1=some f.2.2∧Go1 H w K
def Gs5 (P:Program) (T:Nat→Option TI) (n:Nat) (ops:List Oper):Ord→List Do7→Env→World→(Env→World→Prop)→Prop
  | .done,_,e,w,K=>drM w fun w'=>K e w'
  | .q k r,H,e,w,K=>Ac8 (nth ops k) fun o=>Hb8 P T n ops k o e w fun e' f=>Gs5 P T n ops r (f++H) e' w K
  | .e k r,H,e,w,K=>Ac8 (nth ops k) fun o=>drM w fun w0=>Gp0 P T n ops o e w0 fun e' w'=>Go1 (Ee5 ops.toArray o H) w' (Gs5 P T n ops r (Ee5 ops.toArray o H) e' w' K)
  | .alt a b,H,e,w,K=>Gs5 P T n ops a H e w K∧Gs5 P T n ops b H e w K
def Ey7:Ord→List Nat
  | .done=>[]
  | .q _ _=>[]
  | .e k _=>[k]
  | .alt a b=>Ey7 a++Ey7 b
def Dk7 (ops:Array Oper) (listed:Array Bool) (k:Nat):Bool:=
  (List.range ops.size).all fun j=>listed.getD j true||(match ops[j]? with | some o=>Bq4 o.op||Bb2 ops k 4 o | none=>true)
def Az6 (T:Nat→Option TI) (ops:Array Oper):Ord→Bool→Nat→Array Bool→Bool
  | .done,chk,f,listed=>chk&&Nat.beq f 0&&(Region.ready .any ops listed).isEmpty
  | .q k r,chk,f,listed=>match f with
    | 0=>false
    | f+1=>chk&&(Region.ready .any ops listed).contains k&&Region.free .any ops listed k &&
      (match ops[k]? with | some o=>Bq4 o.op&&(!Dn8 T o.op||Dk7 ops listed k) | none=>false)&&Az6 T ops r true f (listed.setIfInBounds k true)
  | .e k r,chk,f,listed=>match f with
    | 0=>false
    | f+1=>(!chk||(!(Region.ready .any ops listed).isEmpty&&(Region.ready .any ops listed).all fun j=>[k].contains j))&&(match ops[k]? with | some o => !Bq4 o.op||Dn8 T o.op | none=>false)&&Az6 T ops r true f (listed.setIfInBounds k true)
  | .alt a b,chk,f,listed=>(!chk||(!(Region.ready .any ops listed).isEmpty&&(Region.ready .any ops listed).all fun j=>(Ey7 (.alt a b)).contains j))&&Az6 T ops a false f listed&&Az6 T ops b false f listed
def Fa7 (P:Program) (T:Nat→Option TI) (n:Nat) (ops:List Oper) (draw:Bool) (ord:Option Ord) (e:Env) (w:World) (K:Env→World→Prop):Prop:=
  match draw,ord with
  | false,_=>Hn4 P T n ops ops e w K
  | true,some o=>cond (cond (Region.noSelect ops.toArray) (Az6 T ops.toArray o true ops.length (Array.replicate ops.length false)) false) (Gs5 P T n ops o [] e w K) False
  | true,none=>False
structure An where
  loops:List (Nat×Hc4)
  blocks:List (Nat×Hc4)
  regions:List (Nat×Hc4)
  conds:List (Nat×Hc4)
  ords:List (Nat×Ord)
def Hq6 (e:Env) (c:Operand) (b:Bool):Env:=match c with | .tmp t=>upd e t (.bool b) | _=>e
def Hs7 (c:Operand):Nat:=match c with | .tmp t=>t | _=>0
def Dl2 (P:Program) (T:Nat→Option TI) (n:Nat) (an:An) :
    Code→Nat→Env→(Env→World→Prop)→(Nat→Env→World→Prop)→(Env→World→Prop)→World→Prop
  | .skip,_,e,Kn,_,_,w=>Kn e w
  | .region id ops draw,_,e,Kn,_,_,w=>Hd2 (Fd8 an.regions id) (.region id ops draw) e (fun K=>Fa7 P T n ops.toList draw (Fd8 an.ords id) e w K) Kn
  | .seq a b,cur,e,Kn,Kx,Kr,w=>Dl2 P T n an a cur e (fun e' w'=>Dl2 P T n an b cur e' Kn Kx Kr w') Kx Kr w
  | .cond c a b,cur,e,Kn,Kx,Kr,w=>Hd2 (Fd8 an.conds (Hs7 c)) (.cond c a b) e (fun K=>As8 (ev e c) fun v=>match v with
    | .bool t=>cond t (Dl2 P T n an a cur (Hq6 e c true) K Kx Kr w) (Dl2 P T n an b cur (Hq6 e c false) K Kx Kr w)
    | _=>False) Kn
  | .block id c,_,e,Kn,Kx,Kr,w=>Hd2 (Fd8 an.blocks id) (.block id c) e (fun K=>Dl2 P T n an c id e K (fun j e' w'=>cond (Nat.beq j id) (K e' w') (Kx j e' w')) Kr w) Kn
  | .loop c,cur,e,_,Kx,Kr,w=>match Fd8 an.loops cur with
    | some (W,D)=>cond (Ca3 D c) (Ac8 (Cq9 W e) fun s0=>Ae7 (fun (s:Tup W) X w=>Dl2 P T n an c cur (Fo3 W D e s) (fun e' w'=>Ac8 (Cq9 W e') fun s'=>X s' w') Kx Kr w) s0 w) False
    | none=>False
  | .scope c,cur,e,Kn,Kx,Kr,w=>Dl2 P T n an c cur e Kn Kx Kr w
  | .label _,_,e,Kn,_,_,w=>Kn e w
  | .exit id,_,e,_,Kx,_,w=>Kx id e w
  | .ret,_,e,_,_,Kr,w=>Kr e w
  | _,_,_,_,_,_,_=>False
def Hc8 (T:Nat→Option TI):List ResultVar→Env→World→(List Value→Prop)→Prop
  | [],_,_,K=>K []
  | .tmp t::rs,e,w,K=>Ac8 (e t) fun v=>Hc8 T rs e w fun vs=>K (v::vs)
  | .cell a t::rs,e,w,K=>Ac8 (e a) fun p=>Ac8 (T t) fun ti=>Gb8 ti p w fun v=>Hc8 T rs e w fun vs=>K (v::vs)
def Fr8 (vs:List Value):Value:=match vs with | [v]=>v | vs => .tuple vs.toArray
def Gv0 (args:List Value):Env:=fun t=>match nth args t with | some v=>some v | none=>some undef
def Hk5 (P:Program) (T:Nat→Option TI) (fn:Func) (an:An) (args:List Value) (w:World) (K:Value→World→Prop):Prop:=
  match fn.body with
  | some c=>cond (Nat.ble args.length fn.ntmps)
      (Dl2 P T fn.ntmps an c 0 (Gv0 args) (fun e w=>Hc8 T fn.results.toList e w fun vs=>K (Fr8 vs) w) (fun _ _ _=>False)
        (fun e w=>Hc8 T fn.results.toList e w fun vs=>K (Fr8 vs) w) w) False
  | none=>False
end Go.Eng
