/-
  A definitional reading of the model's structured code: 'codeD' turns a body into a plain proposition in the manner of a weakest precondition; here the definitions alone. No condition.
-/
import Derived.Calls
import Derived.Still
import Derived.StillTail
import Derived.Deep.Draws
import Derived.Test.YtlnelldekejadaaFl2
set_option linter.all false
namespace Go.Eng
open Go
def Out (P:Program) (K:Value→World→Prop):Result Next→Prop
  | .ok (.value v) w=>K v w
  | .ok .skip w=>K undef w
  | .ok (.enter f args) w=>Calls P f args w fun e w'=>∃ v,e = .returned v∧K v w'
  | _=>False
def CallsX (P:Program) (f:FuncId) (args:Array Value) (w:World) (K:Value→World→Prop):Prop:=Out P K ((callFunc f args).run P w)
inductive TD where
  | bool | int (k:IntKind) | float (k:FloatKind) | string
  | ptr (e:Nat) | slice (e:Nat) | array (n e:Nat) | struct (fs:List (Nat×Nat)) | tuple (ts:List Nat)
  | func | other
structure TI where
  d:TD
  size:Nat
  bytes:Nat
  zero:Value
  eq3:Bool:=false
def TD.isAgg:TD→Bool
  | .array _ _ | .struct _=>true
  | _=>false
def look {α:Type}:List (Nat×α)→Nat→Option α
  | [],_=>none
  | (k,v)::l,t=>cond (Nat.beq k t) (some v) (look l t)
inductive Ce where
  | int (k:IntKind) | bool | f64 | str | slice | ptr | raw
def Ce.ex:Ce→(Value→Prop)→Prop
  | .int k,K=>∃ n:Int,K (.int k n)
  | .bool,K=>∃ b:Bool,K (.bool b)
  | .f64,K=>∃ x:Nat,K (.float .f64 x)
  | .str,K=>∃ s:ByteArray,K (.string s)
  | .slice,K=>∃ (a:Option Addr) (l c:Nat),K (.slice a l c)
  | .ptr,K=>∃ p:Option Addr,K (.pointer p)
  | .raw,K=>∃ v:Value,K v
def exCs:List Ce→(List Value→Prop)→Prop
  | [],K=>K []
  | c::cs,K=>c.ex fun v=>exCs cs fun vs=>K (v::vs)
def Ce.of:Value→Ce
  | .int k _ => .int k
  | .bool _ => .bool
  | .float .f64 _ => .f64
  | .string _ => .str
  | .slice _ _ _ => .slice
  | .pointer _ => .ptr
  | _ => .raw
def vcells:Value→List Value
  | .agg cs=>cs.toList
  | v=>[v]
def ces:List Value→List Ce
  | []=>[]
  | v::vs=>Ce.of v::ces vs
def tiEx (ti:TI) (K:Value→Prop):Prop:=
  cond ti.d.isAgg (exCs (ces (vcells ti.zero)) fun vs=>K (.agg vs.toArray)) ((Ce.of ti.zero).ex K)
def tupEx (T:Nat→Option TI):List Nat→(List Value→Prop)→Prop
  | [],K=>K []
  | t::ts,K=>match T t with
    | some ti=>tiEx ti fun v=>tupEx T ts fun vs=>K (v::vs)
    | none=>False
def retEx (T:Nat→Option TI) (ty:Nat) (K:Value→Prop):Prop:=
  match T ty with
  | some ti=>match ti.d with
    | .tuple ts=>tupEx T ts fun vs=>K (.tuple vs.toArray)
    | _=>tiEx ti K
  | none=>False
def optM {α:Type}:Option α→(α→Prop)→Prop
  | some a,K=>K a
  | none,_=>False
def ldC (c:Ce) (w:World) (a:Addr) (K:Value→Prop):Prop:=c.ex fun v=>w.cell? a=some v∧K v
def ldCs:List Ce→Addr→Nat→World→(List Value→Prop)→Prop
  | [],_,_,_,K=>K []
  | c::cs,a,i,w,K=>ldC c w (a.add i) fun v=>ldCs cs a (i+1) w fun vs=>K (v::vs)
def okSt (w:World) (a:Addr):Prop:=(∃ u,w.cell? a=some u)∧w.frozen? a=false
def stM (a:Addr) (v:Value) (w:World) (K:World→Prop):Prop:=okSt w a∧K (w.setCell a v)
def cellV:Value→Bool
  | .agg _ | .tuple _=>false
  | _=>true
def stCs:List Value→Addr→Nat→World→(World→Prop)→Prop
  | [],_,_,w,K=>K w
  | v::vs,a,i,w,K=>cond (cellV v) (stM (a.add i) v w fun w'=>stCs vs a (i+1) w' K) False
def loadD (ti:TI) (p:Value) (w:World) (K:Value→Prop):Prop:=
  match p with
  | .pointer o=>optM o fun a=>cond ti.d.isAgg (ldCs (ces (vcells ti.zero)) a 0 w fun vs=>K (.agg vs.toArray)) (ldC (Ce.of ti.zero) w a K)
  | _=>False
def storeD (ti:TI) (p v:Value) (w:World) (K:World→Prop):Prop:=
  match p with
  | .pointer o=>optM o fun a=>cond (Nat.beq (vcells v).length ti.size) (stCs (vcells v) a 0 w K) False
  | _=>False
def zrow (n:Nat) (zero:Array Value):Array Value:=(Array.range n).map (zero[· % zero.size]!)
def nxt (w:World):Addr:=⟨w.heap.size,0,none⟩
def rowAt (w:World) (a:Addr) (l:List Value):Prop:=∀ i,i<l.length→w.cell? (a.add i)=l[i]?
def rowOf (w:World) (a:Option Addr) (l:List Value):Prop:=
  match a with
  | some a=>rowAt w a l
  | none=>l = []
def setRow:List Value→Addr→Nat→World→World
  | [],_,_,w=>w
  | v::vs,a,i,w=>setRow vs a (i+1) (w.setCell (a.add i) v)
def stOk:List Value→Addr→Nat→World→Prop
  | [],_,_,_=>True
  | v::vs,a,i,w=>cellV v=true∧okSt w (a.add i)∧stOk vs a (i+1) (w.setCell (a.add i) v)
def appM (e size bytes:Nat) (zero:Array Value) (a:Option Addr) (len cap:Nat) (b:Option Addr) (n:Nat) (w:World) (K:Option Addr→Nat→Nat→World→Prop):Prop:=
  ∃ new:List Value,new.length=n*size∧rowOf w b new ∧
    (len+n≤cap→match a with
      | some x=>stOk new (x.add (len*size)) 0 w∧K (some x) (len+n) cap (setRow new (x.add (len*size)) 0 w)
      | none=>K none (len+n) cap w) ∧
    (cap<len+n→len+n≤35184372088832∧(len+n)*bytes≤35184372088832∧bytes≤4096∧∃ old:List Value,old.length=len*size∧rowOf w a old ∧
      ∀ (c d:Nat),len+n≤c→K (some (nxt w)) (len+n) c ((w.drewN d).alloc (.cells ((old++new).toArray++zrow ((c-(len+n))*zero.size) zero) e)))
def copM (size:Nat) (a:Option Addr) (len:Nat) (b:Option Addr) (n:Nat) (w:World) (K:World→Prop):Prop:=
  ∃ new:List Value,new.length=min n len*size∧rowOf w b new ∧
    (match a with
    | some x=>stOk new x 0 w∧K (setRow new x 0 w)
    | none=>K w)
def slBase (a:Option Addr) (l m size:Nat):Option Addr:=if m=l then a else a.map (·.add (l*size))
def newM (c:Array Value) (t:Nat) (w:World) (K:Addr→World→Prop):Prop:=K (nxt w) (w.alloc (.cells c t))
def mkM (e size bytes:Nat) (zero:Array Value) (l c:Int) (w:World) (K:Addr→World→Prop):Prop:=
  0≤l∧l≤c∧c≤1099511627776∧c*bytes≤281474976710656∧K (nxt w) (w.alloc (.cells (zrow (c.toNat*size) zero) e))
def drM (w:World) (K:World→Prop):Prop:=∀ d,K (w.drewN d)
abbrev Env:=Nat→Option Value
def upd (e:Env) (d:Nat) (v:Value):Env:=fun t=>cond (Nat.beq t d) (some v) (e t)
def ev (e:Env):Operand→Option Value
  | .tmp t=>e t
  | .const v=>some v
  | .global g=>some (.pointer (some ⟨g,0,none⟩))
  | .func f=>some (.func (.func f) #[] #[])
def evs (e:Env):List Operand→Option (List Value)
  | []=>some []
  | x::xs=>match ev e x with
    | some v=>match evs e xs with
      | some vs=>some (v::vs)
      | none=>none
    | none=>none
def evps (e:Env):List (Nat×Operand)→Option (List (Nat×Value))
  | []=>some []
  | (i,x)::xs=>match ev e x with
    | some v=>match evps e xs with
      | some vs=>some ((i,v)::vs)
      | none=>none
    | none=>none
def evo (e:Env):Option Operand→Option (Option Value)
  | none=>some none
  | some x=>match ev e x with
    | some v=>some (some v)
    | none=>none
def fresM (x:Nat) (w:World) (K:Nat→World→Prop):Prop:=∀ r d:Nat,nf r=x→K r (w.drewN d)
def FRes (x:Nat) (w:World) (K:Value→World→Prop):Prop:=fresM x w fun r w'=>K (.float .f64 r) w'
def f2i (x:Nat) (k:IntKind):Option Int:=
  match (Ieee.double.read x).toInt .zero with
  | some n=>if k.min≤n∧n≤k.max then some n else none
  | none=>none
def f2iM (x:Nat) (k:IntKind) (w:World) (K:Int→World→Prop):Prop:=
  (∀ n,f2i x k=some n→K n w)∧(f2i x k=none→∀ (n:Int) (d:Nat),k.wrap n=n→K n (w.drewN d))
def binInt (op:BinOp) (k:IntKind) (a b:Int) (K:Value→Prop):Prop:=
  match op with
  | .add=>K (.int k (k.wrap (a+b)))
  | .sub=>K (.int k (k.wrap (a-b)))
  | .mul=>K (.int k (k.wrap (a*b)))
  | .quo=>b≠0∧K (.int k (k.wrap (a.tdiv b)))
  | .rem=>b≠0∧K (.int k (a.tmod b))
  | .and=>K (.int k (k.wrap (BitVec.ofInt k.bits a &&& BitVec.ofInt k.bits b).toNat))
  | .or=>K (.int k (k.wrap (BitVec.ofInt k.bits a ||| BitVec.ofInt k.bits b).toNat))
  | .xor=>K (.int k (k.wrap (BitVec.ofInt k.bits a ^^^ BitVec.ofInt k.bits b).toNat))
  | .andNot=>K (.int k (k.wrap (BitVec.ofInt k.bits a &&& ~~~BitVec.ofInt k.bits b).toNat))
  | .eql=>K (.bool (a==b))
  | .neq=>K (.bool (a != b))
  | .lss=>K (.bool (decide (a<b)))
  | .leq=>K (.bool (decide (a≤b)))
  | .gtr=>K (.bool (decide (a>b)))
  | .geq=>K (.bool (decide (a≥b)))
  | _=>False
def binFlt (op:BinOp) (a b:Nat) (w:World) (K:Value→World→Prop):Prop:=
  match op with
  | .add=>FRes (fadd a b) w K
  | .sub=>FRes (fsub a b) w K
  | .mul=>FRes (fmul a b) w K
  | .quo=>FRes (fdiv a b) w K
  | .eql=>K (.bool (feq a b)) w
  | .neq=>K (.bool (!feq a b)) w
  | .lss=>K (.bool (flt a b)) w
  | .leq=>K (.bool (flt a b||feq a b)) w
  | .gtr=>K (.bool (fgt a b)) w
  | .geq=>K (.bool (fgt a b||feq a b)) w
  | _=>False
def kEq:IntKind→IntKind→Bool
  | .i8,.i8 | .i16,.i16 | .i32,.i32 | .i64,.i64 | .u8,.u8 | .u16,.u16 | .u32,.u32 | .u64,.u64=>true
  | _,_=>false
def eq3D (op:BinOp) (xs ys:List Value) (w:World) (K:Value→World→Prop):Prop:=
  match xs,ys with
  | [.int .i64 a,.int .i64 b,.int .i64 c],[.int .i64 a',.int .i64 b',.int .i64 c']=>match op with
    | .eql=>K (.bool (a==a'&&(b==b'&&c==c'))) w
    | .neq=>K (.bool (!(a==a'&&(b==b'&&c==c')))) w
    | _=>False
  | _,_=>False
def binD (ti:TI) (op:BinOp) (x y:Value) (w:World) (K:Value→World→Prop):Prop:=
  match x,y with
  | .int k a,.int k' b=>match op with
    | .shl=>0≤b∧K (.int k (k.wrap (a*2^(min b.toNat k.bits)))) w
    | .shr=>0≤b∧K (.int k (a.fdiv (2^(min b.toNat k.bits)))) w
    | op=>cond (kEq k k') (binInt op k a b fun v=>K v w) False
  | .float .f64 a,.float .f64 b=>match ti.d with
    | .float _=>binFlt op a b w K
    | _=>False
  | .bool a,.bool b=>match ti.d with
    | .bool=>match op with
      | .eql=>K (.bool (a==b)) w
      | .neq=>K (.bool (!(a==b))) w
      | _=>False
    | _=>False
  | .pointer p,.pointer none=>match ti.d with
    | .ptr _=>match op with
      | .eql=>K (.bool p.isNone) w
      | .neq=>K (.bool (!p.isNone)) w
      | _=>False
    | _=>False
  | .slice p _ _,.slice none _ _=>match ti.d with
    | .slice _=>match op with
      | .eql=>K (.bool p.isNone) w
      | .neq=>K (.bool (!p.isNone)) w
      | _=>False
    | _=>False
  | .string a,.string b=>match op with
    | .eql=>K (.bool (a.toList==b.toList)) w
    | .neq=>K (.bool (!(a.toList==b.toList))) w
    | _=>False
  | .agg xs,.agg ys=>cond ti.eq3 (eq3D op xs.toList ys.toList w K) False
  | _,_=>False
def unD (op:UnOp) (x:Value) (K:Value→Prop):Prop:=
  match op,x with
  | .neg,.int k n=>K (.int k (k.wrap (0-n)))
  | .xor,.int k n=>K (.int k (k.wrap (BitVec.ofInt k.bits (cond k.signed (-1) k.max) ^^^ BitVec.ofInt k.bits n).toNat))
  | .neg,.float .f64 b=>K (.float .f64 (fneg b))
  | .not,.bool b=>K (.bool !b)
  | _,_=>False
def convD (src dst:TD) (x:Value) (w:World) (K:Value→World→Prop):Prop:=
  match src,dst,x with
  | .int _,.int k,.int _ n=>K (.int k (k.wrap n)) w
  | .int _,.float .f64,.int _ n=>K (.float .f64 (FloatKind.f64.nearest n)) w
  | .float .f64,.int k,.float .f64 b=>f2iM b k w fun n w'=>K (.int k n) w'
  | .float .f64,.float .f64,.float .f64 b=>K (.float .f64 b) w
  | _,_,_=>False
def putAt (off:Nat):List Value→List Value→List Value
  | [],cs=>cs
  | v::vs,cs=>putAt (off+1) vs (cs.set off v)
def fillL (pl:Nat→Option (Nat×Nat)) (cells:List Value):List (Nat×Value)→Option (List Value)
  | []=>some cells
  | (i,v)::rest=>match pl i with
    | none=>none
    | some (off,size)=>cond (Nat.beq (vcells v).length size) (cond (Nat.ble (off+size) cells.length) (fillL pl (putAt off (vcells v) cells) rest) none) none
def nth {α:Type}:List α→Nat→Option α
  | [],_=>none
  | a::_,0=>some a
  | _::l,n+1=>nth l n
def sizeT (T:Nat→Option TI) (t:Nat):Option Nat:=match T t with | some ti=>some ti.size | none=>none
def plsT (T:Nat→Option TI):List (Nat×Nat)→Option (List (Nat×Nat))
  | []=>some []
  | (t,off)::fs=>match sizeT T t with
    | some s=>match plsT T fs with
      | some r=>some ((off,s)::r)
      | none=>none
    | none=>none
def rep (l:List Value):Nat→List Value
  | 0=>[]
  | n+1=>l++rep l n
def sliceD (size:Nat) (a:Option Addr) (len cap:Nat) (lo hi mx:Option Value) (K:Value→Prop):Prop:=
  match lo,hi,mx with
  | none,none,none=>K (.slice (slBase a 0 cap size) len cap)
  | some (.int .i64 l),none,none=>0≤l∧l≤len∧K (.slice (slBase a l.toNat cap size) (len-l.toNat) (cap-l.toNat))
  | none,some (.int .i64 h),none=>0≤h∧h≤cap∧K (.slice (slBase a 0 cap size) h.toNat cap)
  | some (.int .i64 l),some (.int .i64 h),none=>0≤h∧h≤cap∧0≤l∧l≤h∧K (.slice (slBase a l.toNat cap size) (h.toNat-l.toNat) (cap-l.toNat))
  | some (.int .i64 l),some (.int .i64 h),some (.int .i64 m)=>0≤m∧m≤cap∧0≤h∧h≤m∧0≤l∧l≤h∧K (.slice (slBase a l.toNat m.toNat size) (h.toNat-l.toNat) (m.toNat-l.toNat))
  | _,_,_=>False
def bindV (o:Option Value) (K:Value→Prop):Prop:=match o with | some v=>K v | none=>False
def bindL {α:Type} (o:Option α) (K:α→Prop):Prop:=match o with | some v=>K v | none=>False
def fnM (v:Value) (k:FuncId→Array Value→Array Value→Prop):Prop:=
  match v with
  | .func (.func f) first cap=>k f first cap
  | _=>False
def fmaxD (isMax:Bool) (x y:Nat) (w:World) (K:Nat→World→Prop):Prop:=
  match Ieee.double.order x y with
  | none=>∀ r d:Nat,isNaN r=true→K r (w.drewN d)
  | some .lt=>K (cond isMax y x) w
  | some .gt=>K (cond isMax x y) w
  | some .eq=>K (cond isMax (cond (Ieee.double.read x).neg y x) (cond (Ieee.double.read x).neg x y)) w
def mm2 (isMax:Bool) (x y:Value) (w:World) (K:Value→World→Prop):Prop:=
  match x,y with
  | .int k a,.int k' b=>cond (kEq k k') (K (.int k (cond isMax (if b>a then b else a) (if b<a then b else a))) w) False
  | .float .f64 a,.float .f64 b=>fmaxD isMax a b w fun x w'=>K (.float .f64 x) w'
  | _,_=>False
def mmD (isMax:Bool) (x:Value):List Value→World→(Value→World→Prop)→Prop
  | [],w,K=>K x w
  | y::ys,w,K=>mm2 isMax x y w fun v w'=>mmD isMax v ys w' K
def builtinD (T:Nat→Option TI) (b:Builtin) (ts:List Nat) (args:List Value) (w:World) (K:Value→World→Prop):Prop:=
  match b,args with
  | .len,[.slice _ n _]=>bindL (nth ts 0) fun t=>bindL (T t) fun ti=>match ti.d with | .slice _=>K (.int .i64 n) w | _=>False
  | .len,[.string s]=>bindL (nth ts 0) fun t=>bindL (T t) fun ti=>match ti.d with | .string=>K (.int .i64 s.size) w | _=>False
  | .len,[.pointer _]=>bindL (nth ts 0) fun t=>bindL (T t) fun ti=>match ti.d with
    | .ptr e=>bindL (T e) fun te=>match te.d with | .array n _=>K (.int .i64 n) w | _=>False
    | _=>False
  | .len,[.agg _]=>bindL (nth ts 0) fun t=>bindL (T t) fun ti=>match ti.d with | .array n _=>K (.int .i64 n) w | _=>False
  | .cap,[.slice _ _ c]=>bindL (nth ts 0) fun t=>bindL (T t) fun ti=>match ti.d with | .slice _=>K (.int .i64 c) w | _=>False
  | .append,[.slice a len cap,.slice b n _]=>bindL (nth ts 0) fun t=>bindL (T t) fun ti=>match ti.d with
    | .slice e=>bindL (nth ts 1) fun t'=>bindL (T t') fun ti'=>match ti'.d with
      | .slice _=>bindL (T e) fun te=>appM e te.size te.bytes (vcells te.zero).toArray a len cap b n w fun a l c w'=>K (.slice a l c) w'
      | _=>False
    | _=>False
  | .copy,[.slice a len _,.slice b n _]=>bindL (nth ts 0) fun t=>bindL (T t) fun ti=>match ti.d with
    | .slice e=>bindL (T e) fun te=>copM te.size a len b n w fun w'=>K (.int .i64 (min n len:Nat)) w'
    | _=>False
  | .max,x::xs=>mmD true x xs w K
  | .min,x::xs=>mmD false x xs w K
  | _,_=>False
def opD (P:Program) (T:Nat→Option TI) (e:Env) (ty:Nat) (o:Op) (w:World) (K:Value→World→Prop):Prop:=
  match o with
  | .move x=>bindV (ev e x) fun v=>K v w
  | .assign x=>bindV (ev e x) fun v=>K v w
  | .pick c a b=>bindV (ev e c) fun vc=>match vc with
    | .bool t=>cond t (bindV (ev e a) fun v=>K v w) (bindV (ev e b) fun v=>K v w)
    | _=>False
  | .alloc t=>bindL (T t) fun ti=>newM (vcells ti.zero).toArray t w fun p w'=>K (.pointer (some p)) w'
  | .box t x=>bindV (ev e x) fun v=>newM (vcells v).toArray t w fun p w'=>K (.pointer (some p)) w'
  | .build t ps=>bindL (T t) fun ti=>match ti.d with
    | .struct fs=>bindL (plsT T fs) fun pl=>bindL (evps e ps.toList) fun vs=>bindL (fillL (nth pl) (vcells ti.zero) vs) fun cs=>K (.agg cs.toArray) w
    | .array _ el=>bindL (sizeT T el) fun s=>bindL (evps e ps.toList) fun vs=>bindL (fillL (fun i=>some (i*s,s)) (vcells ti.zero) vs) fun cs=>K (.agg cs.toArray) w
    | _=>False
  | .buildSlice t n ps=>bindL (T t) fun ti=>match ti.d with
    | .slice el=>bindL (T el) fun te=>bindL (evps e ps.toList) fun vs=>
      cond (Nat.ble (n*te.size) 4096) (cond (Nat.beq (vcells te.zero).length te.size)
        (bindL (fillL (fun i=>some (i*te.size,te.size)) (rep (vcells te.zero) n) vs) fun cs=>newM cs.toArray el w fun p w'=>K (.slice (some p) n n) w') False) False
    | _=>False
  | .load t a=>bindL (T t) fun ti=>bindV (ev e a) fun p=>loadD ti p w fun v=>K v w
  | .store t a x=>bindL (T t) fun ti=>bindV (ev e a) fun p=>bindV (ev e x) fun v=>storeD ti p v w fun w'=>K undef w'
  | .nilCheck x=>bindV (ev e x) fun v=>match v with
    | .pointer p=>optM p fun a=>K (.pointer (some a)) w
    | .func (.func f) a b=>K (.func (.func f) a b) w
    | _=>False
  | .binOp op t x y _=>bindL (T t) fun ti=>bindV (ev e x) fun a=>bindV (ev e y) fun b=>binD ti op a b w K
  | .unOp op _ x=>bindV (ev e x) fun v=>unD op v fun v=>K v w
  | .convert s d x=>bindL (T s) fun ts=>bindL (T d) fun td=>bindV (ev e x) fun v=>convD ts.d td.d v w K
  | .makeFunc fn a b=>bindL (evs e a.toList) fun va=>bindL (evs e b.toList) fun vb=>K (.func fn va.toArray vb.toArray) w
  | .makeSlice t l c=>bindL (T t) fun ti=>match ti.d with
    | .slice el=>bindL (T el) fun te=>bindV (ev e l) fun vl=>bindV (ev e c) fun vc=>match vl,vc with
      | .int .i64 l,.int .i64 c=>mkM el te.size te.bytes (vcells te.zero).toArray l c w fun p w'=>K (.slice (some p) l.toNat c.toNat) w'
      | _,_=>False
    | _=>False
  | .slice t x lo hi mx=>bindL (T t) fun ti=>bindV (ev e x) fun v=>bindL (evo e lo) fun l=>bindL (evo e hi) fun h=>bindL (evo e mx) fun m=>match ti.d,v with
    | .slice el,.slice a len cap=>bindL (sizeT T el) fun s=>sliceD s a len cap l h m fun v=>K v w
    | .array n el,.pointer p=>optM p fun a=>bindL (sizeT T el) fun s=>sliceD s (some a) n n l h m fun v=>K v w
    | _,_=>False
  | .fieldAddr t x i=>bindL (T t) fun ti=>match ti.d with
    | .struct fs=>bindL (nth fs i) fun f=>bindL (sizeT T f.1) fun s=>cond (Nat.beq s 0) False (bindV (ev e x) fun v=>match v with
      | .pointer p=>optM p fun a=>K (.pointer (some (a.add f.2))) w
      | _=>False)
    | _=>False
  | .field t x i=>bindL (T t) fun ti=>match ti.d with
    | .struct fs=>bindL (nth fs i) fun f=>bindL (T f.1) fun tf=>bindV (ev e x) fun v=>match v with
      | .agg cs=>cond tf.d.isAgg (K (.agg ((cs.toList.drop f.2).take tf.size).toArray) w) (bindL (nth cs.toList f.2) fun v=>K v w)
      | _=>False
    | _=>False
  | .indexAddr t x i=>bindL (T t) fun ti=>bindV (ev e x) fun v=>bindV (ev e i) fun vi=>match ti.d,v,vi with
    | .slice el,.slice a len _,.int _ i=>bindL (sizeT T el) fun s=>0≤i∧i<len∧optM a fun a=>K (.pointer (some (a.add (i.toNat*s)))) w
    | .array n el,.pointer p,.int _ i=>bindL (sizeT T el) fun s=>0≤i∧i<n∧optM p fun a=>K (.pointer (some (a.add (i.toNat*s)))) w
    | _,_,_=>False
  | .index t x i=>bindL (T t) fun ti=>bindV (ev e x) fun v=>bindV (ev e i) fun vi=>match ti.d,v,vi with
    | .array n el,.agg cs,.int _ i=>bindL (T el) fun te=>cond te.d.isAgg False (0≤i∧i<n∧∃ v,cs[i.toNat*te.size]?=some v∧K v w)
    | .string,.string s,.int _ i=>0≤i∧∃ b:UInt8,s[i.toNat]?=some b∧K (.int .u8 b.toNat) w
    | _,_,_=>False
  | .extract x i=>bindV (ev e x) fun v=>match v with
    | .tuple vs=>bindL (nth vs.toList i) fun v=>K v w
    | _=>False
  | .call c=>bindL (evs e c.args.toList) fun args=>match c.callee with
    | .builtin b=>builtinD T b c.argTypes.toList args w K
    | .value f=>bindV (ev e f) fun v=>fnM v fun f first cap=>CallsX P f (first.toList++(args++cap.toList)).toArray w fun v w'=>retEx T ty fun u=>v=u∧K u w'
    | _=>False
  | _=>False
def setD (n:Nat) (e:Env) (d:Option Nat) (v:Value) (K:Env→Prop):Prop:=
  match d with
  | none=>K e
  | some d=>cond (Nat.blt d n) (K (upd e d v)) False
def dstOf (ops:List Oper) (j:Nat):Option Nat:=match nth ops j with | some o=>o.dst | none=>none
def operD (P:Program) (T:Nat→Option TI) (n:Nat) (ops:List Oper) (o:Oper) (e:Env) (w:World) (K:Env→World→Prop):Prop:=
  match o.guard with
  | none=>opD P T e o.type o.op w fun v w'=>setD n e o.dst v fun e'=>K e' w'
  | some (j,want)=>bindL (dstOf ops j) fun t=>match e t with
    | some (.bool b)=>cond (cond want b (!b))
        (opD P T (upd e t (.bool want)) o.type o.op w fun v w'=>setD n (upd e t (.bool want)) o.dst v fun e'=>K e' w')
        (setD n (upd e t (.bool !want)) o.dst undef fun e'=>K e' w)
    | some _=>setD n e o.dst undef fun e'=>K e' w
    | none=>False
def opsD (P:Program) (T:Nat→Option TI) (n:Nat) (all:List Oper):List Oper→Env→World→(Env→World→Prop)→Prop
  | [],e,w,K=>K e w
  | o::os,e,w,K=>operD P T n all o e w fun e' w'=>opsD P T n all os e' w' K
def Ce.T:Ce→Type
  | .int _=>Int
  | .bool=>Bool
  | .f64=>Nat
  | .str=>ByteArray
  | .slice=>Option Addr×Nat×Nat
  | .ptr=>Option Addr
  | .raw=>Value
def Ce.v:(c:Ce)→c.T→Value
  | .int k,n => .int k n
  | .bool,b => .bool b
  | .f64,x => .float .f64 x
  | .str,s => .string s
  | .slice,s => .slice s.1 s.2.1 s.2.2
  | .ptr,p => .pointer p
  | .raw,v=>v
def Ce.get:(c:Ce)→Value→Option c.T
  | .int k,.int k' n=>cond (kEq k k') (some n) none
  | .bool,.bool b=>some b
  | .f64,.float .f64 x=>some x
  | .str,.string s=>some s
  | .slice,.slice a l c=>some (a,l,c)
  | .ptr,.pointer p=>some p
  | .raw,v=>some v
  | _,_=>none
def CsT:List Ce→Type
  | []=>Unit
  | c::cs=>c.T×CsT cs
def csV:(cs:List Ce)→CsT cs→List Value
  | [],_=>[]
  | c::cs,s=>c.v s.1::csV cs s.2
def csGet:(cs:List Ce)→List Value→Option (CsT cs)
  | [],[]=>some ()
  | c::cs,v::vs=>match c.get v with
    | some x=>match csGet cs vs with
      | some r=>some (x,r)
      | none=>none
    | none=>none
  | _,_=>none
inductive Sh where
  | one (k:Ce)
  | agg (cs:List Ce)
def Sh.T:Sh→Type
  | .one k=>k.T
  | .agg cs=>CsT cs
def Sh.v:(s:Sh)→s.T→Value
  | .one k,x=>k.v x
  | .agg cs,x => .agg (csV cs x).toArray
def aggOf:Value→Option (List Value)
  | .agg vs=>some vs.toList
  | _=>none
def Sh.get:(s:Sh)→Value→Option s.T
  | .one k,v=>k.get v
  | .agg cs,v=>match aggOf v with
    | some vs=>csGet cs vs
    | none=>none
def Tup:List (Nat×Sh)→Type
  | []=>Unit
  | p::W=>p.2.T×Tup W
def tupGet:(W:List (Nat×Sh))→Env→Option (Tup W)
  | [],_=>some ()
  | p::W,e=>match e p.1 with
    | some v=>match p.2.get v with
      | some x=>match tupGet W e with
        | some r=>some (x,r)
        | none=>none
      | none=>none
    | none=>none
def tupAt:(W:List (Nat×Sh))→Tup W→Nat→Option Value
  | [],_,_=>none
  | p::W,s,t=>cond (Nat.beq t p.1) (some (p.2.v s.1)) (tupAt W s.2 t)
def inD:List (Nat×Nat)→Nat→Bool
  | [],_=>false
  | p::D,t=>cond (cond (Nat.ble p.1 t) (Nat.ble t p.2) false) true (inD D t)
def canon (W:List (Nat×Sh)) (D:List (Nat×Nat)) (e:Env) (s:Tup W):Env:=fun t=>
  match tupAt W s t with
  | some v=>some v
  | none=>cond (inD D t) none (e t)
def cutM {σ:Type} (f:(σ→World→Prop)→Prop) (J:σ→World→Prop):Prop:=f J
def loopM {σ:Type} (body:σ→(σ→World→Prop)→World→Prop) (s:σ) (w:World):Prop:=
  ∀ X:σ→World→Prop,(∀ s w,body s X w→X s w)→X s w
abbrev Mark:=List (Nat×Sh)×List (Nat×Nat)
def dstsIn (D:List (Nat×Nat)):List Oper→Bool
  | []=>true
  | o::os=>cond (match o.dst with | some d=>inD D d | none=>true) (dstsIn D os) false
def codeIn (D:List (Nat×Nat)):Code→Bool
  | .region _ ops _=>dstsIn D ops.toList
  | .seq a b=>cond (codeIn D a) (codeIn D b) false
  | .cond _ a b=>cond (codeIn D a) (codeIn D b) false
  | .block _ c=>codeIn D c
  | .loop c=>codeIn D c
  | .rangeFunc _ _ _ _=>false
  | .scope c=>codeIn D c
  | _=>true
def cutD (m:Option Mark) (c:Code) (e:Env) (f:(Env→World→Prop)→Prop) (Kn:Env→World→Prop):Prop:=
  match m with
  | none=>f Kn
  | some (W,D)=>cond (codeIn D c) (cutM (fun J:Tup W→World→Prop=>f fun e' w'=>bindL (tupGet W e') fun s=>J s w') (fun s w'=>Kn (canon W D e s) w')) False
def quietB (ts:Builtin):Bool:=match ts with | .len | .cap | .min | .max=>true | _=>false
def quiet (o:Op):Bool:=
  match o with
  | .move _ | .assign _ | .pick _ _ _ | .build _ _ | .load _ _ | .nilCheck _ | .binOp _ _ _ _ _ | .unOp _ _ _ | .convert _ _ _ | .makeFunc _ _ _
  | .slice _ _ _ _ _ | .fieldAddr _ _ _ | .field _ _ _ | .indexAddr _ _ _ | .index _ _ _ | .extract _ _=>true
  | .call c=>match c.callee with | .builtin b=>quietB b | _=>false
  | _=>false
def draws (T:Nat→Option TI) (o:Op):Bool:=
  match o with
  | .binOp op t _ _ _=>match T t with
    | some ti=>match ti.d with
      | .float _=>match op with | .add | .sub | .mul | .quo=>true | _=>false
      | .int _ | .bool | .string | .ptr _ | .slice _=>false
      | _=>true
    | none=>true
  | .convert s d _=>match T s,T d with
    | some ts,some td=>match ts.d,td.d with | .int _,.int _=>false | .int _,.float _=>false | .float _,.float _=>false | _,_=>true
    | _,_=>true
  | .call c=>match c.callee with | .builtin b=>(match b with | .max | .min=>true | _=>false) | _=>true
  | _=>false
inductive Ord where
  | done
  | q (k:Nat) (r:Ord)
  | e (k:Nat) (r:Ord)
  | alt (a b:Ord)
abbrev Fact:=Nat×Addr×Value
def factsFrom (k:Nat) (a:Addr):Nat→List Value→List Fact
  | _,[]=>[]
  | i,v::vs=>(k,a.add i,v)::factsFrom k a (i+1) vs
def loadF (k:Nat) (ti:TI) (p:Value) (w:World) (K:Value→List Fact→Prop):Prop:=
  match p with
  | .pointer o=>optM o fun a=>cond ti.d.isAgg (ldCs (ces (vcells ti.zero)) a 0 w fun vs=>K (.agg vs.toArray) (factsFrom k a 0 vs)) (ldC (Ce.of ti.zero) w a fun v=>K v [(k,a,v)])
  | _=>False
def quietD (P:Program) (T:Nat→Option TI) (e:Env) (k ty:Nat) (o:Op) (w:World) (K:Value→List Fact→Prop):Prop:=
  match o with
  | .load t a=>bindL (T t) fun ti=>bindV (ev e a) fun p=>loadF k ti p w K
  | o=>opD P T e ty o w fun v _=>K v []
def operQ (P:Program) (T:Nat→Option TI) (n:Nat) (ops:List Oper) (k:Nat) (o:Oper) (e:Env) (w:World) (K:Env→List Fact→Prop):Prop:=
  match o.guard with
  | none=>quietD P T e k o.type o.op w fun v f=>setD n e o.dst v fun e'=>K e' f
  | some (j,want)=>bindL (dstOf ops j) fun t=>match e t with
    | some (.bool b)=>cond (cond want b (!b))
        (quietD P T (upd e t (.bool want)) k o.type o.op w fun v f=>setD n (upd e t (.bool want)) o.dst v fun e'=>K e' f)
        (setD n (upd e t (.bool !want)) o.dst undef fun e'=>K e' [])
    | some _=>setD n e o.dst undef fun e'=>K e' []
    | none=>False
def waits (o:Oper) (i:Nat):Bool:=o.after.toList.any fun e=>cond (Region.binds .any e) (Nat.beq e.on i) false
def waitsFar (ops:Array Oper) (k:Nat):Nat→Oper→Bool
  | 0,o=>waits o k
  | f+1,o=>waits o k||o.after.toList.any fun e=>cond (Region.binds .any e) (match ops[e.on]? with | some p=>waitsFar ops k f p | none=>false) false
def dropF (ops:Array Oper) (o:Oper):List Fact→List Fact
  | []=>[]
  | f::H=>cond (waitsFar ops f.1 4 o) (dropF ops o H) (f::dropF ops o H)
def dropE (ops:Array Oper) (o:Oper) (H:List Fact):List Fact:=cond (quiet o.op) H (dropF ops o H)
def heldK:List Fact→World→Prop→Prop
  | [],_,K=>K
  | f::H,w,K=>w.cell? f.2.1=some f.2.2∧heldK H w K
def opsO (P:Program) (T:Nat→Option TI) (n:Nat) (ops:List Oper):Ord→List Fact→Env→World→(Env→World→Prop)→Prop
  | .done,_,e,w,K=>drM w fun w'=>K e w'
  | .q k r,H,e,w,K=>bindL (nth ops k) fun o=>operQ P T n ops k o e w fun e' f=>opsO P T n ops r (f++H) e' w K
  | .e k r,H,e,w,K=>bindL (nth ops k) fun o=>drM w fun w0=>operD P T n ops o e w0 fun e' w'=>heldK (dropE ops.toArray o H) w' (opsO P T n ops r (dropE ops.toArray o H) e' w' K)
  | .alt a b,H,e,w,K=>opsO P T n ops a H e w K∧opsO P T n ops b H e w K
def heads:Ord→List Nat
  | .done=>[]
  | .q _ _=>[]
  | .e k _=>[k]
  | .alt a b=>heads a++heads b
def onlyQuiet (ops:Array Oper) (listed:Array Bool) (k:Nat):Bool:=
  (List.range ops.size).all fun j=>listed.getD j true||(match ops[j]? with | some o=>quiet o.op||waitsFar ops k 4 o | none=>true)
def ordOk (T:Nat→Option TI) (ops:Array Oper):Ord→Bool→Nat→Array Bool→Bool
  | .done,chk,f,listed=>chk&&Nat.beq f 0&&(Region.ready .any ops listed).isEmpty
  | .q k r,chk,f,listed=>match f with
    | 0=>false
    | f+1=>chk&&(Region.ready .any ops listed).contains k&&Region.free .any ops listed k &&
      (match ops[k]? with | some o=>quiet o.op&&(!draws T o.op||onlyQuiet ops listed k) | none=>false)&&ordOk T ops r true f (listed.setIfInBounds k true)
  | .e k r,chk,f,listed=>match f with
    | 0=>false
    | f+1=>(!chk||(!(Region.ready .any ops listed).isEmpty&&(Region.ready .any ops listed).all fun j=>[k].contains j))&&(match ops[k]? with | some o => !quiet o.op||draws T o.op | none=>false)&&ordOk T ops r true f (listed.setIfInBounds k true)
  | .alt a b,chk,f,listed=>(!chk||(!(Region.ready .any ops listed).isEmpty&&(Region.ready .any ops listed).all fun j=>(heads (.alt a b)).contains j))&&ordOk T ops a false f listed&&ordOk T ops b false f listed
def regionD (P:Program) (T:Nat→Option TI) (n:Nat) (ops:List Oper) (draw:Bool) (ord:Option Ord) (e:Env) (w:World) (K:Env→World→Prop):Prop:=
  match draw,ord with
  | false,_=>opsD P T n ops ops e w K
  | true,some o=>cond (cond (Region.noSelect ops.toArray) (ordOk T ops.toArray o true ops.length (Array.replicate ops.length false)) false) (opsO P T n ops o [] e w K) False
  | true,none=>False
structure An where
  loops:List (Nat×Mark)
  blocks:List (Nat×Mark)
  regions:List (Nat×Mark)
  conds:List (Nat×Mark)
  ords:List (Nat×Ord)
def updO (e:Env) (c:Operand) (b:Bool):Env:=match c with | .tmp t=>upd e t (.bool b) | _=>e
def keyO (c:Operand):Nat:=match c with | .tmp t=>t | _=>0
def codeD (P:Program) (T:Nat→Option TI) (n:Nat) (an:An) :
    Code→Nat→Env→(Env→World→Prop)→(Nat→Env→World→Prop)→(Env→World→Prop)→World→Prop
  | .skip,_,e,Kn,_,_,w=>Kn e w
  | .region id ops draw,_,e,Kn,_,_,w=>cutD (look an.regions id) (.region id ops draw) e (fun K=>regionD P T n ops.toList draw (look an.ords id) e w K) Kn
  | .seq a b,cur,e,Kn,Kx,Kr,w=>codeD P T n an a cur e (fun e' w'=>codeD P T n an b cur e' Kn Kx Kr w') Kx Kr w
  | .cond c a b,cur,e,Kn,Kx,Kr,w=>cutD (look an.conds (keyO c)) (.cond c a b) e (fun K=>bindV (ev e c) fun v=>match v with
    | .bool t=>cond t (codeD P T n an a cur (updO e c true) K Kx Kr w) (codeD P T n an b cur (updO e c false) K Kx Kr w)
    | _=>False) Kn
  | .block id c,_,e,Kn,Kx,Kr,w=>cutD (look an.blocks id) (.block id c) e (fun K=>codeD P T n an c id e K (fun j e' w'=>cond (Nat.beq j id) (K e' w') (Kx j e' w')) Kr w) Kn
  | .loop c,cur,e,_,Kx,Kr,w=>match look an.loops cur with
    | some (W,D)=>cond (codeIn D c) (bindL (tupGet W e) fun s0=>loopM (fun (s:Tup W) X w=>codeD P T n an c cur (canon W D e s) (fun e' w'=>bindL (tupGet W e') fun s'=>X s' w') Kx Kr w) s0 w) False
    | none=>False
  | .scope c,cur,e,Kn,Kx,Kr,w=>codeD P T n an c cur e Kn Kx Kr w
  | .label _,_,e,Kn,_,_,w=>Kn e w
  | .exit id,_,e,_,Kx,_,w=>Kx id e w
  | .ret,_,e,_,_,Kr,w=>Kr e w
  | _,_,_,_,_,_,_=>False
def resD (T:Nat→Option TI):List ResultVar→Env→World→(List Value→Prop)→Prop
  | [],_,_,K=>K []
  | .tmp t::rs,e,w,K=>bindL (e t) fun v=>resD T rs e w fun vs=>K (v::vs)
  | .cell a t::rs,e,w,K=>bindL (e a) fun p=>bindL (T t) fun ti=>loadD ti p w fun v=>resD T rs e w fun vs=>K (v::vs)
def oneOf (vs:List Value):Value:=match vs with | [v]=>v | vs => .tuple vs.toArray
def envOf (args:List Value):Env:=fun t=>match nth args t with | some v=>some v | none=>some undef
def funD (P:Program) (T:Nat→Option TI) (fn:Func) (an:An) (args:List Value) (w:World) (K:Value→World→Prop):Prop:=
  match fn.body with
  | some c=>cond (Nat.ble args.length fn.ntmps)
      (codeD P T fn.ntmps an c 0 (envOf args) (fun e w=>resD T fn.results.toList e w fun vs=>K (oneOf vs) w) (fun _ _ _=>False)
        (fun e w=>resD T fn.results.toList e w fun vs=>K (oneOf vs) w) w) False
  | none=>False
end Go.Eng
