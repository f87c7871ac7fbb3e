/-
  Long division by words: what is guessed of a quotient's word. No condition.
-/
import Derived.Test.YtlnelldekejadaaBw3
import Derived.Test.YtlnelldekejadaaBgW
set_option linter.all false
set_option maxRecDepth 100000
set_option maxHeartbeats 4000000
namespace Go.Eng
open Go
structure Rd (P top next vr V h u2 ur u q:Nat):Prop where
  pos:0<P
  hV:V=(top*4294967296+next)*P+vr
  vr:vr<P
  t0:2147483648≤top
  t1:top<4294967296
  n1:next<4294967296
  hu:u=(h*4294967296+u2)*P+ur
  ur:ur<P
  u2:u2<4294967296
  lt:u<V*4294967296
  q0:q*V≤u
  q1:u<(q+1)*V
section
variable {P top next vr V h u2 ur u q:Nat}
theorem Rd.expand (R:Rd P top next vr V h u2 ur u q) (g:Nat):g*V=g*top*P*4294967296+g*next*P+g*vr:=by
  rw [R.hV,Nat.mul_add,← Nat.mul_assoc,Nat.mul_add,Nat.add_mul]
  have:g*(top*4294967296)*P=g*top*P*4294967296:=by rw [← Nat.mul_assoc,Nat.mul_right_comm]
  rw [this]
theorem Rd.uexp (R:Rd P top next vr V h u2 ur u q):u=h*P*4294967296+u2*P+ur:=by
  rw [R.hu,Nat.add_mul,Nat.mul_right_comm]
theorem Rd.u2P (R:Rd P top next vr V h u2 ur u q):u2*P≤4294967295*P:=Nat.mul_le_mul_right _ (by have:=R.u2;omega)
theorem Rd.below (R:Rd P top next vr V h u2 ur u q):q*top≤h:=by
  have e:=R.expand q
  have e2:=R.uexp
  have e3:=R.u2P
  have e4:=R.q0
  have e5:=R.ur
  generalize q*next*P=a at *
  generalize q*vr=b at *
  have:q*top*P<(h+1)*P:=by
    rw [Nat.add_mul]
    generalize q*top*P=x at *
    generalize h*P=y at *
    generalize u2*P=z at *
    omega
  exact Nat.le_of_lt_succ (Nat.lt_of_mul_lt_mul_right this)
theorem Rd.qlt (R:Rd P top next vr V h u2 ur u q):q≤4294967295:=by
  have h1:=Nat.lt_of_le_of_lt R.q0 R.lt
  rw [Nat.mul_comm] at h1
  have:=Nat.lt_of_mul_lt_mul_left h1
  omega
theorem Rd.hle (R:Rd P top next vr V h u2 ur u q):h≤top*4294967296+4294967295:=by
  have e:=R.expand 1
  have e2:=R.uexp
  have e5:=R.lt
  have e6:=R.vr
  have e7:next*P≤4294967295*P:=Nat.mul_le_mul_right _ (by have:=R.n1;omega)
  rw [Nat.one_mul,Nat.one_mul,Nat.one_mul,Nat.one_mul] at e
  have:h*P<(top*4294967296+4294967296)*P:=by
    rw [Nat.add_mul,Nat.mul_right_comm]
    generalize next*P=a at *
    generalize top*P=x at *
    generalize h*P=y at *
    generalize u2*P=z at *
    omega
  have:=Nat.lt_of_mul_lt_mul_right this
  omega
theorem Rd.less (R:Rd P top next vr V h u2 ur u q) {g r:Nat} (hg:g*top+r=h) (hn:r*4294967296+u2<g*next) (hq:q≤g):q<g:=by
  rcases Nat.lt_or_ge q g with h1 | h1
  · exact h1
  · exfalso
    obtain rfl:q=g:=by omega
    have e:=R.expand q
    have e2:=R.uexp
    have e4:=R.q0
    have e5:=R.ur
    generalize q*vr=b at *
    have e6:(r*4294967296+u2+1)*P≤q*next*P:=Nat.mul_le_mul_right _ (by omega)
    have e7:h*P=q*top*P+r*P:=by rw [← hg,Nat.add_mul]
    rw [Nat.add_mul,Nat.add_mul,Nat.mul_right_comm,Nat.one_mul] at e6
    generalize q*next*P=a at *
    generalize q*top*P=x at *
    generalize h*P=y at *
    generalize u2*P=z at *
    generalize r*P=t at *
    omega
theorem Rd.near (R:Rd P top next vr V h u2 ur u q) {g r:Nat} (hg:g*top+r=h) (hn:g*next≤r*4294967296+u2) (hb:g≤4294967295):g≤q+1:=by
  rcases Nat.lt_or_ge (q+1) g with h1 | h1
  · exfalso
    have e:=R.expand g
    have e2:=R.uexp
    have e3:=R.q1
    have e4:(q+1)*V+V≤g*V:=by
      have:(q+2)*V≤g*V:=Nat.mul_le_mul_right _ (by omega)
      rw [show q+2=(q+1)+1 by omega,Nat.add_mul (q+1),Nat.one_mul] at this
      exact this
    have e6:g*next*P≤(r*4294967296+u2)*P:=Nat.mul_le_mul_right _ hn
    rw [Nat.add_mul,Nat.mul_right_comm r] at e6
    have e7:h*P=g*top*P+r*P:=by rw [← hg,Nat.add_mul]
    have e8:g*vr≤4294967295*P:=Nat.mul_le_mul hb (by have:=R.vr;omega)
    have e9:=R.expand 1
    rw [Nat.one_mul,Nat.one_mul,Nat.one_mul,Nat.one_mul] at e9
    have e10:1*P≤top*P:=Nat.mul_le_mul_right _ (by have:=R.t0;omega)
    have e11:=R.pos
    generalize (q+1)*V=qv at *
    generalize g*V=gv at *
    generalize g*vr=b at *
    generalize g*next*P=a at *
    generalize g*top*P=x at *
    generalize h*P=y at *
    generalize u2*P=z at *
    generalize r*P=t at *
    generalize top*P=tp at *
    generalize next*P=np at *
    omega
  · exact h1
theorem guess_t (R:Rd P top next vr V h u2 ur u q) {l:List Int} {i n:Int} {k:Nat} (hk:IntKind.i64.wrap (IntKind.i64.wrap (i+n)-2)=(k:Int)) (hl:atI l (k:Int)=some (u2:Int)) :
    ∃ g:Nat,iter (T_bn_div_b19 l i n (next:Int) (top:Int)) FU (((h/top:Nat):Int),((h%top:Nat):Int))=some (g:Int)∧q≤g∧g≤q+1∧g≤4294967295:=by
  have t0:=R.t0
  have t1:=R.t1
  have n1:=R.n1
  have u21:=R.u2
  have hle:=R.hle
  have hql:=R.qlt
  obtain ⟨o,h1,g,h2,h3⟩:=iter_ends (b:=T_bn_div_b19 l i n (next:Int) (top:Int)) (fun s=>∃ g r:Nat,s=((g:Int),(r:Int))∧g*top+r=h∧r<4294967296∧q≤g∧g≤4294967298) (fun s=>4294967296-s.2.toNat)
    (fun o=>∃ g:Nat,o=(g:Int)∧q≤g∧g≤q+1∧g≤4294967295) (fun s=>by
    rintro ⟨g,r,rfl,hg,hr,hq,hb⟩
    -- what one step down does
    have down:q<g→∃ g' r':Nat,g'=g-1∧r'=r+top∧g'*top+r'=h∧q≤g'∧IntKind.u64.wrap ((g:Int)-1)=(g':Int)∧IntKind.u64.wrap ((r:Int)+IntKind.u64.wrap (top:Int))=(r':Int)∧r<r':=by
      intro h1
      refine ⟨g-1,r+top,rfl,rfl,?_,by omega,?_,?_,by omega⟩
      · obtain ⟨g',rfl⟩:∃ g',g=g'+1:=⟨g-1,by omega⟩
        rw [Nat.add_mul,Nat.one_mul] at hg
        rw [Nat.add_sub_cancel]
        omega
      · rw [show (g:Int)-1=((g-1:Nat):Int) by omega,w64n (by omega)]
      · rw [w64n (n:=top) (by omega),← Int.natCast_add,w64n (by omega)]
    have fin:∀ g' r':Nat,g'*top+r'=h→q≤g'→4294967296≤r'→g'≤4294967295∧g'≤q+1:=by
      intro g' r' e1 e2 e3
      have hg':g'≤4294967295:=by
        rcases Nat.lt_or_ge 4294967295 g' with h5 | h5
        · have h6:4294967296*top≤g'*top:=Nat.mul_le_mul_right _ h5
          generalize g'*top=x at *
          omega
        · exact h5
      refine ⟨hg',R.near e1 ?_ hg'⟩
      have h6:g'*next≤4294967295*4294967295:=Nat.mul_le_mul hg' (by omega)
      generalize g'*next=x at *
      omega
    have step:q<g→((∃ s',(cond (decide ((IntKind.u64.wrap ((r:Int)+(IntKind.u64.wrap (top:Int))))>4294967295))
            (some (Sum.inr (α:=Int×Int) (IntKind.u64.wrap ((g:Int)-1))))
            (some (.inl ((IntKind.u64.wrap ((g:Int)-1)),(IntKind.u64.wrap ((r:Int)+(IntKind.u64.wrap (top:Int))))))))=some (.inl s')∧(∃ g r:Nat,s'=((g:Int),(r:Int))∧g*top+r=h∧r<4294967296∧q≤g∧g≤4294967298)∧4294967296-s'.2.toNat<4294967296-((r:Int)).toNat) ∨
        (∃ o,(cond (decide ((IntKind.u64.wrap ((r:Int)+(IntKind.u64.wrap (top:Int))))>4294967295))
            (some (Sum.inr (α:=Int×Int) (IntKind.u64.wrap ((g:Int)-1))))
            (some (.inl ((IntKind.u64.wrap ((g:Int)-1)),(IntKind.u64.wrap ((r:Int)+(IntKind.u64.wrap (top:Int))))))))=some (.inr o)∧∃ g:Nat,o=(g:Int)∧q≤g∧g≤q+1∧g≤4294967295)):=by
      intro h1
      obtain ⟨g',r',e0,e00,e1,e2,e3,e4,e5⟩:=down h1
      rw [e3,e4]
      by_cases hc:4294967295<r'
      · right
        rw [cond_t (by simp;omega)]
        obtain ⟨f1,f2⟩:=fin g' r' e1 e2 (by omega)
        exact ⟨_,rfl,g',rfl,e2,f2,f1⟩
      · left
        rw [cond_f (by simp;omega)]
        refine ⟨_,rfl,⟨g',r',rfl,e1,by omega,e2,by omega⟩,?_⟩
        simp only [Int.toNat_natCast]
        omega
    unfold T_bn_div_b19
    dsimp only
    by_cases hc:4294967295<g
    · rw [cond_f (by simp;omega)]
      exact step (by omega)
    · rw [cond_t (by simp;omega),hk,hl,Option.bind_some]
      have hp:g*next≤4294967295*4294967295:=Nat.mul_le_mul (by omega) (by omega)
      have e1:IntKind.u64.wrap ((g:Int)*IntKind.u64.wrap (next:Int))=((g*next:Nat):Int):=by
        rw [w64n (n:=next) (by omega),← Int.natCast_mul,w64n (by omega)]
      have e2:IntKind.u64.wrap ((BitVec.ofInt IntKind.u64.bits (IntKind.u64.wrap ((r:Int)*2^(min (32:Int).toNat IntKind.u64.bits))) ||| BitVec.ofInt IntKind.u64.bits (IntKind.u64.wrap (u2:Int))).toNat:Int)=((r*4294967296+u2:Nat):Int):=by
        have e3:(r:Int)*2^(min (32:Int).toNat IntKind.u64.bits)=((r*4294967296:Nat):Int):=by rw [sh32];simp
        rw [e3,w64n (n:=r*4294967296) (by omega),w64n (n:=u2) (by omega),or64 (by omega) (by omega),Nat.or_comm]
        have:=or_apart (a:=u2) (b:=r) (s:=32) (by omega)
        rw [show (4294967296:Nat)=2^32 from rfl,this,w64n (by omega),Nat.add_comm]
      rw [e1,e2]
      by_cases hc2:r*4294967296+u2<g*next
      · rw [cond_t (by simp;omega)]
        exact step (R.less hg hc2 hq)
      · rw [cond_f (by simp;omega)]
        right
        exact ⟨_,rfl,g,rfl,hq,R.near hg (by omega) (by omega),by omega⟩) FU (((h/top:Nat):Int),((h%top:Nat):Int)) (by
    have hm:=Nat.mod_lt h (show top>0 by omega)
    have hd:=Nat.div_add_mod h top
    rw [Nat.mul_comm] at hd
    refine ⟨h/top,h%top,rfl,hd,by omega,?_,?_⟩
    · exact (Nat.le_div_iff_mul_le (by omega)).2 R.below
    · have:h/top<4294967298:=(Nat.div_lt_iff_lt_mul (by omega)).2 (by omega)
      omega) (by rw [FU_eq];simp only [Int.toNat_natCast];omega)
  subst h2
  exact ⟨g,h1,h3⟩
end
end Go.Eng
/-
  Long division by words: what is taken away, what is given back, one round. No condition.
-/
set_option maxRecDepth 100000
set_option maxHeartbeats 4000000
namespace Go.Eng
open Go
theorem div_pow32 (U a b:Nat):U/4294967296^a/4294967296^b=U/4294967296^(a+b):=by
  rw [Nat.div_div_eq_div_mul,Nat.pow_add]
theorem div_succ32 (U a:Nat):U/4294967296^(a+1)=U/4294967296^a/4294967296:=by
  rw [Nat.div_div_eq_div_mul,Nat.pow_succ]
theorem set_val {l:List Int} (h:Wd l) {k y:Nat} (hk:k<l.length) (hy:y<4294967296):wv (l.set k (y:Int))+dg (wv l) k*4294967296^k=wv l+y*4294967296^k∧wv (l.set k (y:Int))/4294967296^(k+1)=wv l/4294967296^(k+1):=by
  have e:=wv_set (l:=l) (y:Int) hk
  have e2:(l.getD k 0).toNat=dg (wv l) k:=by rw [← wv_dg h k];exact Int.toNat_natCast _
  rw [e2,Int.toNat_natCast] at e
  refine ⟨e,?_⟩
  have hp:=pow_pos32 k
  have e3:=Nat.div_add_mod (wv l) (4294967296^k)
  have e4:=Nat.mod_lt (wv l) hp
  have e5:=Nat.div_add_mod (wv l/4294967296^k) 4294967296
  have e6:wv l/4294967296^k%4294967296=dg (wv l) k:=rfl
  rw [div_succ32,div_succ32]
  have e7:wv (l.set k (y:Int))/4294967296^k=wv l/4294967296^k/4294967296*4294967296+y:=by
    generalize wv l/4294967296^k/4294967296=hi at *
    generalize wv l%4294967296^k=lo at *
    generalize dg (wv l) k=x at *
    generalize wv (l.set k (y:Int))=a at *
    generalize wv l/4294967296^k=z at *
    generalize wv l=b at *
    generalize 4294967296^k=p at *
    have e8:z=hi*4294967296+x:=by omega
    subst e8
    have e9:p*(hi*4294967296+x)=hi*4294967296*p+x*p:=by rw [Nat.mul_comm,Nat.add_mul]
    rw [e9] at e3
    refine Nat.div_eq_of_lt_le ?_ ?_
    · rw [Nat.add_mul]
      omega
    · rw [Nat.add_mul,Nat.add_mul,Nat.one_mul]
      omega
  rw [e7]
  omega
theorem sub_w64 {x a d:Nat} (hx:x<4294967296) (ha:a<4294967296) (hd:d≤1) :
    ∃ y e:Nat,IntKind.u32.wrap (IntKind.u64.wrap (IntKind.u64.wrap ((x:Int)-(a:Int))-(d:Int)))=(y:Int)∧(IntKind.u64.wrap (IntKind.u64.wrap ((x:Int)-(a:Int))-(d:Int))).fdiv (2^(min (63:Int).toNat IntKind.u64.bits))=(e:Int)∧y+a+d=x+e*4294967296∧y<4294967296∧e≤1:=by
  have key:IntKind.u64.wrap (IntKind.u64.wrap ((x:Int)-(a:Int))-(d:Int))=(((18446744073709551616+x-a-d)%18446744073709551616:Nat):Int):=by
    rw [w64,w64];omega
  rw [key,w32n,sh63,fdn]
  by_cases h:a+d≤x
  · have e1:(18446744073709551616+x-a-d)%18446744073709551616=x-a-d:=by omega
    rw [e1]
    refine ⟨_,_,rfl,rfl,?_,by omega,?_⟩
    · have:(x-a-d)/2^63=0:=Nat.div_eq_of_lt (by omega)
      rw [this];omega
    · have:(x-a-d)/2^63=0:=Nat.div_eq_of_lt (by omega)
      rw [this];omega
  · have e1:(18446744073709551616+x-a-d)%18446744073709551616=18446744073709551616+x-a-d:=by omega
    rw [e1]
    have:(18446744073709551616+x-a-d)/2^63=1:=by omega
    refine ⟨_,_,rfl,rfl,?_,by omega,?_⟩
    · rw [this];omega
    · rw [this];omega
theorem or64_mk {h u:Nat} (hh:h<4294967296) (hu:u<4294967296):IntKind.u64.wrap ((BitVec.ofInt IntKind.u64.bits (IntKind.u64.wrap ((IntKind.u64.wrap (h:Int))*2^(min (32:Int).toNat IntKind.u64.bits))) ||| BitVec.ofInt IntKind.u64.bits (IntKind.u64.wrap (u:Int))).toNat:Int)=((h*4294967296+u:Nat):Int):=by
  rw [w64n (n:=h) (by omega)]
  have e3:(h:Int)*2^(min (32:Int).toNat IntKind.u64.bits)=((h*4294967296:Nat):Int):=by rw [sh32];simp
  rw [e3,w64n (n:=h*4294967296) (by omega),w64n (n:=u) (by omega),or64 (by omega) (by omega),Nat.or_comm]
  have:=or_apart (a:=u) (b:=h) (s:=32) (by omega)
  rw [show (4294967296:Nat)=2^32 from rfl,this,w64n (by omega),Nat.add_comm]
theorem take_loop {v u:List Int} {j g n:Nat} (hv:Wd v) (hn:v.length=n) (hu:Wd u) (hg:g≤4294967295) (hj:j+n<u.length) (hb:u.length≤8589934592) :
    ∃ (c d:Nat) (u1:List Int),iter (T_bn_div_b21 (n:Int) v (j:Int) (g:Int)) FU (0,0,0,u)=some ((c:Int),(d:Int),u1)∧c<4294967296∧d≤1∧Wd u1∧u1.length=u.length ∧
      wv u1+g*wv v*4294967296^j=wv u+(c+d)*4294967296^(n+j)∧wv u1/4294967296^(n+j)=wv u/4294967296^(n+j):=by
  obtain ⟨o,ho,c,d,u1,rfl,h1,h2,h3,h4,h5,h6⟩:=iter_inv (b:=T_bn_div_b21 (n:Int) v (j:Int) (g:Int)) (fun i s=>∃ (c d:Nat) (u1:List Int),s=((c:Int),(d:Int),(i:Int),u1)∧c<4294967296∧d≤1∧Wd u1∧u1.length=u.length ∧
      wv u1+g*(wv v%4294967296^i)*4294967296^j=wv u+(c+d)*4294967296^(i+j)∧wv u1/4294967296^(i+j)=wv u/4294967296^(i+j)) n
      (fun o=>∃ (c d:Nat) (u1:List Int),o=((c:Int),(d:Int),u1)∧c<4294967296∧d≤1∧Wd u1∧u1.length=u.length ∧
      wv u1+g*wv v*4294967296^j=wv u+(c+d)*4294967296^(n+j)∧wv u1/4294967296^(n+j)=wv u/4294967296^(n+j)) (by rw [FU_eq];omega) (fun i s hi=>by
    rintro ⟨c,d,u1,rfl,h1,h2,h3,h4,h5,h6⟩
    unfold T_bn_div_b21
    simp only [Option.bind_some]
    have hvi:=dg_lt (wv v) i
    have hk:i+j<u1.length:=by omega
    have hx:=dg_lt (wv u1) (i+j)
    have hp:g*dg (wv v) i≤4294967295*4294967295:=Nat.mul_le_mul hg (by omega)
    rw [cond_t (by simp;omega),at_dg hv (by omega),Option.bind_some,wrAdd (by omega),at_dg h3 hk]
    simp only [Option.bind_some,Int.toNat_natCast]
    generalize hxe:dg (wv u1) (i+j)=x at *
    generalize hve:dg (wv v) i=vi at *
    rw [w64n (n:=vi) (by omega),← Int.natCast_mul,w64n (n:=g*vi) (by omega),← Int.natCast_add,w64n (n:=c+g*vi) (by omega),w32n,w64n (n:=x) (by omega),w64n (n:=(c+g*vi)%4294967296) (by omega)]
    obtain ⟨y,e,hy,he,hye,hyl,hel⟩:=sub_w64 (x:=x) (a:=(c+g*vi)%4294967296) (d:=d) hx (Nat.mod_lt _ (by omega)) h2
    rw [hy,he,sh32,fdn,wrU (by omega)]
    obtain ⟨s1,s2⟩:=set_val h3 hk hyl
    rw [hxe] at s1
    refine ⟨_,rfl,(c+g*vi)/2^32,e,_,rfl,by omega,hel,wd_set h3 (by omega) (by omega),by rw [List.length_set];exact h4,?_,?_⟩
    · rw [show (2:Nat)^32=4294967296 from rfl,show i+1+j=i+j+1 by omega,mod_succ32,hve]
      have hdm:=Nat.div_add_mod (c+g*vi) 4294967296
      generalize hlow:(c+g*vi)%4294967296=low at *
      generalize hhi:(c+g*vi)/4294967296=hi at *
      generalize wv (u1.set (i+j) (y:Int))=a at *
      generalize wv u1=b at *
      have e1:g*(wv v%4294967296^i+vi*4294967296^i)*4294967296^j=g*(wv v%4294967296^i)*4294967296^j+g*vi*4294967296^(i+j):=by
        rw [Nat.mul_add,Nat.add_mul,Nat.pow_add]
        congr 1
        ac_rfl
      rw [e1,Nat.pow_succ]
      generalize 4294967296^(i+j)=p at *
      generalize g*(wv v%4294967296^i)*4294967296^j=q at *
      -- a + x p = b + y p,  b + q = U + (c + d) p,  y + low + d = x + e B,  B hi + low = c + g vi
      have f1:y*p+low*p+d*p=x*p+e*4294967296*p:=by rw [← Nat.add_mul,← Nat.add_mul,hye,Nat.add_mul]
      have f2:4294967296*hi*p+low*p=c*p+g*vi*p:=by rw [← Nat.add_mul,hdm,Nat.add_mul]
      have f3:(c+d)*p=c*p+d*p:=Nat.add_mul ..
      have f4:(hi+e)*(p*4294967296)=4294967296*hi*p+e*4294967296*p:=by
        rw [Nat.add_mul]
        congr 1
        · ac_rfl
        · ac_rfl
      rw [f4]
      rw [f3] at h5
      omega
    · rw [show i+1+j=i+j+1 by omega,s2,div_succ32,h6,← div_succ32]) (fun s=>by
    rintro ⟨c,d,u1,rfl,h1,h2,h3,h4,h5,h6⟩
    unfold T_bn_div_b21
    simp only [Option.bind_some]
    rw [cond_f (by simp)]
    refine ⟨_,rfl,c,d,u1,rfl,h1,h2,h3,h4,?_,h6⟩
    rw [mod_full (by rw [← hn];exact wv_lt hv)] at h5
    exact h5) ⟨0,0,u,rfl,by omega,by omega,hu,rfl,by simp [Nat.mod_one],rfl⟩
  exact ⟨c,d,u1,ho,h1,h2,h3,h4,h5,h6⟩
theorem give_loop {v u:List Int} {j n:Nat} (hv:Wd v) (hn:v.length=n) (hu:Wd u) (hj:j+n<u.length) (hb:u.length≤8589934592) :
    ∃ (c:Nat) (u1:List Int),iter (T_bn_div_b24 (n:Int) (j:Int) v) FU (0,0,u)=some ((c:Int),u1)∧c≤1∧Wd u1∧u1.length=u.length ∧
      wv u1+c*4294967296^(n+j)=wv u+wv v*4294967296^j∧wv u1/4294967296^(n+j)=wv u/4294967296^(n+j):=by
  obtain ⟨o,ho,c,u1,rfl,h1,h3,h4,h5,h6⟩:=iter_inv (b:=T_bn_div_b24 (n:Int) (j:Int) v) (fun i s=>∃ (c:Nat) (u1:List Int),s=((c:Int),(i:Int),u1)∧c≤1∧Wd u1∧u1.length=u.length ∧
      wv u1+c*4294967296^(i+j)=wv u+(wv v%4294967296^i)*4294967296^j∧wv u1/4294967296^(i+j)=wv u/4294967296^(i+j)) n
      (fun o=>∃ (c:Nat) (u1:List Int),o=((c:Int),u1)∧c≤1∧Wd u1∧u1.length=u.length ∧
      wv u1+c*4294967296^(n+j)=wv u+wv v*4294967296^j∧wv u1/4294967296^(n+j)=wv u/4294967296^(n+j)) (by rw [FU_eq];omega) (fun i s hi=>by
    rintro ⟨c,u1,rfl,h1,h3,h4,h5,h6⟩
    unfold T_bn_div_b24
    simp only [Option.bind_some]
    have hvi:=dg_lt (wv v) i
    have hk:i+j<u1.length:=by omega
    have hx:=dg_lt (wv u1) (i+j)
    rw [cond_t (by simp;omega),wrAdd (by omega),at_dg h3 hk,at_dg hv (by omega)]
    simp only [Option.bind_some,Int.toNat_natCast]
    generalize hxe:dg (wv u1) (i+j)=x at *
    generalize hve:dg (wv v) i=vi at *
    rw [w64n (n:=x) (by omega),w64n (n:=vi) (by omega),← Int.natCast_add,w64n (n:=x+vi) (by omega),← Int.natCast_add,w64n (n:=c+(x+vi)) (by omega),w32n,sh32,fdn,wrU (by omega)]
    obtain ⟨s1,s2⟩:=set_val h3 hk (y:=(c+(x+vi))%4294967296) (Nat.mod_lt _ (by omega))
    rw [hxe] at s1
    refine ⟨_,rfl,(c+(x+vi))/2^32,_,rfl,by omega,wd_set h3 (by omega) (by omega),by rw [List.length_set];exact h4,?_,?_⟩
    · rw [show (2:Nat)^32=4294967296 from rfl,show i+1+j=i+j+1 by omega,mod_succ32,hve]
      have hdm:=Nat.div_add_mod (c+(x+vi)) 4294967296
      generalize hlow:(c+(x+vi))%4294967296=y at *
      generalize hhi:(c+(x+vi))/4294967296=hi at *
      generalize wv (u1.set (i+j) (y:Int))=a at *
      generalize wv u1=b at *
      have e1:(wv v%4294967296^i+vi*4294967296^i)*4294967296^j=(wv v%4294967296^i)*4294967296^j+vi*4294967296^(i+j):=by
        rw [Nat.add_mul,Nat.pow_add]
        congr 1
        ac_rfl
      rw [e1,Nat.pow_succ]
      generalize 4294967296^(i+j)=p at *
      generalize (wv v%4294967296^i)*4294967296^j=q at *
      have f2:4294967296*hi*p+y*p=c*p+(x*p+vi*p):=by rw [← Nat.add_mul,hdm,Nat.add_mul,Nat.add_mul]
      have f4:hi*(p*4294967296)=4294967296*hi*p:=by ac_rfl
      rw [f4]
      omega
    · rw [show i+1+j=i+j+1 by omega,s2,div_succ32,h6,← div_succ32]) (fun s=>by
    rintro ⟨c,u1,rfl,h1,h3,h4,h5,h6⟩
    unfold T_bn_div_b24
    simp only [Option.bind_some]
    rw [cond_f (by simp)]
    refine ⟨_,rfl,c,u1,rfl,h1,h3,h4,?_,h6⟩
    rw [mod_full (by rw [← hn];exact wv_lt hv)] at h5
    exact h5) ⟨0,u,rfl,by omega,hu,rfl,by simp [Nat.mod_one],rfl⟩
  exact ⟨c,u1,ho,h1,h3,h4,h5,h6⟩
end Go.Eng
/-
  Long division by words: one round, all rounds. No condition.
-/
set_option maxRecDepth 100000
set_option maxHeartbeats 4000000
namespace Go.Eng
open Go
theorem dg_of_div {U k:Nat} (h:U<4294967296^(k+1)):dg U k=U/4294967296^k:=by
  unfold dg
  refine Nat.mod_eq_of_lt ?_
  refine (Nat.div_lt_iff_lt_mul (pow_pos32 k)).2 ?_
  rw [Nat.pow_succ,Nat.mul_comm] at h
  exact h
theorem rd_of {V U j n:Nat} (hV:V<4294967296^(n+2)) (ht:2147483648*4294967296^(n+1)≤V) (hU:U<V*4294967296^(j+1)) :
    Rd (4294967296^n) (dg V (n+1)) (dg V n) (V%4294967296^n) V (dg U (j+n+2)*4294967296+dg U (j+n+1)) (dg U (j+n)) (U/4294967296^j%4294967296^n) (U/4294967296^j) (U/4294967296^j/V):=by
  have hp:=pow_pos32 n
  have hVp:0<V:=Nat.lt_of_lt_of_le (Nat.mul_pos (by omega) (pow_pos32 (n+1))) ht
  have hUb:U<4294967296^(j+n+2+1):=by
    refine Nat.lt_of_lt_of_le hU ?_
    have:=Nat.mul_le_mul_right (4294967296^(j+1)) (Nat.le_of_lt hV)
    rw [← Nat.pow_add,show n+2+(j+1)=j+n+2+1 by omega] at this
    exact this
  have e1:dg V (n+1)=V/4294967296^(n+1):=dg_of_div hV
  have e2:V/4294967296^n=dg V (n+1)*4294967296+dg V n:=by
    rw [e1,div_succ32]
    have:=Nat.div_add_mod (V/4294967296^n) 4294967296
    unfold dg
    omega
  refine ⟨hp,?_,Nat.mod_lt _ hp,?_,dg_lt _ _,dg_lt _ _,?_,Nat.mod_lt _ hp,dg_lt _ _,?_,Nat.div_mul_le_self _ _,?_⟩
  · rw [← e2,Nat.mul_comm];exact (Nat.div_add_mod _ _).symm
  · rw [e1];exact (Nat.le_div_iff_mul_le (pow_pos32 _)).2 ht
  · have e3:U/4294967296^j/4294967296^n=(dg U (j+n+2)*4294967296+dg U (j+n+1))*4294967296+dg U (j+n):=by
      rw [div_pow32,dg_of_div hUb,show j+n+2=j+n+1+1 from rfl,div_succ32 U (j+n+1)]
      have h1:=Nat.div_add_mod (U/4294967296^(j+n+1)) 4294967296
      have h2:=Nat.div_add_mod (U/4294967296^(j+n)) 4294967296
      rw [← div_succ32] at h2
      unfold dg
      omega
    rw [← e3,Nat.mul_comm];exact (Nat.div_add_mod _ _).symm
  · refine (Nat.div_lt_iff_lt_mul (pow_pos32 j)).2 ?_
    rw [Nat.pow_succ] at hU
    rw [Nat.mul_assoc,Nat.mul_comm 4294967296]
    exact hU
  · rw [Nat.mul_comm];exact Nat.lt_mul_div_succ _ hVp
theorem mul_step (V q j:Nat):(q*V)*4294967296^j=q*(V*4294967296^j):=Nat.mul_assoc ..
theorem round_t' {v u ql:List Int} {j n m:Nat} (hv:Wd v) (hn:v.length=n+2) (ht:2147483648*4294967296^(n+1)≤wv v) (hu:Wd u) (hj:j+(n+2)<u.length) (hb:u.length≤8589934592) (hU:wv u<wv v*4294967296^(j+1))
    (hq:Wd ql) (hql:j<ql.length) (hqb:ql.length≤8589934592) (hq0:wv ql%4294967296^(j+1)=0) :
    ∃ ql' u':List Int,T_bn_div_b17 ((n+2:Nat):Int) ((dg (wv v) (n+1):Nat):Int) ((dg (wv v) n:Nat):Int) v ((j:Int),ql,u)=some (.inl (IntKind.i64.wrap ((j:Int)-1),ql',u'))∧Wd ql'∧ql'.length=ql.length∧Wd u'∧u'.length=u.length ∧
      wv ql'=wv ql+wv u/4294967296^j/wv v*4294967296^j∧wv u'+wv u/4294967296^j/wv v*wv v*4294967296^j=wv u∧wv ql'%4294967296^j=0:=by
  have hV:wv v<4294967296^(n+2):=by rw [← hn];exact wv_lt hv
  have R:=rd_of (j:=j) hV ht hU
  generalize hQ:wv u/4294967296^j/wv v=q at *
  have hUb:wv u<4294967296^(n+2+j+1):=by
    refine Nat.lt_of_lt_of_le hU ?_
    have:=Nat.mul_le_mul_right (4294967296^(j+1)) (Nat.le_of_lt hV)
    rw [← Nat.pow_add] at this
    exact this
  have t0:=R.t0
  have t1:=R.t1
  have hd1:=dg_lt (wv u) (j+n+1)
  have hd2:=dg_lt (wv u) (j+n+2)
  -- the guess
  obtain ⟨g,hgl,hg1,hg2,hg3⟩:=guess_t (l:=u) (i:=(j:Int)) (n:=((n+2:Nat):Int)) (k:=j+n) R (by rw [wrAdd (by omega),wrI (by omega) (by omega)];omega) (at_dg hu (by omega))
  -- what is taken away
  obtain ⟨c,d,u1,hul,hc,hd,hu1,hl1,hw1,hh1⟩:=take_loop (j:=j) (g:=g) hv hn hu hg3 hj hb
  have hk:n+2+j<u1.length:=by omega
  have hx:=dg_lt (wv u1) (n+2+j)
  obtain ⟨y,e,hy,he,hye,hyl,hel⟩:=sub_w64 (x:=dg (wv u1) (n+2+j)) (a:=c) (d:=d) hx hc hd
  obtain ⟨s1,s2⟩:=set_val hu1 hk hyl
  have hz2:wv (u1.set (n+2+j) (y:Int))<4294967296^(n+2+j+1):=by
    have e1:wv u/4294967296^(n+2+j+1)=0:=Nat.div_eq_of_lt hUb
    have e2:wv (u1.set (n+2+j) (y:Int))/4294967296^(n+2+j+1)=0:=by
      rw [s2,div_succ32,hh1,← div_succ32];exact e1
    exact (Nat.div_eq_zero_iff_lt (pow_pos32 _)).1 e2
  -- as numbers
  have hval:wv (u1.set (n+2+j) (y:Int))+g*wv v*4294967296^j=wv u+e*4294967296^(n+2+j+1):=by
    rw [Nat.pow_succ]
    generalize dg (wv u1) (n+2+j)=x at *
    generalize 4294967296^(n+2+j)=p at *
    have f1:y*p+c*p+d*p=x*p+e*4294967296*p:=by rw [← Nat.add_mul,← Nat.add_mul,hye,Nat.add_mul]
    have f3:(c+d)*p=c*p+d*p:=Nat.add_mul ..
    have f4:e*(p*4294967296)=e*4294967296*p:=by ac_rfl
    rw [f4]
    rw [f3] at hw1
    generalize g*wv v*4294967296^j=gv at *
    generalize wv (u1.set (n+2+j) (y:Int))=a at *
    generalize wv u1=b at *
    generalize wv u=U at *
    omega
  have hqU:q*wv v*4294967296^j≤wv u:=by
    have:=Nat.mul_le_mul_right (4294967296^j) R.q0
    exact Nat.le_trans this (Nat.div_mul_le_self _ _)
  have hqU1:wv u<(q+1)*wv v*4294967296^j:=by
    have h1:=R.q1
    have h2:wv u<(wv u/4294967296^j+1)*4294967296^j:=by
      rw [Nat.mul_comm];exact Nat.lt_mul_div_succ _ (pow_pos32 j)
    exact Nat.lt_of_lt_of_le h2 (Nat.mul_le_mul_right _ h1)
  have fdg:wv u/4294967296^j<4294967296^(n+2+1):=(Nat.div_lt_iff_lt_mul (pow_pos32 j)).2 (by rw [← Nat.pow_add];rw [show n+2+1+j=n+2+j+1 by omega];exact hUb)
  -- the quotient's word
  have hq1:=R.qlt
  have hset:∀ gg:Nat,gg=q→Wd (ql.set j ((q:Nat):Int))∧(ql.set j ((q:Nat):Int)).length=ql.length∧wv (ql.set j ((q:Nat):Int))=wv ql+q*4294967296^j∧wv (ql.set j ((q:Nat):Int))%4294967296^j=0:=by
    intro gg _
    obtain ⟨r1,r2⟩:=set_val hq hql (y:=q) (by omega)
    have hp:=pow_pos32 j
    have z1:wv ql%4294967296^j=0∧dg (wv ql) j=0:=by
      have:=mod_succ32 (wv ql) j
      rw [hq0] at this
      have h3:wv ql%4294967296^j=0:=by omega
      refine ⟨h3,?_⟩
      rw [h3,Nat.zero_add] at this
      rcases Nat.mul_eq_zero.1 this.symm with h4 | h4
      · exact h4
      · omega
    rw [z1.2,Nat.zero_mul,Nat.add_zero] at r1
    refine ⟨wd_set hq (by omega) (by omega),by rw [List.length_set],r1,?_⟩
    rw [r1,Nat.add_mul_mod_self_right]
    exact z1.1
  -- the walk
  have hstep:∀ (gg:Nat) (u':List Int),gg=q→(((atI ql (j:Int)).bind fun t68=>(some (ql.set ((j:Int)).toNat (IntKind.u32.wrap ((gg:Nat):Int)))).bind fun t69=>some (Sum.inl (α:=Int×List Int×List Int) (β:=List Int×List Int) ((IntKind.i64.wrap ((j:Int)-1)),t69,u'))))=some (.inl (IntKind.i64.wrap ((j:Int)-1),ql.set j ((q:Nat):Int),u')):=by
    intro gg u' hgg
    subst hgg
    rw [at_dg hq hql,Option.bind_some,Option.bind_some,Int.toNat_natCast,w32n,Nat.mod_eq_of_lt (by omega)]
  unfold T_bn_div_b17
  dsimp only
  rw [cond_t (by simp),wrAdd (by omega),show IntKind.i64.wrap (((j+(n+2):Nat):Int)-1)=((j+n+1:Nat):Int) by rw [wrI (by omega) (by omega)];omega]
  rw [show j+(n+2)=j+n+2 by omega,at_dg hu (by omega),Option.bind_some,at_dg hu (by omega),Option.bind_some,w64n (n:=dg (wv v) (n+1)) (by omega)]
  have nzt:nz ((dg (wv v) (n+1):Nat):Int)=some ():=by unfold nz;rw [if_pos (by omega)]
  rw [nzt,Option.bind_some,Option.bind_some,or64_mk hd2 hd1]
  have hh2:dg (wv u) (j+n+2)*4294967296+dg (wv u) (j+n+1)<18446744073709551616:=by omega
  rw [show (((dg (wv u) (j+n+2)*4294967296+dg (wv u) (j+n+1):Nat):Int)).tdiv ((dg (wv v) (n+1):Nat):Int)=(((dg (wv u) (j+n+2)*4294967296+dg (wv u) (j+n+1))/dg (wv v) (n+1):Nat):Int) from rfl,
    show (((dg (wv u) (j+n+2)*4294967296+dg (wv u) (j+n+1):Nat):Int)).tmod ((dg (wv v) (n+1):Nat):Int)=(((dg (wv u) (j+n+2)*4294967296+dg (wv u) (j+n+1))%dg (wv v) (n+1):Nat):Int) from rfl,
    w64n (Nat.lt_of_le_of_lt (Nat.div_le_self _ _) hh2),hgl,Option.bind_some,hul,Option.bind_some]
  dsimp only
  rw [show ((j+n+2:Nat):Int)=((n+2+j:Nat):Int) by omega,at_dg hu1 hk]
  simp only [Option.bind_some,Int.toNat_natCast]
  rw [w64n (n:=dg (wv u1) (n+2+j)) (by omega),hy,he]
  by_cases he0:e=0
  · subst he0
    rw [Nat.zero_mul,Nat.add_zero] at hval
    have hgq:g=q:=by
      have h1:g<q+1:=by
        have:g*wv v*4294967296^j<(q+1)*wv v*4294967296^j:=by omega
        rw [mul_step,mul_step] at this
        exact Nat.lt_of_mul_lt_mul_right this
      omega
    rw [cond_f (by simp),Option.bind_some]
    dsimp only
    have:=hstep g (u1.set (n+2+j) (y:Int)) hgq
    obtain ⟨a1,a2,a3,a4⟩:=hset g hgq
    refine ⟨_,_,this,a1,a2,wd_set hu1 (by omega) (by omega),by rw [List.length_set];exact hl1,a3,?_,a4⟩
    rw [← hgq];exact hval
  · obtain rfl:e=1:=by omega
    rw [Nat.one_mul] at hval
    have hgq:g=q+1:=by
      have h1:q<g:=by
        have:q*wv v*4294967296^j<g*wv v*4294967296^j:=by omega
        rw [mul_step,mul_step] at this
        exact Nat.lt_of_mul_lt_mul_right this
      omega
    rw [cond_t (by simp)]
    obtain ⟨c3,u3,hgv,hc3,hu3,hl3,hw3,hh3⟩:=give_loop (u:=u1.set (n+2+j) (y:Int)) (j:=j) hv hn (wd_set hu1 (by omega) (by omega)) (by rw [List.length_set];omega) (by rw [List.length_set];omega)
    rw [List.length_set] at hl3
    rw [hgv,Option.bind_some]
    dsimp only
    have hk3:n+2+j<u3.length:=by omega
    rw [at_dg hu3 hk3]
    simp only [Option.bind_some,Int.toNat_natCast]
    have hx3:=dg_lt (wv u3) (n+2+j)
    rw [w32n,Nat.mod_eq_of_lt (show c3<4294967296 by omega),← Int.natCast_add,w32n]
    obtain ⟨r1,r2⟩:=set_val hu3 hk3 (y:=(dg (wv u3) (n+2+j)+c3)%4294967296) (Nat.mod_lt _ (by omega))
    have e1:IntKind.u64.wrap ((g:Int)-1)=((q:Nat):Int):=by
      rw [show (g:Int)-1=((q:Nat):Int) by omega,w64n (by omega)]
    rw [e1]
    have:=hstep q (u3.set (n+2+j) (((dg (wv u3) (n+2+j)+c3)%4294967296:Nat):Int)) rfl
    obtain ⟨a1,a2,a3,a4⟩:=hset q rfl
    refine ⟨_,_,this,a1,a2,wd_set hu3 (by omega) (by omega),by rw [List.length_set,hl3];exact hl1,a3,?_,a4⟩
    have hz4:wv (u3.set (n+2+j) (((dg (wv u3) (n+2+j)+c3)%4294967296:Nat):Int))<4294967296^(n+2+j+1):=by
      have e2:wv (u3.set (n+2+j) (((dg (wv u3) (n+2+j)+c3)%4294967296:Nat):Int))/4294967296^(n+2+j+1)=0:=by
        rw [r2,div_succ32,hh3,← div_succ32];exact Nat.div_eq_of_lt hz2
      exact (Nat.div_eq_zero_iff_lt (pow_pos32 _)).1 e2
    have hdm:=Nat.div_add_mod (dg (wv u3) (n+2+j)+c3) 4294967296
    have f5:g*wv v*4294967296^j=q*wv v*4294967296^j+wv v*4294967296^j:=by rw [hgq,Nat.add_mul,Nat.add_mul,Nat.one_mul]
    rw [f5] at hval
    generalize hyy:(dg (wv u3) (n+2+j)+c3)%4294967296=y3 at *
    have hf:(dg (wv u3) (n+2+j)+c3)/4294967296≤1:=by omega
    generalize (dg (wv u3) (n+2+j)+c3)/4294967296=f at *
    generalize dg (wv u3) (n+2+j)=x3 at *
    rw [Nat.pow_succ] at hz4 hz2 hval
    generalize wv (u3.set (n+2+j) (y3:Int))=b4 at *
    generalize wv (u1.set (n+2+j) (y:Int))=b2 at *
    generalize wv u3=b3 at *
    generalize q*wv v*4294967296^j=qv at *
    generalize wv v*4294967296^j=vv at *
    generalize wv u=U at *
    generalize 4294967296^(n+2+j)=p at *
    have g1:f*4294967296*p+y3*p=x3*p+c3*p:=by rw [← Nat.add_mul,← Nat.add_mul];congr 1;omega
    have g2:f=0∨f=1:=by omega
    rcases g2 with rfl | rfl
    · exfalso
      omega
    · omega
end Go.Eng
/-
  Long division of words is division. No condition.
-/
set_option maxRecDepth 100000
set_option maxHeartbeats 4000000
namespace Go.Eng
open Go
theorem plain_t {a:Nat} (h:a<18446744073709551616):T_bn_plain (W a)=some (a:Int):=by
  have hlen:(W a).length≤2:=W_len_le (by simpa using h)
  unfold T_bn_plain
  simp only [Option.bind_some]
  by_cases h0:a=0
  · subst h0;rw [W_zero];rfl
  have hl:(W a).length≠0:=fun e=>h0 (W_nil.1 (List.eq_nil_of_length_eq_zero e))
  have hd0:=dg_lt a 0
  rw [cond_t (by simp;omega),show (0:Int)=((0:Nat):Int) from rfl,at_dg (W_wd a) (by omega),Option.bind_some,Option.bind_some,wv_W,w64n (n:=dg a 0) (by omega)]
  by_cases h1:a<4294967296
  · have:(W a).length≤1:=W_len_le (by simpa using h1)
    rw [cond_f (by simp;omega),Option.bind_some]
    rw [dg_zero,Nat.mod_eq_of_lt h1]
  · have:(W a).length=2:=by
      rcases Nat.lt_or_ge 1 (W a).length with k | k
      · omega
      · exfalso
        have:=W_len_lt a
        have h3:(4294967296:Nat)^(W a).length≤4294967296^1:=Nat.pow_le_pow_right (by omega) k
        omega
    have hd1:=dg_lt a 1
    rw [cond_t (by simp;omega),show (1:Int)=((1:Nat):Int) from rfl,at_dg (W_wd a) (by omega),Option.bind_some,Option.bind_some,wv_W]
    congr 1
    rw [w64n (n:=dg a 1) (by omega)]
    have e3:((dg a 1:Nat):Int)*2^(min (32:Int).toNat IntKind.u64.bits)=((dg a 1*4294967296:Nat):Int):=by rw [sh32];simp
    rw [e3,w64n (n:=dg a 1*4294967296) (by omega),or64 (by omega) (by omega)]
    have:=or_apart (a:=dg a 0) (b:=dg a 1) (s:=32) (by omega)
    rw [show (4294967296:Nat)=2^32 from rfl,this,w64n (by omega)]
    unfold dg
    simp only [Nat.pow_zero,Nat.pow_one,Nat.div_one]
    omega
theorem small_t {a b:Nat} (hb0:0<b) (hb:b<4294967296) (ha:(W a).length≤1073741824):T_bn_small (W a) (b:Int)=some (W (a/b),((a%b:Nat):Int)):=by
  unfold T_bn_small
  simp only [Option.bind_some]
  generalize hn:(W a).length=n at *
  rw [mk_nat (by omega),Option.bind_some]
  obtain ⟨o,ho,r,ql,rfl,hr,hw,hl,hv⟩:=iter_inv (b:=T_bn_small_b2 (W a) (b:Int)) (fun i s=>∃ (r:Nat) (ql:List Int),s=((r:Int),((n:Nat):Int)-1-(i:Int),ql)∧r<b∧Wd ql∧ql.length=n∧wv ql*b+r*4294967296^(n-i)+a%4294967296^(n-i)=a∧wv ql%4294967296^(n-i)=0) n
    (fun o=>∃ (r:Nat) (ql:List Int),o=((r:Int),ql)∧r<b∧Wd ql∧ql.length=n∧wv ql*b+r=a) (by rw [FU_eq];omega) (fun i s hi=>by
    rintro ⟨r,ql,rfl,hr,hw,hl,hv,hz⟩
    unfold T_bn_small_b2
    dsimp only
    obtain ⟨k,hk⟩:∃ k,n-i=k+1:=⟨n-i-1,by omega⟩
    have e1:((n:Nat):Int)-1-(i:Int)=(k:Int):=by omega
    have hd:=dg_lt a k
    have nzt:nz (IntKind.u64.wrap (b:Int))=some ():=by unfold nz;rw [w64n (by omega),if_pos (by omega)]
    rw [cond_t (by simp;omega),e1,at_dg (W_wd a) (by omega),Option.bind_some,wv_W,nzt,Option.bind_some,at_dg hw (by omega)]
    simp only [Option.bind_some,Int.toNat_natCast]
    have hx:IntKind.u64.wrap ((BitVec.ofInt IntKind.u64.bits (IntKind.u64.wrap ((r:Int)*2^(min (32:Int).toNat IntKind.u64.bits))) ||| BitVec.ofInt IntKind.u64.bits (IntKind.u64.wrap ((dg a k:Nat):Int))).toNat:Int)=((r*4294967296+dg a k:Nat):Int):=by
      have:=or64_mk (h:=r) (u:=dg a k) (by omega) hd
      rw [w64n (n:=r) (by omega)] at this
      exact this
    rw [hx,w64n (n:=b) (by omega)]
    rw [show (((r*4294967296+dg a k:Nat):Int)).tdiv (b:Int)=(((r*4294967296+dg a k)/b:Nat):Int) from rfl,show (((r*4294967296+dg a k:Nat):Int)).tmod (b:Int)=(((r*4294967296+dg a k)%b:Nat):Int) from rfl]
    have hq:(r*4294967296+dg a k)/b<4294967296:=by
      refine (Nat.div_lt_iff_lt_mul hb0).2 ?_
      have:(r+1)*4294967296≤b*4294967296:=Nat.mul_le_mul_right _ hr
      rw [Nat.mul_comm 4294967296]
      omega
    have hdm:=Nat.div_add_mod (r*4294967296+dg a k) b
    have hml:=Nat.mod_lt (r*4294967296+dg a k) hb0
    generalize hqq:(r*4294967296+dg a k)/b=q at *
    generalize hrr:(r*4294967296+dg a k)%b=r' at *
    rw [w64n (n:=q) (by omega),w32n,Nat.mod_eq_of_lt hq]
    obtain ⟨s1,s2⟩:=set_val hw (k:=k) (y:=q) (by omega) hq
    rw [hk] at hz hv
    have z1:wv ql%4294967296^k=0∧dg (wv ql) k=0:=by
      have:=mod_succ32 (wv ql) k
      rw [hz] at this
      have h3:wv ql%4294967296^k=0:=by omega
      refine ⟨h3,?_⟩
      rw [h3,Nat.zero_add] at this
      have hp:=pow_pos32 k
      rcases Nat.mul_eq_zero.1 this.symm with h4 | h4
      · exact h4
      · omega
    rw [z1.2,Nat.zero_mul,Nat.add_zero] at s1
    refine ⟨_,rfl,r',ql.set k ((q:Nat):Int),?_,hml,wd_set hw (by omega) (by omega),by rw [List.length_set];exact hl,?_,?_⟩
    · rw [wrI (n:=(k:Int)-1) (by omega) (by omega)]
      congr 1
      congr 1
      omega
    · rw [show n-(i+1)=k by omega,s1]
      rw [mod_succ32,Nat.pow_succ] at hv
      have f1:b*q*4294967296^k+r'*4294967296^k=r*4294967296*4294967296^k+dg a k*4294967296^k:=by rw [← Nat.add_mul,hdm,Nat.add_mul]
      have f2:(wv ql+q*4294967296^k)*b=wv ql*b+b*q*4294967296^k:=by
        rw [Nat.add_mul];congr 1;ac_rfl
      have f3:r*(4294967296^k*4294967296)=r*4294967296*4294967296^k:=by ac_rfl
      rw [f2]
      rw [f3] at hv
      generalize b*q*4294967296^k=x1 at *
      generalize r'*4294967296^k=x2 at *
      generalize r*4294967296*4294967296^k=x3 at *
      generalize dg a k*4294967296^k=x4 at *
      generalize a%4294967296^k=x5 at *
      generalize wv ql*b=x6 at *
      omega
    · rw [show n-(i+1)=k by omega,s1,Nat.add_mul_mod_self_right];exact z1.1) (fun s=>by
    rintro ⟨r,ql,rfl,hr,hw,hl,hv,hz⟩
    unfold T_bn_small_b2
    dsimp only
    rw [cond_f (by simp;omega)]
    refine ⟨_,rfl,r,ql,rfl,hr,hw,hl,?_⟩
    simpa [Nat.mod_one] using hv) (s0:=(((0:Nat):Int),IntKind.i64.wrap ((n:Int)-1),List.replicate n 0)) ⟨0,List.replicate n 0,by rw [wrI (by omega) (by omega)];simp,hb0,wd_rep n,by simp,by
      rw [wv_rep,Nat.sub_zero,mod_full (by rw [← hn];exact W_len_lt a)];simp,by rw [wv_rep];simp⟩
  rw [show (0:Int)=((0:Nat):Int) from rfl] at *
  rw [ho,Option.bind_some]
  dsimp only
  rw [show ((0:Nat):Int)=(0:Int) from rfl]
  have e:=Nat.div_mod_unique hb0 (a:=a) (d:=wv ql) (c:=r)
  have h1:a/b=wv ql∧a%b=r:=e.2 ⟨by rw [Nat.mul_comm];omega,hr⟩
  rw [trim_sub hw (by omega) (f:=fun t15=>some (t15,IntKind.u32.wrap (r:Int))),h1.1,h1.2,w32n,Nat.mod_eq_of_lt (by omega)]
theorem copL_rep {m:Nat} {s:List Int} (h:s.length≤m):copL (List.replicate m 0) s=s++List.replicate (m-s.length) 0:=by
  unfold copL
  rw [List.length_replicate,List.take_of_length_le h,List.drop_replicate]
theorem rounds_t {v u ql:List Int} {n m:Nat} (hv:Wd v) (hn:v.length=n+2) (ht:2147483648*4294967296^(n+1)≤wv v) (hu:Wd u) (hm:m+(n+2)+1=u.length) (hb:u.length≤8589934592) (hU:wv u<wv v*4294967296^(m+1))
    (hq:Wd ql) (hql:ql.length=m+1) (hq0:wv ql=0) :
    ∃ ql' u':List Int,iter (T_bn_div_b17 ((n+2:Nat):Int) ((dg (wv v) (n+1):Nat):Int) ((dg (wv v) n:Nat):Int) v) FU ((m:Int),ql,u)=some (ql',u')∧Wd ql'∧ql'.length=m+1∧Wd u'∧u'.length=u.length∧wv ql'*wv v+wv u'=wv u∧wv u'<wv v:=by
  obtain ⟨o,ho,ql',u',rfl,h1,h2,h3,h4,h5,h6⟩:=iter_inv (b:=T_bn_div_b17 ((n+2:Nat):Int) ((dg (wv v) (n+1):Nat):Int) ((dg (wv v) n:Nat):Int) v) (fun i s=>∃ q1 u1:List Int,s=((m:Int)-(i:Int),q1,u1)∧Wd q1∧q1.length=m+1∧Wd u1∧u1.length=u.length∧wv q1*wv v+wv u1=wv u∧wv u1<wv v*4294967296^(m+1-i)∧wv q1%4294967296^(m+1-i)=0) (m+1)
    (fun o=>∃ q1 u1:List Int,o=(q1,u1)∧Wd q1∧q1.length=m+1∧Wd u1∧u1.length=u.length∧wv q1*wv v+wv u1=wv u∧wv u1<wv v) (by rw [FU_eq];omega) (fun i s hi=>by
    rintro ⟨q1,u1,rfl,a1,a2,a3,a4,a5,a6,a7⟩
    obtain ⟨j,hj⟩:∃ j,m+1-i=j+1:=⟨m-i,by omega⟩
    rw [hj] at a6 a7
    obtain ⟨q2,u2,e,b1,b2,b3,b4,b5,b6,b7⟩:=round_t' (m:=0) hv hn ht a3 (j:=j) (by omega) (by omega) a6 a1 (by omega) (by omega) a7
    refine ⟨_,by rw [show (m:Int)-(i:Int)=(j:Int) by omega];exact e,q2,u2,?_,b1,by omega,b3,by omega,?_,?_,?_⟩
    · rw [wrI (by omega) (by omega)]
      congr 1
      omega
    · generalize wv u1/4294967296^j/wv v=q at *
      rw [b5,← a5,Nat.add_mul]
      have:q*4294967296^j*wv v=q*wv v*4294967296^j:=by ac_rfl
      rw [this];omega
    · rw [show m+1-(i+1)=j by omega]
      have hVp:0<wv v:=Nat.lt_of_lt_of_le (Nat.mul_pos (by omega) (pow_pos32 (n+1))) ht
      have h1:=Nat.lt_mul_div_succ (wv u1/4294967296^j) hVp
      have h2:wv u1<(wv u1/4294967296^j+1)*4294967296^j:=by
        rw [Nat.mul_comm];exact Nat.lt_mul_div_succ _ (pow_pos32 j)
      generalize wv u1/4294967296^j/wv v=q at *
      have h3:=Nat.lt_of_lt_of_le h2 (Nat.mul_le_mul_right (4294967296^j) h1)
      rw [Nat.mul_add,Nat.mul_one,Nat.add_mul] at h3
      have:wv v*q*4294967296^j=q*wv v*4294967296^j:=by ac_rfl
      rw [this] at h3
      omega
    · rw [show m+1-(i+1)=j by omega];exact b7) (fun s=>by
    rintro ⟨q1,u1,rfl,a1,a2,a3,a4,a5,a6,a7⟩
    unfold T_bn_div_b17
    dsimp only
    rw [cond_f (by simp;omega)]
    refine ⟨_,rfl,q1,u1,rfl,a1,a2,a3,a4,a5,?_⟩
    simpa using a6) (s0:=((m:Int),ql,u)) ⟨ql,u,by simp,hq,hql,hu,rfl,by rw [hq0];simp,by simpa using hU,by rw [hq0];simp⟩
  exact ⟨ql',u',ho,h1,h2,h3,h4,h5,h6⟩
theorem div_t {a b:Nat} (hb0:b≠0) (ha:(W a).length≤1073741824) (hb:(W b).length≤1073741824):T_bn_div (W a) (W b)=some (W (a/b),W (a%b)):=by
  have hbl:(W b).length≠0:=fun e=>hb0 (W_nil.1 (List.eq_nil_of_length_eq_zero e))
  unfold T_bn_div
  rw [Option.bind_some,cond_f (by rw [beq_eq_false_iff_ne];omega),cmp_t (by omega) (by omega),Option.bind_some]
  by_cases hlt:a<b
  · rw [if_pos hlt,cond_t (by decide),twin_t (by omega),Option.bind_some,Nat.div_eq_of_lt hlt,Nat.mod_eq_of_lt hlt,W_zero]
  rw [if_neg hlt,cond_f (by split<;>decide),Option.bind_some]
  by_cases h2:(W a).length≤2
  · have ha2:a<18446744073709551616:=by
      have h3:(4294967296:Nat)^(W a).length≤4294967296^2:=Nat.pow_le_pow_right (by omega) h2
      have:=W_len_lt a
      omega
    have nzt:nz (b:Int)=some ():=by unfold nz;rw [if_pos (by omega)]
    rw [cond_t (by simp;omega),plain_t ha2,Option.bind_some,plain_t (by omega),Option.bind_some,nzt,Option.bind_some,Option.bind_some,
      show ((a:Int)).tdiv (b:Int)=((a/b:Nat):Int) from rfl,show ((a:Int)).tmod (b:Int)=((a%b:Nat):Int) from rfl,w64n (Nat.lt_of_le_of_lt (Nat.div_le_self _ _) ha2),
      words_t (Nat.lt_of_le_of_lt (Nat.div_le_self _ _) ha2),Option.bind_some,words_t (Nat.lt_of_le_of_lt (Nat.mod_le _ _) ha2),Option.bind_some]
  rw [cond_f (by simp;omega),Option.bind_some]
  by_cases h1:(W b).length=1
  · have hb32:b<4294967296:=by
      have:=W_len_lt b
      rw [h1] at this
      simpa using this
    rw [cond_t (by rw [h1];rfl),show (0:Int)=((0:Nat):Int) from rfl,at_dg (W_wd b) (by omega),Option.bind_some,wv_W,dg_zero,Nat.mod_eq_of_lt hb32,small_t (by omega) hb32 ha,Option.bind_some]
    dsimp only
    have hw:Wd [((a%b:Nat):Int)]:=wd_cons (by omega) (by have:=Nat.mod_lt a (show 0<b by omega);omega) wd_nil
    have:wv [((a%b:Nat):Int)]=a%b:=by simp only [wv];omega
    rw [Option.bind_some,show ((0:Nat):Int)=(0:Int) from rfl,trim_sub hw (by simp),this]
  rw [cond_f (by rw [beq_eq_false_iff_ne];omega),length_t (by omega),Option.bind_some]
  -- the divisor is brought to the left
  have hbB:4294967296≤b:=by
    have h3:=W_len_ge hb0
    have h4:(4294967296:Nat)^1≤4294967296^((W b).length-1):=Nat.pow_le_pow_right (by omega) (by omega)
    omega
  have hL33:33≤blN b:=by
    rcases Nat.lt_or_ge (blN b) 33 with h3 | h3
    · have:=blN_lt.1 (show blN b≤32 by omega)
      omega
    · exact h3
  have hLu:blN b≤32*(W b).length:=blN_lt.2 (by rw [Nat.pow_mul];exact W_len_lt b)
  generalize hL:blN b=L at *
  have hs:IntKind.u64.wrap (IntKind.i64.wrap ((IntKind.i64.wrap (32-((IntKind.i64.wrap ((L:Int)-1)).tmod 32)))-1))=((31-(L-1)%32:Nat):Int):=by
    rw [wrI (n:=(L:Int)-1) (by omega) (by omega),show ((L:Int)-1)=((L-1:Nat):Int) by omega,show (((L-1:Nat):Int)).tmod 32=(((L-1)%32:Nat):Int) from rfl,wrI (n:=32-(((L-1)%32:Nat):Int)) (by omega) (by omega),wrI (n:=32-(((L-1)%32:Nat):Int)-1) (by omega) (by omega),
      show (32:Int)-(((L-1)%32:Nat):Int)-1=((31-(L-1)%32:Nat):Int) by omega,w64n (by omega)]
  rw [hs]
  generalize hS:31-(L-1)%32=s at *
  have hs32:s<32:=by omega
  obtain ⟨k,hk⟩:∃ k,L+s=32*(k+2):=⟨(L+s)/32-2,by omega⟩
  have ps:=Nat.two_pow_pos s
  have hbu:b<2^L:=blN_lt.1 (by omega)
  have hbg:2^(L-1)≤b:=by
    rcases Nat.lt_or_ge b (2^(L-1)) with h3 | h3
    · have:=blN_lt.2 h3;omega
    · exact h3
  have hVu:b*2^s<4294967296^(k+2):=by
    have:=Nat.mul_lt_mul_of_pos_right hbu ps
    rw [← Nat.pow_add,hk,Nat.pow_mul] at this
    exact this
  have hVl:2147483648*4294967296^(k+1)≤b*2^s:=by
    have:=Nat.mul_le_mul_right (2^s) hbg
    rw [← Nat.pow_add,show L-1+s=31+32*(k+1) by omega,Nat.pow_add,Nat.pow_mul] at this
    exact this
  have hVlen:(W (b*2^s)).length=k+2:=by
    have h3:=W_len_le hVu
    rcases Nat.lt_or_ge (W (b*2^s)).length (k+2) with h4 | h4
    · have h5:=W_len_lt (b*2^s)
      have h6:(4294967296:Nat)^(W (b*2^s)).length≤4294967296^(k+1):=Nat.pow_le_pow_right (by omega) (by omega)
      have:=pow_pos32 (k+1)
      omega
    · omega
  have hAu:a*2^s<4294967296^((W a).length+1):=by
    rw [Nat.pow_succ]
    have h3:=W_len_lt a
    have h4:(2:Nat)^s≤4294967296:=by
      have:(2:Nat)^s≤2^32:=Nat.pow_le_pow_right (by omega) (by omega)
      simpa using this
    exact Nat.lt_of_lt_of_le (Nat.mul_lt_mul_of_pos_right h3 ps) (Nat.mul_le_mul_left _ h4)
  have hAlen:=W_len_le hAu
  have hkb:k+2≤(W b).length:=by omega
  have hba:(W b).length≤(W a).length:=W_len_mono (by omega)
  rw [left_t (by omega) (by omega),Option.bind_some,Option.bind_some]
  have e2:IntKind.i64.wrap ((((W a).length:Nat):Int)+2)=(((W a).length+2:Nat):Int):=wrAdd (b:=2) (by omega)
  rw [e2,mk_nat (by omega),Option.bind_some,left_t (by omega) (by omega),Option.bind_some,Option.bind_some,copL_rep (by omega)]
  generalize hu0:W (a*2^s)++List.replicate ((W a).length+2-(W (a*2^s)).length) 0=u at *
  have huw:Wd u:=by rw [← hu0];exact wd_append (W_wd _) (wd_rep _)
  have hul:u.length=(W a).length+2:=by rw [← hu0,List.length_append,List.length_replicate];omega
  have huv:wv u=a*2^s:=by rw [← hu0,wv_append,wv_rep,Nat.mul_zero,Nat.add_zero,wv_W]
  simp only [Option.bind_some]
  rw [hVlen,hul]
  obtain ⟨m,hm⟩:∃ m,(W a).length+2=m+(k+2)+1:=⟨(W a).length+1-(k+2),by omega⟩
  have e3:IntKind.i64.wrap ((IntKind.i64.wrap ((((W a).length+2:Nat):Int)-((k+2:Nat):Int)))-1)=(m:Int):=by
    rw [wrI (n:=(((W a).length+2:Nat):Int)-((k+2:Nat):Int)) (by omega) (by omega),wrI (by omega) (by omega)];omega
  have e4:IntKind.i64.wrap (((k+2:Nat):Int)-1)=((k+1:Nat):Int):=by rw [wrI (by omega) (by omega)];omega
  have e5:IntKind.i64.wrap (((k+2:Nat):Int)-2)=(k:Int):=by rw [wrI (by omega) (by omega)];omega
  rw [e3,wrU (by omega),mk_nat (by omega),Option.bind_some,e4,e5,at_dg (W_wd _) (by omega),Option.bind_some,at_dg (W_wd _) (by omega),Option.bind_some]
  obtain ⟨ql,u',hit,c1,c2,c3,c4,c5,c6⟩:=rounds_t (v:=W (b*2^s)) (u:=u) (ql:=List.replicate (m+1) 0) (n:=k) (m:=m) (W_wd _) hVlen (by rw [wv_W];exact hVl) huw (by omega) (by omega) (by
    rw [wv_W,huv]
    have h3:1*4294967296^(k+1)≤b*2^s:=Nat.le_trans (Nat.mul_le_mul_right _ (by omega)) hVl
    have h4:=Nat.mul_le_mul_right (4294967296^(m+1)) h3
    rw [Nat.one_mul,← Nat.pow_add,show k+1+(m+1)=(W a).length+1 by omega] at h4
    exact Nat.lt_of_lt_of_le hAu h4) (wd_rep _) (by simp) (wv_rep _)
  rw [hit,Option.bind_some]
  dsimp only
  rw [wv_W] at c5 c6
  rw [huv] at c5
  have hbp:0<b*2^s:=by omega
  have h7:a*2^s/(b*2^s)=wv ql∧a*2^s%(b*2^s)=wv u':=(Nat.div_mod_unique hbp).2 ⟨by rw [Nat.mul_comm];omega,c6⟩
  rw [Nat.mul_div_mul_right _ _ ps,Nat.mul_mod_mul_right] at h7
  rw [trim_sub c1 (by omega) (f:=fun t73=>(T_bn_trim u').bind fun t74=>(subL u' 0 t74).bind fun t75=>(T_bn_right t75 ((s:Nat):Int)).bind fun t76=>some (t73,t76)),trim_sub c3 (by omega) (f:=fun t75=>(T_bn_right t75 ((s:Nat):Int)).bind fun t76=>some (W (wv ql),t76)),
    right_t (by omega) (by have:=W_len_le (wv_lt c3);omega),Option.bind_some,← h7.1,← h7.2,Nat.mul_div_cancel _ ps]
end Go.Eng
/-
  Division and a shift to the right of whole numbers of any size: contracts on items that stand for whole numbers. No condition.
-/
set_option maxRecDepth 100000
set_option maxHeartbeats 4000000
namespace Go.Eng
open Go
def bigQuo (x y:Int):Option Int:=if y=0 then none else (bgOk x).bind fun x=>(bgOk y).bind fun y=>some (x.tdiv y)
def bigRshF (z n:Int):Option Int:=if 0≤n∧n<18446744073709551616 then (bgOk z).bind fun z=>some (z.fdiv (2^n.toNat)) else none
theorem rshF_w {z n y:Int} (h:bigRshF z n=some y):T_bI_Rsh (decide (z<0)) (W z.natAbs) n=some (decide (y<0),W y.natAbs):=by
  unfold bigRshF at h
  split at h
  · rename_i hn
    obtain ⟨h1,h2⟩:=bind_ok h
    obtain rfl:=Option.some.inj h2
    obtain ⟨k,rfl⟩:∃ k:Nat,n=k:=⟨n.toNat,by omega⟩
    have hl:=ok_len h1
    rw [Int.toNat_natCast]
    unfold T_bI_Rsh
    by_cases hz:z<0
    · obtain ⟨m,rfl⟩:∃ m:Nat,z = -((m+1:Nat):Int):=⟨z.natAbs-1,by omega⟩
      have e1:([1]:List Int)=W 1:=by decide +kernel
      have e2:(-((m+1:Nat):Int)).natAbs=m+1:=by omega
      rw [e2] at hl ⊢
      have e3:(-((m+1:Nat):Int)).fdiv (2^k) = -((m/2^k+1:Nat):Int):=by
        have hp:(0:Int)<2^k:=by have:=Nat.two_pow_pos k;exact_mod_cast this
        rw [Int.fdiv_eq_ediv_of_nonneg _ (by omega)]
        have hp2:=Nat.two_pow_pos k
        have hd:=Nat.div_add_mod m (2^k)
        have hm:=Nat.mod_lt m hp2
        have e4:(2:Int)^k=((2^k:Nat):Int):=by simp
        rw [e4]
        generalize 2^k=p at *
        generalize hq:m/p=q at *
        have:(-((m+1:Nat):Int))=((p-1-m%p:Nat):Int)+((p:Nat):Int)*(-((q+1:Nat):Int)):=by
          have e5:((p:Nat):Int)*(-((q+1:Nat):Int)) = -(((p*q:Nat):Int)+(p:Int)):=by
            rw [Int.mul_neg];push_cast;rw [Int.mul_add,Int.mul_one]
          rw [e5];omega
        rw [this,Int.add_mul_ediv_left _ _ (by omega),Int.ediv_eq_zero_of_lt (by omega) (by omega)]
        omega
      have hq:m/2^k≤m:=Nat.div_le_self m (2^k)
      have hr:=right_t (a:=m) (n:=k) (by omega) (by have:=W_len_mono (show m≤m+1 by omega);omega)
      rw [decide_eq_true hz,cT,e3]
      simp only [Option.bind_some]
      rw [e1,sub_t (by omega) (by omega),Option.bind_some,Nat.add_sub_cancel,hr,Option.bind_some]
      generalize m/2^k=q at *
      rw [add_t (by have:=W_len_mono (show q≤m+1 by omega);omega) (by rw [← e1];simp),Option.bind_some,W_some,Int.natAbs_neg,Int.natAbs_natCast,decide_eq_true (show q+1≠0 by omega),decide_eq_true (show -((q+1:Nat):Int)<0 by omega)]
      rfl
    · obtain ⟨m,rfl⟩:∃ m:Nat,z=(m:Int):=⟨z.toNat,by omega⟩
      rw [decide_eq_false hz,cF,Int.natAbs_natCast,right_t (by omega) (by rw [Int.natAbs_natCast] at hl;omega),Option.bind_some,Option.bind_some,Bool.false_and,fdn,Int.natAbs_natCast,decide_eq_false (Int.not_lt.2 (Int.natCast_nonneg _))]
  · cases h
section
variable {N:Nums} {P:Program} (H:AllOk N P) {w0 w:World} {L:List It}
include H
theorem big_RshF_zz {r:Nat} {a:Option Addr} {n c:Nat} {z v:Int}  {q:Int} {K:Value→World→Prop} (hS:Ho w0 w (bg N.t_bn_Int N.t_uint32 r a n c z::L))  (h:bigRshF z q=some v) (hK:∀ (a1:Option Addr) (n1 c1:Nat) (w1:World),Ho w0 w1 (bg N.t_bn_Int N.t_uint32 r a1 n1 c1 v::L)→K (.pointer (some ⟨r,0,none⟩)) w1):CallsX P N.f_bI_Rsh #[.pointer (some ⟨r,0,none⟩),.pointer (some ⟨r,0,none⟩),.int .u64 q] w K:=
  wk_bI_Rsh_zz H hS.bgOpen (Ent.sl mp0) (rshF_w h) fun a1 n1 c1 w1 h1=>hK a1 n1 c1 w1 (Ho.bgShut h1.drop3 rfl rfl)
theorem big_Quo_zzy {r:Nat} {a:Option Addr} {n c:Nat} {z v:Int} {ry:Nat} {ay:Option Addr} {ny cy:Nat} {y:Int} {K:Value→World→Prop} (hS:Ho w0 w (bg N.t_bn_Int N.t_uint32 r a n c z::L)) (hy:Ent L (bgR N.t_bn_Int ry ay ny cy y)) (h:bigQuo z y=some v) (hK:∀ (a1:Option Addr) (n1 c1:Nat) (w1:World),Ho w0 w1 (bg N.t_bn_Int N.t_uint32 r a1 n1 c1 v::L)→K (.pointer (some ⟨r,0,none⟩)) w1):CallsX P N.f_bI_Quo #[.pointer (some ⟨r,0,none⟩),.pointer (some ⟨r,0,none⟩),.pointer (some ⟨ry,0,none⟩)] w K:=by
  unfold bigQuo at h
  split at h
  · cases h
  rename_i hy0
  obtain ⟨h1,h⟩:=bind_ok h
  obtain ⟨h2,h⟩:=bind_ok h
  obtain rfl:=Option.some.inj h
  have hd:T_bn_div (W z.natAbs) (W y.natAbs)=some (W (z.natAbs/y.natAbs),W (z.natAbs%y.natAbs)):=div_t (by omega) (ok_len h1) (ok_len h2)
  refine H.bI_Quo _ _ _ w _ ?_
  unfold S_bI_Quo
  refine newM_s hS ?_
  clear hS;intro r1 w hS
  refine H.bI_QuoRem _ _ _ _ w _ ?_
  unfold S_bI_QuoRem
  have hz:=Ent.bg (L:=cl r1 [.bool false,.slice none 0 0] N.t_bn_Int::bg N.t_bn_Int N.t_uint32 r a n c z::L) mp1
  have hy':=hy.mono (L':=cl r1 [.bool false,.slice none 0 0] N.t_bn_Int::bg N.t_bn_Int N.t_uint32 r a n c z::L) tl2
  refine optM_s ?_
  refine ⟨_,hz.bgS.cel (i:=0) (fun _ h=>h) hS rfl,?_⟩
  refine optM_s ?_
  refine ⟨_,hy'.bgS.cel (i:=0) (fun _ h=>h) hS rfl,?_⟩
  refine drM_s hS ?_;clear hS;intro w hS
  refine optM_s ?_
  refine ⟨_,_,_,hz.bgS.cel (i:=1) (fun _ h=>h) hS rfl,?_⟩
  refine optM_s ?_
  refine ⟨_,_,_,hy'.bgS.cel (i:=1) (fun _ h=>h) hS rfl,?_⟩
  refine drM_s hS ?_;clear hS;intro w hS
  refine wk_bn_div H hS hz.bgW hy'.bgW hd ?_
  clear hS;intro qa qn qc ta tn tc w hS
  refine ⟨_,_,_,_,_,_,rfl,?_⟩
  refine drM_s hS ?_;clear hS;intro w hS
  -- the quotient
  replace hS:=hS.pick (A:=[_,_,_,_]) [3,0,0,0] rfl
  replace hS:=hS.bgOpen
  refine give_c H hS (Ent.sl mp2) ?_
  clear hS;intro w hS
  refine ⟨_,rfl,?_⟩
  -- the rest
  replace hS:=hS.pick (A:=[_,_,_,_,_]) [4,0,0,0,0] rfl
  refine give_c H hS (Ent.sl mp4) ?_
  clear hS;intro w hS
  refine ⟨_,rfl,?_⟩
  refine ⟨_,_,rfl,?_⟩
  have hS2:=hS.pick (A:=[_,_,_,_,_]) [1,2] rfl
  refine hK qa qn qc w (Ho.bgShut hS2 ?_ ?_)
  · rw [W_some]
    by_cases hq:z.natAbs/y.natAbs=0
    · rw [hq,decide_eq_false (show ¬ (0≠0) by simp),Bool.and_false]
      have:z.tdiv y=0:=by
        have h3:(z.tdiv y).natAbs=z.natAbs/y.natAbs:=Int.natAbs_tdiv z y
        omega
      rw [this];rfl
    · rw [decide_eq_true hq,Bool.and_true]
      have hyn:0<y.natAbs:=by omega
      have hle:y.natAbs≤z.natAbs:=by
        rcases Nat.lt_or_ge z.natAbs y.natAbs with k | k
        · exact absurd (Nat.div_eq_of_lt k) hq
        · exact k
      have key:∀ (s t:Bool) (p q:Nat),0<p→0<q→0<p/q→(!(decide (sgZ s p<0)==decide (sgZ t q<0)))=decide ((sgZ s p).tdiv (sgZ t q)<0):=by
        intro s t p q hp hq hpq
        have e0:((p:Int)).tdiv (q:Int)=((p/q:Nat):Int):=rfl
        cases s<;>cases t<;>unfold sgZ<;>simp only [if_true,Bool.false_eq_true,if_false,Int.neg_tdiv,Int.tdiv_neg,e0]
        · rw [decide_eq_false (by omega),decide_eq_false (by omega),decide_eq_false (by omega)];rfl
        · rw [decide_eq_false (by omega),decide_eq_true (by omega),decide_eq_true (by omega)];rfl
        · rw [decide_eq_true (by omega),decide_eq_false (by omega),decide_eq_true (by omega)];rfl
        · rw [decide_eq_true (by omega),decide_eq_true (by omega),decide_eq_false (by omega)];rfl
      have:=key (decide (z<0)) (decide (y<0)) z.natAbs y.natAbs (by omega) hyn (Nat.pos_of_ne_zero hq)
      rw [sg_of,sg_of] at this
      exact this
  · have h3:(z.tdiv y).natAbs=z.natAbs/y.natAbs:=Int.natAbs_tdiv z y
    rw [h3]
end
end Go.Eng
