/-
 Each function comes to what its function of plain Lean says, printed by a program of the session; with contracts written by hand at the head. No condition.
-/
import Derived.Test.YtgbilchfljlbeaaGreatDoorTp
import Derived.Test.YtgbilchfljlbeaaGreatDoorSh
import Derived.Test.YtgbilchfljlbeaaGreatDoorTw4
import Derived.Test.YtgbilchfljlbeaaGreatDoorBgW
import Derived.Test.YtgbilchfljlbeaaGreatDoorBitC
set_option linter.all false
set_option maxRecDepth 100000
set_option maxHeartbeats 4000000
namespace Go.Eng
open Go
open Go.IntKind (i64 u64 u32 u8)
section
variable {N:Nums} {P:Program} (H:AllOk N P)
include H
theorem Dg2 (x:Nat) (w:World):Aa1 P N.Hu7 #[.float .f64 x] w fun v w'=>v = .int .u64 x∧St w w' []:=
 H.math_Float64bits x w _ ⟨rfl,St.refl _⟩
theorem Hq3 (x:Nat) (w:World):Aa1 P N.Ig0 #[.float .f64 x] w fun v w'=>v = .float .f64 (Ab2 x)∧St w w' []:=by
 refine H.math_Abs x w _ ?_
 unfold Dq5
 refine (Dg2 H x w).mono ?_
 rintro _ w1 ⟨rfl,h1⟩
 refine ⟨_,rfl,?_⟩
 refine H.math_Float64frombits _ w1 _ ?_
 rw [Fj6]
 exact ⟨_,rfl,rfl,h1⟩
theorem Ga3 (x:Nat) (w:World):Aa1 P N.Hw6 #[.float .f64 x] w fun v w'=>v = .bool (Ae3 x)∧St w w' []:=by
 refine H.math_Signbit x w _ ?_
 unfold Ca7
 refine (Dg2 H x w).mono ?_
 rintro _ w1 ⟨rfl,h1⟩
 exact ⟨_,rfl,by rw [Ga5],h1⟩
theorem Fp2 (x y:Nat) (w:World):Aa1 P N.Hv4 #[.float .f64 x,.float .f64 y] w fun v w'=>v = .float .f64 ((if Ae3 y then 9223372036854775808 else 0)+Ab2 x)∧St w w' []:=by
 refine H.math_Copysign x y w _ ?_
 unfold Bt7
 refine (Dg2 H x w).mono ?_
 rintro _ w1 ⟨rfl,h1⟩
 refine ⟨_,rfl,?_⟩
 refine (Dg2 H y w1).mono ?_
 rintro _ w2 ⟨rfl,h2⟩
 refine ⟨_,rfl,?_⟩
 refine H.math_Float64frombits _ w2 _ ?_
 rw [Fy7]
 exact ⟨_,rfl,rfl,h1.next h2⟩
theorem Gr8 (i:Nat) (hi:i<1000) (w:World):Aa1 P N.Il3 #[.int .i64 1,.int .i64 i] w fun v w'=>v = .int .i64 (8000024+(i:Int))∧St w w' []:=by
 refine H.k_mark 1 i w _ ?_
 unfold Fk9
 refine ⟨?_,St.refl _⟩
 congr 1
 have h1:i64.wrap (1+7)=8:=by decide
 have h2:i64.wrap (1000003*8)=8000024:=by decide
 rw [h1,h2,wrI (by omega) (by omega)]
theorem Fd0 {w:World} {a:OA} {n c:Nat} {l:List Nat} (hA:Reals w a n c l) (hn:n≤4294967000) :
  Aa1 P N.Hy1 #[.slice a n c] w fun v w'=>∃ (r:Nat) (M:List (Nat×Array Value×Nat)),v = .slice (some ⟨r,0,none⟩) n (n+12)∧St w w' M∧(r,Fq6 (l++Bf3),N.Ii0)∈M:=by
 refine H.k_LentReals a n c w _ ?_
 unfold Ce9
 have hS:=St.refl w
 have hw:i64.wrap ((n:Int)+12)=((n+12:Nat):Int):=by rw [← wrN (n:=n+12) (by omega)];rfl
 rw [hw,Int.toNat_natCast]
 refine Hr6 (l:=0) hS rfl rfl (by omega) (by omega) (by omega) fun r w1 hS=>?_
 have hln:=hA.len
 refine Gq6 (L:=[]) (l:=[]) (z:=List.replicate (n+12) (.float .f64 0)) (k:=l.map (Value.float .f64)) hS rfl (by simp) (by simpa using hln) (by simp) (by intro v hv;simp at hv;obtain ⟨x,_,rfl⟩:=hv;rfl) (hA.keep hS).row fun w2 hS=>?_
 refine Ab0 (fun s w'=>s.1=(some ⟨r,0,none⟩,n+12,n+12)∧St w w' [(r,Fq6 (l++Bf3),N.Ii0)]) (fun J hJ=>?_) ?_
 ·
  refine Fv3 (fun s w'=>∃ k:Nat,k≤12∧s.2.1=(k:Int)∧s.1=(some ⟨r,0,none⟩,n+k,n+12)∧St w w' [(r,Fq6 (l++(List.range k).map Cc8++List.replicate (12-k) 0),N.Ii0)]) (fun s=>12-s.2.1.toNat) ⟨0,by omega,rfl,by simp,?_⟩ ?_
  ·
   have e:Fq6 (l++(List.range 0).map Cc8++List.replicate (12-0) 0)=([]++l.map (Value.float .f64)++(List.replicate (n+12) (Value.float .f64 0)).drop n).toArray:=by
    simp [Fq6]
   rw [e];exact hS
  ·
   rintro ⟨s,i,u⟩ w3 X ⟨k,hk,hi,hs,hS⟩ hX
   dsimp only at hi hs
   subst hi;subst hs
   refine Br4 (fun hb=>?_) (fun hb=>?_)
   ·
    have hlt:k<12:=by simp at hb;omega
    refine (Gr8 H k (by omega) w3).mono ?_
    rintro _ w4 ⟨rfl,h4⟩
    replace hS:=(hS.next h4)
    refine ⟨_,rfl,?_⟩
    refine Hd0 hS fun q w5 hS=>?_
    have hq:Do0 w5 (some ⟨q,0,none⟩) [Value.float .f64 (Cc8 k)]:=by
     intro i hi
     simp at hi;subst hi
     rw [Da5,hS.get (List.mem_cons_self ..)];rfl
    replace hS:=hS.forget (M:=[_])
    dsimp only
    refine Gq6 (L:=[]) (l:=(l++(List.range k).map Cc8).map (Value.float .f64)) (z:=List.replicate (12-k) (.float .f64 0)) (k:=[.float .f64 (Cc8 k)]) (by
     have e:Fq6 (l++(List.range k).map Cc8++List.replicate (12-k) 0)=((l++(List.range k).map Cc8).map (Value.float .f64)++List.replicate (12-k) (Value.float .f64 0)).toArray:=by simp [Fq6]
     rw [← e];exact hS) (by simp [hln]) (by simp [hln];omega) rfl (by simp;omega) (by intro v hv;simp at hv;subst hv;rfl) hq fun w6 hS=>?_
    have hw:i64.wrap ((k:Int)+1)=((k+1:Nat):Int):=by rw [← wrN (n:=k+1) (by omega)];rfl
    refine hX _ _ ⟨k+1,by omega,hw,rfl,?_⟩ (by dsimp only;rw [hw];omega)
    have e:Fq6 (l++(List.range (k+1)).map Cc8++List.replicate (12-(k+1)) 0)=((l++(List.range k).map Cc8).map (Value.float .f64) ++ [Value.float .f64 (Cc8 k)]++(List.replicate (12-k) (Value.float .f64 0)).drop 1).toArray:=by
     simp [Fq6,List.range_succ,Nat.sub_sub]
    rw [e];exact hS
   ·
    have hk:k=12:=by simp at hb;omega
    subst hk
    refine hJ _ _ ⟨rfl,?_⟩
    simpa [Bf3] using hS
 ·
  rintro ⟨s,u⟩ w3 ⟨hs,hS⟩
  dsimp only at hs
  subst hs
  refine ⟨by omega,by dsimp only;omega,?_⟩
  rw [Ex1]
  exact ⟨r,_,rfl,hS,List.mem_singleton.2 rfl⟩
theorem Gi6 (x:Nat) (w:World):Aa1 P N.Ia0 #[.float .f64 x] w fun v w'=>∃ b,v = .tuple #[.bool b,.int .i64 (Cw1 x),.int .u64 (Bk2 x)]∧St w w' []:=by
 refine H.r01_fields x w _ ?_
 unfold Br9
 refine (Dg2 H x w).mono ?_
 rintro _ w1 ⟨rfl,h1⟩
 have e1:((x:Int).tmod 4503599627370496)=(Bk2 x:Int):=by unfold Bk2;rw [Int.tmod_eq_emod_of_nonneg (by omega)];omega
 have e2:i64.wrap ((u64.wrap ((x:Int).tdiv 4503599627370496)).tmod 2048)=(Cw1 x:Int):=by
  have h2:(x:Int).tdiv 4503599627370496=((x/4503599627370496:Nat):Int):=by rw [Int.tdiv_eq_ediv_of_nonneg (by omega)];omega
  have h3:u64.wrap ((x/4503599627370496:Nat):Int)=((x/4503599627370496%18446744073709551616:Nat):Int):=by
   simp only [IntKind.wrap,IntKind.bits,IntKind.signed];simp
  rw [h2,h3,Int.tmod_eq_emod_of_nonneg (by omega)]
  have h4:((x/4503599627370496%18446744073709551616:Nat):Int)%2048=((Cw1 x:Nat):Int):=by unfold Cw1;omega
  rw [h4,wrN (by unfold Cw1;omega)]
 refine ⟨_,rfl,by omega,by omega,by omega,by omega,?_⟩
 rw [e1,e2]
 exact ⟨_,rfl,h1⟩
theorem Hk4 (x:Nat) (w:World):Aa1 P N.Ig3 #[.float .f64 x] w fun v w'=>v = .int .i64 (if Cw1 x=2047 then (if Bk2 x=0 then 3 else 4) else if Cw1 x=0 then (if Bk2 x=0 then 0 else 1) else 2)∧St w w' []:=by
 refine H.r01_Kind x w _ ?_
 unfold Dr2
 refine (Gi6 H x w).mono ?_
 rintro _ w1 ⟨b,rfl,h1⟩
 refine ⟨_,_,_,rfl,?_⟩
 by_cases h2:Cw1 x=2047
 ·
  by_cases h3:Bk2 x=0
  ·
   simp [h2,h3,h1]
  ·
   simp [h2,h3,h1,bne]
 ·
  have e2:(((Cw1 x:Nat):Int)==2047)=false:=by simp;omega
  by_cases h4:Cw1 x=0
  ·
   by_cases h3:Bk2 x=0
   ·
    simp [h4,h3,h1]
   ·
    simp [h4,h3,h1,bne]
  ·
   have:0<Cw1 x:=by omega
   simp [h2,h4,h1,e2,this]
theorem Cz6 (x y:Nat) (w:World):Aa1 P N.Hx1 #[.float .f64 x,.float .f64 y] w fun v w'=>v = .bool (nf x==nf y)∧St w w' []:=by
 refine H.k_SameFloat x y w _ ?_
 unfold Ch2
 refine (Dg2 H x w).mono ?_
 rintro _ w1 ⟨rfl,h1⟩
 refine ⟨_,rfl,?_⟩
 refine (Dg2 H y w1).mono ?_
 rintro _ w2 ⟨rfl,h2⟩
 refine ⟨_,rfl,?_⟩
 have hS:=h1.next h2
 have hxy:((x:Int)==(y:Int))=(x==y):=by rw [Bool.eq_iff_iff];simp;omega
 rw [Ga2,hxy,Bw0,Bw0]
 cases x==y<;>cases isNaN x<;>exact ⟨by simp,hS⟩
theorem Ex8 {w:World} {a b:OA} {n d:Nat} {l:List Nat} (hA:Reals w a (n+12) (n+12) (l++Bf3)) (hB:Reals w b n d l) (hn:n≤4294967000) :
  Aa1 P N.Hy2 #[.slice a n (n+12),.slice b n d] w fun v w'=>v = .bool true∧St w w' []:=by
 refine H.k_KeptReals a n (n+12) b n d w _ ?_
 unfold Ch5
 refine Br4 (fun h=>by simp at h) (fun _=>?_)
 have hw:i64.wrap ((n:Int)+12)=((n+12:Nat):Int):=by rw [← wrN (n:=n+12) (by omega)];rfl
 rw [hw,Int.toNat_natCast]
 have hlen:=hB.len
 refine ⟨by omega,by omega,?_⟩
 refine Ab0 (fun s w'=>St w w' []) (fun J hJ=>?_) (fun s w' h=>⟨rfl,h⟩)
 refine Fv3 (fun s w'=>∃ k:Nat,k≤n+12∧s.1=(k:Int)∧St w w' []) (fun s=>n+12-s.1.toNat) ⟨0,by omega,rfl,St.refl w⟩ ?_
 rintro ⟨i,u⟩ w1 X ⟨k,hk,hi,hS⟩ hX
 dsimp only at hi
 subst hi
 have step:∀ w',St w w' []→k<n+12→X (i64.wrap ((k:Int)+1),u) w':=fun w' h' hlt=>by
  have hw:i64.wrap ((k:Int)+1)=((k+1:Nat):Int):=by rw [← wrN (n:=k+1) (by omega)];rfl
  exact hX _ _ ⟨k+1,by omega,hw,h'⟩ (by dsimp only;rw [hw];omega)
 rw [Ex1]
 refine Br4 (fun hb=>?_) (fun _=>hJ _ _ hS)
 have hlt:k<n+12:=by simp at hb;omega
 refine Br4 (fun hb=>?_) (fun hb=>?_)
 ·
  have hkn:k<n:=by simp at hb;omega
  refine ⟨by omega,by dsimp only;omega,(hA.keep hS).read (i:=k) (by omega) fun x hx=>⟨_,by rw [Int.toNat_natCast,Nat.mul_one];exact hx,?_⟩⟩
  refine ⟨by omega,by dsimp only;omega,(hB.keep hS).read (i:=k) (by omega) fun y hy=>⟨_,by rw [Int.toNat_natCast,Nat.mul_one];exact hy,?_⟩⟩
  refine Fr1 hS fun w2 hS=>?_
  refine (Cz6 H _ _ _).mono ?_
  rintro _ w3 ⟨rfl,h3⟩
  replace hS:=hS.next h3
  refine ⟨_,rfl,?_⟩
  have e:(l++Bf3).getD k 0=l.getD k 0:=by
   simp [List.getElem?_append_left (show k<l.length by omega)]
  refine Br4 (fun _=>?_) (fun h=>by rw [e] at h;simp at h)
  refine Br4 (fun h=>by simp at h;omega) (fun _=>?_)
  exact Fr1 hS fun w4 hS=>Fr1 hS fun w5 hS=>step _ hS hlt
 ·
  have hkn:n≤k:=by simp at hb;omega
  refine Fr1 hS fun w2 hS=>?_
  refine Br4 (fun h=>?_) (fun h=>by simp at h;omega)
  obtain ⟨x,rfl,hx⟩:=hA.at_ k (by simp [Bf3];omega)
  refine ⟨by omega,by dsimp only;omega,Cn6 rfl ⟨_,by rw [Int.toNat_natCast,Nat.mul_one];exact hS.cell hx,?_⟩⟩
  refine Fr1 hS fun w3 hS=>?_
  have hs:i64.wrap ((k:Int)-(n:Int))=((k-n:Nat):Int):=by rw [wrI (by omega) (by omega)];omega
  dsimp only
  rw [hs]
  refine (Gr8 H (k-n) (by omega) w3).mono ?_
  rintro _ w4 ⟨rfl,h4⟩
  replace hS:=hS.next h4
  refine ⟨_,rfl,by rw [Int.toNat_natCast,Nat.mul_one];exact hS.cell hx,?_⟩
  refine Fr1 hS fun w5 hS=>?_
  have e:(l++Bf3).getD k 0=Cc8 (k-n):=by
   simp [List.getElem?_append_right (show l.length≤k by omega),hlen,Bf3,show k-n<12 by omega]
  refine Br4 (fun h=>?_) (fun _=>step _ hS hlt)
  rw [e] at h
  have:=Fs4 (k-n) (by omega)
  unfold Cc8 at h this
  rw [this] at h
  simp at h
end
variable {N:Nums} {P:Program} (H:AllOk N P) {w0 w:World} {L:List It} {K:KV}
include H
theorem Ft1  {u0 u1 u2 u3 u4 u5} (hS:Ho w0 w L)  (h:Dh0  = some (u0,u1,u2,u3,u4,u5)) (hK:∀ (a2:OA) (n2 c2:Nat) (rws2:List Nat) (a4:OA) (n4 c4:Nat) (rws4:List Nat) (a5:OA) (n5 c5:Nat) (rws5:List Nat) (w1:World),List.map nf rws2=u2→List.map nf rws4=u4→List.map nf rws5=u5→Ho w0 w1 ((sl a2 n2 c2 (List.map (Value.float .f64) rws2) N.Ii0)::(sl a4 n4 c4 (List.map (Value.float .f64) rws4) N.Ii0)::(sl a5 n5 c5 (List.map (Value.float .f64) rws5) N.Ii0)::L)→K (.tuple #[.agg #[.int .i64 u0,.int .i64 u1,.slice a2 n2 c2],.agg #[.int .i64 u3,.slice a4 n4 c4,.slice a5 n5 c5]]) w1):Aa1 P N.Ij0 #[] w K:=by
 refine H.w14_two  w _ ?_
 unfold Er6
 unfold Dh0 at h
 try dsimp only
 refine Aa9 hS ?_;intro r1 w hS
 refine Aa9 hS ?_;intro r2 w hS
 obtain ⟨t1,ht1,h⟩:=bnd h
 obtain rfl:(List.map nf ([4616189618054758400,4607182418800017408,4607182418800017408,4613937818241073152]:List Nat))=t1:=Aa0 ht1
 refine Ap0 (ks:=[4616189618054758400,4607182418800017408,4607182418800017408,4613937818241073152]) (enc:=(Value.float .f64)) (m:=4) hS rfl rfl ?_;intro r3 w hS
 obtain ⟨t2,ht2,h⟩:=bnd h
 obtain rfl:(List.map nf ([4598175219545276416]:List Nat))=t2:=Aa0 ht2
 refine Ap0 (ks:=[4598175219545276416]) (enc:=(Value.float .f64)) (m:=1) hS rfl rfl ?_;intro r4 w hS
 obtain ⟨t3,ht3,h⟩:=bnd h
 obtain rfl:(List.map nf ([4616189618054758400,4613374868287651840]:List Nat))=t3:=Aa0 ht3
 refine Ap0 (ks:=[4616189618054758400,4613374868287651840]) (enc:=(Value.float .f64)) (m:=2) hS rfl rfl ?_;intro r5 w hS
 replace hS:=ro4 hS
 refine Aa4 hS rfl rfl ?_;intro w hS
 refine Aa4 hS rfl rfl ?_;intro w hS
 refine Aa4 hS rfl rfl ?_;intro w hS
 replace hS:=ro4 hS
 refine Aa4 hS rfl rfl ?_;intro w hS
 refine Aa4 hS rfl rfl ?_;intro w hS
 refine Aa4 hS rfl rfl ?_;intro w hS
 refine ⟨_,hS.cel mp1 rfl,_,hS.cel mp1 rfl,_,_,_,hS.cel mp1 rfl,_,hS.cel mp0 rfl,_,_,_,hS.cel mp0 rfl,_,_,_,hS.cel mp0 rfl,?_⟩
 cases Aa0 h
 exact hK _ _ _ _ _ _ _ _ _ _ _ _ _ rfl rfl rfl (hS.pick (A:=[_,_,_,_,_]) [4,3,2] rfl)
theorem Cb5 {q0 u0} (hS:Ho w0 w L)  (h:As4 q0=some u0) (hK:∀ w1,Ho w0 w1 L→K (.bool u0) w1):Aa1 P N.Hz0 #[.int .i64 q0] w K:=by
 refine H.matrix_fits q0 w _ ?_
 unfold Cg7
 unfold As4 at h
 try dsimp only
 refine Aa2 h ?_ ?_<;>intro hc h
 ·
  cases Aa0 h
  exact hK _ hS
 cases Aa0 h
 exact hK _ hS
theorem Bs1 {qb qc qd qa qf qr u0} (hS:Ho w0 w L) (qp:EF L qr qd qa qf) (h:Ap7 qb qc (List.map nf qr)=some u0) (hK:∀ w1,Ho w0 w1 L→K (.bool u0) w1):Aa1 P N.Hv9 #[.agg #[.int .i64 qb,.int .i64 qc,.slice qd qa qf]] w K:=by
 refine H.matrix_Right qb qc qd qa qf w _ ?_
 unfold By2
 unfold Ap7 at h
 try dsimp only
 refine Aa9 hS ?_;intro r1 w hS
 refine ⟨_,hS.cel mp0 rfl,?_⟩
 obtain ⟨t1,ht1,h⟩:=bnd h
 refine Cb5 H hS  ht1 ?_;rintro w hS
 refine ⟨_,rfl,?_⟩
 refine Aa2 h ?_ ?_<;>intro hc h
 ·
  refine ⟨_,hS.cel mp0 rfl,?_⟩
  obtain ⟨t2,ht2,h⟩:=bnd h
  refine Cb5 H hS  ht2 ?_;rintro w hS
  refine ⟨_,rfl,?_⟩
  refine Aa2 h ?_ ?_<;>intro hc h
  ·
   refine ⟨_,_,_,hS.cel mp0 rfl,?_⟩
   obtain ⟨t3,ht3,h⟩:=bnd h
   obtain rfl:=Bd5 ht3 ((qp.mono tl1).now (fun _ h=>h) hS)
   refine ⟨_,hS.cel mp0 rfl,_,hS.cel mp0 rfl,?_⟩
   cases Aa0 h
   exact hK _ (hS.pick (A:=[_]) [] rfl)
  cases Aa0 h
  exact hK _ (hS.pick (A:=[_]) [] rfl)
 cases Aa0 h
 exact hK _ (hS.pick (A:=[_]) [] rfl)
theorem Cj3 {qb qc qd qa qf qr q1 qo qu vk q2 qy vf vx u0} (hS:Ho w0 w L) (qp:EF L qr qd qa qf) (ve:EF L vk q1 qo qu) (vw:EF L vx q2 qy vf) (h:Aw6 qb qc (List.map nf qr) (List.map nf vk) (List.map nf vx)=some u0) (hK:∀ w1,Ho w0 w1 L→K (.bool u0) w1):Aa1 P N.Ic2 #[.agg #[.int .i64 qb,.int .i64 qc,.slice qd qa qf],.slice q1 qo qu,.slice q2 qy vf] w K:=by
 refine H.refine_fit qb qc qd qa qf q1 qo qu q2 qy vf w _ ?_
 unfold Cq4
 unfold Aw6 at h
 try dsimp only
 refine Aa9 hS ?_;intro r1 w hS
 refine ⟨_,hS.cel mp0 rfl,_,hS.cel mp0 rfl,_,_,_,hS.cel mp0 rfl,?_⟩
 obtain ⟨t1,ht1,h⟩:=bnd h
 refine Bs1 H hS (qp.mono tl1) ht1 ?_;rintro w hS
 refine ⟨_,rfl,?_⟩
 refine Aa2 h ?_ ?_<;>intro hc h
 ·
  obtain ⟨t2,ht2,h⟩:=bnd h
  obtain rfl:=Bd5 ht2 ((ve.mono tl1).now (fun _ h=>h) hS)
  refine ⟨_,hS.cel mp0 rfl,?_⟩
  refine Aa2 h ?_ ?_<;>intro hc h
  ·
   obtain ⟨t3,ht3,h⟩:=bnd h
   obtain rfl:=Bd5 ht3 ((vw.mono tl1).now (fun _ h=>h) hS)
   refine ⟨_,hS.cel mp0 rfl,?_⟩
   cases Aa0 h
   exact hK _ (hS.pick (A:=[_]) [] rfl)
  cases Aa0 h
  exact hK _ (hS.pick (A:=[_]) [] rfl)
 cases Aa0 h
 exact hK _ (hS.pick (A:=[_]) [] rfl)
theorem Ao8 {q0 qj qm} {H0:List Hd} {X0:List (List Nat)} {u0} (hS:Ho w0 w L) (qw:Ent L (rdA (List.map hdV H0) q0 qj qm)) (gq0:Alls L (Value.float .f64) X0 H0) (h:Af8 (List.map (List.map nf) X0)=some u0) (hK:∀ w1,Ho w0 w1 L→K (.bool u0) w1):Aa1 P N.Hv3 #[.slice q0 qj qm] w K:=by
 refine H.refine_finite q0 qj qm w _ ?_
 unfold Bt6
 unfold Af8 at h
 try dsimp only
 obtain ⟨t1,ht1,h⟩:=bnd h
 obtain rfl:=Hn2 (enc:=(Value.float .f64)) ht1 gq0 (qw.now (fun _ h=>h) hS)
 obtain ⟨o1,h1,c1⟩:=bnd h
 refine Ab0 (fun s w =>  .inl ()=o1∧s=(())∧Ho w0 w L) (fun J1 hJ1=>?_) ?_
 ·
  have h:=h1
  clear h1
  refine Ab6 (fun s w t=>∃ (t2:Int),t2=t∧s=(t2,())∧Ho w0 w L) ?_ h ⟨_,rfl,rfl,hS⟩
  clear h hS
  rintro s w t X q ⟨t2,rfl,rfl,hS⟩ h hX hO
  unfold Aq4 at h
  try dsimp only
  refine Aa2 h ?_ ?_<;>intro hc h
  ·
   obtain ⟨t3,ht3,h⟩:=bnd h
   obtain ⟨lq2,gq2,rfl,q2x,qy,q2r,q2e⟩:=Alls.atF (L:=L) (enc:=(Value.float .f64)) (X:=X0) (H:=H0) gq0 ht3
   refine Ac7 (qw.now (fun _ h=>h) hS) q2x qy q2r ?_;intro b3 hb3
   refine ⟨_,_,_,Hb7 (qw.now (fun _ h=>h) hS) hb3 q2x,?_⟩
   obtain ⟨t4,ht4,h⟩:=bnd h
   obtain rfl:=Bd5 ht4 ((q2e.mono Di0).now (fun _ h=>h) hS)
   obtain ⟨o4,h4,c4⟩:=bnd h
   refine Ab0 (fun s w =>  .inl ()=o4∧s=(())∧Ho w0 w L) (fun J4 hJ4=>?_) ?_
   ·
    have h:=h4
    clear h4
    refine Ab6 (fun s w t=>∃ (t5:Int),t5=t∧s=(t5,())∧Ho w0 w L) ?_ h ⟨_,rfl,rfl,hS⟩
    clear h hS
    rintro s w t X q ⟨t5,rfl,rfl,hS⟩ h hX hO
    unfold Am1 at h
    try dsimp only
    refine Aa2 h ?_ ?_<;>intro hc h
    ·
     obtain ⟨t6,ht6,h⟩:=bnd h
     obtain ⟨z5,rfl,q6x,yh,q6r⟩:=atF ht6
     refine Ac7 ((q2e.mono Di0).now (fun _ h=>h) hS) q6x yh q6r ?_;intro b7 hb7
     refine ⟨_,Ab4 ((q2e.mono Di0).now (fun _ h=>h) hS) hb7 q6x,?_⟩
     obtain ⟨t7,ht7,h⟩:=bnd h
     refine Bs5 ht7 hS ?_;rintro z8 w rfl hS
     obtain ⟨t8,ht8,h⟩:=bnd h
     obtain rfl:=Dp6 ht8
     refine Aa2 h ?_ ?_<;>intro hc h
     ·
      obtain rfl:=Aa0 h
      have h:=congrArg some (hO _ rfl)
      obtain rfl:=Aa0 h
      have h:=c4
      obtain rfl:=Aa0 h
      have h:=congrArg some (hO _ rfl)
      obtain rfl:=Aa0 h
      have h:=c1
      cases Aa0 h
      exact hK _ hS
     obtain rfl:=Aa0 h
     exact hX _ rfl _ _ ⟨_,rfl,rfl,hS⟩
    obtain rfl:=Aa0 h
    have h:=congrArg some (hO _ rfl)
    exact hJ4 _ _ ⟨Aa0 h,rfl,hS⟩
   clear h4 hS
   rintro s w ⟨rfl,rfl,hS⟩
   have h:=c4
   clear c4
   try dsimp only
   obtain rfl:=Aa0 h
   exact hX _ rfl _ _ ⟨_,rfl,rfl,hS⟩
  obtain rfl:=Aa0 h
  have h:=congrArg some (hO _ rfl)
  exact hJ1 _ _ ⟨Aa0 h,rfl,hS⟩
 clear h1 hS
 rintro s w ⟨rfl,rfl,hS⟩
 have h:=c1
 clear c1
 try dsimp only
 cases Aa0 h
 exact hK _ hS
theorem Be4 {q0 u0} (hS:Ho w0 w L)  (h:Af3 (nf q0)=some u0) (hK:∀ w1,Ho w0 w1 L→K (.bool u0) w1):Aa1 P N.Hz8 #[.float .f64 q0] w K:=by
 refine H.math_IsNaN q0 w _ ?_
 unfold Cr3
 unfold Af3 at h
 try dsimp only
 obtain ⟨t1,ht1,h⟩:=bnd h
 obtain rfl:=Dp6 ht1
 cases Aa0 h
 exact hK _ hS
theorem Af2 {q0 u0} (hS:Ho w0 w L)  (hx:Ac4 (nf q0)=some u0) (hK:∀ w1,Ho w0 w1 L→K (.int .u64 u0) w1):Aa1 P N.Hu7 #[.float .f64 q0] w K:=by
 unfold Ac4 at hx
 have hn:isNaN q0=false:=by
  cases e:isNaN q0 with
  | false=>rfl
  | true=>rw [Ay3,e] at hx;cases hx
 rw [Ay3,hn,Ac3 hn] at hx
 have hx:=Aa0 hx
 subst hx
 exact H.math_Float64bits q0 w _ (hK _ hS)
theorem Ac2 {q0 u0} (hS:Ho w0 w L)  (hx:Ab1 q0=some u0) (hK:∀ (z0:Nat) (w1:World),nf z0=u0→Ho w0 w1 L→K (.float .f64 z0) w1):Aa1 P N.Hu5 #[.int .u64 q0] w K:=by
 unfold Ab1 at hx
 have hx:=Aa0 hx
 exact H.math_Float64frombits q0 w _ (hK _ _ hx hS)
theorem Aj1 {q0 u0} (hS:Ho w0 w L)  (hx:Af9 (nf q0)=some u0) (hK:∀ (z0:Nat) (w1:World),nf z0=u0→Ho w0 w1 L→K (.float .f64 z0) w1):Aa1 P N.Ig0 #[.float .f64 q0] w K:=by
 unfold Af9 at hx
 have hx:=Aa0 hx
 refine (Hq3 H q0 w).mono ?_
 rintro _ w1 ⟨rfl,h1⟩
 exact hK _ _ ((Gv8 q0).symm.trans hx) (hS.next h1)
theorem Ao6 {q0 q1 u0} (hS:Ho w0 w L)  (h:Af4 (nf q0) q1=some u0) (hK:∀ w1,Ho w0 w1 L→K (.bool u0) w1):Aa1 P N.Ia2 #[.float .f64 q0,.int .i64 q1] w K:=by
 refine H.math_IsInf q0 q1 w _ ?_
 unfold Ct4
 unfold Af4 at h
 try dsimp only
 obtain ⟨o2,h2,c2⟩:=bnd h
 refine Ab0 (fun s w=>∃ (z1:Nat),(nf z1)=o2∧s=(z1,())∧Ho w0 w L) (fun J2 hJ2=>?_) ?_
 ·
  have h:=h2
  clear h2
  refine Aa2 h ?_ ?_<;>intro hc h
  ·
   obtain ⟨t2,ht2,h⟩:=bnd h
   refine Aj1 H hS  ht2 ?_;rintro z3 w rfl hS
   refine ⟨_,rfl,?_⟩
   exact hJ2 _ _ ⟨_,Aa0 h,rfl,hS⟩
  obtain ⟨o5,h5,c5⟩:=bnd h
  refine Ab0 (fun s w=>∃ (z4:Nat),(nf z4)=o5∧s=(z4,())∧Ho w0 w L) (fun J5 hJ5=>?_) ?_
  ·
   have h:=h5
   clear h5
   refine Aa2 h ?_ ?_<;>intro hc h
   ·
    obtain ⟨t4,ht4,h⟩:=bnd h
    obtain rfl:=Em2 ht4
    exact hJ5 _ _ ⟨_,Aa0 h,rfl,hS⟩
   exact hJ5 _ _ ⟨_,Aa0 h,rfl,hS⟩
  clear h5 hS
  rintro s w ⟨z4,rfl,rfl,hS⟩
  have h:=c5
  clear c5
  try dsimp only
  exact hJ2 _ _ ⟨_,Aa0 h,rfl,hS⟩
 clear h2 hS
 rintro s w ⟨z1,rfl,rfl,hS⟩
 have h:=c2
 clear c2
 try dsimp only
 obtain ⟨t5,ht5,h⟩:=bnd h
 obtain rfl:=Ea8 ht5
 cases Aa0 h
 exact hK _ hS
theorem Ca1 {q0 qj qm vn u0} (hS:Ho w0 w L) (qw:EF L vn q0 qj qm) (h:At2 (List.map nf vn)=some u0) (hK:∀ w1,Ho w0 w1 L→K (.bool u0) w1):Aa1 P N.Hx7 #[.slice q0 qj qm] w K:=by
 refine H.sums_finite q0 qj qm w _ ?_
 unfold Ch0
 unfold At2 at h
 try dsimp only
 obtain ⟨t1,ht1,h⟩:=bnd h
 obtain rfl:=Bd5 ht1 (qw.now (fun _ h=>h) hS)
 obtain ⟨o1,h1,c1⟩:=bnd h
 refine Ab0 (fun s w =>  .inl ()=o1∧s=(())∧Ho w0 w L) (fun J1 hJ1=>?_) ?_
 ·
  have h:=h1
  clear h1
  refine Ab6 (fun s w t=>∃ (t2:Int),t2=t∧s=(t2,())∧Ho w0 w L) ?_ h ⟨_,rfl,rfl,hS⟩
  clear h hS
  rintro s w t X q ⟨t2,rfl,rfl,hS⟩ h hX hO
  unfold Av0 at h
  try dsimp only
  refine Aa2 h ?_ ?_<;>intro hc h
  ·
   obtain ⟨t3,ht3,h⟩:=bnd h
   obtain ⟨z2,rfl,q3x,vm,q3r⟩:=atF ht3
   refine Ac7 (qw.now (fun _ h=>h) hS) q3x vm q3r ?_;intro b4 hb4
   refine ⟨_,Ab4 (qw.now (fun _ h=>h) hS) hb4 q3x,?_⟩
   obtain ⟨t4,ht4,h⟩:=bnd h
   refine Be4 H hS  ht4 ?_;rintro w hS
   refine ⟨_,rfl,?_⟩
   refine Aa2 h ?_ ?_<;>intro hc h
   ·
    obtain ⟨t5,ht5,h⟩:=bnd h
    refine Ao6 H hS  ht5 ?_;rintro w hS
    refine ⟨_,rfl,?_⟩
    refine Aa2 h ?_ ?_<;>intro hc h
    ·
     obtain rfl:=Aa0 h
     have h:=congrArg some (hO _ rfl)
     obtain rfl:=Aa0 h
     have h:=c1
     cases Aa0 h
     exact hK _ hS
    obtain rfl:=Aa0 h
    exact hX _ rfl _ _ ⟨_,rfl,rfl,hS⟩
   obtain rfl:=Aa0 h
   have h:=congrArg some (hO _ rfl)
   obtain rfl:=Aa0 h
   have h:=c1
   cases Aa0 h
   exact hK _ hS
  obtain rfl:=Aa0 h
  have h:=congrArg some (hO _ rfl)
  exact hJ1 _ _ ⟨Aa0 h,rfl,hS⟩
 clear h1 hS
 rintro s w ⟨rfl,rfl,hS⟩
 have h:=c1
 clear c1
 try dsimp only
 cases Aa0 h
 exact hK _ hS
theorem Ep4 {q0 u0} (hS:Ho w0 w L)  (h:Bg1 (nf q0)=some u0) (hK:∀ w1,Ho w0 w1 L→K (.int .i64 u0) w1):Aa1 P N.If6 #[.float .f64 q0] w K:=by
 refine H.bits_Kind q0 w _ ?_
 unfold Dk6
 unfold Bg1 at h
 try dsimp only
 obtain ⟨t1,ht1,h⟩:=bnd h
 refine Aj1 H hS  ht1 ?_;rintro z1 w rfl hS
 refine ⟨_,rfl,?_⟩
 obtain ⟨t2,ht2,h⟩:=bnd h
 obtain rfl:=Dp6 ht2
 refine Aa2 h ?_ ?_<;>intro hc h
 ·
  cases Aa0 h
  exact hK _ hS
 obtain ⟨t3,ht3,h⟩:=bnd h
 refine Ao6 H hS  ht3 ?_;rintro w hS
 refine ⟨_,rfl,?_⟩
 refine Aa2 h ?_ ?_<;>intro hc h
 ·
  cases Aa0 h
  exact hK _ hS
 obtain ⟨t4,ht4,h⟩:=bnd h
 obtain rfl:=Hi8 ht4
 refine Aa2 h ?_ ?_<;>intro hc h
 ·
  cases Aa0 h
  exact hK _ hS
 obtain ⟨t5,ht5,h⟩:=bnd h
 obtain rfl:=Ea8 ht5
 refine Aa2 h ?_ ?_<;>intro hc h
 ·
  cases Aa0 h
  exact hK _ hS
 cases Aa0 h
 exact hK _ hS
theorem Af6 {q0 u0} (hS:Ho w0 w L)  (hx:Ac9 (nf q0)=some u0) (hK:∀ w1,Ho w0 w1 L→K (.bool u0) w1):Aa1 P N.Hw6 #[.float .f64 q0] w K:=by
 unfold Ac9 at hx
 have hn:isNaN q0=false:=by
  cases e:isNaN q0 with
  | false=>rfl
  | true=>rw [Ay3,e] at hx;cases hx
 rw [Ay3,hn,Ac3 hn] at hx
 have hx:=Aa0 hx
 subst hx
 refine (Ga3 H q0 w).mono ?_
 rintro _ w1 ⟨rfl,h1⟩
 exact hK _ (hS.next h1)
theorem Bm1 {q0 u0 u1} (hS:Ho w0 w L)  (h:Aj7 (nf q0)=some (u0,u1)) (hK:∀ (z0:Nat) (w1:World),nf z0=u0→Ho w0 w1 L→K (.tuple #[.float .f64 z0,.int .i64 u1]) w1):Aa1 P N.Hv1 #[.float .f64 q0] w K:=by
 refine H.math_normalize q0 w _ ?_
 unfold Bp4
 unfold Aj7 at h
 try dsimp only
 obtain ⟨t1,ht1,h⟩:=bnd h
 refine Aj1 H hS  ht1 ?_;rintro z1 w rfl hS
 refine ⟨_,rfl,?_⟩
 obtain ⟨t2,ht2,h⟩:=bnd h
 obtain rfl:=Cm8 ht2
 refine Aa2 h ?_ ?_<;>intro hc h
 ·
  obtain ⟨t3,ht3,h⟩:=bnd h
  refine Dq2 ht3 hS ?_;rintro z2 w rfl hS
  cases Aa0 h
  exact hK _ _ rfl hS
 cases Aa0 h
 exact hK _ _ rfl hS
theorem Ed3 {q0 u0 u1} (hS:Ho w0 w L)  (h:Bi9 (nf q0)=some (u0,u1)) (hK:∀ (z0:Nat) (w1:World),nf z0=u0→Ho w0 w1 L→K (.tuple #[.float .f64 z0,.int .i64 u1]) w1):Aa1 P N.Ic0 #[.float .f64 q0] w K:=by
 refine H.math_frexp q0 w _ ?_
 unfold Ct7
 unfold Bi9 at h
 try dsimp only
 obtain ⟨t1,ht1,h⟩:=bnd h
 obtain rfl:=Bx5 ht1
 refine Aa2 h ?_ ?_<;>intro hc h
 ·
  cases Aa0 h
  exact hK _ _ rfl hS
 obtain ⟨t2,ht2,h⟩:=bnd h
 refine Ao6 H hS  ht2 ?_;rintro w hS
 refine ⟨_,rfl,?_⟩
 refine Aa2 h ?_ ?_<;>intro hc h
 ·
  obtain ⟨t3,ht3,h⟩:=bnd h
  refine Be4 H hS  ht3 ?_;rintro w hS
  refine ⟨_,rfl,?_⟩
  refine Aa2 h ?_ ?_<;>intro hc h
  ·
   cases Aa0 h
   exact hK _ _ rfl hS
  obtain ⟨⟨t4,t5⟩,ho4,h⟩:=bnd h
  refine Bm1 H hS  ho4 ?_;clear hS ho4;rintro z1 w rfl hS
  refine ⟨_,_,rfl,?_⟩
  obtain ⟨t6,ht6,h⟩:=bnd h
  refine Af2 H hS  ht6 ?_;rintro w hS
  refine ⟨_,rfl,?_⟩
  refine ⟨by decide,?_⟩
  obtain ⟨t7,ht7,h⟩:=bnd h
  refine Ac2 H hS  ht7 ?_;rintro z2 w rfl hS
  refine ⟨_,rfl,?_⟩
  cases Aa0 h
  exact hK _ _ rfl hS
 cases Aa0 h
 exact hK _ _ rfl hS
theorem Eg5 {q0 u0 u1} (hS:Ho w0 w L)  (h:Bc6 (nf q0)=some (u0,u1)) (hK:∀ (z0:Nat) (w1:World),nf z0=u0→Ho w0 w1 L→K (.tuple #[.float .f64 z0,.int .i64 u1]) w1):Aa1 P N.Ia8 #[.float .f64 q0] w K:=by
 refine H.math_Frexp q0 w _ ?_
 unfold Cp9
 unfold Bc6 at h
 try dsimp only
 obtain ⟨⟨t1,t2⟩,ho1,h⟩:=bnd h
 refine Ed3 H hS  ho1 ?_;clear hS ho1;rintro z1 w rfl hS
 refine ⟨_,_,rfl,?_⟩
 cases Aa0 h
 exact hK _ _ rfl hS
theorem Ad2 {q0 q1 u0} (hS:Ho w0 w L)  (hx:Ac0 (nf q0) (nf q1)=some u0) (hK:∀ (z0:Nat) (w1:World),nf z0=u0→Ho w0 w1 L→K (.float .f64 z0) w1):Aa1 P N.Hv4 #[.float .f64 q0,.float .f64 q1] w K:=by
 unfold Ac0 at hx
 have hn:isNaN q1=false:=by
  cases e:isNaN q1 with
  | false=>rfl
  | true=>rw [Ay3,e] at hx;cases hx
 rw [Ay3,hn,Ac3 hn] at hx
 have hx:=Aa0 hx
 refine (Fp2 H q0 q1 w).mono ?_
 rintro _ w1 ⟨rfl,h1⟩
 exact hK _ _ ((Gw8 _ _).symm.trans hx) (hS.next h1)
theorem Dh2 {q0 u0} (hS:Ho w0 w L)  (h:Bx3 q0=some u0) (hK:∀ (z0:Nat) (w1:World),nf z0=u0→Ho w0 w1 L→K (.float .f64 z0) w1):Aa1 P N.Ih3 #[.int .i64 q0] w K:=by
 refine H.math_Inf q0 w _ ?_
 unfold Dt8
 unfold Bx3 at h
 try dsimp only
 obtain ⟨o1,h1,c1⟩:=bnd h
 refine Ab0 (fun s w=>∃ (t1:Int),t1=o1∧s=(t1,())∧Ho w0 w L) (fun J1 hJ1=>?_) ?_
 ·
  have h:=h1
  clear h1
  refine Aa2 h ?_ ?_<;>intro hc h
  ·
   exact hJ1 _ _ ⟨_,Aa0 h,rfl,hS⟩
  exact hJ1 _ _ ⟨_,Aa0 h,rfl,hS⟩
 clear h1 hS
 rintro s w ⟨t1,rfl,rfl,hS⟩
 have h:=c1
 clear c1
 try dsimp only
 obtain ⟨t2,ht2,h⟩:=bnd h
 refine Ac2 H hS  ht2 ?_;rintro z2 w rfl hS
 refine ⟨_,rfl,?_⟩
 cases Aa0 h
 exact hK _ _ rfl hS
theorem Ed9 {q0 q1 u0} (hS:Ho w0 w L)  (h:Bj6 (nf q0) q1=some u0) (hK:∀ (z0:Nat) (w1:World),nf z0=u0→Ho w0 w1 L→K (.float .f64 z0) w1):Aa1 P N.Ib2 #[.float .f64 q0,.int .i64 q1] w K:=by
 refine H.math_ldexp q0 q1 w _ ?_
 unfold Cu3
 unfold Bj6 at h
 try dsimp only
 obtain ⟨t1,ht1,h⟩:=bnd h
 obtain rfl:=Bx5 ht1
 refine Aa2 h ?_ ?_<;>intro hc h
 ·
  cases Aa0 h
  exact hK _ _ rfl hS
 obtain ⟨o1,h1,c1⟩:=bnd h
 refine Ab0 (fun s w=>∃ (t2:Bool),t2=o1∧s=(t2,())∧Ho w0 w L) (fun J1 hJ1=>?_) ?_
 ·
  have h:=h1
  clear h1
  obtain ⟨t3,ht3,h⟩:=bnd h
  refine Ao6 H hS  ht3 ?_;rintro w hS
  refine ⟨_,rfl,?_⟩
  refine Aa2 h ?_ ?_<;>intro hc h
  ·
   obtain ⟨t4,ht4,h⟩:=bnd h
   refine Be4 H hS  ht4 ?_;rintro w hS
   refine ⟨_,rfl,?_⟩
   exact hJ1 _ _ ⟨_,Aa0 h,rfl,hS⟩
  exact hJ1 _ _ ⟨_,Aa0 h,rfl,hS⟩
 clear h1 hS
 rintro s w ⟨t2,rfl,rfl,hS⟩
 have h:=c1
 clear c1
 try dsimp only
 refine Aa2 h ?_ ?_<;>intro hc h
 ·
  cases Aa0 h
  exact hK _ _ rfl hS
 obtain ⟨⟨t5,t6⟩,ho5,h⟩:=bnd h
 refine Bm1 H hS  ho5 ?_;clear hS ho5;rintro z2 w rfl hS
 refine ⟨_,_,rfl,?_⟩
 obtain ⟨t7,ht7,h⟩:=bnd h
 refine Af2 H hS  ht7 ?_;rintro w hS
 refine ⟨_,rfl,?_⟩
 refine ⟨by decide,?_⟩
 refine Aa2 h ?_ ?_<;>intro hc h
 ·
  obtain ⟨t8,ht8,h⟩:=bnd h
  refine Ad2 H hS  ht8 ?_;rintro z3 w rfl hS
  refine ⟨_,rfl,?_⟩
  cases Aa0 h
  exact hK _ _ rfl hS
 refine Aa2 h ?_ ?_<;>intro hc h
 ·
  obtain ⟨t9,ht9,h⟩:=bnd h
  obtain rfl:=Cm8 ht9
  refine Aa2 h ?_ ?_<;>intro hc h
  ·
   obtain ⟨t10,ht10,h⟩:=bnd h
   refine Dh2 H hS  ht10 ?_;rintro z4 w rfl hS
   refine ⟨_,rfl,?_⟩
   cases Aa0 h
   exact hK _ _ rfl hS
  obtain ⟨t11,ht11,h⟩:=bnd h
  refine Dh2 H hS  ht11 ?_;rintro z5 w rfl hS
  refine ⟨_,rfl,?_⟩
  cases Aa0 h
  exact hK _ _ rfl hS
 obtain ⟨o7,h7,c7⟩:=bnd h
 refine Ab0 (fun s w=>∃ (t12:Int) (z6:Nat),(t12,(nf z6))=o7∧s=(t12,z6,())∧Ho w0 w L) (fun J7 hJ7=>?_) ?_
 ·
  have h:=h7
  clear h7
  refine Aa2 h ?_ ?_<;>intro hc h
  ·
   exact hJ7 _ _ ⟨_,_,Aa0 h,rfl,hS⟩
  exact hJ7 _ _ ⟨_,_,Aa0 h,rfl,hS⟩
 clear h7 hS
 rintro s w ⟨t12,z6,rfl,rfl,hS⟩
 have h:=c7
 clear c7
 try dsimp only
 refine ⟨by decide,?_⟩
 obtain ⟨t14,ht14,h⟩:=bnd h
 refine Ac2 H hS  ht14 ?_;rintro z8 w rfl hS
 refine ⟨_,rfl,?_⟩
 obtain ⟨t15,ht15,h⟩:=bnd h
 refine Dq2 ht15 hS ?_;rintro z9 w rfl hS
 cases Aa0 h
 exact hK _ _ rfl hS
theorem Ce7 {q0 q1 u0} (hS:Ho w0 w L)  (h:Aw4 (nf q0) q1=some u0) (hK:∀ (z0:Nat) (w1:World),nf z0=u0→Ho w0 w1 L→K (.float .f64 z0) w1):Aa1 P N.Ia4 #[.float .f64 q0,.int .i64 q1] w K:=by
 refine H.math_Ldexp q0 q1 w _ ?_
 unfold Cv3
 unfold Aw4 at h
 try dsimp only
 obtain ⟨t1,ht1,h⟩:=bnd h
 refine Ed9 H hS  ht1 ?_;rintro z1 w rfl hS
 refine ⟨_,rfl,?_⟩
 cases Aa0 h
 exact hK _ _ rfl hS
theorem Aq3 {q0 u0} (hS:Ho w0 w L) (hG:Ent L (Bx7 N.Im4)) (hx:Ad9 q0=some u0) (hK:∀ w1,Ho w0 w1 L→K (.int .i64 u0) w1):Aa1 P N.Hu4 #[.int .u64 q0] w K:=by
 unfold Ad9 at hx
 have hx:=Aa0 hx
 subst hx
 exact He4 H hS hG hK
theorem Eh6 {q0 u0 u1 u2 u3} (hS:Ho w0 w L) (hG:Ent L (Bx7 N.Im4)) (h:Ai2 (nf q0)=some (u0,u1,u2,u3)) (hK:∀ w1,Ho w0 w1 L→K (.tuple #[.agg #[.bool u0,.int .u64 u1,.int .i64 u2],.bool u3]) w1):Aa1 P N.Ib0 #[.float .f64 q0] w K:=by
 refine H.bits_Split q0 w _ ?_
 unfold Cp6
 unfold Ai2 at h
 try dsimp only
 refine Aa9 hS ?_;intro r1 w hS
 obtain ⟨t1,ht1,h⟩:=bnd h
 refine Ep4 H hS  ht1 ?_;rintro w hS
 refine ⟨_,rfl,?_⟩
 refine Aa2 h ?_ ?_<;>intro hc h
 ·
  refine Aa4 hS rfl rfl ?_;intro w hS
  refine Aa4 hS rfl rfl ?_;intro w hS
  refine Aa4 hS rfl rfl ?_;intro w hS
  refine ⟨_,hS.cel mp0 rfl,_,hS.cel mp0 rfl,_,hS.cel mp0 rfl,?_⟩
  cases Aa0 h
  exact hK _ (hS.pick (A:=[_]) [] rfl)
 obtain ⟨t2,ht2,h⟩:=bnd h
 refine Af6 H hS  ht2 ?_;rintro w hS
 refine ⟨_,rfl,?_⟩
 refine Aa9 hS ?_;intro r2 w hS
 refine Aa4 hS rfl rfl ?_;intro w hS
 refine Aa4 hS rfl rfl ?_;intro w hS
 refine Aa4 hS rfl rfl ?_;intro w hS
 obtain ⟨t3,ht3,h⟩:=bnd h
 obtain rfl:=Bx5 ht3
 refine Aa2 h ?_ ?_<;>intro hc h
 ·
  refine ⟨_,hS.cel mp0 rfl,_,hS.cel mp0 rfl,_,hS.cel mp0 rfl,?_⟩
  replace hS:=ro1 hS
  refine Aa4 hS rfl rfl ?_;intro w hS
  refine Aa4 hS rfl rfl ?_;intro w hS
  refine Aa4 hS rfl rfl ?_;intro w hS
  refine ⟨_,hS.cel mp0 rfl,_,hS.cel mp0 rfl,_,hS.cel mp0 rfl,?_⟩
  cases Aa0 h
  exact hK _ (hS.pick (A:=[_,_]) [] rfl)
 obtain ⟨t4,ht4,h⟩:=bnd h
 refine Aj1 H hS  ht4 ?_;rintro z3 w rfl hS
 refine ⟨_,rfl,?_⟩
 obtain ⟨⟨t5,t6⟩,ho5,h⟩:=bnd h
 refine Eg5 H hS  ho5 ?_;clear hS ho5;rintro z4 w rfl hS
 refine ⟨_,_,rfl,?_⟩
 obtain ⟨t7,ht7,h⟩:=bnd h
 refine Ce7 H hS  ht7 ?_;rintro z5 w rfl hS
 refine ⟨_,rfl,?_⟩
 obtain ⟨t8,ht8,h⟩:=bnd h
 refine Hn6 ht8 hS ?_;intro w hS
 refine Aa4 hS rfl rfl ?_;intro w hS
 refine ⟨_,hS.cel mp0 rfl,?_⟩
 obtain ⟨t9,ht9,h⟩:=bnd h
 refine Aq3 H hS (hG.mono tl2) ht9 ?_;rintro w hS
 refine ⟨_,rfl,?_⟩
 refine ⟨_,hS.cel mp0 rfl,?_⟩
 obtain ⟨t10,ht10,h⟩:=bnd h
 refine ⟨Hh3 ht10,?_⟩
 refine Aa4 hS rfl rfl ?_;intro w hS
 refine Aa4 hS rfl rfl ?_;intro w hS
 refine ⟨_,hS.cel mp0 rfl,_,hS.cel mp0 rfl,_,hS.cel mp0 rfl,?_⟩
 replace hS:=ro1 hS
 refine Aa4 hS rfl rfl ?_;intro w hS
 refine Aa4 hS rfl rfl ?_;intro w hS
 refine Aa4 hS rfl rfl ?_;intro w hS
 refine ⟨_,hS.cel mp0 rfl,_,hS.cel mp0 rfl,_,hS.cel mp0 rfl,?_⟩
 cases Aa0 h
 exact hK _ (hS.pick (A:=[_,_]) [] rfl)
theorem Dq9 {q0 u0 u1 u2 u3} (hS:Ho w0 w L) (hG:Ent L (Bx7 N.Im4)) (h:Au5 (nf q0)=some (u0,u1,u2,u3)) (hK:∀ (a1:OA) (n1 c1:Nat) (w1:World),Ho w0 w1 ((sl a1 n1 c1 (List.map (Value.int .u64) u1) N.Il0)::L)→K (.tuple #[.agg #[.bool u0,.slice a1 n1 c1,.int .i64 u2],.int .i64 u3]) w1):Aa1 P N.Ii3 #[.float .f64 q0] w K:=by
 refine H.dyad_Of q0 w _ ?_
 unfold Ev6
 unfold Au5 at h
 try dsimp only
 refine Aa9 hS ?_;intro r1 w hS
 obtain ⟨⟨t1,t2,t3,t4⟩,ho1,h⟩:=bnd h
 refine Eh6 H hS (hG.mono tl1) ho1 ?_;clear hS ho1;rintro w hS
 refine ⟨_,_,_,_,rfl,?_⟩
 refine Aa9 hS ?_;intro r2 w hS
 refine Aa4 hS rfl rfl ?_;intro w hS
 refine Aa4 hS rfl rfl ?_;intro w hS
 refine Aa4 hS rfl rfl ?_;intro w hS
 refine Aa2 h ?_ ?_<;>intro hc h
 ·
  replace hS:=ro1 hS
  refine Aa4 hS rfl rfl ?_;intro w hS
  refine Aa4 hS rfl rfl ?_;intro w hS
  refine Aa4 hS rfl rfl ?_;intro w hS
  refine ⟨_,hS.cel mp0 rfl,_,_,_,hS.cel mp0 rfl,_,hS.cel mp0 rfl,?_⟩
  replace hS:=hS.none (α:=Int) (enc:=(Value.int .u64)) (t:=N.Il0)
  cases Aa0 h
  exact hK _ _ _ _ (hS.pick (A:=[_,_,_]) [0] rfl)
 refine ⟨_,hS.cel mp0 rfl,?_⟩
 refine Aa2 h ?_ ?_<;>intro hc h
 ·
  replace hS:=ro1 hS
  refine Aa4 hS rfl rfl ?_;intro w hS
  refine Aa4 hS rfl rfl ?_;intro w hS
  refine Aa4 hS rfl rfl ?_;intro w hS
  refine ⟨_,hS.cel mp0 rfl,_,_,_,hS.cel mp0 rfl,_,hS.cel mp0 rfl,?_⟩
  replace hS:=hS.none (α:=Int) (enc:=(Value.int .u64)) (t:=N.Il0)
  cases Aa0 h
  exact hK _ _ _ _ (hS.pick (A:=[_,_,_]) [0] rfl)
 refine ⟨_,hS.cel mp0 rfl,_,hS.cel mp0 rfl,?_⟩
 obtain ⟨t5,ht5,h⟩:=bnd h
 obtain rfl:([t2]:List Int)=t5:=Aa0 ht5
 refine Ap0 (ks:=[t2]) (enc:=(Value.int .u64)) (m:=1) hS rfl rfl ?_;intro r3 w hS
 refine ⟨_,hS.cel mp1 rfl,?_⟩
 replace hS:=ro2 hS
 refine Aa4 hS rfl rfl ?_;intro w hS
 refine Aa4 hS rfl rfl ?_;intro w hS
 refine Aa4 hS rfl rfl ?_;intro w hS
 refine ⟨_,hS.cel mp0 rfl,_,_,_,hS.cel mp0 rfl,_,hS.cel mp0 rfl,?_⟩
 cases Aa0 h
 exact hK _ _ _ _ (hS.pick (A:=[_,_,_]) [1] rfl)
theorem Bo3 {qb qc qe qg l0_1 qd u0} (hS:Ho w0 w L) (qn:EU L l0_1 qc qe qg) (h:An9 qb l0_1 qd=some u0) (hK:∀ w1,Ho w0 w1 L→K (.bool u0) w1):Aa1 P N.Ic1 #[.agg #[.bool qb,.slice qc qe qg,.int .i64 qd]] w K:=by
 refine H.dyad_Right qb qc qe qg qd w _ ?_
 unfold Cs2
 unfold An9 at h
 try dsimp only
 refine Aa9 hS ?_;intro r1 w hS
 refine ⟨_,_,_,hS.cel mp0 rfl,?_⟩
 obtain ⟨t1,ht1,h⟩:=bnd h
 obtain rfl:=An6 ht1 ((qn.mono tl1).now (fun _ h=>h) hS)
 refine Aa2 h ?_ ?_<;>intro hc h
 ·
  refine ⟨_,hS.cel mp0 rfl,?_⟩
  refine Aa2 h ?_ ?_<;>intro hc h
  ·
   refine ⟨_,hS.cel mp0 rfl,?_⟩
   cases Aa0 h
   exact hK _ (hS.pick (A:=[_]) [] rfl)
  cases Aa0 h
  exact hK _ (hS.pick (A:=[_]) [] rfl)
 refine Aa2 h ?_ ?_<;>intro hc h
 ·
  refine ⟨_,_,_,hS.cel mp0 rfl,?_⟩
  obtain ⟨t2,ht2,h⟩:=bnd h
  obtain ⟨q2x,qy,q2r⟩:=atE ht2
  refine Ac7 ((qn.mono tl1).now (fun _ h=>h) hS) q2x qy q2r ?_;intro b3 hb3
  refine ⟨_,Ab4 ((qn.mono tl1).now (fun _ h=>h) hS) hb3 q2x,?_⟩
  refine Aa2 h ?_ ?_<;>intro hc h
  ·
   refine ⟨_,_,_,hS.cel mp0 rfl,?_⟩
   obtain ⟨t3,ht3,h⟩:=bnd h
   obtain ⟨q4x,yv,q4r⟩:=atE ht3
   refine Ac7 ((qn.mono tl1).now (fun _ h=>h) hS) q4x yv q4r ?_;intro b5 hb5
   refine ⟨_,Ab4 ((qn.mono tl1).now (fun _ h=>h) hS) hb5 q4x,?_⟩
   refine Aa2 h ?_ ?_<;>intro hc h
   ·
    refine ⟨_,hS.cel mp0 rfl,?_⟩
    refine Aa2 h ?_ ?_<;>intro hc h
    ·
     refine ⟨_,hS.cel mp0 rfl,?_⟩
     cases Aa0 h
     exact hK _ (hS.pick (A:=[_]) [] rfl)
    cases Aa0 h
    exact hK _ (hS.pick (A:=[_]) [] rfl)
   cases Aa0 h
   exact hK _ (hS.pick (A:=[_]) [] rfl)
  cases Aa0 h
  exact hK _ (hS.pick (A:=[_]) [] rfl)
 cases Aa0 h
 exact hK _ (hS.pick (A:=[_]) [] rfl)
theorem Co8 {qb qc qe qg l0_1 qd ql qk qh qi l1_1 qq u0} (hS:Ho w0 w L) (qn:EU L l0_1 qc qe qg) (qv:EU L l1_1 qk qh qi) (h:Ba2 qb l0_1 qd ql l1_1 qq=some u0) (hK:∀ w1,Ho w0 w1 L→K (.bool u0) w1):Aa1 P N.Id9 #[.agg #[.bool qb,.slice qc qe qg,.int .i64 qd],.agg #[.bool ql,.slice qk qh qi,.int .i64 qq]] w K:=by
 refine H.dyad_both qb qc qe qg qd ql qk qh qi qq w _ ?_
 unfold Dg0
 unfold Ba2 at h
 try dsimp only
 refine Aa9 hS ?_;intro r1 w hS
 refine Aa9 hS ?_;intro r2 w hS
 refine ⟨_,hS.cel mp1 rfl,_,_,_,hS.cel mp1 rfl,_,hS.cel mp1 rfl,?_⟩
 obtain ⟨t1,ht1,h⟩:=bnd h
 refine Bo3 H hS (qn.mono tl2) ht1 ?_;rintro w hS
 refine ⟨_,rfl,?_⟩
 refine Aa2 h ?_ ?_<;>intro hc h
 ·
  refine ⟨_,hS.cel mp0 rfl,_,_,_,hS.cel mp0 rfl,_,hS.cel mp0 rfl,?_⟩
  obtain ⟨t2,ht2,h⟩:=bnd h
  refine Bo3 H hS (qv.mono tl2) ht2 ?_;rintro w hS
  refine ⟨_,rfl,?_⟩
  cases Aa0 h
  exact hK _ (hS.pick (A:=[_,_]) [] rfl)
 cases Aa0 h
 exact hK _ (hS.pick (A:=[_,_]) [] rfl)
theorem Ax0 {qb qc qe qg l0_1 qd u0} (hS:Ho w0 w L) (qn:EU L l0_1 qc qe qg) (h:Ai0 qb l0_1 qd=some u0) (hK:∀ (r0:Nat) (a0:OA) (n0 c0:Nat) (w1:World),Ho w0 w1 ((bg N.Ik4 N.Il1 r0 a0 n0 c0 u0)::L)→K (.pointer (some ⟨r0,0,none⟩)) w1):Aa1 P N.Ib5 #[.agg #[.bool qb,.slice qc qe qg,.int .i64 qd]] w K:=by
 refine H.dyad_whole qb qc qe qg qd w _ ?_
 unfold Cu8
 unfold Ai0 at h
 try dsimp only
 refine Aa9 hS ?_;intro r1 w hS
 refine Aa9 hS ?_;intro r2 w hS;replace hS:=Ho.bgNew (E:=N.Il1) hS
 refine ⟨_,_,_,hS.cel mp1 rfl,?_⟩
 obtain ⟨t1,ht1,h⟩:=bnd h
 obtain rfl:=An6 ht1 ((qn.mono tl2).now (fun _ h=>h) hS)
 obtain ⟨o6,h6,c6⟩:=bnd h
 refine Ab0 (fun s w=>∃ (a3:OA) (m4:Nat) (c5:Nat) (t2:Int),t2=o6∧s=(())∧Ho w0 w ((bg N.Ik4 N.Il1 r2 a3 m4 c5 t2)::(cl r1 [.bool qb,.slice qc qe qg,.int .i64 qd] N.Im3)::L)) (fun J6 hJ6=>?_) ?_
 ·
  have h:=h6
  clear h6
  refine Ab6 (fun s w t=>∃ (t3:Int) (a7:OA) (m8:Nat) (c9:Nat) (t4:Int),(t3,t4)=t∧s=(t3,())∧Ho w0 w ((bg N.Ik4 N.Il1 r2 a7 m8 c9 t4)::(cl r1 [.bool qb,.slice qc qe qg,.int .i64 qd] N.Im3)::L)) ?_ h ⟨_,_,_,_,_,rfl,rfl,hS⟩
  clear h hS
  rintro s w t X q ⟨t3,a7,m8,c9,t4,rfl,rfl,hS⟩ h hX hO
  unfold An5 at h
  try dsimp only
  refine Aa2 h ?_ ?_<;>intro hc h
  ·
   obtain ⟨t5,ht5,h⟩:=bnd h
   refine Cn0 H hS  ht5 ?_;intro a10 m10 c10 w hS
   refine ⟨_,rfl,?_⟩
   refine Aa9 hS ?_;intro r11 w hS;replace hS:=Ho.bgNew (E:=N.Il1) hS
   refine ⟨_,_,_,hS.cel mp2 rfl,_,_,_,hS.cel mp2 rfl,?_⟩
   obtain ⟨t6,ht6,h⟩:=bnd h
   obtain rfl:=An6 ht6 ((qn.mono tl3).now (fun _ h=>h) hS)
   obtain ⟨t7,ht7,h⟩:=bnd h
   obtain ⟨q12x,jv,q12r⟩:=atE ht7
   refine Ac7 ((qn.mono tl3).now (fun _ h=>h) hS) q12x jv q12r ?_;intro b13 hb13
   refine ⟨_,Ab4 ((qn.mono tl3).now (fun _ h=>h) hS) hb13 q12x,?_⟩
   obtain ⟨t8,ht8,h⟩:=bnd h
   refine Bu3 H hS  ht8 ?_;intro a14 m14 c14 w hS
   refine ⟨_,rfl,?_⟩
   obtain ⟨t9,ht9,h⟩:=bnd h
   replace hS:=ro1 hS
   refine Fs8 H hS (Ent.bg mp0) ht9 ?_;intro a15 m15 c15 w hS
   refine ⟨_,rfl,?_⟩
   obtain rfl:=Aa0 h
   exact hX _ rfl _ _ ⟨_,_,_,_,_,rfl,rfl,(hS.pick (A:=[_,_,_]) [0,1] rfl)⟩
  obtain rfl:=Aa0 h
  have h:=congrArg some (hO _ rfl)
  exact hJ6 _ _ ⟨_,_,_,_,Aa0 h,rfl,hS⟩
 clear h6 hS
 rintro s w ⟨a3,m4,c5,t2,rfl,rfl,hS⟩
 have h:=c6
 clear c6
 try dsimp only
 refine ⟨_,hS.cel mp1 rfl,?_⟩
 obtain ⟨o19,h19,c19⟩:=bnd h
 refine Ab0 (fun s w=>∃ (a16:OA) (m17:Nat) (c18:Nat) (t10:Int),t10=o19∧s=(())∧Ho w0 w ((bg N.Ik4 N.Il1 r2 a16 m17 c18 t10)::L)) (fun J19 hJ19=>?_) ?_
 ·
  have h:=h19
  clear h19
  refine Aa2 h ?_ ?_<;>intro hc h
  ·
   obtain ⟨t11,ht11,h⟩:=bnd h
   refine Fo7 H hS  ht11 ?_;intro a20 m20 c20 w hS
   refine ⟨_,rfl,?_⟩
   obtain rfl:=Aa0 h
   exact hJ19 _ _ ⟨_,_,_,_,rfl,rfl,(hS.pick (A:=[_,_]) [0] rfl)⟩
  obtain rfl:=Aa0 h
  exact hJ19 _ _ ⟨_,_,_,_,rfl,rfl,(hS.pick (A:=[_,_]) [0] rfl)⟩
 clear h19 hS
 rintro s w ⟨a16,m17,c18,t10,rfl,rfl,hS⟩
 have h:=c19
 clear c19
 try dsimp only
 cases Aa0 h
 exact hK _ _ _ _ _ hS
theorem Ec7 {q0 q0a qj qm y0 u0} (hS:Ho w0 w L) (qw:Ent L (bgR N.Ik4 q0 q0a qj qm y0)) (h:Aw7 y0=some u0) (hK:∀ (a0:OA) (n0 c0:Nat) (w1:World),Ho w0 w1 ((sl a0 n0 c0 (List.map (Value.int .u64) u0) N.Il0)::L)→K (.slice a0 n0 c0) w1):Aa1 P N.Ic3 #[.pointer (some ⟨q0,0,none⟩)] w K:=by
 refine H.dyad_limbs (some ⟨q0,0,none⟩) w _ ?_
 unfold Cu2
 unfold Aw7 at h
 try dsimp only
 refine Aa9 hS ?_;intro r1 w hS;replace hS:=Ho.bgNew (E:=N.Il1) hS
 obtain ⟨t1,ht1,h⟩:=bnd h
 refine Du2 H hS qw ht1 ?_;intro a2 m2 c2 w hS
 refine ⟨_,rfl,?_⟩
 refine Aa9 hS ?_;intro r3 w hS;replace hS:=Ho.bgNew (E:=N.Il1) hS
 refine Aa9 hS ?_;intro r4 w hS;replace hS:=Ho.bgNew (E:=N.Il1) hS
 obtain ⟨t2,ht2,h⟩:=bnd h
 refine Bu3 H hS  ht2 ?_;intro a5 m5 c5 w hS
 refine ⟨_,rfl,?_⟩
 obtain ⟨o9,h9,c9⟩:=bnd h
 refine Ab0 (fun s w=>∃ (a6:OA) (m7:Nat) (c8:Nat) (t3:List Int),t3=o9∧s=((a6,m7,c8),())∧Ho w0 w ((sl a6 m7 c8 (List.map (Value.int .u64) t3) N.Il0)::L)) (fun J9 hJ9=>?_) ?_
 ·
  have h:=h9
  clear h9
  replace hS:=hS.none (α:=Int) (enc:=(Value.int .u64)) (t:=N.Il0)
  refine Ab6 (fun s w t=>∃ (a10:OA) (m11:Nat) (c12:Nat) (t4:Int) (a13:OA) (m14:Nat) (c15:Nat) (t5:Int) (a16:OA) (m17:Nat) (c18:Nat) (t6:List Int),(t4,t5,t6)=t∧s=((a16,m17,c18),())∧Ho w0 w ((bg N.Ik4 N.Il1 r4 a5 m5 c5 t2)::(bg N.Ik4 N.Il1 r3 a10 m11 c12 t4)::(bg N.Ik4 N.Il1 r1 a13 m14 c15 t5)::(sl a16 m17 c18 (List.map (Value.int .u64) t6) N.Il0)::L)) ?_ h ⟨_,_,_,_,_,_,_,_,_,_,_,_,rfl,rfl,(hS.pick (A:=[_,_,_,_]) [1,1,1,0] rfl)⟩
  clear h hS
  rintro s w t X q ⟨a10,m11,c12,t4,a13,m14,c15,t5,a16,m17,c18,t6,rfl,rfl,hS⟩ h hX hO
  unfold Ar4 at h
  try dsimp only
  obtain ⟨t7,ht7,h⟩:=bnd h
  refine Be6 H hS (Ent.bg mp2) ht7 ?_;intro w hS
  refine ⟨_,rfl,?_⟩
  refine Aa2 h ?_ ?_<;>intro hc h
  ·
   obtain ⟨t8,ht8,h⟩:=bnd h
   replace hS:=ro1 hS
   refine Fd7 H hS (Ent.bg mp1) (Ent.bg mp0) ht8 ?_;intro a19 m19 c19 w hS
   refine ⟨_,rfl,?_⟩
   obtain ⟨t9,ht9,h⟩:=bnd h
   refine Bu0 H hS (Ent.bg mp0) ht9 ?_;intro w hS
   refine ⟨_,rfl,?_⟩
   obtain ⟨t10,ht10,h⟩:=bnd h
   obtain rfl:([t9]:List Int)=t10:=Aa0 ht10
   refine Ap0 (ks:=[t9]) (enc:=(Value.int .u64)) (m:=1) hS rfl rfl ?_;intro r20 w hS
   obtain ⟨t11,ht11,h⟩:=bnd h
   obtain ⟨rfl,kt11⟩:=Gh2 ht11
   replace hS:=ro4 hS
   refine Bx6 hS kt11 ((Ent.sl mp1).now (fun _ h=>h) hS) (fun _=>rfl) rfl ?_;clear hS kt11;intro a21 c21 w hS
   obtain ⟨t12,ht12,h⟩:=bnd h
   replace hS:=ro4 hS
   refine Fq5 H hS  ht12 ?_;intro a22 m22 c22 w hS
   refine ⟨_,rfl,?_⟩
   obtain rfl:=Aa0 h
   exact hX _ rfl _ _ ⟨_,_,_,_,_,_,_,_,_,_,_,_,rfl,rfl,(hS.pick (A:=[_,_,_,_,_]) [4,3,0,0] rfl)⟩
  obtain rfl:=Aa0 h
  have h:=congrArg some (hO _ rfl)
  obtain rfl:=Aa0 h
  exact hJ9 _ _ ⟨_,_,_,_,rfl,rfl,(hS.pick (A:=[_,_,_,_]) [3] rfl)⟩
 clear h9 hS
 rintro s w ⟨a6,m7,c8,t3,rfl,rfl,hS⟩
 have h:=c9
 clear c9
 try dsimp only
 cases Aa0 h
 exact hK _ _ _ _ hS
theorem Bi5 {q0 q0a qj qm y0 q1 u0 u1 u2 u3} (hS:Ho w0 w L) (qw:Ent L (bgR N.Ik4 q0 q0a qj qm y0)) (h:Ao7 y0 q1=some (u0,u1,u2,u3)) (hK:∀ (a1:OA) (n1 c1:Nat) (w1:World),Ho w0 w1 ((sl a1 n1 c1 (List.map (Value.int .u64) u1) N.Il0)::L)→K (.tuple #[.agg #[.bool u0,.slice a1 n1 c1,.int .i64 u2],.int .i64 u3]) w1):Aa1 P N.Id1 #[.pointer (some ⟨q0,0,none⟩),.int .i64 q1] w K:=by
 refine H.dyad_made (some ⟨q0,0,none⟩) q1 w _ ?_
 unfold Di8
 unfold Ao7 at h
 try dsimp only
 refine Aa9 hS ?_;intro r1 w hS
 obtain ⟨t1,ht1,h⟩:=bnd h
 refine Be6 H hS (qw.mono tl1) ht1 ?_;intro w hS
 refine ⟨_,rfl,?_⟩
 refine Aa2 h ?_ ?_<;>intro hc h
 ·
  refine Aa4 hS rfl rfl ?_;intro w hS
  refine Aa4 hS rfl rfl ?_;intro w hS
  refine Aa4 hS rfl rfl ?_;intro w hS
  refine ⟨_,hS.cel mp0 rfl,_,_,_,hS.cel mp0 rfl,_,hS.cel mp0 rfl,?_⟩
  replace hS:=hS.none (α:=Int) (enc:=(Value.int .u64)) (t:=N.Il0)
  cases Aa0 h
  exact hK _ _ _ _ (hS.pick (A:=[_,_]) [0] rfl)
 obtain ⟨t2,ht2,h⟩:=bnd h
 refine Bq7 H hS (qw.mono tl1) ht2 ?_;intro w hS
 refine ⟨_,rfl,?_⟩
 refine Aa2 h ?_ ?_<;>intro hc h
 ·
  refine Aa4 hS rfl rfl ?_;intro w hS
  refine Aa4 hS rfl rfl ?_;intro w hS
  refine Aa4 hS rfl rfl ?_;intro w hS
  refine ⟨_,hS.cel mp0 rfl,_,_,_,hS.cel mp0 rfl,_,hS.cel mp0 rfl,?_⟩
  replace hS:=hS.none (α:=Int) (enc:=(Value.int .u64)) (t:=N.Il0)
  cases Aa0 h
  exact hK _ _ _ _ (hS.pick (A:=[_,_]) [0] rfl)
 refine Aa2 h ?_ ?_<;>intro hc h
 ·
  refine Aa4 hS rfl rfl ?_;intro w hS
  refine Aa4 hS rfl rfl ?_;intro w hS
  refine Aa4 hS rfl rfl ?_;intro w hS
  refine ⟨_,hS.cel mp0 rfl,_,_,_,hS.cel mp0 rfl,_,hS.cel mp0 rfl,?_⟩
  replace hS:=hS.none (α:=Int) (enc:=(Value.int .u64)) (t:=N.Il0)
  cases Aa0 h
  exact hK _ _ _ _ (hS.pick (A:=[_,_]) [0] rfl)
 refine Aa2 h ?_ ?_<;>intro hc h
 ·
  refine Aa4 hS rfl rfl ?_;intro w hS
  refine Aa4 hS rfl rfl ?_;intro w hS
  refine Aa4 hS rfl rfl ?_;intro w hS
  refine ⟨_,hS.cel mp0 rfl,_,_,_,hS.cel mp0 rfl,_,hS.cel mp0 rfl,?_⟩
  replace hS:=hS.none (α:=Int) (enc:=(Value.int .u64)) (t:=N.Il0)
  cases Aa0 h
  exact hK _ _ _ _ (hS.pick (A:=[_,_]) [0] rfl)
 obtain ⟨t3,ht3,h⟩:=bnd h
 refine Eq7 H hS (qw.mono tl1) ht3 ?_;intro w hS
 refine ⟨_,rfl,?_⟩
 refine Aa2 h ?_ ?_<;>intro hc h
 ·
  refine Aa4 hS rfl rfl ?_;intro w hS
  refine Aa4 hS rfl rfl ?_;intro w hS
  refine Aa4 hS rfl rfl ?_;intro w hS
  refine ⟨_,hS.cel mp0 rfl,_,_,_,hS.cel mp0 rfl,_,hS.cel mp0 rfl,?_⟩
  replace hS:=hS.none (α:=Int) (enc:=(Value.int .u64)) (t:=N.Il0)
  cases Aa0 h
  exact hK _ _ _ _ (hS.pick (A:=[_,_]) [0] rfl)
 obtain ⟨t4,ht4,h⟩:=bnd h
 refine Be6 H hS (qw.mono tl1) ht4 ?_;intro w hS
 refine ⟨_,rfl,?_⟩
 refine Aa9 hS ?_;intro r2 w hS;replace hS:=Ho.bgNew (E:=N.Il1) hS
 refine Aa9 hS ?_;intro r3 w hS;replace hS:=Ho.bgNew (E:=N.Il1) hS
 obtain ⟨t5,ht5,h⟩:=bnd h
 refine Du2 H hS (qw.mono tl2) ht5 ?_;intro a4 m4 c4 w hS
 refine ⟨_,rfl,?_⟩
 obtain ⟨t6,ht6,h⟩:=bnd h
 replace hS:=ro1 hS
 refine Ds9 H hS (Ent.bg mp0) ht6 ?_;intro a5 m5 c5 w hS
 refine ⟨_,rfl,?_⟩
 obtain ⟨t7,ht7,h⟩:=bnd h
 refine Ec7 H hS (Ent.bg mp0) ht7 ?_;rintro a6 m6 c6 w hS
 refine ⟨_,_,_,rfl,?_⟩
 replace hS:=ro3 hS
 refine Aa4 hS rfl rfl ?_;intro w hS
 refine Aa4 hS rfl rfl ?_;intro w hS
 refine Aa4 hS rfl rfl ?_;intro w hS
 refine ⟨_,hS.cel mp0 rfl,_,_,_,hS.cel mp0 rfl,_,hS.cel mp0 rfl,?_⟩
 cases Aa0 h
 exact hK _ _ _ _ (hS.pick (A:=[_,_,_,_]) [1] rfl)
theorem Fb1 {qb qc qe qg l0_1 qd ql qk qh qi l1_1 qq u0 u1 u2 u3} (hS:Ho w0 w L) (qn:EU L l0_1 qc qe qg) (qv:EU L l1_1 qk qh qi) (h:Be9 qb l0_1 qd ql l1_1 qq=some (u0,u1,u2,u3)) (hK:∀ (a1:OA) (n1 c1:Nat) (w1:World),Ho w0 w1 ((sl a1 n1 c1 (List.map (Value.int .u64) u1) N.Il0)::L)→K (.tuple #[.agg #[.bool u0,.slice a1 n1 c1,.int .i64 u2],.int .i64 u3]) w1):Aa1 P N.Ih4 #[.agg #[.bool qb,.slice qc qe qg,.int .i64 qd],.agg #[.bool ql,.slice qk qh qi,.int .i64 qq]] w K:=by
 refine H.dyad_Mul qb qc qe qg qd ql qk qh qi qq w _ ?_
 unfold Dr6
 unfold Be9 at h
 try dsimp only
 refine Aa9 hS ?_;intro r1 w hS
 refine Aa9 hS ?_;intro r2 w hS
 refine Aa9 hS ?_;intro r3 w hS
 refine ⟨_,hS.cel mp2 rfl,_,_,_,hS.cel mp2 rfl,_,hS.cel mp2 rfl,_,hS.cel mp1 rfl,_,_,_,hS.cel mp1 rfl,_,hS.cel mp1 rfl,?_⟩
 obtain ⟨t1,ht1,h⟩:=bnd h
 refine Co8 H hS (qn.mono tl3) (qv.mono tl3) ht1 ?_;rintro w hS
 refine ⟨_,rfl,?_⟩
 refine Aa2 h ?_ ?_<;>intro hc h
 ·
  refine Aa4 hS rfl rfl ?_;intro w hS
  refine Aa4 hS rfl rfl ?_;intro w hS
  refine Aa4 hS rfl rfl ?_;intro w hS
  refine ⟨_,hS.cel mp0 rfl,_,_,_,hS.cel mp0 rfl,_,hS.cel mp0 rfl,?_⟩
  replace hS:=hS.none (α:=Int) (enc:=(Value.int .u64)) (t:=N.Il0)
  cases Aa0 h
  exact hK _ _ _ _ (hS.pick (A:=[_,_,_,_]) [0] rfl)
 refine ⟨_,hS.cel mp2 rfl,_,_,_,hS.cel mp2 rfl,_,hS.cel mp2 rfl,?_⟩
 obtain ⟨t2,ht2,h⟩:=bnd h
 refine Ax0 H hS (qn.mono tl3) ht2 ?_;rintro r4 a4 m4 c4 w hS
 refine ⟨_,rfl,?_⟩
 refine ⟨_,hS.cel mp2 rfl,_,_,_,hS.cel mp2 rfl,_,hS.cel mp2 rfl,_,hS.cel mp3 rfl,_,hS.cel mp2 rfl,?_⟩
 refine Aa5 hS ?_;intro w hS
 obtain ⟨t3,ht3,h⟩:=bnd h
 refine Ax0 H hS (qv.mono tl4) ht3 ?_;rintro r5 a5 m5 c5 w hS
 refine ⟨_,rfl,?_⟩
 refine ⟨(hS.cel mp3 rfl),?_⟩
 refine ⟨(hS.cel mp4 rfl),?_⟩
 refine Aa5 hS ?_;intro w hS
 obtain ⟨t4,ht4,h⟩:=bnd h
 replace hS:=ro1 hS
 refine Ex2 H hS (Ent.bg mp0) ht4 ?_;intro a6 m6 c6 w hS
 refine ⟨_,rfl,?_⟩
 refine ⟨(hS.cel mp3 rfl),?_⟩
 refine ⟨(hS.cel mp4 rfl),?_⟩
 refine Aa5 hS ?_;intro w hS
 obtain ⟨⟨t5,t6,t7,t8⟩,ho5,h⟩:=bnd h
 refine Bi5 H hS (Ent.bg mp0) ho5 ?_;clear hS ho5;rintro a7 m7 c7 w hS
 refine ⟨_,_,_,_,_,_,rfl,?_⟩
 refine Aa5 hS ?_;intro w hS
 replace hS:=ro3 hS
 refine Aa4 hS rfl rfl ?_;intro w hS
 refine Aa4 hS rfl rfl ?_;intro w hS
 refine Aa4 hS rfl rfl ?_;intro w hS
 refine Aa5 hS ?_;intro w hS
 refine ⟨_,hS.cel mp0 rfl,_,_,_,hS.cel mp0 rfl,_,hS.cel mp0 rfl,?_⟩
 cases Aa0 h
 exact hK _ _ _ _ (hS.pick (A:=[_,_,_,_,_,_]) [1] rfl)
theorem Ck2 {q0 r_1 q1 qo qu vk r_2 q2 qy vf vx u0 u1 u2} (hS:Ho w0 w L) (eq1:Ent L (cl r_1 [.slice q1 qo qu] N.Ie1).A) (ve:EF L vk q1 qo qu) (eq2:Ent L (cl r_2 [.slice q2 qy vf] N.Ie1).A) (vw:EF L vx q2 qy vf) (hG:Ent L (Bx7 N.Im4)) (h:An0 q0 (List.map nf vk) (List.map nf vx)=some (u0,u1,u2)) (hK:∀ (a1:OA) (n1 c1:Nat) (w1:World),Ho w0 w1 ((sl a1 n1 c1 (List.map (Value.int .u64) u1) N.Il0)::L)→K (.agg #[.bool u0,.slice a1 n1 c1,.int .i64 u2]) w1):Aa1 P N.Hu8 #[.int .i64 q0,.pointer (some ⟨r_1,0,none⟩),.pointer (some ⟨r_2,0,none⟩)] w K:=by
 refine H.sums_DotExact_1 q0 (some ⟨r_1,0,none⟩) (some ⟨r_2,0,none⟩) w _ ?_
 unfold Bk9
 unfold An0 at h
 try dsimp only
 refine Aa9 hS ?_;intro r1 w hS
 refine Ad6 ?_
 refine ⟨_,_,_,(eq1.cel tl1 hS rfl),?_⟩
 obtain ⟨t1,ht1,h⟩:=bnd h
 obtain ⟨z2,rfl,q3x,vm,q3r⟩:=atF ht1
 refine Ac7 ((ve.mono tl1).now (fun _ h=>h) hS) q3x vm q3r ?_;intro b4 hb4
 refine ⟨_,Ab4 ((ve.mono tl1).now (fun _ h=>h) hS) hb4 q3x,?_⟩
 obtain ⟨⟨t2,t3,t4,t5⟩,ho2,h⟩:=bnd h
 refine Dq9 H hS (hG.mono tl1) ho2 ?_;clear hS ho2;rintro a5 m5 c5 w hS
 refine ⟨_,_,_,_,_,_,rfl,?_⟩
 refine Aa9 hS ?_;intro r6 w hS
 refine Aa4 hS rfl rfl ?_;intro w hS
 refine Aa4 hS rfl rfl ?_;intro w hS
 refine Aa4 hS rfl rfl ?_;intro w hS
 refine Ad6 ?_
 refine ⟨_,_,_,(eq2.cel tl3 hS rfl),?_⟩
 obtain ⟨t6,ht6,h⟩:=bnd h
 obtain ⟨z7,rfl,q8x,yj,q8r⟩:=atF ht6
 refine Ac7 ((vw.mono tl3).now (fun _ h=>h) hS) q8x yj q8r ?_;intro b9 hb9
 refine ⟨_,Ab4 ((vw.mono tl3).now (fun _ h=>h) hS) hb9 q8x,?_⟩
 obtain ⟨⟨t7,t8,t9,t10⟩,ho7,h⟩:=bnd h
 refine Dq9 H hS (hG.mono tl3) ho7 ?_;clear hS ho7;rintro a10 m10 c10 w hS
 refine ⟨_,_,_,_,_,_,rfl,?_⟩
 refine Aa9 hS ?_;intro r11 w hS
 refine Aa4 hS rfl rfl ?_;intro w hS
 refine Aa4 hS rfl rfl ?_;intro w hS
 refine Aa4 hS rfl rfl ?_;intro w hS
 refine ⟨_,hS.cel mp2 rfl,_,_,_,hS.cel mp2 rfl,_,hS.cel mp2 rfl,_,hS.cel mp0 rfl,_,_,_,hS.cel mp0 rfl,_,hS.cel mp0 rfl,?_⟩
 obtain ⟨⟨t11,t12,t13,t14⟩,ho11,h⟩:=bnd h
 refine Fb1 H hS (Ent.sl mp3) (Ent.sl mp1) ho11 ?_;clear hS ho11;rintro a12 m12 c12 w hS
 refine ⟨_,_,_,_,_,_,rfl,?_⟩
 refine Aa9 hS ?_;intro r13 w hS
 refine Aa4 hS rfl rfl ?_;intro w hS
 refine Aa4 hS rfl rfl ?_;intro w hS
 refine Aa4 hS rfl rfl ?_;intro w hS
 refine ⟨_,hS.cel mp0 rfl,_,_,_,hS.cel mp0 rfl,_,hS.cel mp0 rfl,?_⟩
 replace hS:=ro6 hS
 refine Aa4 hS rfl rfl ?_;intro w hS
 refine Aa4 hS rfl rfl ?_;intro w hS
 refine Aa4 hS rfl rfl ?_;intro w hS
 refine ⟨_,hS.cel mp0 rfl,_,_,_,hS.cel mp0 rfl,_,hS.cel mp0 rfl,?_⟩
 cases Aa0 h
 exact hK _ _ _ _ (hS.pick (A:=[_,_,_,_,_,_,_]) [2] rfl)
theorem Cp5 {q0 u0} (hS:Ho w0 w L)  (h:Az4 q0=some u0) (hK:∀ (r0:Nat) (a0:OA) (n0 c0:Nat) (w1:World),Ho w0 w1 ((bg N.Ik4 N.Il1 r0 a0 n0 c0 u0)::L)→K (.pointer (some ⟨r0,0,none⟩)) w1):Aa1 P N.If2 #[.int .i64 q0] w K:=by
 refine H.bn_NewInt q0 w _ ?_
 unfold Dd4
 unfold Az4 at h
 try dsimp only
 refine Aa9 hS ?_;intro r1 w hS;replace hS:=Ho.bgNew (E:=N.Il1) hS
 obtain ⟨t1,ht1,h⟩:=bnd h
 refine Dn7 H hS  ht1 ?_;intro a2 m2 c2 w hS
 refine ⟨_,rfl,?_⟩
 cases Aa0 h
 exact hK _ _ _ _ _ hS
theorem Fb4 {q0 u0 u1 u2} (hS:Ho w0 w L)  (h:Bw9 q0=some (u0,u1,u2)) (hK:∀ (a1:OA) (n1 c1:Nat) (w1:World),Ho w0 w1 ((sl a1 n1 c1 (List.map (Value.int .u64) u1) N.Il0)::L)→K (.agg #[.bool u0,.slice a1 n1 c1,.int .i64 u2]) w1):Aa1 P N.Ig5 #[.int .i64 q0] w K:=by
 refine H.dyad_Int q0 w _ ?_
 unfold Dv7
 unfold Bw9 at h
 try dsimp only
 refine Aa9 hS ?_;intro r1 w hS
 obtain ⟨t1,ht1,h⟩:=bnd h
 refine Cp5 H hS  ht1 ?_;rintro r2 a2 m2 c2 w hS
 refine ⟨_,rfl,?_⟩
 obtain ⟨⟨t2,t3,t4,t5⟩,ho2,h⟩:=bnd h
 refine Bi5 H hS (Ent.bg mp0) ho2 ?_;clear hS ho2;rintro a3 m3 c3 w hS
 refine ⟨_,_,_,_,_,_,rfl,?_⟩
 refine Aa9 hS ?_;intro r4 w hS
 refine Aa4 hS rfl rfl ?_;intro w hS
 refine Aa4 hS rfl rfl ?_;intro w hS
 refine Aa4 hS rfl rfl ?_;intro w hS
 refine ⟨_,hS.cel mp0 rfl,_,_,_,hS.cel mp0 rfl,_,hS.cel mp0 rfl,?_⟩
 replace hS:=ro3 hS
 refine Aa4 hS rfl rfl ?_;intro w hS
 refine Aa4 hS rfl rfl ?_;intro w hS
 refine Aa4 hS rfl rfl ?_;intro w hS
 refine ⟨_,hS.cel mp0 rfl,_,_,_,hS.cel mp0 rfl,_,hS.cel mp0 rfl,?_⟩
 cases Aa0 h
 exact hK _ _ _ _ (hS.pick (A:=[_,_,_,_]) [2] rfl)
theorem Ez6 {qb qc qe qg l0_1 qd ql qk qh qi l1_1 qq u0 u1 u2 u3} (hS:Ho w0 w L) (qn:EU L l0_1 qc qe qg) (qv:EU L l1_1 qk qh qi) (h:Be7 qb l0_1 qd ql l1_1 qq=some (u0,u1,u2,u3)) (hK:∀ (a1:OA) (n1 c1:Nat) (w1:World),Ho w0 w1 ((sl a1 n1 c1 (List.map (Value.int .u64) u1) N.Il0)::L)→K (.tuple #[.agg #[.bool u0,.slice a1 n1 c1,.int .i64 u2],.int .i64 u3]) w1):Aa1 P N.Ih1 #[.agg #[.bool qb,.slice qc qe qg,.int .i64 qd],.agg #[.bool ql,.slice qk qh qi,.int .i64 qq]] w K:=by
 refine H.dyad_Add qb qc qe qg qd ql qk qh qi qq w _ ?_
 unfold Dv1
 unfold Be7 at h
 try dsimp only
 refine Aa9 hS ?_;intro r1 w hS
 refine Aa9 hS ?_;intro r2 w hS
 refine Aa9 hS ?_;intro r3 w hS
 refine ⟨_,hS.cel mp2 rfl,_,_,_,hS.cel mp2 rfl,_,hS.cel mp2 rfl,_,hS.cel mp1 rfl,_,_,_,hS.cel mp1 rfl,_,hS.cel mp1 rfl,?_⟩
 obtain ⟨t1,ht1,h⟩:=bnd h
 refine Co8 H hS (qn.mono tl3) (qv.mono tl3) ht1 ?_;rintro w hS
 refine ⟨_,rfl,?_⟩
 refine Aa2 h ?_ ?_<;>intro hc h
 ·
  refine Aa4 hS rfl rfl ?_;intro w hS
  refine Aa4 hS rfl rfl ?_;intro w hS
  refine Aa4 hS rfl rfl ?_;intro w hS
  refine ⟨_,hS.cel mp0 rfl,_,_,_,hS.cel mp0 rfl,_,hS.cel mp0 rfl,?_⟩
  replace hS:=hS.none (α:=Int) (enc:=(Value.int .u64)) (t:=N.Il0)
  cases Aa0 h
  exact hK _ _ _ _ (hS.pick (A:=[_,_,_,_]) [0] rfl)
 refine ⟨_,hS.cel mp2 rfl,_,_,_,hS.cel mp2 rfl,_,hS.cel mp2 rfl,_,hS.cel mp1 rfl,_,_,_,hS.cel mp1 rfl,_,hS.cel mp1 rfl,?_⟩
 refine Aa5 hS ?_;intro w hS
 obtain ⟨t2,ht2,h⟩:=bnd h
 refine Ax0 H hS (qn.mono tl3) ht2 ?_;rintro r4 a4 m4 c4 w hS
 refine ⟨_,rfl,?_⟩
 refine ⟨(hS.cel mp2 rfl),?_⟩
 refine ⟨(hS.cel mp2 rfl),?_⟩
 refine ⟨(hS.cel mp2 rfl),?_⟩
 refine Aa5 hS ?_;intro w hS
 obtain ⟨t3,ht3,h⟩:=bnd h
 refine Ax0 H hS (qv.mono tl4) ht3 ?_;rintro r5 a5 m5 c5 w hS
 refine ⟨_,rfl,?_⟩
 refine Aa5 hS ?_;intro w hS
 obtain ⟨o6,h6,c6⟩:=bnd h
 refine Ab0 (fun s w=>∃ (t4:Bool),t4=o6∧s=(t4,())∧Ho w0 w ((bg N.Ik4 N.Il1 r5 a5 m5 c5 t3)::(bg N.Ik4 N.Il1 r4 a4 m4 c4 t2)::(cl r3 [.bool false,.slice none 0 0,.int .i64 0] N.Im3)::(cl r2 [.bool ql,.slice qk qh qi,.int .i64 qq] N.Im3)::(cl r1 [.bool qb,.slice qc qe qg,.int .i64 qd] N.Im3)::L)) (fun J6 hJ6=>?_) ?_
 ·
  have h:=h6
  clear h6
  obtain ⟨t5,ht5,h⟩:=bnd h
  refine Be6 H hS (Ent.bg mp1) ht5 ?_;intro w hS
  refine ⟨_,rfl,?_⟩
  refine Aa2 h ?_ ?_<;>intro hc h
  ·
   obtain ⟨t6,ht6,h⟩:=bnd h
   refine Be6 H hS (Ent.bg mp0) ht6 ?_;intro w hS
   refine ⟨_,rfl,?_⟩
   exact hJ6 _ _ ⟨_,Aa0 h,rfl,hS⟩
  exact hJ6 _ _ ⟨_,Aa0 h,rfl,hS⟩
 clear h6 hS
 rintro s w ⟨t4,rfl,rfl,hS⟩
 have h:=c6
 clear c6
 try dsimp only
 refine Aa2 h ?_ ?_<;>intro hc h
 ·
  refine ⟨_,hS.cel mp4 rfl,_,hS.cel mp3 rfl,?_⟩
  refine Aa5 hS ?_;intro w hS
  obtain ⟨t7,ht7,h⟩:=bnd h
  replace hS:=ro1 hS
  refine Dk8 H hS (Ent.bg mp0) ht7 ?_;intro a7 m7 c7 w hS
  refine ⟨_,rfl,?_⟩
  refine ⟨(hS.cel mp3 rfl),?_⟩
  refine ⟨(hS.cel mp4 rfl),?_⟩
  refine Aa5 hS ?_;intro w hS
  obtain ⟨⟨t8,t9,t10,t11⟩,ho8,h⟩:=bnd h
  refine Bi5 H hS (Ent.bg mp0) ho8 ?_;clear hS ho8;rintro a8 m8 c8 w hS
  refine ⟨_,_,_,_,_,_,rfl,?_⟩
  refine Aa5 hS ?_;intro w hS
  replace hS:=ro3 hS
  refine Aa4 hS rfl rfl ?_;intro w hS
  refine Aa4 hS rfl rfl ?_;intro w hS
  refine Aa4 hS rfl rfl ?_;intro w hS
  refine Aa5 hS ?_;intro w hS
  refine ⟨_,hS.cel mp0 rfl,_,_,_,hS.cel mp0 rfl,_,hS.cel mp0 rfl,?_⟩
  cases Aa0 h
  exact hK _ _ _ _ (hS.pick (A:=[_,_,_,_,_,_]) [1] rfl)
 refine ⟨_,hS.cel mp4 rfl,_,hS.cel mp3 rfl,?_⟩
 obtain ⟨o27,h27,c27⟩:=bnd h
 refine Ab0 (fun s w=>∃ (t12:Bool) (t13:Int) (t14:Bool) (t15:Int) (r9:Nat) (a10:OA) (m11:Nat) (c12:Nat) (t16:Int) (r13:Nat) (a14:OA) (m15:Nat) (c16:Nat) (t17:Int) (a17:OA) (m18:Nat) (c19:Nat) (t18:List Int) (it20:It) (a22:OA) (m23:Nat) (c24:Nat) (t19:List Int) (it25:It),(t12,t13,t14,t15,t16,t17,t18,t19)=o27∧s=((some ⟨r9,0,none⟩),(some ⟨r13,0,none⟩),())∧Ent (it20::L) (rdA (List.map (Value.int .u64) t18) a17 m18 c19)∧Ent (it25::L) (rdA (List.map (Value.int .u64) t19) a22 m23 c24)∧Ho w0 w ((cl r2 [.bool t12,.slice a17 m18 c19,.int .i64 t13] N.Im3)::(cl r1 [.bool t14,.slice a22 m23 c24,.int .i64 t15] N.Im3)::(cl r3 [.bool false,.slice none 0 0,.int .i64 0] N.Im3)::(bg N.Ik4 N.Il1 r9 a10 m11 c12 t16)::(bg N.Ik4 N.Il1 r13 a14 m15 c16 t17)::it20::it25::L)) (fun J27 hJ27=>?_) ?_
 ·
  have h:=h27
  clear h27
  refine Aa2 h ?_ ?_<;>intro hc h
  ·
   refine ⟨_,hS.cel mp3 rfl,_,_,_,hS.cel mp3 rfl,_,hS.cel mp3 rfl,_,hS.cel mp4 rfl,_,_,_,hS.cel mp4 rfl,_,hS.cel mp4 rfl,?_⟩
   replace hS:=ro4 hS
   refine Aa4 hS rfl rfl ?_;intro w hS
   refine Aa4 hS rfl rfl ?_;intro w hS
   refine Aa4 hS rfl rfl ?_;intro w hS
   replace hS:=ro4 hS
   refine Aa4 hS rfl rfl ?_;intro w hS
   refine Aa4 hS rfl rfl ?_;intro w hS
   refine Aa4 hS rfl rfl ?_;intro w hS
   replace hS:=hS.voidItem
   replace hS:=hS.voidItem
   obtain rfl:=Aa0 h
   exact hJ27 _ _ ⟨_,_,_,_,_,_,_,_,_,_,_,_,_,_,_,_,_,_,_,_,_,_,_,_,rfl,rfl,(qn.mono tl1),(qv.mono tl1),(hS.pick (A:=[_,_,_,_,_,_,_]) [2,2,4,2,2,1,0] rfl)⟩
  replace hS:=hS.voidItem
  replace hS:=hS.voidItem
  obtain rfl:=Aa0 h
  exact hJ27 _ _ ⟨_,_,_,_,_,_,_,_,_,_,_,_,_,_,_,_,_,_,_,_,_,_,_,_,rfl,rfl,(qv.mono tl1),(qn.mono tl1),(hS.pick (A:=[_,_,_,_,_,_,_]) [5,5,4,3,2,1,0] rfl)⟩
 clear h27 hS
 rintro s w ⟨t12,t13,t14,t15,r9,a10,m11,c12,t16,r13,a14,m15,c16,t17,a17,m18,c19,t18,it20,a22,m23,c24,t19,it25,rfl,rfl,e21,e26,hS⟩
 have h:=c27
 clear c27
 try dsimp only
 refine ⟨_,hS.cel mp1 rfl,_,hS.cel mp0 rfl,?_⟩
 refine Aa2 h ?_ ?_<;>intro hc h
 ·
  replace hS:=ro2 hS
  refine Aa4 hS rfl rfl ?_;intro w hS
  refine Aa4 hS rfl rfl ?_;intro w hS
  refine Aa4 hS rfl rfl ?_;intro w hS
  refine ⟨_,hS.cel mp0 rfl,_,_,_,hS.cel mp0 rfl,_,hS.cel mp0 rfl,?_⟩
  replace hS:=hS.none (α:=Int) (enc:=(Value.int .u64)) (t:=N.Il0)
  cases Aa0 h
  exact hK _ _ _ _ (hS.pick (A:=[_,_,_,_,_,_,_,_]) [0] rfl)
 refine ⟨_,hS.cel mp0 rfl,?_⟩
 refine Aa5 hS ?_;intro w hS
 obtain ⟨t20,ht20,h⟩:=bnd h
 replace hS:=ro3 hS
 refine Cn0 H hS  ht20 ?_;intro a28 m28 c28 w hS
 refine ⟨_,rfl,?_⟩
 refine ⟨(hS.cel mp1 rfl),?_⟩
 refine Aa5 hS ?_;intro w hS
 obtain ⟨t21,ht21,h⟩:=bnd h
 refine Dk8 H hS (Ent.bg mp3) ht21 ?_;intro a29 m29 c29 w hS
 refine ⟨_,rfl,?_⟩
 refine ⟨(hS.cel mp1 rfl),?_⟩
 refine Aa5 hS ?_;intro w hS
 obtain ⟨⟨t22,t23,t24,t25⟩,ho22,h⟩:=bnd h
 refine Bi5 H hS (Ent.bg mp0) ho22 ?_;clear hS ho22;rintro a30 m30 c30 w hS
 refine ⟨_,_,_,_,_,_,rfl,?_⟩
 refine Aa5 hS ?_;intro w hS
 replace hS:=ro4 hS
 refine Aa4 hS rfl rfl ?_;intro w hS
 refine Aa4 hS rfl rfl ?_;intro w hS
 refine Aa4 hS rfl rfl ?_;intro w hS
 refine Aa5 hS ?_;intro w hS
 refine ⟨_,hS.cel mp0 rfl,_,_,_,hS.cel mp0 rfl,_,hS.cel mp0 rfl,?_⟩
 cases Aa0 h
 exact hK _ _ _ _ (hS.pick (A:=[_,_,_,_,_,_,_,_]) [1] rfl)
theorem Dy1 {q0} {q1:Value} {f1:Int→Option (Bool×List Int×Int)} {u0 u1 u2} (hS:Ho w0 w L) (hf1:∀ (v0:Int) (w:World) (L1:List It) (r1:Bool) (r2:List Int) (r3:Int) (K:KV),(∀ e,e∈L→e∈L1)→f1 v0=some (r1,r2,r3)→Ho w0 w L1→(∀ (a1:OA) (n1 c1:Nat) (w1:World),Ho w0 w1 ((sl a1 n1 c1 (List.map (Value.int .u64) r2) N.Il0)::L1)→K (.agg #[.bool r1,.slice a1 n1 c1,.int .i64 r3]) w1)→fnM q1 fun g gp gq=>Aa1 P g (gp.toList++(([.int .i64 v0]:List Value)++gq.toList)).toArray w K) (h:Bi4 q0 f1=some (u0,u1,u2)) (hK:∀ (a1:OA) (n1 c1:Nat) (w1:World),Ho w0 w1 ((sl a1 n1 c1 (List.map (Value.int .u64) u1) N.Il0)::L)→K (.agg #[.bool u0,.slice a1 n1 c1,.int .i64 u2]) w1):Aa1 P N.Ia3 #[.int .i64 q0,q1] w K:=by
 refine H.sums_total q0 q1 w _ ?_
 unfold Cr1
 unfold Bi4 at h
 try dsimp only
 refine Aa9 hS ?_;intro r1 w hS
 obtain ⟨⟨t1,t2,t3⟩,ho1,h⟩:=bnd h
 refine Fb4 H hS  ho1 ?_;clear hS ho1;rintro a2 m2 c2 w hS
 refine ⟨_,_,_,_,_,rfl,?_⟩
 refine Aa9 hS ?_;intro r3 w hS
 refine Aa4 hS rfl rfl ?_;intro w hS
 refine Aa4 hS rfl rfl ?_;intro w hS
 refine Aa4 hS rfl rfl ?_;intro w hS
 obtain ⟨o7,h7,c7⟩:=bnd h
 refine Ab0 (fun s w=>∃ (t4:Bool) (t5:Int) (a4:OA) (m5:Nat) (c6:Nat) (t6:List Int),(t4,t5,t6)=o7∧s=(())∧Ho w0 w ((cl r3 [.bool t4,.slice a4 m5 c6,.int .i64 t5] N.Im3)::(cl r1 [.bool false,.slice none 0 0,.int .i64 0] N.Im3)::(sl a4 m5 c6 (List.map (Value.int .u64) t6) N.Il0)::L)) (fun J7 hJ7=>?_) ?_
 ·
  have h:=h7
  clear h7
  refine Ab6 (fun s w t=>∃ (t7:Int) (t8:Bool) (t9:Int) (a8:OA) (m9:Nat) (c10:Nat) (t10:List Int),(t7,t8,t9,t10)=t∧s=(t7,())∧Ho w0 w ((cl r3 [.bool t8,.slice a8 m9 c10,.int .i64 t9] N.Im3)::(cl r1 [.bool false,.slice none 0 0,.int .i64 0] N.Im3)::(sl a8 m9 c10 (List.map (Value.int .u64) t10) N.Il0)::L)) ?_ h ⟨_,_,_,_,_,_,_,rfl,rfl,(hS.pick (A:=[_,_,_]) [0,1,0] rfl)⟩
  clear h hS
  rintro s w t X q ⟨t7,t8,t9,a8,m9,c10,t10,rfl,rfl,hS⟩ h hX hO
  unfold Ar0 at h
  try dsimp only
  refine Aa2 h ?_ ?_<;>intro hc h
  ·
   refine ⟨_,hS.cel mp0 rfl,_,_,_,hS.cel mp0 rfl,_,hS.cel mp0 rfl,?_⟩
   refine Aa5 hS ?_;intro w hS
   obtain ⟨⟨t11,t12,t13⟩,ho11,h⟩:=bnd h
   refine hf1 _ _ _ _ _ _ _ tl3 ho11 hS ?_;clear hS ho11;rintro a11 m11 c11 w hS
   refine ⟨_,_,_,_,_,rfl,?_⟩
   refine ⟨(hS.cel mp1 rfl),?_⟩
   refine ⟨(hS.cel mp1 rfl),?_⟩
   refine ⟨(hS.cel mp1 rfl),?_⟩
   refine Aa5 hS ?_;intro w hS
   obtain ⟨⟨t14,t15,t16,t17⟩,ho14,h⟩:=bnd h
   refine Ez6 H hS (Ent.sl mp3) (Ent.sl mp0) ho14 ?_;clear hS ho14;rintro a12 m12 c12 w hS
   refine ⟨_,_,_,_,_,_,rfl,?_⟩
   refine Aa5 hS ?_;intro w hS
   replace hS:=ro2 hS
   refine Aa4 hS rfl rfl ?_;intro w hS
   refine Aa4 hS rfl rfl ?_;intro w hS
   refine Aa4 hS rfl rfl ?_;intro w hS
   refine Aa5 hS ?_;intro w hS
   obtain rfl:=Aa0 h
   exact hX _ rfl _ _ ⟨_,_,_,_,_,_,_,rfl,rfl,(hS.pick (A:=[_,_,_,_,_]) [0,2,0] rfl)⟩
  obtain rfl:=Aa0 h
  have h:=congrArg some (hO _ rfl)
  exact hJ7 _ _ ⟨_,_,_,_,_,_,Aa0 h,rfl,hS⟩
 clear h7 hS
 rintro s w ⟨t4,t5,a4,m5,c6,t6,rfl,rfl,hS⟩
 have h:=c7
 clear c7
 try dsimp only
 refine ⟨_,hS.cel mp0 rfl,_,_,_,hS.cel mp0 rfl,_,hS.cel mp0 rfl,?_⟩
 replace hS:=ro1 hS
 refine Aa4 hS rfl rfl ?_;intro w hS
 refine Aa4 hS rfl rfl ?_;intro w hS
 refine Aa4 hS rfl rfl ?_;intro w hS
 refine ⟨_,hS.cel mp0 rfl,_,_,_,hS.cel mp0 rfl,_,hS.cel mp0 rfl,?_⟩
 cases Aa0 h
 exact hK _ _ _ _ (hS.pick (A:=[_,_,_]) [2] rfl)
theorem Ax4 {q0 u0} (hS:Ho w0 w L)  (hx:Ae5 q0=some u0) (hK:∀ w1,Ho w0 w1 L→K (.int .i64 u0) w1):Aa1 P N.Hu9 #[.int .u64 q0] w K:=by
 unfold Ae5 at hx
 by_cases hd:0≤q0∧q0≤18446744073709551615
 ·
  rw [decide_eq_true hd] at hx
  have hx:=Aa0 hx
  subst hx
  exact Hb9 H hS hd.1 hd.2 hK
 rw [decide_eq_false hd] at hx;cases hx
theorem Ex9 {qb qc qe qg l0_1 qd u0} (hS:Ho w0 w L) (qn:EU L l0_1 qc qe qg) (h:Bl4 qb l0_1 qd=some u0) (hK:∀ w1,Ho w0 w1 L→K (.int .i64 u0) w1):Aa1 P N.Ig8 #[.agg #[.bool qb,.slice qc qe qg,.int .i64 qd]] w K:=by
 refine H.dyad_top qb qc qe qg qd w _ ?_
 unfold Dr7
 unfold Bl4 at h
 try dsimp only
 refine Aa9 hS ?_;intro r1 w hS
 refine ⟨_,_,_,hS.cel mp0 rfl,?_⟩
 obtain ⟨t1,ht1,h⟩:=bnd h
 obtain rfl:=An6 ht1 ((qn.mono tl1).now (fun _ h=>h) hS)
 refine ⟨_,hS.cel mp0 rfl,_,_,_,hS.cel mp0 rfl,?_⟩
 obtain ⟨t2,ht2,h⟩:=bnd h
 obtain ⟨q2x,qy,q2r⟩:=atE ht2
 refine Ac7 ((qn.mono tl1).now (fun _ h=>h) hS) q2x qy q2r ?_;intro b3 hb3
 refine ⟨_,Ab4 ((qn.mono tl1).now (fun _ h=>h) hS) hb3 q2x,?_⟩
 refine Aa5 hS ?_;intro w hS
 obtain ⟨t3,ht3,h⟩:=bnd h
 refine Ax4 H hS  ht3 ?_;rintro w hS
 refine ⟨_,rfl,?_⟩
 refine ⟨(hS.cel mp0 rfl),?_⟩
 refine Aa5 hS ?_;intro w hS
 cases Aa0 h
 exact hK _ (hS.pick (A:=[_]) [] rfl)
theorem Ev3 {q0 q1 q2 q3 u0} (hS:Ho w0 w L)  (h:Az5 q0 q1 q2 q3=some u0) (hK:∀ w1,Ho w0 w1 L→K (.bool u0) w1):Aa1 P N.If7 #[.int .i8 q0,.bool q1,.int .i64 q2,.bool q3] w K:=by
 refine H.dyad_away q0 q1 q2 q3 w _ ?_
 unfold Dc1
 unfold Az5 at h
 try dsimp only
 refine Aa2 h ?_ ?_<;>intro hc h
 ·
  cases Aa0 h
  exact hK _ hS
 refine Aa2 h ?_ ?_<;>intro hc h
 ·
  cases Aa0 h
  exact hK _ hS
 refine Aa2 h ?_ ?_<;>intro hc h
 ·
  cases Aa0 h
  exact hK _ hS
 refine Aa2 h ?_ ?_<;>intro hc h
 ·
  refine Aa2 h ?_ ?_<;>intro hc h
  ·
   cases Aa0 h
   exact hK _ hS
  cases Aa0 h
  exact hK _ hS
 cases Aa0 h
 exact hK _ hS
theorem Cq1 {qb qc qd u0 u1} (hS:Ho w0 w L)  (h:As1 qb qc qd=some (u0,u1)) (hK:∀ (z0:Nat) (w1:World),nf z0=u0→Ho w0 w1 L→K (.tuple #[.float .f64 z0,.bool u1]) w1):Aa1 P N.Ie5 #[.agg #[.bool qb,.int .u64 qc,.int .i64 qd]] w K:=by
 refine H.bits_Join qb qc qd w _ ?_
 unfold Dj3
 unfold As1 at h
 try dsimp only
 refine Aa9 hS ?_;intro r1 w hS
 refine ⟨_,hS.cel mp0 rfl,?_⟩
 obtain ⟨t1,ht1,h⟩:=bnd h
 refine Ax4 H hS  ht1 ?_;rintro w hS
 refine ⟨_,rfl,?_⟩
 obtain ⟨o2,h2,c2⟩:=bnd h
 refine Ab0 (fun s w=>∃ (t2:Bool),t2=o2∧s=(t2,())∧Ho w0 w ((cl r1 [.bool qb,.int .u64 qc,.int .i64 qd] N.Im2)::L)) (fun J2 hJ2=>?_) ?_
 ·
  have h:=h2
  clear h2
  refine ⟨_,hS.cel mp0 rfl,?_⟩
  refine Aa2 h ?_ ?_<;>intro hc h
  ·
   refine ⟨_,hS.cel mp0 rfl,?_⟩
   refine Aa2 h ?_ ?_<;>intro hc h
   ·
    refine ⟨_,hS.cel mp0 rfl,?_⟩
    refine Aa2 h ?_ ?_<;>intro hc h
    ·
     refine ⟨_,hS.cel mp0 rfl,?_⟩
     refine ⟨by decide,?_⟩
     exact hJ2 _ _ ⟨_,Aa0 h,rfl,hS⟩
    exact hJ2 _ _ ⟨_,Aa0 h,rfl,hS⟩
   exact hJ2 _ _ ⟨_,Aa0 h,rfl,hS⟩
  refine ⟨_,hS.cel mp0 rfl,?_⟩
  refine Aa2 h ?_ ?_<;>intro hc h
  ·
   refine ⟨_,hS.cel mp0 rfl,?_⟩
   refine ⟨by decide,?_⟩
   exact hJ2 _ _ ⟨_,Aa0 h,rfl,hS⟩
  exact hJ2 _ _ ⟨_,Aa0 h,rfl,hS⟩
 clear h2 hS
 rintro s w ⟨t2,rfl,rfl,hS⟩
 have h:=c2
 clear c2
 try dsimp only
 refine Aa2 h ?_ ?_<;>intro hc h
 ·
  cases Aa0 h
  exact hK _ _ rfl (hS.pick (A:=[_]) [] rfl)
 obtain ⟨o3,h3,c3⟩:=bnd h
 refine Ab0 (fun s w=>∃ (t3:Bool),t3=o3∧s=(t3,())∧Ho w0 w ((cl r1 [.bool qb,.int .u64 qc,.int .i64 qd] N.Im2)::L)) (fun J3 hJ3=>?_) ?_
 ·
  have h:=h3
  clear h3
  refine Aa2 h ?_ ?_<;>intro hc h
  ·
   refine ⟨_,hS.cel mp0 rfl,?_⟩
   refine Aa2 h ?_ ?_<;>intro hc h
   ·
    refine ⟨_,hS.cel mp0 rfl,?_⟩
    refine Aa2 h ?_ ?_<;>intro hc h
    ·
     refine ⟨_,hS.cel mp0 rfl,?_⟩
     refine Aa2 h ?_ ?_<;>intro hc h
     ·
      refine ⟨_,hS.cel mp0 rfl,?_⟩
      exact hJ3 _ _ ⟨_,Aa0 h,rfl,hS⟩
     exact hJ3 _ _ ⟨_,Aa0 h,rfl,hS⟩
    exact hJ3 _ _ ⟨_,Aa0 h,rfl,hS⟩
   exact hJ3 _ _ ⟨_,Aa0 h,rfl,hS⟩
  exact hJ3 _ _ ⟨_,Aa0 h,rfl,hS⟩
 clear h3 hS
 rintro s w ⟨t3,rfl,rfl,hS⟩
 have h:=c3
 clear c3
 try dsimp only
 refine Aa2 h ?_ ?_<;>intro hc h
 ·
  cases Aa0 h
  exact hK _ _ rfl (hS.pick (A:=[_]) [] rfl)
 refine ⟨_,hS.cel mp0 rfl,_,hS.cel mp0 rfl,?_⟩
 obtain ⟨t4,ht4,h⟩:=bnd h
 refine Ce7 H hS  ht4 ?_;rintro z4 w rfl hS
 refine ⟨_,rfl,?_⟩
 refine ⟨_,hS.cel mp0 rfl,?_⟩
 obtain ⟨o6,h6,c6⟩:=bnd h
 refine Ab0 (fun s w=>∃ (z5:Nat),(nf z5)=o6∧s=(z5,())∧Ho w0 w L) (fun J6 hJ6=>?_) ?_
 ·
  have h:=h6
  clear h6
  refine Aa2 h ?_ ?_<;>intro hc h
  ·
   obtain ⟨t6,ht6,h⟩:=bnd h
   refine Ad2 H hS  ht6 ?_;rintro z7 w rfl hS
   refine ⟨_,rfl,?_⟩
   obtain rfl:=Aa0 h
   exact hJ6 _ _ ⟨_,rfl,rfl,(hS.pick (A:=[_]) [] rfl)⟩
  obtain rfl:=Aa0 h
  exact hJ6 _ _ ⟨_,rfl,rfl,(hS.pick (A:=[_]) [] rfl)⟩
 clear h6 hS
 rintro s w ⟨z5,rfl,rfl,hS⟩
 have h:=c6
 clear c6
 try dsimp only
 cases Aa0 h
 exact hK _ _ rfl hS
theorem Ec9 {q0 u0 u1} (hS:Ho w0 w L)  (h:Bt0 (nf q0)=some (u0,u1)) (hK:∀ w1,Ho w0 w1 L→K (.tuple #[.int .i64 u0,.bool u1]) w1):Aa1 P N.Hz7 #[.float .f64 q0] w K:=by
 refine H.bits_Place q0 w _ ?_
 unfold Cq6
 unfold Bt0 at h
 try dsimp only
 obtain ⟨t1,ht1,h⟩:=bnd h
 obtain rfl:=Dp6 ht1
 refine Aa2 h ?_ ?_<;>intro hc h
 ·
  cases Aa0 h
  exact hK _ hS
 obtain ⟨t2,ht2,h⟩:=bnd h
 refine Aj1 H hS  ht2 ?_;rintro z1 w rfl hS
 refine ⟨_,rfl,?_⟩
 obtain ⟨t3,ht3,h⟩:=bnd h
 refine Af2 H hS  ht3 ?_;rintro w hS
 refine ⟨_,rfl,?_⟩
 obtain ⟨t4,ht4,h⟩:=bnd h
 obtain rfl:=Cm8 ht4
 obtain ⟨o2,h2,c2⟩:=bnd h
 refine Ab0 (fun s w=>∃ (t5:Int),t5=o2∧s=(t5,())∧Ho w0 w L) (fun J2 hJ2=>?_) ?_
 ·
  have h:=h2
  clear h2
  refine Aa2 h ?_ ?_<;>intro hc h
  ·
   exact hJ2 _ _ ⟨_,Aa0 h,rfl,hS⟩
  exact hJ2 _ _ ⟨_,Aa0 h,rfl,hS⟩
 clear h2 hS
 rintro s w ⟨t5,rfl,rfl,hS⟩
 have h:=c2
 clear c2
 try dsimp only
 cases Aa0 h
 exact hK _ hS
theorem Fp4 {q0 u0 u1} (hS:Ho w0 w L)  (h:Df0 q0=some (u0,u1)) (hK:∀ (z0:Nat) (w1:World),nf z0=u0→Ho w0 w1 L→K (.tuple #[.float .f64 z0,.bool u1]) w1):Aa1 P N.Ii5 #[.int .i64 q0] w K:=by
 refine H.bits_At q0 w _ ?_
 unfold Ei6
 unfold Df0 at h
 try dsimp only
 refine Aa2 h ?_ ?_<;>intro hc h
 ·
  refine Aa2 h ?_ ?_<;>intro hc h
  ·
   cases Aa0 h
   exact hK _ _ rfl hS
  refine Aa2 h ?_ ?_<;>intro hc h
  ·
   obtain ⟨t1,ht1,h⟩:=bnd h
   refine Ac2 H hS  ht1 ?_;rintro z1 w rfl hS
   refine ⟨_,rfl,?_⟩
   obtain ⟨t2,ht2,h⟩:=bnd h
   obtain rfl:=Em2 ht2
   cases Aa0 h
   exact hK _ _ rfl hS
  obtain ⟨t3,ht3,h⟩:=bnd h
  refine Ac2 H hS  ht3 ?_;rintro z2 w rfl hS
  refine ⟨_,rfl,?_⟩
  cases Aa0 h
  exact hK _ _ rfl hS
 cases Aa0 h
 exact hK _ _ rfl hS
theorem Bj3 {q0 q1 u0} (hS:Ho w0 w L)  (h:Av7 (nf q0) q1=some u0) (hK:∀ (z0:Nat) (w1:World),nf z0=u0→Ho w0 w1 L→K (.float .f64 z0) w1):Aa1 P N.Ie7 #[.float .f64 q0,.bool q1] w K:=by
 refine H.bits_Next q0 q1 w _ ?_
 unfold Dc3
 unfold Av7 at h
 try dsimp only
 obtain ⟨⟨t1,t2⟩,ho1,h⟩:=bnd h
 refine Ec9 H hS  ho1 ?_;clear hS ho1;rintro w hS
 refine ⟨_,_,rfl,?_⟩
 refine Aa2 h ?_ ?_<;>intro hc h
 ·
  cases Aa0 h
  exact hK _ _ rfl hS
 obtain ⟨o1,h1,c1⟩:=bnd h
 refine Ab0 (fun s w=>∃ (t3:Int),t3=o1∧s=(t3,())∧Ho w0 w L) (fun J1 hJ1=>?_) ?_
 ·
  have h:=h1
  clear h1
  refine Aa2 h ?_ ?_<;>intro hc h
  ·
   exact hJ1 _ _ ⟨_,Aa0 h,rfl,hS⟩
  exact hJ1 _ _ ⟨_,Aa0 h,rfl,hS⟩
 clear h1 hS
 rintro s w ⟨t3,rfl,rfl,hS⟩
 have h:=c1
 clear c1
 try dsimp only
 obtain ⟨⟨t4,t5⟩,ho4,h⟩:=bnd h
 refine Fp4 H hS  ho4 ?_;clear hS ho4;rintro z2 w rfl hS
 refine ⟨_,_,rfl,?_⟩
 cases Aa0 h
 exact hK _ _ rfl hS
theorem Ed8 {q0 q1 q2 q3 u0} (hS:Ho w0 w L) (hG:Ent L (Bx7 N.Im4)) (h:Bb6 q0 q1 q2 q3=some u0) (hK:∀ (z0:Nat) (w1:World),nf z0=u0→Ho w0 w1 L→K (.float .f64 z0) w1):Aa1 P N.Ib6 #[.bool q0,.int .u64 q1,.int .i64 q2,.int .i8 q3] w K:=by
 refine H.dyad_float q0 q1 q2 q3 w _ ?_
 unfold Cq2
 unfold Bb6 at h
 try dsimp only
 refine Aa9 hS ?_;intro r1 w hS
 refine Aa4 hS rfl rfl ?_;intro w hS
 refine Aa4 hS rfl rfl ?_;intro w hS
 refine Aa4 hS rfl rfl ?_;intro w hS
 obtain ⟨o2,h2,c2⟩:=bnd h
 refine Ab0 (fun s w=>∃ (t1:Int) (t2:Int),(t1,t2)=o2∧s=(())∧Ho w0 w ((cl r1 [.bool q0,.int .u64 t1,.int .i64 t2] N.Im2)::L)) (fun J2 hJ2=>?_) ?_
 ·
  have h:=h2
  clear h2
  refine Aa2 h ?_ ?_<;>intro hc h
  ·
   obtain ⟨t3,ht3,h⟩:=bnd h
   refine Aq3 H hS (hG.mono tl1) ht3 ?_;rintro w hS
   refine ⟨_,rfl,?_⟩
   obtain ⟨t4,ht4,h⟩:=bnd h
   refine ⟨Hh3 ht4,?_⟩
   refine Aa4 hS rfl rfl ?_;intro w hS
   refine Aa4 hS rfl rfl ?_;intro w hS
   exact hJ2 _ _ ⟨_,_,Aa0 h,rfl,hS⟩
  exact hJ2 _ _ ⟨_,_,Aa0 h,rfl,hS⟩
 clear h2 hS
 rintro s w ⟨t1,t2,rfl,rfl,hS⟩
 have h:=c2
 clear c2
 try dsimp only
 refine ⟨_,hS.cel mp0 rfl,_,hS.cel mp0 rfl,?_⟩
 refine Aa5 hS ?_;intro w hS
 obtain ⟨t5,ht5,h⟩:=bnd h
 refine Ax4 H hS  ht5 ?_;rintro w hS
 refine ⟨_,rfl,?_⟩
 refine ⟨(hS.cel mp0 rfl),?_⟩
 refine Aa5 hS ?_;intro w hS
 refine Aa2 h ?_ ?_<;>intro hc h
 ·
  refine Aa4 hS rfl rfl ?_;intro w hS
  refine Aa4 hS rfl rfl ?_;intro w hS
  refine ⟨_,hS.cel mp0 rfl,_,hS.cel mp0 rfl,_,hS.cel mp0 rfl,?_⟩
  obtain ⟨⟨t6,t7⟩,ho6,h⟩:=bnd h
  refine Cq1 H hS  ho6 ?_;clear hS ho6;rintro z3 w rfl hS
  refine ⟨_,_,rfl,?_⟩
  refine Aa2 h ?_ ?_<;>intro hc h
  ·
   refine Aa2 h ?_ ?_<;>intro hc h
   ·
    refine Aa2 h ?_ ?_<;>intro hc h
    ·
     refine Aa2 h ?_ ?_<;>intro hc h
     ·
      refine Aa2 h ?_ ?_<;>intro hc h
      ·
       cases Aa0 h
       exact hK _ _ rfl (hS.pick (A:=[_]) [] rfl)
      obtain ⟨t8,ht8,h⟩:=bnd h
      refine Bj3 H hS  ht8 ?_;rintro z4 w rfl hS
      refine ⟨_,rfl,?_⟩
      cases Aa0 h
      exact hK _ _ rfl (hS.pick (A:=[_]) [] rfl)
     obtain ⟨t9,ht9,h⟩:=bnd h
     refine Bj3 H hS  ht9 ?_;rintro z5 w rfl hS
     refine ⟨_,rfl,?_⟩
     cases Aa0 h
     exact hK _ _ rfl (hS.pick (A:=[_]) [] rfl)
    cases Aa0 h
    exact hK _ _ rfl (hS.pick (A:=[_]) [] rfl)
   refine Aa2 h ?_ ?_<;>intro hc h
   ·
    refine Aa2 h ?_ ?_<;>intro hc h
    ·
     cases Aa0 h
     exact hK _ _ rfl (hS.pick (A:=[_]) [] rfl)
    obtain ⟨t10,ht10,h⟩:=bnd h
    refine Bj3 H hS  ht10 ?_;rintro z6 w rfl hS
    refine ⟨_,rfl,?_⟩
    cases Aa0 h
    exact hK _ _ rfl (hS.pick (A:=[_]) [] rfl)
   obtain ⟨t11,ht11,h⟩:=bnd h
   refine Bj3 H hS  ht11 ?_;rintro z7 w rfl hS
   refine ⟨_,rfl,?_⟩
   cases Aa0 h
   exact hK _ _ rfl (hS.pick (A:=[_]) [] rfl)
  cases Aa0 h
  exact hK _ _ rfl (hS.pick (A:=[_]) [] rfl)
 refine ⟨_,hS.cel mp0 rfl,_,hS.cel mp0 rfl,_,hS.cel mp0 rfl,?_⟩
 obtain ⟨⟨t12,t13⟩,ho12,h⟩:=bnd h
 refine Cq1 H hS  ho12 ?_;clear hS ho12;rintro z8 w rfl hS
 refine ⟨_,_,rfl,?_⟩
 cases Aa0 h
 exact hK _ _ rfl (hS.pick (A:=[_]) [] rfl)
theorem Ea6 {qb qc qe qg l0_1 qd q1 u0 u1} (hS:Ho w0 w L) (qn:EU L l0_1 qc qe qg) (hG:Ent L (Bx7 N.Im4)) (h:As0 qb l0_1 qd q1=some (u0,u1)) (hK:∀ (z0:Nat) (w1:World),nf z0=u0→Ho w0 w1 L→K (.tuple #[.float .f64 z0,.int .i64 u1]) w1):Aa1 P N.Ic4 #[.agg #[.bool qb,.slice qc qe qg,.int .i64 qd],.int .i8 q1] w K:=by
 refine H.dyad_Round qb qc qe qg qd q1 w _ ?_
 unfold Cv6
 unfold As0 at h
 try dsimp only
 refine Aa9 hS ?_;intro r1 w hS
 refine ⟨_,hS.cel mp0 rfl,_,_,_,hS.cel mp0 rfl,_,hS.cel mp0 rfl,?_⟩
 obtain ⟨t1,ht1,h⟩:=bnd h
 refine Bo3 H hS (qn.mono tl1) ht1 ?_;rintro w hS
 refine ⟨_,rfl,?_⟩
 refine Aa2 h ?_ ?_<;>intro hc h
 ·
  cases Aa0 h
  exact hK _ _ rfl (hS.pick (A:=[_]) [] rfl)
 refine ⟨_,_,_,hS.cel mp0 rfl,?_⟩
 obtain ⟨t2,ht2,h⟩:=bnd h
 obtain rfl:=An6 ht2 ((qn.mono tl1).now (fun _ h=>h) hS)
 refine Aa2 h ?_ ?_<;>intro hc h
 ·
  cases Aa0 h
  exact hK _ _ rfl (hS.pick (A:=[_]) [] rfl)
 refine ⟨_,hS.cel mp0 rfl,_,_,_,hS.cel mp0 rfl,_,hS.cel mp0 rfl,?_⟩
 obtain ⟨t3,ht3,h⟩:=bnd h
 refine Ax0 H hS (qn.mono tl1) ht3 ?_;rintro r2 a2 m2 c2 w hS
 refine ⟨_,rfl,?_⟩
 obtain ⟨t4,ht4,h⟩:=bnd h
 refine Fs5 H hS  ht4 ?_;intro a3 m3 c3 w hS
 refine ⟨_,rfl,?_⟩
 refine ⟨_,hS.cel mp1 rfl,_,_,_,hS.cel mp1 rfl,_,hS.cel mp1 rfl,?_⟩
 obtain ⟨t5,ht5,h⟩:=bnd h
 refine Ex9 H hS (qn.mono tl2) ht5 ?_;rintro w hS
 refine ⟨_,rfl,?_⟩
 refine ⟨_,hS.cel mp1 rfl,?_⟩
 obtain ⟨o4,h4,c4⟩:=bnd h
 refine Ab0 (fun s w=>∃ (t6:Int),t6=o4∧s=(t6,())∧Ho w0 w ((cl r1 [.bool qb,.slice qc qe qg,.int .i64 qd] N.Im3)::L)) (fun J4 hJ4=>?_) ?_
 ·
  have h:=h4
  clear h4
  refine Aa2 h ?_ ?_<;>intro hc h
  ·
   refine Aa9 hS ?_;intro r5 w hS;replace hS:=Ho.bgNew (E:=N.Il1) hS
   obtain ⟨t7,ht7,h⟩:=bnd h
   refine Dt9 H hS (Ent.bg mp0) ht7 ?_;intro a6 m6 c6 w hS
   refine ⟨_,rfl,?_⟩
   obtain ⟨t8,ht8,h⟩:=bnd h
   refine Bu0 H hS (Ent.bg mp0) ht8 ?_;intro w hS
   refine ⟨_,rfl,?_⟩
   obtain rfl:=Aa0 h
   exact hJ4 _ _ ⟨_,rfl,rfl,(hS.pick (A:=[_,_,_]) [2] rfl)⟩
  refine Aa9 hS ?_;intro r7 w hS;replace hS:=Ho.bgNew (E:=N.Il1) hS
  obtain ⟨t9,ht9,h⟩:=bnd h
  refine Ds9 H hS (Ent.bg mp0) ht9 ?_;intro a8 m8 c8 w hS
  refine ⟨_,rfl,?_⟩
  obtain ⟨t10,ht10,h⟩:=bnd h
  refine Bu0 H hS (Ent.bg mp0) ht10 ?_;intro w hS
  refine ⟨_,rfl,?_⟩
  obtain ⟨t11,ht11,h⟩:=bnd h
  refine Cn0 H hS  ht11 ?_;intro a9 m9 c9 w hS
  refine ⟨_,rfl,?_⟩
  obtain ⟨t12,ht12,h⟩:=bnd h
  replace hS:=ro1 hS
  refine Fc5 H hS (Ent.bg mp0) ht12 ?_;intro a10 m10 c10 w hS
  refine ⟨_,rfl,?_⟩
  refine Aa9 hS ?_;intro r11 w hS;replace hS:=Ho.bgNew (E:=N.Il1) hS
  obtain ⟨t13,ht13,h⟩:=bnd h
  refine Cp5 H hS  ht13 ?_;rintro r12 a12 m12 c12 w hS
  refine ⟨_,rfl,?_⟩
  obtain ⟨t14,ht14,h⟩:=bnd h
  replace hS:=ro1 hS
  refine Dt9 H hS (Ent.bg mp0) ht14 ?_;intro a13 m13 c13 w hS
  refine ⟨_,rfl,?_⟩
  obtain ⟨t15,ht15,h⟩:=bnd h
  refine Fp0 H hS (Ent.bg mp2) (Ent.bg mp0) ht15 ?_;intro w hS
  refine ⟨_,rfl,?_⟩
  obtain ⟨t16,ht16,h⟩:=bnd h
  refine Be6 H hS (Ent.bg mp2) ht16 ?_;intro w hS
  refine ⟨_,rfl,?_⟩
  refine Aa2 h ?_ ?_<;>intro hc h
  ·
   refine ⟨_,hS.cel mp4 rfl,?_⟩
   obtain ⟨t17,ht17,h⟩:=bnd h
   refine Ev3 H hS  ht17 ?_;rintro w hS
   refine ⟨_,rfl,?_⟩
   obtain ⟨o14,h14,c14⟩:=bnd h
   refine Ab0 (fun s w=>∃ (t18:Int),t18=o14∧s=(t18,())∧Ho w0 w ((cl r1 [.bool qb,.slice qc qe qg,.int .i64 qd] N.Im3)::L)) (fun J14 hJ14=>?_) ?_
   ·
    have h:=h14
    clear h14
    refine Aa2 h ?_ ?_<;>intro hc h
    ·
     obtain rfl:=Aa0 h
     exact hJ14 _ _ ⟨_,rfl,rfl,(hS.pick (A:=[_,_,_,_,_]) [4] rfl)⟩
    obtain rfl:=Aa0 h
    exact hJ14 _ _ ⟨_,rfl,rfl,(hS.pick (A:=[_,_,_,_,_]) [4] rfl)⟩
   clear h14 hS
   rintro s w ⟨t18,rfl,rfl,hS⟩
   have h:=c14
   clear c14
   try dsimp only
   exact hJ4 _ _ ⟨_,Aa0 h,rfl,hS⟩
  obtain ⟨o15,h15,c15⟩:=bnd h
  refine Ab0 (fun s w=>∃ (t19:Int),t19=o15∧s=(t19,())∧Ho w0 w ((cl r1 [.bool qb,.slice qc qe qg,.int .i64 qd] N.Im3)::L)) (fun J15 hJ15=>?_) ?_
  ·
   have h:=h15
   clear h15
   obtain rfl:=Aa0 h
   exact hJ15 _ _ ⟨_,rfl,rfl,(hS.pick (A:=[_,_,_,_,_]) [4] rfl)⟩
  clear h15 hS
  rintro s w ⟨t19,rfl,rfl,hS⟩
  have h:=c15
  clear c15
  try dsimp only
  exact hJ4 _ _ ⟨_,Aa0 h,rfl,hS⟩
 clear h4 hS
 rintro s w ⟨t6,rfl,rfl,hS⟩
 have h:=c4
 clear c4
 try dsimp only
 refine ⟨_,hS.cel mp0 rfl,?_⟩
 obtain ⟨t20,ht20,h⟩:=bnd h
 refine Ed8 H hS (hG.mono tl1) ht20 ?_;rintro z16 w rfl hS
 refine ⟨_,rfl,?_⟩
 cases Aa0 h
 exact hK _ _ rfl (hS.pick (A:=[_]) [] rfl)
theorem Cx1 {q0 qj qm vn q1 qo qu vk q2 u0 u1} (hS:Ho w0 w L) (qw:EF L vn q0 qj qm) (ve:EF L vk q1 qo qu) (hG:Ent L (Bx7 N.Im4)) (hx:Ar6 (List.map nf vn) (List.map nf vk) q2=some (u0,u1)) (hK:∀ (z0:Nat) (w1:World),nf z0=u0→Ho w0 w1 L→K (.tuple #[.float .f64 z0,.int .i64 u1]) w1):Aa1 P N.Hv5 #[.slice q0 qj qm,.slice q1 qo qu,.int .i8 q2] w K:=by
 refine H.sums_DotExact q0 qj qm q1 qo qu q2 w _ ?_
 unfold Bt3
 unfold Ar6 at hx
 have h:=hx
 clear hx
 try dsimp only
 refine Aa9 hS ?_;intro r1 w hS
 refine Aa9 hS ?_;intro r2 w hS
 refine ⟨_,_,_,hS.cel mp1 rfl,?_⟩
 obtain ⟨t1,ht1,h⟩:=bnd h
 obtain rfl:=Bd5 ht1 ((qw.mono tl2).now (fun _ h=>h) hS)
 refine ⟨_,_,_,hS.cel mp0 rfl,?_⟩
 obtain ⟨t2,ht2,h⟩:=bnd h
 obtain rfl:=Bd5 ht2 ((ve.mono tl2).now (fun _ h=>h) hS)
 refine Aa2 h ?_ ?_<;>intro hc h
 ·
  cases Aa0 h
  exact hK _ _ rfl (hS.pick (A:=[_,_]) [] rfl)
 refine ⟨_,_,_,hS.cel mp1 rfl,?_⟩
 obtain ⟨t3,ht3,h⟩:=bnd h
 refine Ca1 H hS (qw.mono tl2) ht3 ?_;rintro w hS
 refine ⟨_,rfl,?_⟩
 refine Aa2 h ?_ ?_<;>intro hc h
 ·
  refine ⟨_,_,_,hS.cel mp0 rfl,?_⟩
  obtain ⟨t4,ht4,h⟩:=bnd h
  refine Ca1 H hS (ve.mono tl2) ht4 ?_;rintro w hS
  refine ⟨_,rfl,?_⟩
  refine Aa2 h ?_ ?_<;>intro hc h
  ·
   cases Aa0 h
   exact hK _ _ rfl (hS.pick (A:=[_,_]) [] rfl)
  refine ⟨_,_,_,hS.cel mp1 rfl,?_⟩
  obtain ⟨t5,ht5,h⟩:=bnd h
  obtain rfl:=Bd5 ht5 ((qw.mono tl2).now (fun _ h=>h) hS)
  obtain ⟨⟨t6,t7,t8⟩,ho6,h⟩:=bnd h
  refine Dy1 H hS (by intro v0 w L1 r1 r2 r3 K hL hx hS hK;exact Ck2 H hS ((Ent.of mp1).mono hL) ((qw.mono tl2).mono hL) ((Ent.of mp0).mono hL) ((ve.mono tl2).mono hL) ((hG.mono tl2).mono hL) hx hK) ho6 ?_;clear hS ho6;rintro a3 m3 c3 w hS
  refine ⟨_,_,_,_,_,rfl,?_⟩
  refine Aa9 hS ?_;intro r4 w hS
  refine Aa4 hS rfl rfl ?_;intro w hS
  refine Aa4 hS rfl rfl ?_;intro w hS
  refine Aa4 hS rfl rfl ?_;intro w hS
  refine ⟨_,hS.cel mp0 rfl,_,_,_,hS.cel mp0 rfl,_,hS.cel mp0 rfl,?_⟩
  obtain ⟨⟨t9,t10⟩,ho9,h⟩:=bnd h
  refine Ea6 H hS (Ent.sl mp1) (hG.mono tl4) ho9 ?_;clear hS ho9;rintro z5 w rfl hS
  refine ⟨_,_,rfl,?_⟩
  cases Aa0 h
  exact hK _ _ rfl (hS.pick (A:=[_,_,_,_]) [] rfl)
 cases Aa0 h
 exact hK _ _ rfl (hS.pick (A:=[_,_]) [] rfl)
theorem Au4 {qb qc qd qa qf qr q1 qo qu vk q2 qy vf vx u0 u1} (hS:Ho w0 w L) (qp:EF L qr qd qa qf) (ve:EF L vk q1 qo qu) (vw:EF L vx q2 qy vf) (hG:Ent L (Bx7 N.Im4)) (h:Ah8 qb qc (List.map nf qr) (List.map nf vk) (List.map nf vx)=some (u0,u1)) (hK:∀ (a0:OA) (n0 c0:Nat) (rws0:List Nat) (w1:World),List.map nf rws0=u0→Ho w0 w1 ((sl a0 n0 c0 (List.map (Value.float .f64) rws0) N.Ii0)::L)→K (.tuple #[.slice a0 n0 c0,.int .i64 u1]) w1):Aa1 P N.Hz3 #[.agg #[.int .i64 qb,.int .i64 qc,.slice qd qa qf],.slice q1 qo qu,.slice q2 qy vf] w K:=by
 refine H.refine_Left qb qc qd qa qf q1 qo qu q2 qy vf w _ ?_
 unfold Ci3
 unfold Ah8 at h
 try dsimp only
 refine Aa9 hS ?_;intro r1 w hS
 refine ⟨_,hS.cel mp0 rfl,_,hS.cel mp0 rfl,_,_,_,hS.cel mp0 rfl,?_⟩
 obtain ⟨t1,ht1,h⟩:=bnd h
 refine Cj3 H hS (qp.mono tl1) (ve.mono tl1) (vw.mono tl1) ht1 ?_;rintro w hS
 refine ⟨_,rfl,?_⟩
 refine Aa2 h ?_ ?_<;>intro hc h
 ·
  replace hS:=hS.none (α:=Nat) (enc:=(Value.float .f64)) (t:=N.Ii0)
  cases Aa0 h
  exact hK _ _ _ _ _ rfl (hS.pick (A:=[_,_]) [0] rfl)
 refine ⟨_,_,_,hS.cel mp0 rfl,?_⟩
 obtain ⟨t2,ht2,h⟩:=bnd h
 obtain rfl:(List.map (List.map nf) ([qr,vk,vx]:List (List Nat)))=t2:=Aa0 ht2
 refine Ap0 (ks:=([(qd,qa,qf),(q1,qo,qu),(q2,qy,vf)]:List Hd)) (enc:=hdV) (m:=3) hS rfl rfl ?_;intro r2 w hS
 obtain ⟨t3,ht3,h⟩:=bnd h
 refine Ao8 H hS (Ent.sl mp0) (.cons (qp.mono tl2) (.cons (ve.mono tl2) (.cons (vw.mono tl2) .nil))) ht3 ?_;rintro w hS
 refine ⟨_,rfl,?_⟩
 refine Aa2 h ?_ ?_<;>intro hc h
 ·
  replace hS:=hS.none (α:=Nat) (enc:=(Value.float .f64)) (t:=N.Ii0)
  cases Aa0 h
  exact hK _ _ _ _ _ rfl (hS.pick (A:=[_,_,_]) [0] rfl)
 obtain ⟨t4,ht4,h⟩:=bnd h
 obtain rfl:(List.map nf ([4607182418800017408]:List Nat))=t4:=Aa0 ht4
 refine Ap0 (ks:=[4607182418800017408]) (enc:=(Value.float .f64)) (m:=1) hS rfl rfl ?_;intro r3 w hS
 obtain ⟨t5,ht5,h⟩:=bnd h
 obtain ⟨rfl,kt5⟩:=Hi5 ht5
 refine Bx6 hS kt5 ((ve.mono tl3).now (fun _ h=>h) hS) (fun _=>rfl) rfl ?_;clear hS kt5;intro a4 c4 w hS
 refine ⟨_,hS.cel mp2 rfl,?_⟩
 obtain ⟨o9,h9,c9⟩:=bnd h
 refine Ab0 (fun s w=>∃ (a5:OA) (m6:Nat) (c7:Nat) (jl:List Nat),(List.map nf jl)=o9∧s=((a5,m6,c7),())∧Ho w0 w ((sl a5 m6 c7 (List.map (Value.float .f64) jl) N.Ii0)::L)) (fun J9 hJ9=>?_) ?_
 ·
  have h:=h9
  clear h9
  replace hS:=hS.none (α:=Nat) (enc:=(Value.float .f64)) (t:=N.Ii0)
  refine Ab6 (fun s w t=>∃ (t7:Int) (a10:OA) (m11:Nat) (c12:Nat) (yr:List Nat),(t7,(List.map nf yr))=t∧s=((a10,m11,c12),t7,())∧Ho w0 w ((sl a4 (1+qo) c4 (List.map (Value.float .f64) ([4607182418800017408]++vk)) N.Ii0)::(cl r1 [.int .i64 qb,.int .i64 qc,.slice qd qa qf] N.Ik5)::(sl a10 m11 c12 (List.map (Value.float .f64) yr) N.Ii0)::L)) ?_ h ⟨_,_,_,_,_,rfl,rfl,(hS.pick (A:=[_,_,_,_]) [1,2,0] rfl)⟩
  clear h hS
  rintro s w t X q ⟨t7,a10,m11,c12,yr,rfl,rfl,hS⟩ h hX hO
  unfold Ak2 at h
  try dsimp only
  refine Aa2 h ?_ ?_<;>intro hc h
  ·
   obtain ⟨t9,ht9,h⟩:=bnd h
   obtain ⟨z14,rfl,q15x,gw,q15r⟩:=atF ht9
   refine Ac7 ((vw.mono tl3).now (fun _ h=>h) hS) q15x gw q15r ?_;intro b16 hb16
   refine ⟨_,Ab4 ((vw.mono tl3).now (fun _ h=>h) hS) hb16 q15x,?_⟩
   obtain ⟨t10,ht10,h⟩:=bnd h
   obtain rfl:(List.map nf ([z14]:List Nat))=t10:=Aa0 ht10
   refine Ap0 (ks:=[z14]) (enc:=(Value.float .f64)) (m:=1) hS rfl rfl ?_;intro r17 w hS
   refine ⟨_,_,_,hS.cel mp2 rfl,_,hS.cel mp2 rfl,_,hS.cel mp2 rfl,?_⟩
   obtain ⟨t11,ht11,h⟩:=bnd h
   obtain ⟨rfl,jh,ji,jn⟩:=Ht7 ht11
   have gx:=((qp.mono tl4).now (fun _ h=>h) hS).hiCap jn
   refine ⟨Int.le_trans jh ji,gx,jh,ji,?_⟩
   obtain ⟨t12,ht12,h⟩:=bnd h
   obtain rfl:=Bd5 ht12 ((Ent.part (qp.mono tl4) jh ji jn).now (fun _ h=>h) hS)
   obtain ⟨o23,h23,c23⟩:=bnd h
   refine Ab0 (fun s w=>∃ (a19:OA) (m20:Nat) (c21:Nat) (jw:List Nat),(List.map nf jw)=o23∧s=((a19,m20,c21),())∧Ho w0 w ((sl a4 (1+qo) c4 (List.map (Value.float .f64) ([4607182418800017408]++vk)) N.Ii0)::(cl r1 [.int .i64 qb,.int .i64 qc,.slice qd qa qf] N.Ik5)::(sl a10 m11 c12 (List.map (Value.float .f64) yr) N.Ii0)::(sl a19 m20 c21 (List.map (Value.float .f64) jw) N.Ii0)::L)) (fun J23 hJ23=>?_) ?_
   ·
    have h:=h23
    clear h23
    refine Ab6 (fun s w t=>∃ (t14:Int) (a24:OA) (m25:Nat) (c26:Nat) (jx:List Nat),(t14,(List.map nf jx))=t∧s=((a24,m25,c26),t14,())∧Ho w0 w ((sl a4 (1+qo) c4 (List.map (Value.float .f64) ([4607182418800017408]++vk)) N.Ii0)::(cl r1 [.int .i64 qb,.int .i64 qc,.slice qd qa qf] N.Ik5)::(sl a10 m11 c12 (List.map (Value.float .f64) yr) N.Ii0)::(sl a24 m25 c26 (List.map (Value.float .f64) jx) N.Ii0)::L)) ?_ h ⟨_,_,_,_,_,rfl,rfl,(hS.pick (A:=[_,_,_,_]) [1,1,1,0] rfl)⟩
    clear h hS
    rintro s w t X q ⟨t14,a24,m25,c26,jx,rfl,rfl,hS⟩ h hX hO
    unfold Ak5 at h
    try dsimp only
    refine Aa2 h ?_ ?_<;>intro hc h
    ·
     obtain ⟨t16,ht16,h⟩:=bnd h
     obtain ⟨z28,rfl,q29x,gy,q29r⟩:=atF ht16
     refine Ac7 ((Ent.part (qp.mono tl4) jh ji jn).now (fun _ h=>h) hS) q29x gy q29r ?_;intro b30 hb30
     refine ⟨_,Ab4 ((Ent.part (qp.mono tl4) jh ji jn).now (fun _ h=>h) hS) hb30 q29x,?_⟩
     obtain ⟨t17,ht17,h⟩:=bnd h
     obtain rfl:=Em2 ht17
     obtain ⟨t18,ht18,h⟩:=bnd h
     obtain rfl:(List.map nf ([(Bn0 z28)]:List Nat))=t18:=Aa0 ht18
     refine Ap0 (ks:=[(Bn0 z28)]) (enc:=(Value.float .f64)) (m:=1) hS rfl rfl ?_;intro r31 w hS
     obtain ⟨t19,ht19,h⟩:=bnd h
     obtain ⟨rfl,kt19⟩:=Hi5 ht19
     replace hS:=ro4 hS
     refine Bx6 hS kt19 ((Ent.sl mp1).now (fun _ h=>h) hS) (fun _=>rfl) rfl ?_;clear hS kt19;intro a32 c32 w hS
     obtain rfl:=Aa0 h
     exact hX _ rfl _ _ ⟨_,_,_,_,_,rfl,rfl,(hS.pick (A:=[_,_,_,_,_]) [2,2,2,0] rfl)⟩
    obtain rfl:=Aa0 h
    have h:=congrArg some (hO _ rfl)
    exact hJ23 _ _ ⟨_,_,_,_,Aa0 h,rfl,hS⟩
   clear h23 hS
   rintro s w ⟨a19,m20,c21,jw,rfl,rfl,hS⟩
   have h:=c23
   clear c23
   try dsimp only
   obtain ⟨⟨t20,t21⟩,ho20,h⟩:=bnd h
   refine Cx1 H hS (Ent.sl mp3) (Ent.sl mp0) (hG.mono tl4) ho20 ?_;clear hS ho20;rintro z33 w rfl hS
   refine ⟨_,_,rfl,?_⟩
   obtain ⟨t22,ht22,h⟩:=bnd h
   obtain rfl:(List.map nf ([z33]:List Nat))=t22:=Aa0 ht22
   refine Ap0 (ks:=[z33]) (enc:=(Value.float .f64)) (m:=1) hS rfl rfl ?_;intro r34 w hS
   obtain ⟨t23,ht23,h⟩:=bnd h
   obtain ⟨rfl,kt23⟩:=Hi5 ht23
   replace hS:=ro3 hS
   refine Bx6 hS kt23 ((Ent.sl mp1).now (fun _ h=>h) hS) (fun _=>rfl) rfl ?_;clear hS kt23;intro a35 c35 w hS
   obtain rfl:=Aa0 h
   exact hX _ rfl _ _ ⟨_,_,_,_,_,rfl,rfl,(hS.pick (A:=[_,_,_,_,_]) [2,2,0] rfl)⟩
  obtain rfl:=Aa0 h
  have h:=congrArg some (hO _ rfl)
  obtain rfl:=Aa0 h
  exact hJ9 _ _ ⟨_,_,_,_,rfl,rfl,(hS.pick (A:=[_,_,_]) [2] rfl)⟩
 clear h9 hS
 rintro s w ⟨a5,m6,c7,jl,rfl,rfl,hS⟩
 have h:=c9
 clear c9
 try dsimp only
 obtain ⟨t24,ht24,h⟩:=bnd h
 obtain rfl:(List.map (List.map nf) ([jl]:List (List Nat)))=t24:=Aa0 ht24
 refine Ap0 (ks:=([(a5,m6,c7)]:List Hd)) (enc:=hdV) (m:=1) hS rfl rfl ?_;intro r36 w hS
 obtain ⟨t25,ht25,h⟩:=bnd h
 refine Ao8 H hS (Ent.sl mp0) (.cons (Ent.sl mp1) .nil) ht25 ?_;rintro w hS
 refine ⟨_,rfl,?_⟩
 refine Aa2 h ?_ ?_<;>intro hc h
 ·
  replace hS:=hS.none (α:=Nat) (enc:=(Value.float .f64)) (t:=N.Ii0)
  cases Aa0 h
  exact hK _ _ _ _ _ rfl (hS.pick (A:=[_,_,_]) [0] rfl)
 cases Aa0 h
 exact hK _ _ _ _ _ rfl (hS.pick (A:=[_,_]) [1] rfl)
theorem Bz7 {qb qc qe qg qx qd qa qf qr u0} (hS:Ho w0 w L) (qn:EF L qx qc qe qg) (qp:EF L qr qd qa qf) (h:Ad3 qb (List.map nf qx) (List.map nf qr)=some u0) (hK:∀ w1,Ho w0 w1 L→K (.bool u0) w1):Aa1 P N.Hx6 #[.agg #[.int .i64 qb,.slice qc qe qg,.slice qd qa qf]] w K:=by
 refine H.lower_Right qb qc qe qg qd qa qf w _ ?_
 unfold Cg0
 unfold Ad3 at h
 try dsimp only
 refine Aa9 hS ?_;intro r1 w hS
 refine ⟨_,hS.cel mp0 rfl,?_⟩
 refine Aa2 h ?_ ?_<;>intro hc h
 ·
  refine ⟨_,hS.cel mp0 rfl,?_⟩
  refine Aa2 h ?_ ?_<;>intro hc h
  ·
   refine ⟨_,_,_,hS.cel mp0 rfl,?_⟩
   obtain ⟨t1,ht1,h⟩:=bnd h
   obtain rfl:=Bd5 ht1 ((qn.mono tl1).now (fun _ h=>h) hS)
   refine ⟨_,hS.cel mp0 rfl,_,hS.cel mp0 rfl,?_⟩
   refine ⟨by decide,?_⟩
   refine Aa2 h ?_ ?_<;>intro hc h
   ·
    refine ⟨_,_,_,hS.cel mp0 rfl,?_⟩
    obtain ⟨t2,ht2,h⟩:=bnd h
    obtain rfl:=Bd5 ht2 ((qp.mono tl1).now (fun _ h=>h) hS)
    refine ⟨_,hS.cel mp0 rfl,?_⟩
    cases Aa0 h
    exact hK _ (hS.pick (A:=[_]) [] rfl)
   cases Aa0 h
   exact hK _ (hS.pick (A:=[_]) [] rfl)
  cases Aa0 h
  exact hK _ (hS.pick (A:=[_]) [] rfl)
 cases Aa0 h
 exact hK _ (hS.pick (A:=[_]) [] rfl)
theorem Cb7 {qb qc qd qa qf qr ql qk qh qi vh qq qs qt qz u0} (hS:Ho w0 w L) (qp:EF L qr qd qa qf) (qv:EF L vh qk qh qi) (vg:EF L qz qq qs qt) (h:Af0 qb qc (List.map nf qr) ql (List.map nf vh) (List.map nf qz)=some u0) (hK:∀ w1,Ho w0 w1 L→K (.bool u0) w1):Aa1 P N.Hz1 #[.agg #[.int .i64 qb,.int .i64 qc,.slice qd qa qf],.agg #[.int .i64 ql,.slice qk qh qi,.slice qq qs qt]] w K:=by
 refine H.refine_fits qb qc qd qa qf ql qk qh qi qq qs qt w _ ?_
 unfold Cl5
 unfold Af0 at h
 try dsimp only
 refine Aa9 hS ?_;intro r1 w hS
 refine Aa9 hS ?_;intro r2 w hS
 refine ⟨_,hS.cel mp1 rfl,_,hS.cel mp1 rfl,_,_,_,hS.cel mp1 rfl,?_⟩
 obtain ⟨t1,ht1,h⟩:=bnd h
 refine Bs1 H hS (qp.mono tl2) ht1 ?_;rintro w hS
 refine ⟨_,rfl,?_⟩
 refine Aa2 h ?_ ?_<;>intro hc h
 ·
  refine ⟨_,hS.cel mp0 rfl,_,_,_,hS.cel mp0 rfl,_,_,_,hS.cel mp0 rfl,?_⟩
  obtain ⟨t2,ht2,h⟩:=bnd h
  refine Bz7 H hS (qv.mono tl2) (vg.mono tl2) ht2 ?_;rintro w hS
  refine ⟨_,rfl,?_⟩
  refine Aa2 h ?_ ?_<;>intro hc h
  ·
   refine ⟨_,hS.cel mp1 rfl,_,hS.cel mp0 rfl,?_⟩
   refine Aa2 h ?_ ?_<;>intro hc h
   ·
    refine ⟨_,hS.cel mp1 rfl,_,hS.cel mp0 rfl,?_⟩
    cases Aa0 h
    exact hK _ (hS.pick (A:=[_,_]) [] rfl)
   cases Aa0 h
   exact hK _ (hS.pick (A:=[_,_]) [] rfl)
  cases Aa0 h
  exact hK _ (hS.pick (A:=[_,_]) [] rfl)
 cases Aa0 h
 exact hK _ (hS.pick (A:=[_,_]) [] rfl)
theorem Cj4 {qb qc qe qg qx qd qa qf qr q1 u0} (hS:Ho w0 w L) (qn:EF L qx qc qe qg) (qp:EF L qr qd qa qf) (h:Ah9 qb (List.map nf qx) (List.map nf qr) q1=some u0) (hK:∀ w1,Ho w0 w1 L→K (.int .i64 u0) w1):Aa1 P N.Ib3 #[.agg #[.int .i64 qb,.slice qc qe qg,.slice qd qa qf],.int .i64 q1] w K:=by
 refine H.solve_fits qb qc qe qg qd qa qf q1 w _ ?_
 unfold Cs0
 unfold Ah9 at h
 try dsimp only
 refine Aa9 hS ?_;intro r1 w hS
 refine ⟨_,hS.cel mp0 rfl,_,_,_,hS.cel mp0 rfl,_,_,_,hS.cel mp0 rfl,?_⟩
 obtain ⟨t1,ht1,h⟩:=bnd h
 refine Bz7 H hS (qn.mono tl1) (qp.mono tl1) ht1 ?_;rintro w hS
 refine ⟨_,rfl,?_⟩
 refine Aa2 h ?_ ?_<;>intro hc h
 ·
  refine ⟨_,hS.cel mp0 rfl,?_⟩
  refine Aa2 h ?_ ?_<;>intro hc h
  ·
   cases Aa0 h
   exact hK _ (hS.pick (A:=[_]) [] rfl)
  cases Aa0 h
  exact hK _ (hS.pick (A:=[_]) [] rfl)
 cases Aa0 h
 exact hK _ (hS.pick (A:=[_]) [] rfl)
theorem Ak9 {q0 qj qm vn u0} (hS:Ho w0 w L) (qw:EF L vn q0 qj qm) (hx:Ac5 (List.map nf vn)=some u0) (hK:∀ (a0:OA) (n0 c0:Nat) (rws0:List Nat) (w1:World),List.map nf rws0=u0→Ho w0 w1 ((sl a0 n0 c0 (List.map (Value.float .f64) rws0) N.Ii0)::L)→K (.slice a0 n0 c0) w1):Aa1 P N.Hu2 #[.slice q0 qj qm] w K:=by
 unfold Ac5 at hx
 have hd:(List.map nf vn).length≤4294967296:=by
  rcases Nat.lt_or_ge 4294967296 (List.map nf vn).length with h | h
  ·
   rw [decide_eq_false (by omega)] at hx;cases hx
  exact h
 rw [decide_eq_true hd] at hx
 have hx:=Aa0 hx
 refine H.slices_Clone___float64_float64 q0 qj qm w _ ?_
 unfold Am4
 have r0:=qw.now (fun _ h=>h) hS
 refine Br4 (fun hc=>?_) (fun hc=>?_)
 ·
  have e:q0=none:=by cases q0<;>simp_all
  have e0:vn = []:=by
   cases vn with
   | nil=>rfl
   | cons x l=>obtain ⟨y,hy,_⟩:=r0.at_ 0 (by rw [r0.len];simp);rw [e] at hy;cases hy
  subst e0
  exact hK none 0 0 [] w hx (hS.none (α:=Nat) (enc:=Value.float .f64))
 refine Ap0 (ks:=([]:List Nat)) (enc:=Value.float .f64) (m:=0) hS rfl rfl ?_
 intro r w1 hS1
 refine Bx6 (ws:=[]) hS1 (by simp at hd ⊢;omega) ((qw.mono tl1).now (fun _ h=>h) hS1) (fun _=>rfl) rfl ?_
 intro a' c' w2 hS2
 exact hK a' _ c' vn w2 hx (by simpa using hS2)
theorem By6 {qb qc qe qg qx qd qa qf qr q1 q2 u0} (hS:Ho w0 w L) (qn:EF L qx qc qe qg) (qp:EF L qr qd qa qf) (h:At1 qb (List.map nf qx) (List.map nf qr) q1 q2=some u0) (hK:∀ (z0:Nat) (w1:World),nf z0=u0→Ho w0 w1 L→K (.float .f64 z0) w1):Aa1 P N.Hz2 #[.agg #[.int .i64 qb,.slice qc qe qg,.slice qd qa qf],.int .i64 q1,.int .i64 q2] w K:=by
 refine H.solve_below qb qc qe qg qd qa qf q1 q2 w _ ?_
 unfold Cf6
 unfold At1 at h
 try dsimp only
 refine Aa9 hS ?_;intro r1 w hS
 refine ⟨_,_,_,hS.cel mp0 rfl,?_⟩
 refine ⟨by decide,?_⟩
 obtain ⟨t1,ht1,h⟩:=bnd h
 obtain ⟨z2,rfl,q3x,vm,q3r⟩:=atF ht1
 refine Ac7 ((qn.mono tl1).now (fun _ h=>h) hS) q3x vm q3r ?_;intro b4 hb4
 refine ⟨_,Ab4 ((qn.mono tl1).now (fun _ h=>h) hS) hb4 q3x,?_⟩
 cases Aa0 h
 exact hK _ _ rfl (hS.pick (A:=[_]) [] rfl)
theorem Cw3 {qb qc qe qg qx qd qa qf qr q1 qo qu vk u0 u1} (hS:Ho w0 w L) (qn:EF L qx qc qe qg) (qp:EF L qr qd qa qf) (ve:EF L vk q1 qo qu) (h:Ac6 qb (List.map nf qx) (List.map nf qr) (List.map nf vk)=some (u0,u1)) (hK:∀ (a0:OA) (n0 c0:Nat) (rws0:List Nat) (w1:World),List.map nf rws0=u0→Ho w0 w1 ((sl a0 n0 c0 (List.map (Value.float .f64) rws0) N.Ii0)::L)→K (.tuple #[.slice a0 n0 c0,.int .i64 u1]) w1):Aa1 P N.Hv2 #[.agg #[.int .i64 qb,.slice qc qe qg,.slice qd qa qf],.slice q1 qo qu] w K:=by
 refine H.solve_Forward qb qc qe qg qd qa qf q1 qo qu w _ ?_
 unfold Bv3
 unfold Ac6 at h
 try dsimp only
 refine Aa9 hS ?_;intro r1 w hS
 refine ⟨_,hS.cel mp0 rfl,_,_,_,hS.cel mp0 rfl,_,_,_,hS.cel mp0 rfl,?_⟩
 obtain ⟨t1,ht1,h⟩:=bnd h
 obtain rfl:=Bd5 ht1 ((ve.mono tl1).now (fun _ h=>h) hS)
 obtain ⟨t2,ht2,h⟩:=bnd h
 refine Cj4 H hS (qn.mono tl1) (qp.mono tl1) ht2 ?_;rintro w hS
 refine ⟨_,rfl,?_⟩
 refine Aa2 h ?_ ?_<;>intro hc h
 ·
  replace hS:=hS.none (α:=Nat) (enc:=(Value.float .f64)) (t:=N.Ii0)
  cases Aa0 h
  exact hK _ _ _ _ _ rfl (hS.pick (A:=[_,_]) [0] rfl)
 obtain ⟨t3,ht3,h⟩:=bnd h
 refine Ak9 H hS (ve.mono tl1) ht3 ?_;rintro a2 m2 c2 vx w rfl hS
 refine ⟨_,_,_,rfl,?_⟩
 obtain ⟨t4,ht4,h⟩:=bnd h
 obtain rfl:=Bd5 ht4 ((Ent.sl mp0).now (fun _ h=>h) hS)
 obtain ⟨o4,h4,c4⟩:=bnd h
 refine Ab0 (fun s w=>∃ (yu:List Nat),(List.map nf yu)=o4∧s=(())∧Ho w0 w ((sl a2 m2 c2 (List.map (Value.float .f64) yu) N.Ii0)::L)) (fun J4 hJ4=>?_) ?_
 ·
  have h:=h4
  clear h4
  refine Ab6 (fun s w t=>∃ (t6:Int) (jm:List Nat),(t6,(List.map nf jm))=t∧s=(t6,())∧Ho w0 w ((sl a2 m2 c2 (List.map (Value.float .f64) jm) N.Ii0)::(cl r1 [.int .i64 qb,.slice qc qe qg,.slice qd qa qf] N.Ik8)::L)) ?_ h ⟨_,_,rfl,rfl,hS⟩
  clear h hS
  rintro s w t X q ⟨t6,jm,rfl,rfl,hS⟩ h hX hO
  unfold Ag9 at h
  try dsimp only
  refine Aa2 h ?_ ?_<;>intro hc h
  ·
   obtain ⟨o7,h7,c7⟩:=bnd h
   refine Ab0 (fun s w=>∃ (yi:List Nat),(List.map nf yi)=o7∧s=(())∧Ho w0 w ((sl a2 m2 c2 (List.map (Value.float .f64) yi) N.Ii0)::(cl r1 [.int .i64 qb,.slice qc qe qg,.slice qd qa qf] N.Ik8)::L)) (fun J7 hJ7=>?_) ?_
   ·
    have h:=h7
    clear h7
    refine Ab6 (fun s w t=>∃ (t9:Int) (jl:List Nat),(t9,(List.map nf jl))=t∧s=(t9,())∧Ho w0 w ((sl a2 m2 c2 (List.map (Value.float .f64) jl) N.Ii0)::(cl r1 [.int .i64 qb,.slice qc qe qg,.slice qd qa qf] N.Ik8)::L)) ?_ h ⟨_,_,rfl,rfl,hS⟩
    clear h hS
    rintro s w t X q ⟨t9,jl,rfl,rfl,hS⟩ h hX hO
    unfold Ag8 at h
    try dsimp only
    refine Aa2 h ?_ ?_<;>intro hc h
    ·
     obtain ⟨t11,ht11,h⟩:=bnd h
     obtain ⟨z9,rfl,q10x,yk,q10r⟩:=atF ht11
     refine Ac7 ((Ent.sl mp0).now (fun _ h=>h) hS) q10x yk q10r ?_;intro b11 hb11
     refine ⟨_,Ab4 ((Ent.sl mp0).now (fun _ h=>h) hS) hb11 q10x,?_⟩
     refine ⟨_,hS.cel mp1 rfl,_,_,_,hS.cel mp1 rfl,_,_,_,hS.cel mp1 rfl,?_⟩
     obtain ⟨t12,ht12,h⟩:=bnd h
     obtain ⟨z12,rfl,q13x,yw,q13r⟩:=atF ht12
     refine Ac7 ((Ent.sl mp0).now (fun _ h=>h) hS) q13x yw q13r ?_;intro b14 hb14
     refine ⟨_,Ab4 ((Ent.sl mp0).now (fun _ h=>h) hS) hb14 q13x,?_⟩
     refine Aa5 hS ?_;intro w hS
     obtain ⟨t13,ht13,h⟩:=bnd h
     refine By6 H hS (qn.mono tl2) (qp.mono tl2) ht13 ?_;rintro z15 w rfl hS
     refine ⟨_,rfl,?_⟩
     refine ⟨Ab4 ((Ent.sl mp0).now (fun _ h=>h) hS) hb14 q13x,?_⟩
     refine ⟨Ab4 ((Ent.sl mp0).now (fun _ h=>h) hS) hb11 q10x,?_⟩
     obtain ⟨t14,ht14,h⟩:=bnd h
     refine Dq2 ht14 hS ?_;clear ht14;rintro z16 _ rfl _
     obtain ⟨t15,ht15,h⟩:=bnd h
     refine Bs5 ht15 hS ?_;clear ht15;rintro z17 _ rfl _
     obtain ⟨t16,ht16,h⟩:=bnd h
     obtain ⟨z18,rfl,q19x,jg,q19r⟩:=atF ht16
     refine Ac7 ((Ent.sl mp0).now (fun _ h=>h) hS) q19x jg q19r ?_;intro b20 hb20
     refine Aa5 hS ?_;intro w hS
     obtain ⟨t17,ht17,h⟩:=bnd h
     obtain rfl:=Hc6 ht17
     refine Bj9 hS hb20 q19r ?_;intro w hS
     refine Aa5 hS ?_;intro w hS
     obtain rfl:=Aa0 h
     exact hX _ rfl _ _ ⟨_,_,rfl,rfl,hS⟩
    obtain rfl:=Aa0 h
    have h:=congrArg some (hO _ rfl)
    exact hJ7 _ _ ⟨_,Aa0 h,rfl,hS⟩
   clear h7 hS
   rintro s w ⟨yi,rfl,rfl,hS⟩
   have h:=c7
   clear c7
   try dsimp only
   obtain rfl:=Aa0 h
   exact hX _ rfl _ _ ⟨_,_,rfl,rfl,hS⟩
  obtain rfl:=Aa0 h
  have h:=congrArg some (hO _ rfl)
  obtain rfl:=Aa0 h
  exact hJ4 _ _ ⟨_,rfl,rfl,(hS.pick (A:=[_,_]) [0] rfl)⟩
 clear h4 hS
 rintro s w ⟨yu,rfl,rfl,hS⟩
 have h:=c4
 clear c4
 try dsimp only
 cases Aa0 h
 exact hK _ _ _ _ _ rfl hS
theorem Ax6 {q0 qj qm vn q1 u0} (hS:Ho w0 w L) (qw:EF L vn q0 qj qm) (h:Ad5 (List.map nf vn) (nf q1)=some u0) (hK:∀ w1,Ho w0 w1 L→K (.int .i64 u0) w1):Aa1 P N.Hu3 #[.slice q0 qj qm,.float .f64 q1] w K:=by
 refine H.slices_Index___float64_float64 q0 qj qm q1 w _ ?_
 unfold Am5
 unfold Ad5 at h
 try dsimp only
 obtain ⟨t1,ht1,h⟩:=bnd h
 obtain rfl:=Bd5 ht1 (qw.now (fun _ h=>h) hS)
 obtain ⟨o1,h1,c1⟩:=bnd h
 refine Ab0 (fun s w =>  .inl ()=o1∧s=(())∧Ho w0 w L) (fun J1 hJ1=>?_) ?_
 ·
  have h:=h1
  clear h1
  refine Ab6 (fun s w t=>∃ (t2:Int),t2=t∧s=(t2,())∧Ho w0 w L) ?_ h ⟨_,rfl,rfl,hS⟩
  clear h hS
  rintro s w t X q ⟨t2,rfl,rfl,hS⟩ h hX hO
  unfold Aa7 at h
  try dsimp only
  refine Aa2 h ?_ ?_<;>intro hc h
  ·
   obtain ⟨t3,ht3,h⟩:=bnd h
   obtain ⟨z2,rfl,q3x,vm,q3r⟩:=atF ht3
   refine Ac7 (qw.now (fun _ h=>h) hS) q3x vm q3r ?_;intro b4 hb4
   refine ⟨_,Ab4 (qw.now (fun _ h=>h) hS) hb4 q3x,?_⟩
   obtain ⟨t4,ht4,h⟩:=bnd h
   obtain rfl:=Bx5 ht4
   refine Aa2 h ?_ ?_<;>intro hc h
   ·
    obtain rfl:=Aa0 h
    have h:=congrArg some (hO _ rfl)
    obtain rfl:=Aa0 h
    have h:=c1
    cases Aa0 h
    exact hK _ hS
   obtain rfl:=Aa0 h
   exact hX _ rfl _ _ ⟨_,rfl,rfl,hS⟩
  obtain rfl:=Aa0 h
  have h:=congrArg some (hO _ rfl)
  exact hJ1 _ _ ⟨Aa0 h,rfl,hS⟩
 clear h1 hS
 rintro s w ⟨rfl,rfl,hS⟩
 have h:=c1
 clear c1
 try dsimp only
 cases Aa0 h
 exact hK _ hS
theorem Au3 {q0 qj qm vn q1 u0} (hS:Ho w0 w L) (qw:EF L vn q0 qj qm) (h:Ab5 (List.map nf vn) (nf q1)=some u0) (hK:∀ w1,Ho w0 w1 L→K (.bool u0) w1):Aa1 P N.Hu1 #[.slice q0 qj qm,.float .f64 q1] w K:=by
 refine H.slices_Contains___float64_float64 q0 qj qm q1 w _ ?_
 unfold Ai9
 unfold Ab5 at h
 try dsimp only
 obtain ⟨t1,ht1,h⟩:=bnd h
 refine Ax6 H hS qw ht1 ?_;rintro w hS
 refine ⟨_,rfl,?_⟩
 cases Aa0 h
 exact hK _ hS
theorem Ea2 {qb qc qe qg qx qd qa qf qr q1 qo qu vk u0 u1} (hS:Ho w0 w L) (qn:EF L qx qc qe qg) (qp:EF L qr qd qa qf) (ve:EF L vk q1 qo qu) (h:Ag1 qb (List.map nf qx) (List.map nf qr) (List.map nf vk)=some (u0,u1)) (hK:∀ (a0:OA) (n0 c0:Nat) (rws0:List Nat) (w1:World),List.map nf rws0=u0→Ho w0 w1 ((sl a0 n0 c0 (List.map (Value.float .f64) rws0) N.Ii0)::L)→K (.tuple #[.slice a0 n0 c0,.int .i64 u1]) w1):Aa1 P N.Ic6 #[.agg #[.int .i64 qb,.slice qc qe qg,.slice qd qa qf],.slice q1 qo qu] w K:=by
 refine H.solve_Back qb qc qe qg qd qa qf q1 qo qu w _ ?_
 unfold Ct3
 unfold Ag1 at h
 try dsimp only
 refine Aa9 hS ?_;intro r1 w hS
 refine ⟨_,hS.cel mp0 rfl,_,_,_,hS.cel mp0 rfl,_,_,_,hS.cel mp0 rfl,?_⟩
 obtain ⟨t1,ht1,h⟩:=bnd h
 obtain rfl:=Bd5 ht1 ((ve.mono tl1).now (fun _ h=>h) hS)
 obtain ⟨t2,ht2,h⟩:=bnd h
 refine Cj4 H hS (qn.mono tl1) (qp.mono tl1) ht2 ?_;rintro w hS
 refine ⟨_,rfl,?_⟩
 refine Aa2 h ?_ ?_<;>intro hc h
 ·
  replace hS:=hS.none (α:=Nat) (enc:=(Value.float .f64)) (t:=N.Ii0)
  cases Aa0 h
  exact hK _ _ _ _ _ rfl (hS.pick (A:=[_,_]) [0] rfl)
 refine ⟨_,_,_,hS.cel mp0 rfl,?_⟩
 obtain ⟨t3,ht3,h⟩:=bnd h
 refine Au3 H hS (qp.mono tl1) ht3 ?_;rintro w hS
 refine ⟨_,rfl,?_⟩
 refine Aa2 h ?_ ?_<;>intro hc h
 ·
  replace hS:=hS.none (α:=Nat) (enc:=(Value.float .f64)) (t:=N.Ii0)
  cases Aa0 h
  exact hK _ _ _ _ _ rfl (hS.pick (A:=[_,_]) [0] rfl)
 obtain ⟨t4,ht4,h⟩:=bnd h
 refine Ak9 H hS (ve.mono tl1) ht4 ?_;rintro a2 m2 c2 vx w rfl hS
 refine ⟨_,_,_,rfl,?_⟩
 refine ⟨_,_,_,hS.cel mp1 rfl,?_⟩
 obtain ⟨t5,ht5,h⟩:=bnd h
 obtain rfl:=Bd5 ht5 ((qp.mono tl2).now (fun _ h=>h) hS)
 obtain ⟨o4,h4,c4⟩:=bnd h
 refine Ab0 (fun s w=>∃ (yu:List Nat),(List.map nf yu)=o4∧s=(())∧Ho w0 w ((sl a2 m2 c2 (List.map (Value.float .f64) yu) N.Ii0)::(cl r1 [.int .i64 qb,.slice qc qe qg,.slice qd qa qf] N.Ik8)::L)) (fun J4 hJ4=>?_) ?_
 ·
  have h:=h4
  clear h4
  refine Ab6 (fun s w t=>∃ (t7:Int) (jm:List Nat),(t7,(List.map nf jm))=t∧s=(t7,())∧Ho w0 w ((sl a2 m2 c2 (List.map (Value.float .f64) jm) N.Ii0)::(cl r1 [.int .i64 qb,.slice qc qe qg,.slice qd qa qf] N.Ik8)::L)) ?_ h ⟨_,_,rfl,rfl,hS⟩
  clear h hS
  rintro s w t X q ⟨t7,jm,rfl,rfl,hS⟩ h hX hO
  unfold Am8 at h
  try dsimp only
  refine Aa2 h ?_ ?_<;>intro hc h
  ·
   obtain ⟨t9,ht9,h⟩:=bnd h
   obtain ⟨z6,rfl,q7x,jr,q7r⟩:=atF ht9
   refine Ac7 ((qp.mono tl2).now (fun _ h=>h) hS) q7x jr q7r ?_;intro b8 hb8
   refine ⟨_,Ab4 ((qp.mono tl2).now (fun _ h=>h) hS) hb8 q7x,?_⟩
   obtain ⟨t10,ht10,h⟩:=bnd h
   obtain ⟨z9,rfl,q10x,yk,q10r⟩:=atF ht10
   refine Ac7 ((Ent.sl mp0).now (fun _ h=>h) hS) q10x yk q10r ?_;intro b11 hb11
   refine ⟨_,Ab4 ((Ent.sl mp0).now (fun _ h=>h) hS) hb11 q10x,?_⟩
   obtain ⟨t11,ht11,h⟩:=bnd h
   refine Dq1 ht11 hS ?_;rintro z12 w rfl hS
   obtain ⟨t12,ht12,h⟩:=bnd h
   obtain ⟨z13,rfl,q14x,yx,q14r⟩:=atF ht12
   refine Ac7 ((Ent.sl mp0).now (fun _ h=>h) hS) q14x yx q14r ?_;intro b15 hb15
   obtain ⟨t13,ht13,h⟩:=bnd h
   obtain rfl:=Hc6 ht13
   refine Bj9 hS hb15 q14r ?_;intro w hS
   obtain rfl:=Aa0 h
   exact hX _ rfl _ _ ⟨_,_,rfl,rfl,hS⟩
  obtain rfl:=Aa0 h
  have h:=congrArg some (hO _ rfl)
  exact hJ4 _ _ ⟨_,Aa0 h,rfl,hS⟩
 clear h4 hS
 rintro s w ⟨yu,rfl,rfl,hS⟩
 have h:=c4
 clear c4
 try dsimp only
 obtain ⟨t14,ht14,h⟩:=bnd h
 obtain rfl:=Bd5 ht14 ((Ent.sl mp0).now (fun _ h=>h) hS)
 obtain ⟨o17,h17,c17⟩:=bnd h
 refine Ab0 (fun s w=>∃ (jy:List Nat),(List.map nf jy)=o17∧s=(())∧Ho w0 w ((sl a2 m2 c2 (List.map (Value.float .f64) jy) N.Ii0)::L)) (fun J17 hJ17=>?_) ?_
 ·
  have h:=h17
  clear h17
  refine Ab6 (fun s w t=>∃ (t16:Int) (yy:List Nat),(t16,(List.map nf yy))=t∧s=(t16,())∧Ho w0 w ((sl a2 m2 c2 (List.map (Value.float .f64) yy) N.Ii0)::(cl r1 [.int .i64 qb,.slice qc qe qg,.slice qd qa qf] N.Ik8)::L)) ?_ h ⟨_,_,rfl,rfl,hS⟩
  clear h hS
  rintro s w t X q ⟨t16,yy,rfl,rfl,hS⟩ h hX hO
  unfold An3 at h
  try dsimp only
  refine Aa2 h ?_ ?_<;>intro hc h
  ·
   obtain ⟨t18,ht18,h⟩:=bnd h
   obtain rfl:=Bd5 ht18 ((Ent.sl mp0).now (fun _ h=>h) hS)
   obtain ⟨o20,h20,c20⟩:=bnd h
   refine Ab0 (fun s w=>∃ (yt:List Nat),(List.map nf yt)=o20∧s=(())∧Ho w0 w ((sl a2 m2 c2 (List.map (Value.float .f64) yt) N.Ii0)::(cl r1 [.int .i64 qb,.slice qc qe qg,.slice qd qa qf] N.Ik8)::L)) (fun J20 hJ20=>?_) ?_
   ·
    have h:=h20
    clear h20
    refine Ab6 (fun s w t=>∃ (t20:Int) (jo:List Nat),(t20,(List.map nf jo))=t∧s=(t20,())∧Ho w0 w ((sl a2 m2 c2 (List.map (Value.float .f64) jo) N.Ii0)::(cl r1 [.int .i64 qb,.slice qc qe qg,.slice qd qa qf] N.Ik8)::L)) ?_ h ⟨_,_,rfl,rfl,hS⟩
    clear h hS
    rintro s w t X q ⟨t20,jo,rfl,rfl,hS⟩ h hX hO
    unfold Aj5 at h
    try dsimp only
    obtain ⟨t22,ht22,h⟩:=bnd h
    obtain rfl:=Bd5 ht22 ((Ent.sl mp0).now (fun _ h=>h) hS)
    refine Aa2 h ?_ ?_<;>intro hc h
    ·
     obtain ⟨t23,ht23,h⟩:=bnd h
     obtain ⟨z22,rfl,q23x,gz,q23r⟩:=atF ht23
     refine Ac7 ((Ent.sl mp0).now (fun _ h=>h) hS) q23x gz q23r ?_;intro b24 hb24
     refine ⟨_,Ab4 ((Ent.sl mp0).now (fun _ h=>h) hS) hb24 q23x,?_⟩
     refine ⟨_,hS.cel mp1 rfl,_,_,_,hS.cel mp1 rfl,_,_,_,hS.cel mp1 rfl,?_⟩
     obtain ⟨t24,ht24,h⟩:=bnd h
     obtain ⟨z25,rfl,q26x,za,q26r⟩:=atF ht24
     refine Ac7 ((Ent.sl mp0).now (fun _ h=>h) hS) q26x za q26r ?_;intro b27 hb27
     refine ⟨_,Ab4 ((Ent.sl mp0).now (fun _ h=>h) hS) hb27 q26x,?_⟩
     refine Aa5 hS ?_;intro w hS
     obtain ⟨t25,ht25,h⟩:=bnd h
     refine By6 H hS (qn.mono tl2) (qp.mono tl2) ht25 ?_;rintro z28 w rfl hS
     refine ⟨_,rfl,?_⟩
     refine ⟨Ab4 ((Ent.sl mp0).now (fun _ h=>h) hS) hb27 q26x,?_⟩
     refine ⟨Ab4 ((Ent.sl mp0).now (fun _ h=>h) hS) hb24 q23x,?_⟩
     obtain ⟨t26,ht26,h⟩:=bnd h
     refine Dq2 ht26 hS ?_;clear ht26;rintro z29 _ rfl _
     obtain ⟨t27,ht27,h⟩:=bnd h
     refine Bs5 ht27 hS ?_;clear ht27;rintro z30 _ rfl _
     obtain ⟨t28,ht28,h⟩:=bnd h
     obtain ⟨z31,rfl,q32x,zb,q32r⟩:=atF ht28
     refine Ac7 ((Ent.sl mp0).now (fun _ h=>h) hS) q32x zb q32r ?_;intro b33 hb33
     refine Aa5 hS ?_;intro w hS
     obtain ⟨t29,ht29,h⟩:=bnd h
     obtain rfl:=Hc6 ht29
     refine Bj9 hS hb33 q32r ?_;intro w hS
     refine Aa5 hS ?_;intro w hS
     obtain rfl:=Aa0 h
     exact hX _ rfl _ _ ⟨_,_,rfl,rfl,hS⟩
    obtain rfl:=Aa0 h
    have h:=congrArg some (hO _ rfl)
    exact hJ20 _ _ ⟨_,Aa0 h,rfl,hS⟩
   clear h20 hS
   rintro s w ⟨yt,rfl,rfl,hS⟩
   have h:=c20
   clear c20
   try dsimp only
   obtain rfl:=Aa0 h
   exact hX _ rfl _ _ ⟨_,_,rfl,rfl,hS⟩
  obtain rfl:=Aa0 h
  have h:=congrArg some (hO _ rfl)
  obtain rfl:=Aa0 h
  exact hJ17 _ _ ⟨_,rfl,rfl,(hS.pick (A:=[_,_]) [0] rfl)⟩
 clear h17 hS
 rintro s w ⟨jy,rfl,rfl,hS⟩
 have h:=c17
 clear c17
 try dsimp only
 cases Aa0 h
 exact hK _ _ _ _ _ rfl hS
theorem By9 {qb qc qe qg qx qd qa qf qr q1 qo qu vk u0 u1} (hS:Ho w0 w L) (qn:EF L qx qc qe qg) (qp:EF L qr qd qa qf) (ve:EF L vk q1 qo qu) (h:Ah4 qb (List.map nf qx) (List.map nf qr) (List.map nf vk)=some (u0,u1)) (hK:∀ (a0:OA) (n0 c0:Nat) (rws0:List Nat) (w1:World),List.map nf rws0=u0→Ho w0 w1 ((sl a0 n0 c0 (List.map (Value.float .f64) rws0) N.Ii0)::L)→K (.tuple #[.slice a0 n0 c0,.int .i64 u1]) w1):Aa1 P N.Hx0 #[.agg #[.int .i64 qb,.slice qc qe qg,.slice qd qa qf],.slice q1 qo qu] w K:=by
 refine H.solve_Solve qb qc qe qg qd qa qf q1 qo qu w _ ?_
 unfold Ck4
 unfold Ah4 at h
 try dsimp only
 refine Aa9 hS ?_;intro r1 w hS
 refine ⟨_,hS.cel mp0 rfl,_,_,_,hS.cel mp0 rfl,_,_,_,hS.cel mp0 rfl,?_⟩
 obtain ⟨⟨t1,t2⟩,ho1,h⟩:=bnd h
 refine Cw3 H hS (qn.mono tl1) (qp.mono tl1) (ve.mono tl1) ho1 ?_;clear hS ho1;rintro a2 m2 c2 vx w rfl hS
 refine ⟨_,_,_,_,rfl,?_⟩
 refine Aa2 h ?_ ?_<;>intro hc h
 ·
  replace hS:=hS.none (α:=Nat) (enc:=(Value.float .f64)) (t:=N.Ii0)
  cases Aa0 h
  exact hK _ _ _ _ _ rfl (hS.pick (A:=[_,_,_]) [0] rfl)
 refine ⟨_,hS.cel mp1 rfl,_,_,_,hS.cel mp1 rfl,_,_,_,hS.cel mp1 rfl,?_⟩
 obtain ⟨⟨t3,t4⟩,ho3,h⟩:=bnd h
 refine Ea2 H hS (qn.mono tl2) (qp.mono tl2) (Ent.sl mp0) ho3 ?_;clear hS ho3;rintro a3 m3 c3 yu w rfl hS
 refine ⟨_,_,_,_,rfl,?_⟩
 cases Aa0 h
 exact hK _ _ _ _ _ rfl (hS.pick (A:=[_,_,_]) [0] rfl)
theorem Eo3 {q0 u0} (hS:Ho w0 w L)  (h:Bh4 q0=some u0) (hK:∀ w1,Ho w0 w1 L→K (.int .i8 u0) w1):Aa1 P N.Ie0 #[.int .i8 q0] w K:=by
 refine H.round_way q0 w _ ?_
 unfold Dh7
 unfold Bh4 at h
 try dsimp only
 refine Aa2 h ?_ ?_<;>intro hc h
 ·
  refine Aa2 h ?_ ?_<;>intro hc h
  ·
   cases Aa0 h
   exact hK _ hS
  cases Aa0 h
  exact hK _ hS
 cases Aa0 h
 exact hK _ hS
theorem De7 {q0 qj qm vn u0} (hS:Ho w0 w L) (qw:EF L vn q0 qj qm) (h:Au8 (List.map nf vn)=some u0) (hK:∀ w1,Ho w0 w1 L→K (.bool u0) w1):Aa1 P N.Hw7 #[.slice q0 qj qm] w K:=by
 refine H.round_finite q0 qj qm w _ ?_
 unfold Cb4
 unfold Au8 at h
 try dsimp only
 obtain ⟨t1,ht1,h⟩:=bnd h
 obtain rfl:=Bd5 ht1 (qw.now (fun _ h=>h) hS)
 obtain ⟨o1,h1,c1⟩:=bnd h
 refine Ab0 (fun s w =>  .inl ()=o1∧s=(())∧Ho w0 w L) (fun J1 hJ1=>?_) ?_
 ·
  have h:=h1
  clear h1
  refine Ab6 (fun s w t=>∃ (t2:Int),t2=t∧s=(t2,())∧Ho w0 w L) ?_ h ⟨_,rfl,rfl,hS⟩
  clear h hS
  rintro s w t X q ⟨t2,rfl,rfl,hS⟩ h hX hO
  unfold Ai6 at h
  try dsimp only
  refine Aa2 h ?_ ?_<;>intro hc h
  ·
   obtain ⟨t3,ht3,h⟩:=bnd h
   obtain ⟨z2,rfl,q3x,vm,q3r⟩:=atF ht3
   refine Ac7 (qw.now (fun _ h=>h) hS) q3x vm q3r ?_;intro b4 hb4
   refine ⟨_,Ab4 (qw.now (fun _ h=>h) hS) hb4 q3x,?_⟩
   obtain ⟨t4,ht4,h⟩:=bnd h
   refine Be4 H hS  ht4 ?_;rintro w hS
   refine ⟨_,rfl,?_⟩
   refine Aa2 h ?_ ?_<;>intro hc h
   ·
    obtain ⟨t5,ht5,h⟩:=bnd h
    refine Ao6 H hS  ht5 ?_;rintro w hS
    refine ⟨_,rfl,?_⟩
    refine Aa2 h ?_ ?_<;>intro hc h
    ·
     obtain rfl:=Aa0 h
     have h:=congrArg some (hO _ rfl)
     obtain rfl:=Aa0 h
     have h:=c1
     cases Aa0 h
     exact hK _ hS
    obtain rfl:=Aa0 h
    exact hX _ rfl _ _ ⟨_,rfl,rfl,hS⟩
   obtain rfl:=Aa0 h
   have h:=congrArg some (hO _ rfl)
   obtain rfl:=Aa0 h
   have h:=c1
   cases Aa0 h
   exact hK _ hS
  obtain rfl:=Aa0 h
  have h:=congrArg some (hO _ rfl)
  exact hJ1 _ _ ⟨Aa0 h,rfl,hS⟩
 clear h1 hS
 rintro s w ⟨rfl,rfl,hS⟩
 have h:=c1
 clear c1
 try dsimp only
 cases Aa0 h
 exact hK _ hS
theorem Ea0 {q0 u0} (hS:Ho w0 w L)  (h:Bc0 q0=some u0) (hK:∀ (z0:Nat) (w1:World),nf z0=u0→Ho w0 w1 L→K (.float .f64 z0) w1):Aa1 P N.Hz9 #[.int .i8 q0] w K:=by
 refine H.round_none q0 w _ ?_
 unfold Cr2
 unfold Bc0 at h
 try dsimp only
 refine Aa2 h ?_ ?_<;>intro hc h
 ·
  obtain ⟨t1,ht1,h⟩:=bnd h
  refine Ad2 H hS  ht1 ?_;rintro z1 w rfl hS
  refine ⟨_,rfl,?_⟩
  cases Aa0 h
  exact hK _ _ rfl hS
 cases Aa0 h
 exact hK _ _ rfl hS
theorem Bo0 {q0 q1 u0} (hS:Ho w0 w L)  (h:Ar1 (nf q0) q1=some u0) (hK:∀ (z0:Nat) (w1:World),nf z0=u0→Ho w0 w1 L→K (.float .f64 z0) w1):Aa1 P N.Ib7 #[.float .f64 q0,.bool q1] w K:=by
 refine H.round_step q0 q1 w _ ?_
 unfold Cr0
 unfold Ar1 at h
 try dsimp only
 obtain ⟨t1,ht1,h⟩:=bnd h
 refine Af2 H hS  ht1 ?_;rintro w hS
 refine ⟨_,rfl,?_⟩
 obtain ⟨o1,h1,c1⟩:=bnd h
 refine Ab0 (fun s w=>∃ (t2:Int),t2=o1∧s=(t2,())∧Ho w0 w L) (fun J1 hJ1=>?_) ?_
 ·
  have h:=h1
  clear h1
  obtain ⟨t3,ht3,h⟩:=bnd h
  obtain rfl:=Bx5 ht3
  obtain ⟨o2,h2,c2⟩:=bnd h
  refine Ab0 (fun s w=>∃ (t4:Int),t4=o2∧s=(t4,())∧Ho w0 w L) (fun J2 hJ2=>?_) ?_
  ·
   have h:=h2
   clear h2
   refine Aa2 h ?_ ?_<;>intro hc h
   ·
    obtain ⟨o3,h3,c3⟩:=bnd h
    refine Ab0 (fun s w=>∃ (t5:Int),t5=o3∧s=(t5,())∧Ho w0 w L) (fun J3 hJ3=>?_) ?_
    ·
     have h:=h3
     clear h3
     refine Aa2 h ?_ ?_<;>intro hc h
     ·
      exact hJ3 _ _ ⟨_,Aa0 h,rfl,hS⟩
     exact hJ3 _ _ ⟨_,Aa0 h,rfl,hS⟩
    clear h3 hS
    rintro s w ⟨t5,rfl,rfl,hS⟩
    have h:=c3
    clear c3
    try dsimp only
    exact hJ2 _ _ ⟨_,Aa0 h,rfl,hS⟩
   obtain ⟨t6,ht6,h⟩:=bnd h
   obtain rfl:=Ea8 ht6
   obtain ⟨o4,h4,c4⟩:=bnd h
   refine Ab0 (fun s w=>∃ (t7:Int),t7=o4∧s=(t7,())∧Ho w0 w L) (fun J4 hJ4=>?_) ?_
   ·
    have h:=h4
    clear h4
    refine Aa2 h ?_ ?_<;>intro hc h
    ·
     exact hJ4 _ _ ⟨_,Aa0 h,rfl,hS⟩
    exact hJ4 _ _ ⟨_,Aa0 h,rfl,hS⟩
   clear h4 hS
   rintro s w ⟨t7,rfl,rfl,hS⟩
   have h:=c4
   clear c4
   try dsimp only
   exact hJ2 _ _ ⟨_,Aa0 h,rfl,hS⟩
  clear h2 hS
  rintro s w ⟨t4,rfl,rfl,hS⟩
  have h:=c2
  clear c2
  try dsimp only
  exact hJ1 _ _ ⟨_,Aa0 h,rfl,hS⟩
 clear h1 hS
 rintro s w ⟨t2,rfl,rfl,hS⟩
 have h:=c1
 clear c1
 try dsimp only
 obtain ⟨t8,ht8,h⟩:=bnd h
 refine Ac2 H hS  ht8 ?_;rintro z5 w rfl hS
 refine ⟨_,rfl,?_⟩
 cases Aa0 h
 exact hK _ _ rfl hS
theorem Br6 {q0 q1 q2 u0} (hS:Ho w0 w L)  (h:Ap8 (nf q0) q1 q2=some u0) (hK:∀ (z0:Nat) (w1:World),nf z0=u0→Ho w0 w1 L→K (.float .f64 z0) w1):Aa1 P N.Hw2 #[.float .f64 q0,.int .i64 q1,.int .i8 q2] w K:=by
 refine H.round_settle q0 q1 q2 w _ ?_
 unfold By8
 unfold Ap8 at h
 try dsimp only
 obtain ⟨o1,h1,c1⟩:=bnd h
 refine Ab0 (fun s w=>∃ (t1:Int),t1=o1∧s=(t1,())∧Ho w0 w L) (fun J1 hJ1=>?_) ?_
 ·
  have h:=h1
  clear h1
  refine Aa2 h ?_ ?_<;>intro hc h
  ·
   obtain ⟨t2,ht2,h⟩:=bnd h
   refine Af6 H hS  ht2 ?_;rintro w hS
   refine ⟨_,rfl,?_⟩
   obtain ⟨o2,h2,c2⟩:=bnd h
   refine Ab0 (fun s w=>∃ (t3:Int),t3=o2∧s=(t3,())∧Ho w0 w L) (fun J2 hJ2=>?_) ?_
   ·
    have h:=h2
    clear h2
    refine Aa2 h ?_ ?_<;>intro hc h
    ·
     exact hJ2 _ _ ⟨_,Aa0 h,rfl,hS⟩
    exact hJ2 _ _ ⟨_,Aa0 h,rfl,hS⟩
   clear h2 hS
   rintro s w ⟨t3,rfl,rfl,hS⟩
   have h:=c2
   clear c2
   try dsimp only
   exact hJ1 _ _ ⟨_,Aa0 h,rfl,hS⟩
  exact hJ1 _ _ ⟨_,Aa0 h,rfl,hS⟩
 clear h1 hS
 rintro s w ⟨t1,rfl,rfl,hS⟩
 have h:=c1
 clear c1
 try dsimp only
 obtain ⟨t4,ht4,h⟩:=bnd h
 refine Ao6 H hS  ht4 ?_;rintro w hS
 refine ⟨_,rfl,?_⟩
 refine Aa2 h ?_ ?_<;>intro hc h
 ·
  obtain ⟨t5,ht5,h⟩:=bnd h
  obtain rfl:=Ea8 ht5
  refine Aa2 h ?_ ?_<;>intro hc h
  ·
   refine Aa2 h ?_ ?_<;>intro hc h
   ·
    obtain ⟨t6,ht6,h⟩:=bnd h
    obtain rfl:=Cm8 ht6
    refine Aa2 h ?_ ?_<;>intro hc h
    ·
     refine Aa2 h ?_ ?_<;>intro hc h
     ·
      obtain ⟨t7,ht7,h⟩:=bnd h
      refine Ad2 H hS  ht7 ?_;rintro z3 w rfl hS
      refine ⟨_,rfl,?_⟩
      cases Aa0 h
      exact hK _ _ rfl hS
     cases Aa0 h
     exact hK _ _ rfl hS
    cases Aa0 h
    exact hK _ _ rfl hS
   obtain ⟨t8,ht8,h⟩:=bnd h
   refine Ad2 H hS  ht8 ?_;rintro z4 w rfl hS
   refine ⟨_,rfl,?_⟩
   cases Aa0 h
   exact hK _ _ rfl hS
  obtain ⟨t9,ht9,h⟩:=bnd h
  obtain rfl:=Cm8 ht9
  refine Aa2 h ?_ ?_<;>intro hc h
  ·
   refine Aa2 h ?_ ?_<;>intro hc h
   ·
    obtain ⟨t10,ht10,h⟩:=bnd h
    refine Ad2 H hS  ht10 ?_;rintro z5 w rfl hS
    refine ⟨_,rfl,?_⟩
    cases Aa0 h
    exact hK _ _ rfl hS
   cases Aa0 h
   exact hK _ _ rfl hS
  cases Aa0 h
  exact hK _ _ rfl hS
 refine Aa2 h ?_ ?_<;>intro hc h
 ·
  refine Aa2 h ?_ ?_<;>intro hc h
  ·
   refine Aa2 h ?_ ?_<;>intro hc h
   ·
    refine Aa2 h ?_ ?_<;>intro hc h
    ·
     obtain ⟨t11,ht11,h⟩:=bnd h
     refine Bo0 H hS  ht11 ?_;rintro z6 w rfl hS
     refine ⟨_,rfl,?_⟩
     cases Aa0 h
     exact hK _ _ rfl hS
    cases Aa0 h
    exact hK _ _ rfl hS
   cases Aa0 h
   exact hK _ _ rfl hS
  obtain ⟨t12,ht12,h⟩:=bnd h
  refine Bo0 H hS  ht12 ?_;rintro z7 w rfl hS
  refine ⟨_,rfl,?_⟩
  cases Aa0 h
  exact hK _ _ rfl hS
 refine Aa2 h ?_ ?_<;>intro hc h
 ·
  refine Aa2 h ?_ ?_<;>intro hc h
  ·
   obtain ⟨t13,ht13,h⟩:=bnd h
   refine Bo0 H hS  ht13 ?_;rintro z8 w rfl hS
   refine ⟨_,rfl,?_⟩
   cases Aa0 h
   exact hK _ _ rfl hS
  cases Aa0 h
  exact hK _ _ rfl hS
 cases Aa0 h
 exact hK _ _ rfl hS
theorem Dz8 {q0 u0} (hS:Ho w0 w L)  (h:Bc2 (nf q0)=some u0) (hK:∀ w1,Ho w0 w1 L→K (.int .i64 u0) w1):Aa1 P N.Ia9 #[.float .f64 q0] w K:=by
 refine H.round_sign q0 w _ ?_
 unfold Ct2
 unfold Bc2 at h
 try dsimp only
 obtain ⟨t1,ht1,h⟩:=bnd h
 obtain rfl:=Ea8 ht1
 refine Aa2 h ?_ ?_<;>intro hc h
 ·
  cases Aa0 h
  exact hK _ hS
 obtain ⟨t2,ht2,h⟩:=bnd h
 obtain rfl:=Cm8 ht2
 refine Aa2 h ?_ ?_<;>intro hc h
 ·
  cases Aa0 h
  exact hK _ hS
 cases Aa0 h
 exact hK _ hS
theorem Eq4 {q0 q1 q2 u0} (hS:Ho w0 w L)  (h:Bf9 (nf q0) (nf q1) q2=some u0) (hK:∀ (z0:Nat) (w1:World),nf z0=u0→Ho w0 w1 L→K (.float .f64 z0) w1):Aa1 P N.If5 #[.float .f64 q0,.float .f64 q1,.int .i8 q2] w K:=by
 refine H.round_Add q0 q1 q2 w _ ?_
 unfold De6
 unfold Bf9 at h
 try dsimp only
 obtain ⟨t1,ht1,h⟩:=bnd h
 refine Eo3 H hS  ht1 ?_;rintro w hS
 refine ⟨_,rfl,?_⟩
 obtain ⟨t2,ht2,h⟩:=bnd h
 refine Fg3 ht2 hS ?_;rintro z1 w rfl hS
 obtain ⟨t3,ht3,h⟩:=bnd h
 obtain rfl:(List.map nf ([q0,q1]:List Nat))=t3:=Aa0 ht3
 refine Ap0 (ks:=[q0,q1]) (enc:=(Value.float .f64)) (m:=2) hS rfl rfl ?_;intro r2 w hS
 obtain ⟨t4,ht4,h⟩:=bnd h
 refine De7 H hS (Ent.sl mp0) ht4 ?_;rintro w hS
 refine ⟨_,rfl,?_⟩
 refine Aa2 h ?_ ?_<;>intro hc h
 ·
  cases Aa0 h
  exact hK _ _ rfl (hS.pick (A:=[_]) [] rfl)
 obtain ⟨o3,h3,c3⟩:=bnd h
 refine Ab0 (fun s w=>∃ (t5:Bool),t5=o3∧s=(t5,())∧Ho w0 w L) (fun J3 hJ3=>?_) ?_
 ·
  have h:=h3
  clear h3
  obtain ⟨t6,ht6,h⟩:=bnd h
  obtain rfl:=Bx5 ht6
  refine Aa2 h ?_ ?_<;>intro hc h
  ·
   obtain ⟨t7,ht7,h⟩:=bnd h
   obtain rfl:=Dp6 ht7
   refine Aa2 h ?_ ?_<;>intro hc h
   ·
    obtain ⟨t8,ht8,h⟩:=bnd h
    obtain rfl:=Bx5 ht8
    refine Aa2 h ?_ ?_<;>intro hc h
    ·
     obtain ⟨t9,ht9,h⟩:=bnd h
     refine Af6 H hS  ht9 ?_;rintro w hS
     refine ⟨_,rfl,?_⟩
     obtain ⟨t10,ht10,h⟩:=bnd h
     refine Af6 H hS  ht10 ?_;rintro w hS
     refine ⟨_,rfl,?_⟩
     obtain rfl:=Aa0 h
     exact hJ3 _ _ ⟨_,rfl,rfl,(hS.pick (A:=[_]) [] rfl)⟩
    obtain rfl:=Aa0 h
    exact hJ3 _ _ ⟨_,rfl,rfl,(hS.pick (A:=[_]) [] rfl)⟩
   obtain rfl:=Aa0 h
   exact hJ3 _ _ ⟨_,rfl,rfl,(hS.pick (A:=[_]) [] rfl)⟩
  obtain ⟨t11,ht11,h⟩:=bnd h
  obtain rfl:=Bx5 ht11
  refine Aa2 h ?_ ?_<;>intro hc h
  ·
   obtain ⟨t12,ht12,h⟩:=bnd h
   refine Af6 H hS  ht12 ?_;rintro w hS
   refine ⟨_,rfl,?_⟩
   obtain ⟨t13,ht13,h⟩:=bnd h
   refine Af6 H hS  ht13 ?_;rintro w hS
   refine ⟨_,rfl,?_⟩
   obtain rfl:=Aa0 h
   exact hJ3 _ _ ⟨_,rfl,rfl,(hS.pick (A:=[_]) [] rfl)⟩
  obtain rfl:=Aa0 h
  exact hJ3 _ _ ⟨_,rfl,rfl,(hS.pick (A:=[_]) [] rfl)⟩
 clear h3 hS
 rintro s w ⟨t5,rfl,rfl,hS⟩
 have h:=c3
 clear c3
 try dsimp only
 refine Aa2 h ?_ ?_<;>intro hc h
 ·
  obtain ⟨t14,ht14,h⟩:=bnd h
  refine Ea0 H hS  ht14 ?_;rintro z4 w rfl hS
  refine ⟨_,rfl,?_⟩
  cases Aa0 h
  exact hK _ _ rfl hS
 obtain ⟨t15,ht15,h⟩:=bnd h
 obtain rfl:=Bx5 ht15
 refine Aa2 h ?_ ?_<;>intro hc h
 ·
  cases Aa0 h
  exact hK _ _ rfl hS
 obtain ⟨t16,ht16,h⟩:=bnd h
 refine Ao6 H hS  ht16 ?_;rintro w hS
 refine ⟨_,rfl,?_⟩
 refine Aa2 h ?_ ?_<;>intro hc h
 ·
  obtain ⟨t17,ht17,h⟩:=bnd h
  refine Br6 H hS  ht17 ?_;rintro z5 w rfl hS
  refine ⟨_,rfl,?_⟩
  cases Aa0 h
  exact hK _ _ rfl hS
 obtain ⟨t18,ht18,h⟩:=bnd h
 refine Aj1 H hS  ht18 ?_;rintro z6 w rfl hS
 refine ⟨_,rfl,?_⟩
 obtain ⟨t19,ht19,h⟩:=bnd h
 refine Aj1 H hS  ht19 ?_;rintro z7 w rfl hS
 refine ⟨_,rfl,?_⟩
 obtain ⟨t20,ht20,h⟩:=bnd h
 obtain rfl:=Cm8 ht20
 obtain ⟨o10,h10,c10⟩:=bnd h
 refine Ab0 (fun s w=>∃ (z8:Nat) (z9:Nat),((nf z8),(nf z9))=o10∧s=(z8,z9,())∧Ho w0 w L) (fun J10 hJ10=>?_) ?_
 ·
  have h:=h10
  clear h10
  refine Aa2 h ?_ ?_<;>intro hc h
  ·
   exact hJ10 _ _ ⟨_,_,Aa0 h,rfl,hS⟩
  exact hJ10 _ _ ⟨_,_,Aa0 h,rfl,hS⟩
 clear h10 hS
 rintro s w ⟨z8,z9,rfl,rfl,hS⟩
 have h:=c10
 clear c10
 try dsimp only
 obtain ⟨t23,ht23,h⟩:=bnd h
 refine Bs5 ht23 hS ?_;rintro z11 w rfl hS
 obtain ⟨t24,ht24,h⟩:=bnd h
 refine Bs5 ht24 hS ?_;rintro z12 w rfl hS
 obtain ⟨t25,ht25,h⟩:=bnd h
 refine Dz8 H hS  ht25 ?_;rintro w hS
 refine ⟨_,rfl,?_⟩
 obtain ⟨t26,ht26,h⟩:=bnd h
 refine Br6 H hS  ht26 ?_;rintro z13 w rfl hS
 refine ⟨_,rfl,?_⟩
 cases Aa0 h
 exact hK _ _ rfl hS
theorem Bk0 {q0 qj qm vn u0} (hS:Ho w0 w L) (qw:EF L vn q0 qj qm) (h:Ak7 (List.map nf vn)=some u0) (hK:∀ (z0:Nat) (w1:World),nf z0=u0→Ho w0 w1 L→K (.float .f64 z0) w1):Aa1 P N.Hy4 #[.slice q0 qj qm] w K:=by
 refine H.vector_Norm q0 qj qm w _ ?_
 unfold Ck8
 unfold Ak7 at h
 try dsimp only
 obtain ⟨t1,ht1,h⟩:=bnd h
 obtain rfl:=Bd5 ht1 (qw.now (fun _ h=>h) hS)
 obtain ⟨o2,h2,c2⟩:=bnd h
 refine Ab0 (fun s w=>∃ (z1:Nat),(nf z1)=o2∧s=(z1,())∧Ho w0 w L) (fun J2 hJ2=>?_) ?_
 ·
  have h:=h2
  clear h2
  refine Ab6 (fun s w t=>∃ (z3:Nat) (t4:Int),((nf z3),t4)=t∧s=(z3,t4,())∧Ho w0 w L) ?_ h ⟨_,_,rfl,rfl,hS⟩
  clear h hS
  rintro s w t X q ⟨z3,t4,rfl,rfl,hS⟩ h hX hO
  unfold Aj9 at h
  try dsimp only
  refine Aa2 h ?_ ?_<;>intro hc h
  ·
   obtain ⟨t5,ht5,h⟩:=bnd h
   obtain ⟨z4,rfl,q5x,jc,q5r⟩:=atF ht5
   refine Ac7 (qw.now (fun _ h=>h) hS) q5x jc q5r ?_;intro b6 hb6
   refine ⟨_,Ab4 (qw.now (fun _ h=>h) hS) hb6 q5x,?_⟩
   obtain ⟨t6,ht6,h⟩:=bnd h
   refine Aj1 H hS  ht6 ?_;rintro z7 w rfl hS
   refine ⟨_,rfl,?_⟩
   obtain ⟨t7,ht7,h⟩:=bnd h
   refine Eq4 H hS  ht7 ?_;rintro z8 w rfl hS
   refine ⟨_,rfl,?_⟩
   obtain rfl:=Aa0 h
   exact hX _ rfl _ _ ⟨_,_,rfl,rfl,hS⟩
  obtain rfl:=Aa0 h
  have h:=congrArg some (hO _ rfl)
  exact hJ2 _ _ ⟨_,Aa0 h,rfl,hS⟩
 clear h2 hS
 rintro s w ⟨z1,rfl,rfl,hS⟩
 have h:=c2
 clear c2
 try dsimp only
 cases Aa0 h
 exact hK _ _ rfl hS
end Go.Eng
