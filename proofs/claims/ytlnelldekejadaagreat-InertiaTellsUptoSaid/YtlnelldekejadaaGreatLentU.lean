/-
  Lists of limbs that are lent, looked at again, written over: contracts. No condition.
-/
import Derived.Test.YtlnelldekejadaaGreatSh
import Derived.Test.YtlnelldekejadaaGreatBgo
set_option linter.all false
set_option maxRecDepth 100000
set_option maxHeartbeats 4000000
open Go.IntKind (i64 u64)
open Go.Value renaming int→AA
open List renaming mem_cons_self→AB,length_map→AE
open Int renaming toNat_natCast→AC
open Nat renaming mul_one→AD
namespace Go.Eng
open Go
open Go.RowKit (Below)
def Au6:List Int:=(List.range 12).map fun (i:Nat)=>8000024+(i:Int)
section
variable {w0 w:World} {L:List It}
theorem Hb4 {t:Nat} {v:Value} {c:Int} {K:Addr→World→Prop} (hS:Ho w0 w L) (h:0≤c∧c≤1099511627776)
 (hk:∀ (r:Nat) (w':World),Ho w0 w' (cl r (List.replicate c.toNat v) t::L)→K ⟨r,0,none⟩ w'):mkM t 1 8 #[v] 0 c w K:=by
 refine ⟨by omega,h.1,h.2,by omega,hk _ _ ?_⟩
 have:=hS.alloc (Cz6 ((c.toNat)*1) #[v]) t
 rw [AD,Cm9] at this
 rw [AD,Cm9]
 simpa using this
theorem Fy4 {r t k m cb bytes cap:Nat} {c ks:List Value} {b:Option Addr} {d:Value} {K:Option Addr→Nat→Nat→World→Prop} (hS:Ho w0 w (cl r c t::L)) (hk:rdA ks b m cb w) (hv:∀ y∈ks,Cu7 y=true) (hcap:c.length=cap) (hfit:k+m≤cap)
 (hK:∀ w':World,Ho w0 w' (cl r (c.take k++ks++c.drop (k+m)) t::L)→K (some ⟨r,0,none⟩) (k+m) cap w'):Bn8 t 1 bytes #[d] (some ⟨r,0,none⟩) k cap b m w K:=by
 subst hcap
 have hm:m=ks.length:=hk.len
 refine ⟨ks,by rw [AD];exact hm.symm,hk.row,fun hle=>?_,fun hlt=>by omega⟩
 have hA:w.heap[r]?=some (.cells c.toArray t (0,0)):=hS.hold _ (AB ..)
 have hlt:r<w.heap.size:=Ge8 (hS.hold _ (AB ..))
 have hnew:w0.heap.size≤r:=hS.new _ (AB ..) rfl r rfl
 have hst:St w0 w [(r,c.toArray,t)]:=⟨hS.below,fun e he=>by
  simp only [List.mem_singleton] at he;subst he;exact ⟨hnew,hA⟩,List.pairwise_singleton _ _⟩
 have ha:(⟨r,0,none⟩:Addr).add (k*1)=⟨r,k,none⟩:=by rw [AD,Cg7]
 obtain ⟨f,a⟩:=Dv6 (A:=[]) (B:=[]) (vs:=ks) (o:=k) (i:=0) hst (by simp;omega) hv
 show Fx2 ks ((⟨r,0,none⟩:Addr).add (k*1)) 0 w∧K _ _ _ (Az9 ks ((⟨r,0,none⟩:Addr).add (k*1)) 0 w)
 rw [ha]
 refine ⟨f,hK _ ?_⟩
 have pr:=Bh0 ks (c.take k) (c.drop k) (by simp;omega)
 have hlk:(c.take k).length=k:=by simp;omega
 rw [List.take_append_drop,hlk] at pr
 rw [Nat.add_zero,pr] at a
 have hown:=(a.own _ (List.mem_singleton.2 rfl)).2
 have hbel:=Bv8.setRow_other ks r k 0 w
 refine hS.put rfl ⟨hbel.1,hbel.2.1,hbel.2.2.1,by rw [hbel.2.2.2.1];exact Nat.le_refl _,fun q hq=>hbel.2.2.2.2 q (by omega)⟩ (fun b hb hne=>hbel.2.2.2.2 b hne) ?_ (fun b hb=>?_) fun b hb => .inl hb
 · show _=_
   rw [hown,List.drop_drop,hm]
 · have hb':b=r:=hb
   rw [hb',hbel.2.2.2.1];exact hlt
theorem Ho.clSl {α:Type} {enc:α→Value} {ws:List α} {r t m:Nat} (hS:Ho w0 w (cl r (ws.map enc) t::L)) (hm:m=ws.length):Ho w0 w (sl (some ⟨r,0,Option.none⟩) m m (ws.map enc) t::L):=by
 have hA:w.heap[r]?=some (.cells (ws.map enc).toArray t (0,0)):=hS.hold _ (AB ..)
 refine hS.put rfl (Below.refl _ _) (fun _ _ _=>rfl) ⟨by simp [hm],.inr ⟨r,[],rfl,by rw [List.append_nil];exact hA,by simp [hm]⟩⟩ (fun b hb=>?_) (fun b hb=>?_)
 · obtain ⟨x,hx,rfl⟩:=hb
   cases hx
   exact Ge8 (hS.hold _ (AB ..))
 · obtain ⟨x,hx,rfl⟩:=hb
   cases hx
   exact .inl rfl
end
section
variable {N:Nums} {P:Program} (H:AllOk N P)
include H
theorem Ec6 {w0 w:World} {L:List It} {k i:Nat} {K:Value→World→Prop} (hS:Ho w0 w L) (hk:k<1000) (hi:i<1099511627776) (hK:∀ a,Ho w0 a L→K (.int .i64 (1000003*((k:Int)+7)+i)) a):Aa1 P N.Hs1 #[.int .i64 k,.int .i64 i] w K:=by
 refine H.k_mark k i w _ ?_
 unfold Em3
 have b:i64.wrap ((k:Int)+7)=(k:Int)+7:=wrI (by omega) (by omega)
 have c:i64.wrap (1000003*((k:Int)+7))=1000003*((k:Int)+7):=wrI (by omega) (by omega)
 have d:i64.wrap (1000003*((k:Int)+7)+i)=1000003*((k:Int)+7)+i:=wrI (by omega) (by omega)
 rw [b,c,d]
 exact hK w hS
theorem Gc3 {w0 w:World} {L:List It} {a:Option Addr} {n c:Nat} {l:List Int} {K:Value→World→Prop} (hS:Ho w0 w L) (hq:Ent L (rdA (l.map (AA .u64)) a n c)) (hl:l.length≤4294967000)
 (hK:∀ (r:Nat) (b:World),Ho w0 b (sl (some ⟨r,0,none⟩) (n+12) (n+12) ((l++Au6).map (AA .u64)) N.Hr2::L)→K (.slice (some ⟨r,0,none⟩) n (n+12)) b):Aa1 P N.Hj3 #[.slice a n c] w K:=by
 refine H.k_LentLimbs a n c w _ ?_
 unfold Ca5
 have hn:n=l.length:=by
  have:=(hq.nw hS).len
  rwa [AE] at this
 have hw:i64.wrap ((n:Int)+12)=((n+12:Nat):Int):=by rw [← wrN (n:=n+12) (by omega)];rfl
 rw [hw]
 refine Hb4 hS (by omega) fun r b hS1=>?_
 rw [AC] at hS1
 rw [AC]
 have hlen:(List.replicate (n+12) (AA .u64 0)).length=n+12:=by simp
 refine Fy4 (k:=0) (m:=n) hS1 ((hq.mono tl1).nw hS1) (by intro y hy;obtain ⟨x,_,rfl⟩:=List.mem_map.1 hy;rfl) hlen (by omega) ?_
 · intro j hS4
   rw [Nat.zero_add]
   refine Aa9 (fun s w'=>s.1=(some ⟨r,0,none⟩,n+12,n+12)∧Ho w0 w' (cl r ((l++Au6).map (AA .u64)) N.Hr2::L)) (fun J hJ=>?_) ?_
   · refine Cz1 (fun s w'=>∃ k:Nat,k≤12∧s.2.1=(k:Int)∧s.1=(some ⟨r,0,none⟩,n+k,n+12)∧Ho w0 w' (cl r ((l++(List.range k).map (fun (i:Nat)=>8000024+(i:Int))).map (AA .u64)++List.replicate (12-k) (AA .u64 0)) N.Hr2::L)) (fun s=>12-s.2.1.toNat) ⟨0,by omega,rfl,by simp,?_⟩ ?_
     · have e:(List.replicate (n+12) (AA .u64 0)).take 0++l.map (AA .u64)++(List.replicate (n+12) (AA .u64 0)).drop (0+n)=(l++(List.range 0).map (fun (i:Nat)=>8000024+(i:Int))).map (AA .u64)++List.replicate (12-0) (AA .u64 0):=by
        simp
       rw [e] at hS4;exact hS4
     · rintro ⟨s,i,u⟩ d X ⟨k,hk,hi,hs,hS5⟩ hX
       dsimp only at hi hs
       subst hi;subst hs
       refine Ab7 (fun hb=>?_) (fun hb=>?_)
       · have hlt:k<12:=by simp at hb;omega
         refine Ec6 H (k:=1) (i:=k) hS5 (by omega) (by omega) fun o hS6=>?_
         refine ⟨_,rfl,?_⟩
         have em:u64.wrap (1000003*(((1:Nat):Int)+7)+(k:Int))=8000024+(k:Int):=by
          have:u64.wrap (1000003*(((1:Nat):Int)+7)+(k:Int))=(1000003*(((1:Nat):Int)+7)+(k:Int))%18446744073709551616:=by simp [IntKind.wrap,IntKind.bits,IntKind.signed]
          rw [this];omega
         rw [em]
         refine Ab2 hS6 fun q f hS7=>?_
         dsimp only
         have hS7:Ho w0 f (cl q [AA .u64 (8000024+(k:Int))] N.Hr2::cl r ((l++(List.range k).map (fun (i:Nat)=>8000024+(i:Int))).map (AA .u64)++List.replicate (12-k) (AA .u64 0)) N.Hr2::L):=hS7
         have g:rdA [AA .u64 (8000024+(k:Int))] (some ⟨q,0,none⟩) 1 1 f:=⟨rfl,Nat.le_refl _,fun i hi=>⟨_,rfl,by
          have:i=0:=by omega
          subst this
          rw [Cg7]
          exact hS7.cel (AB ..) rfl⟩⟩
         have hS8:=(hS7.perm (List.Perm.swap _ _ L)).sub (List.Sublist.cons_cons _ (List.sublist_cons_self _ L))
         have h:((l++(List.range k).map (fun (i:Nat)=>8000024+(i:Int))).map (AA .u64)++List.replicate (12-k) (AA .u64 0)).length=n+12:=by simp;omega
         refine Fy4 (k:=n+k) (m:=1) hS8 g (by intro y hy;simp at hy;subst hy;rfl) h (by omega) ?_
         · intro p hS9
           have hw:i64.wrap ((k:Int)+1)=((k+1:Nat):Int):=by rw [← wrN (n:=k+1) (by omega)];rfl
           refine hX _ _ ⟨k+1,by omega,hw,rfl,?_⟩ (by dsimp only;rw [hw];omega)
           have hpre:((l++(List.range k).map (fun (i:Nat)=>8000024+(i:Int))).map (AA .u64)).length=n+k:=by simp;omega
           have e:(((l++(List.range k).map (fun (i:Nat)=>8000024+(i:Int))).map (AA .u64)++List.replicate (12-k) (AA .u64 0)).take (n+k) ++ [AA .u64 (8000024+(k:Int))]++((l++(List.range k).map (fun (i:Nat)=>8000024+(i:Int))).map (AA .u64)++List.replicate (12-k) (AA .u64 0)).drop (n+k+1))=(l++(List.range (k+1)).map (fun (i:Nat)=>8000024+(i:Int))).map (AA .u64)++List.replicate (12-(k+1)) (AA .u64 0):=by
            rw [← hpre,List.take_left,List.drop_append,List.drop_of_length_le (by omega),List.range_succ]
            simp [Nat.sub_sub]
           rw [e] at hS9;exact hS9
       · have hk:k=12:=by simp at hb;omega
         subst hk
         refine hJ _ _ ⟨rfl,?_⟩
         simpa [Au6] using hS5
   · rintro ⟨s,u⟩ d ⟨hs,hS5⟩
     dsimp only at hs
     subst hs
     refine ⟨by omega,by dsimp only;omega,?_⟩
     rw [Cu9]
     exact hK r d (hS5.clSl (by simp [Au6];omega))
theorem Gk5 {w0 w:World} {L:List It} {a b:Option Addr} {n d:Nat} {l:List Int} {K:Value→World→Prop} (hS:Ho w0 w L) (hA:Ent L (rdA ((l++Au6).map (AA .u64)) a (n+12) (n+12))) (hB:Ent L (rdA (l.map (AA .u64)) b n d)) (hl:l.length≤4294967000)
 (hK:∀ c:World,Ho w0 c L→K (.bool true) c):Aa1 P N.Hj9 #[.slice a n (n+12),.slice b n d] w K:=by
 refine H.k_KeptLimbs a n (n+12) b n d w _ ?_
 unfold Ca6
 have hn:n=l.length:=by
  have:=(hB.nw hS).len
  rwa [AE] at this
 refine Ab7 (fun h=>by simp at h) (fun _=>?_)
 have hw:i64.wrap ((n:Int)+12)=((n+12:Nat):Int):=by rw [← wrN (n:=n+12) (by omega)];rfl
 rw [hw,AC]
 refine ⟨by omega,by omega,?_⟩
 refine Aa9 (fun s w'=>Ho w0 w' L) (fun J hJ=>?_) (fun s w' h=>hK w' h)
 refine Cz1 (fun s w'=>∃ k:Nat,k≤n+12∧s.1=(k:Int)∧Ho w0 w' L) (fun s=>n+12-s.1.toNat) ⟨0,by omega,rfl,hS⟩ ?_
 rintro ⟨i,u⟩ c X ⟨k,hk,hi,hS⟩ hX
 dsimp only at hi
 subst hi
 have step:∀ w',Ho w0 w' L→k<n+12→X (i64.wrap ((k:Int)+1),u) w':=fun w' h' hlt=>by
  have hw:i64.wrap ((k:Int)+1)=((k+1:Nat):Int):=by rw [← wrN (n:=k+1) (by omega)];rfl
  exact hX _ _ ⟨k+1,by omega,hw,h'⟩ (by dsimp only;rw [hw];omega)
 rw [Cu9]
 have rdc:∀ {ws:List Int} {e:Option Addr} {p q:Nat} {w':World},rdA (ws.map (AA .u64)) e p q w'→k<ws.length→∃ x,e=some x∧w'.cell? (x.add (((k:Int)).toNat*1))=some (.int .u64 (ws.getD k 0)):=fun {ws e p q w'} h hk=>by
  obtain ⟨x,hx,hc⟩:=h.at_ k (by rw [h.len,AE];exact hk)
  refine ⟨x,hx,?_⟩
  rw [AC,AD,hc]
  simp [List.getD_eq_getElem?_getD,hk]
 refine Ab7 (fun hb=>?_) (fun _=>hJ _ _ hS)
 have hlt:k<n+12:=by simp at hb;omega
 have hlen12:(l++Au6).length=n+12:=by simp [Au6];omega
 refine Ab7 (fun hb=>?_) (fun hb=>?_)
 · have hkn:k<n:=by simp at hb;omega
   obtain ⟨x,hx,hcx⟩:=rdc (hA.nw hS) (by omega)
   obtain ⟨y,hy,hcy⟩:=rdc (hB.nw hS) (by omega)
   refine ⟨by omega,by dsimp only;omega,Bp3 hx ⟨_,hcx,?_⟩⟩
   refine ⟨by omega,by dsimp only;omega,Bp3 hy ⟨_,hcy,?_⟩⟩
   have e:(l++Au6).getD k 0=l.getD k 0:=by
    simp [List.getElem?_append_left (show k<l.length by omega)]
   refine Ab7 (fun _=>?_) (fun h=>by rw [e] at h;simp at h)
   refine Ab7 (fun h=>by simp at h;omega) (fun _=>?_)
   refine Aa7 hS fun g hS=>?_
   obtain ⟨x',hx',hcx'⟩:=rdc (hA.nw hS) (by omega)
   obtain ⟨y',hy',hcy'⟩:=rdc (hB.nw hS) (by omega)
   rw [hx] at hx';cases hx'
   rw [hy] at hy';cases hy'
   exact ⟨hcy',hcx',Aa7 hS fun f hS=>step _ hS hlt⟩
 · have hkn:n≤k:=by simp at hb;omega
   refine Ab7 (fun h=>?_) (fun h=>by simp at h;omega)
   obtain ⟨x,hx,hcx⟩:=rdc (hA.nw hS) (by omega)
   refine ⟨by omega,by dsimp only;omega,Bp3 hx ⟨_,hcx,?_⟩⟩
   refine Aa7 hS fun f hS=>?_
   have hs:i64.wrap ((k:Int)-(n:Int))=((k-n:Nat):Int):=by rw [wrI (by omega) (by omega)];omega
   dsimp only
   rw [hs]
   refine Ec6 H (k:=1) (i:=k-n) hS (by omega) (by omega) fun j hS=>?_
   obtain ⟨x',hx',hcx'⟩:=rdc (hA.nw hS) (by omega)
   rw [hx] at hx';cases hx'
   refine ⟨_,rfl,hcx',?_⟩
   refine Aa7 hS fun m hS=>?_
   have em:u64.wrap (1000003*(((1:Nat):Int)+7)+((k-n:Nat):Int))=8000024+((k-n:Nat):Int):=by
    have:u64.wrap (1000003*(((1:Nat):Int)+7)+((k-n:Nat):Int))=(1000003*(((1:Nat):Int)+7)+((k-n:Nat):Int))%18446744073709551616:=by simp [IntKind.wrap,IntKind.bits,IntKind.signed]
    rw [this];omega
   have e:(l++Au6).getD k 0=8000024+((k-n:Nat):Int):=by
    simp [List.getElem?_append_right (show l.length≤k by omega),← hn,Au6,show k-n<12 by omega]
   refine Ab7 (fun h=>?_) (fun _=>step _ hS hlt)
   rw [em,e] at h
   simp at h
end
end Go.Eng
