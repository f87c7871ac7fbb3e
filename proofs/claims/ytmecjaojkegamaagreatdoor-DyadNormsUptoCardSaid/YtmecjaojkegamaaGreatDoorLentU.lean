/-
  Lists of limbs that are lent, looked at again, written over: contracts. No condition.
-/
import Derived.Test.YtmecjaojkegamaaGreatDoorSh
import Derived.Test.YtmecjaojkegamaaGreatDoorBg
set_option linter.unusedVariables false
set_option linter.unusedSimpArgs false
set_option linter.unnecessarySimpa false
set_option linter.unusedSectionVars false
set_option maxRecDepth 100000
set_option maxHeartbeats 4000000
namespace Go.Eng
open Go
open Go.RowKit (Below)

def marksU : List Int := (List.range 12).map fun (i : Nat) => 8000024 + (i : Int)

section
variable {w0 w : World} {L : List It}

theorem mkc_s {t : Nat} {v : Value} {c : Int} {K : Addr → World → Prop} (hS : Ho w0 w L) (h : 0 ≤ c ∧ c ≤ 1099511627776)
    (hk : ∀ (r : Nat) (w' : World), Ho w0 w' (cl r (List.replicate c.toNat v) t :: L) → K ⟨r, 0, none⟩ w') : mkM t 1 8 #[v] 0 c w K := by
  refine ⟨by omega, h.1, h.2, by omega, hk _ _ ?_⟩
  have := hS.alloc (zrow ((c.toNat) * 1) #[v]) t
  rw [Nat.mul_one, zrow_one] at this
  rw [Nat.mul_one, zrow_one]
  simpa using this

/-- append within a block of the call's own. -/
theorem app_cl {r t k m cb bytes cap : Nat} {c ks : List Value} {b : Option Addr} {v0 : Value} {K : Option Addr → Nat → Nat → World → Prop} (hS : Ho w0 w (cl r c t :: L)) (hk : rdA ks b m cb w) (hv : ∀ y ∈ ks, cellV y = true) (hcap : c.length = cap) (hfit : k + m ≤ cap)
    (hK : ∀ w' : World, Ho w0 w' (cl r (c.take k ++ ks ++ c.drop (k + m)) t :: L) → K (some ⟨r, 0, none⟩) (k + m) cap w') : appM t 1 bytes #[v0] (some ⟨r, 0, none⟩) k cap b m w K := by
  subst hcap
  have hm : m = ks.length := hk.len
  refine ⟨ks, by rw [Nat.mul_one]; exact hm.symm, hk.row, fun hle => ?_, fun hlt => by omega⟩
  have hA : w.heap[r]? = some (.cells c.toArray t (0, 0)) := hS.hold _ (List.mem_cons_self ..)
  have hlt : r < w.heap.size := cl_lt (hS.hold _ (List.mem_cons_self ..))
  have hnew : w0.heap.size ≤ r := hS.new _ (List.mem_cons_self ..) rfl r rfl
  have hst : St w0 w [(r, c.toArray, t)] := ⟨hS.below, fun e he => by
    simp only [List.mem_singleton] at he; subst he; exact ⟨hnew, hA⟩, List.pairwise_singleton _ _⟩
  have ha : (⟨r, 0, none⟩ : Addr).add (k * 1) = ⟨r, k, none⟩ := by rw [Nat.mul_one, add_at]
  obtain ⟨k1, k2⟩ := setOwn (A := []) (B := []) (vs := ks) (o := k) (i := 0) hst (by simp; omega) hv
  show stOk ks ((⟨r, 0, none⟩ : Addr).add (k * 1)) 0 w ∧ K _ _ _ (setRow ks ((⟨r, 0, none⟩ : Addr).add (k * 1)) 0 w)
  rw [ha]
  refine ⟨k1, hK _ ?_⟩
  have pr := putRow_app ks (c.take k) (c.drop k) (by simp; omega)
  have hlk : (c.take k).length = k := by simp; omega
  rw [List.take_append_drop, hlk] at pr
  rw [Nat.add_zero, pr] at k2
  have hown := (k2.own _ (List.mem_singleton.2 rfl)).2
  have hbel := app_s.setRow_other ks r k 0 w
  refine hS.put rfl ⟨hbel.1, hbel.2.1, hbel.2.2.1, by rw [hbel.2.2.2.1]; exact Nat.le_refl _, fun q hq => hbel.2.2.2.2 q (by omega)⟩ (fun b hb hne => hbel.2.2.2.2 b hne) ?_ (fun b hb => ?_) fun b hb => .inl hb
  · show _ = _
    rw [hown, List.drop_drop, hm]
  · have hb' : b = r := hb
    rw [hb', hbel.2.2.2.1]; exact hlt

/-- A whole block as a slice. -/
theorem Ho.clSl {α : Type} {enc : α → Value} {ws : List α} {r t m : Nat} (hS : Ho w0 w (cl r (ws.map enc) t :: L)) (hm : m = ws.length) : Ho w0 w (sl (some ⟨r, 0, Option.none⟩) m m (ws.map enc) t :: L) := by
  have hA : w.heap[r]? = some (.cells (ws.map enc).toArray t (0, 0)) := hS.hold _ (List.mem_cons_self ..)
  refine hS.put rfl (Below.refl _ _) (fun _ _ _ => rfl) ⟨by simp [hm], .inr ⟨r, [], rfl, by rw [List.append_nil]; exact hA, by simp [hm]⟩⟩ (fun b hb => ?_) (fun b hb => ?_)
  · obtain ⟨x, hx, rfl⟩ := hb
    cases hx
    exact cl_lt (hS.hold _ (List.mem_cons_self ..))
  · obtain ⟨x, hx, rfl⟩ := hb
    cases hx
    exact .inl rfl
end

theorem lent_n {w0 w : World} {L : List It} {a : Option Addr} {n c t : Nat} {l : List Int} (hS : Ho w0 w (sl a (n + 12) c ((l ++ marksU).map (Value.int .u64)) t :: L)) : n = l.length := by
  have := (slA.rd (hS.hold _ (List.mem_cons_self ..))).len
  have e12 : marksU.length = 12 := rfl
  rw [List.length_map, List.length_append, e12] at this
  omega

section
variable {N : Nums} {P : Program} (H : AllOk N P)
include H
theorem markU_c {w0 w : World} {L : List It} {k i : Nat} {K : Value → World → Prop} (hS : Ho w0 w L) (hk : k < 1000) (hi : i < 1099511627776) (hK : ∀ w1, Ho w0 w1 L → K (.int .i64 (1000003 * ((k : Int) + 7) + i)) w1) : CallsX P N.f_girderkit_mark #[.int .i64 k, .int .i64 i] w K := by
  refine H.girderkit_mark k i w _ ?_
  unfold S_girderkit_mark
  have h1 : IntKind.i64.wrap ((k : Int) + 7) = (k : Int) + 7 := wrI (by omega) (by omega)
  have h2 : IntKind.i64.wrap (1000003 * ((k : Int) + 7)) = 1000003 * ((k : Int) + 7) := wrI (by omega) (by omega)
  have h3 : IntKind.i64.wrap (1000003 * ((k : Int) + 7) + i) = 1000003 * ((k : Int) + 7) + i := wrI (by omega) (by omega)
  rw [h1, h2, h3]
  exact hK w hS

theorem lentU_c {w0 w : World} {L : List It} {a : Option Addr} {n c : Nat} {l : List Int} {K : Value → World → Prop} (hS : Ho w0 w L) (hq : Ent L (rdA (l.map (Value.int .u64)) a n c)) (hl : l.length ≤ 4294967000)
    (hK : ∀ (r : Nat) (w1 : World), Ho w0 w1 (sl (some ⟨r, 0, none⟩) (n + 12) (n + 12) ((l ++ marksU).map (Value.int .u64)) N.t_uint64 :: L) → K (.slice (some ⟨r, 0, none⟩) n (n + 12)) w1) : CallsX P N.f_girderkit_LentLimbs #[.slice a n c] w K := by
  refine H.girderkit_LentLimbs a n c w _ ?_
  unfold S_girderkit_LentLimbs
  have hn : n = l.length := by
    have := (hq.now (fun _ h => h) hS).len
    rwa [List.length_map] at this
  have hw : IntKind.i64.wrap ((n : Int) + 12) = ((n + 12 : Nat) : Int) := by rw [← wrN (n := n + 12) (by omega)]; rfl
  rw [hw]
  refine mkc_s hS (by omega) fun r w1 hS1 => ?_
  rw [Int.toNat_natCast] at hS1
  rw [Int.toNat_natCast]
  have hlen : (List.replicate (n + 12) (Value.int .u64 0)).length = n + 12 := by simp
  refine app_cl (k := 0) (m := n) hS1 ((hq.mono tl1).now (fun _ h => h) hS1) (by intro y hy; obtain ⟨x, _, rfl⟩ := List.mem_map.1 hy; rfl) hlen (by omega) ?_
  · intro w4 hS4
    rw [Nat.zero_add]
    refine cutM_i (fun s w' => s.1 = (some ⟨r, 0, none⟩, n + 12, n + 12) ∧ Ho w0 w' (cl r ((l ++ marksU).map (Value.int .u64)) N.t_uint64 :: L)) (fun J hJ => ?_) ?_
    · refine loopM_i (fun s w' => ∃ k : Nat, k ≤ 12 ∧ s.2.1 = (k : Int) ∧ s.1 = (some ⟨r, 0, none⟩, n + k, n + 12) ∧ Ho w0 w' (cl r ((l ++ (List.range k).map (fun (i : Nat) => 8000024 + (i : Int))).map (Value.int .u64) ++ List.replicate (12 - k) (Value.int .u64 0)) N.t_uint64 :: L)) (fun s => 12 - s.2.1.toNat) ⟨0, by omega, rfl, by simp, ?_⟩ ?_
      · have e : (List.replicate (n + 12) (Value.int .u64 0)).take 0 ++ l.map (Value.int .u64) ++ (List.replicate (n + 12) (Value.int .u64 0)).drop (0 + n) = (l ++ (List.range 0).map (fun (i : Nat) => 8000024 + (i : Int))).map (Value.int .u64) ++ List.replicate (12 - 0) (Value.int .u64 0) := by
          simp
        rw [e] at hS4; exact hS4
      · rintro ⟨s, i, u⟩ w5 X ⟨k, hk, hi, hs, hS5⟩ hX
        dsimp only at hi hs
        subst hi; subst hs
        refine cond_i (fun hb => ?_) (fun hb => ?_)
        · have hlt : k < 12 := by simp at hb; omega
          refine markU_c H (k := 1) (i := k) hS5 (by omega) (by omega) fun w6 hS6 => ?_
          refine ⟨_, rfl, ?_⟩
          have em : IntKind.u64.wrap (1000003 * (((1 : Nat) : Int) + 7) + (k : Int)) = 8000024 + (k : Int) := by
            have : IntKind.u64.wrap (1000003 * (((1 : Nat) : Int) + 7) + (k : Int)) = (1000003 * (((1 : Nat) : Int) + 7) + (k : Int)) % 18446744073709551616 := by simp [IntKind.wrap, IntKind.bits, IntKind.signed]
            rw [this]; omega
          rw [em]
          refine newM_s hS6 fun q w7 hS7 => ?_
          dsimp only
          have hS7 : Ho w0 w7 (cl q [Value.int .u64 (8000024 + (k : Int))] N.t_uint64 :: cl r ((l ++ (List.range k).map (fun (i : Nat) => 8000024 + (i : Int))).map (Value.int .u64) ++ List.replicate (12 - k) (Value.int .u64 0)) N.t_uint64 :: L) := hS7
          have hr7 : rdA [Value.int .u64 (8000024 + (k : Int))] (some ⟨q, 0, none⟩) 1 1 w7 := ⟨rfl, Nat.le_refl _, fun i hi => ⟨_, rfl, by
            have : i = 0 := by omega
            subst this
            rw [add_at]
            exact hS7.cel (List.mem_cons_self ..) rfl⟩⟩
          have hS8 := (hS7.perm (List.Perm.swap _ _ L)).sub (List.Sublist.cons_cons _ (List.sublist_cons_self _ L))
          have hl2 : ((l ++ (List.range k).map (fun (i : Nat) => 8000024 + (i : Int))).map (Value.int .u64) ++ List.replicate (12 - k) (Value.int .u64 0)).length = n + 12 := by simp; omega
          refine app_cl (k := n + k) (m := 1) hS8 hr7 (by intro y hy; simp at hy; subst hy; rfl) hl2 (by omega) ?_
          · intro w9 hS9
            have hw : IntKind.i64.wrap ((k : Int) + 1) = ((k + 1 : Nat) : Int) := by rw [← wrN (n := k + 1) (by omega)]; rfl
            refine hX _ _ ⟨k + 1, by omega, hw, rfl, ?_⟩ (by dsimp only; rw [hw]; omega)
            have hpre : ((l ++ (List.range k).map (fun (i : Nat) => 8000024 + (i : Int))).map (Value.int .u64)).length = n + k := by simp; omega
            have e : (((l ++ (List.range k).map (fun (i : Nat) => 8000024 + (i : Int))).map (Value.int .u64) ++ List.replicate (12 - k) (Value.int .u64 0)).take (n + k) ++ [Value.int .u64 (8000024 + (k : Int))] ++ ((l ++ (List.range k).map (fun (i : Nat) => 8000024 + (i : Int))).map (Value.int .u64) ++ List.replicate (12 - k) (Value.int .u64 0)).drop (n + k + 1)) = (l ++ (List.range (k + 1)).map (fun (i : Nat) => 8000024 + (i : Int))).map (Value.int .u64) ++ List.replicate (12 - (k + 1)) (Value.int .u64 0) := by
              rw [← hpre, List.take_left, List.drop_append, List.drop_of_length_le (by omega), List.range_succ]
              simp [Nat.sub_sub]
            rw [e] at hS9; exact hS9
        · have hk : k = 12 := by simp at hb; omega
          subst hk
          refine hJ _ _ ⟨rfl, ?_⟩
          simpa [marksU] using hS5
    · rintro ⟨s, u⟩ w5 ⟨hs, hS5⟩
      dsimp only at hs
      subst hs
      refine ⟨by omega, by dsimp only; omega, ?_⟩
      rw [slBase0]
      exact hK r w5 (hS5.clSl (by simp [marksU]; omega))

theorem keptU_c {w0 w : World} {L : List It} {a b : Option Addr} {n d : Nat} {l : List Int} {K : Value → World → Prop} (hS : Ho w0 w L) (hA : Ent L (rdA ((l ++ marksU).map (Value.int .u64)) a (n + 12) (n + 12))) (hB : Ent L (rdA (l.map (Value.int .u64)) b n d)) (hl : l.length ≤ 4294967000)
    (hK : ∀ w1 : World, Ho w0 w1 L → K (.bool true) w1) : CallsX P N.f_girderkit_KeptLimbs #[.slice a n (n + 12), .slice b n d] w K := by
  refine H.girderkit_KeptLimbs a n (n + 12) b n d w _ ?_
  unfold S_girderkit_KeptLimbs
  have hn : n = l.length := by
    have := (hB.now (fun _ h => h) hS).len
    rwa [List.length_map] at this
  refine cond_i (fun h => by simp at h) (fun _ => ?_)
  have hw : IntKind.i64.wrap ((n : Int) + 12) = ((n + 12 : Nat) : Int) := by rw [← wrN (n := n + 12) (by omega)]; rfl
  rw [hw, Int.toNat_natCast]
  refine ⟨by omega, by omega, ?_⟩
  refine cutM_i (fun s w' => Ho w0 w' L) (fun J hJ => ?_) (fun s w' h => hK w' h)
  refine loopM_i (fun s w' => ∃ k : Nat, k ≤ n + 12 ∧ s.1 = (k : Int) ∧ Ho w0 w' L) (fun s => n + 12 - s.1.toNat) ⟨0, by omega, rfl, hS⟩ ?_
  rintro ⟨i, u⟩ w1 X ⟨k, hk, hi, hS⟩ hX
  dsimp only at hi
  subst hi
  have step : ∀ w', Ho w0 w' L → k < n + 12 → X (IntKind.i64.wrap ((k : Int) + 1), u) w' := fun w' h' hlt => by
    have hw : IntKind.i64.wrap ((k : Int) + 1) = ((k + 1 : Nat) : Int) := by rw [← wrN (n := k + 1) (by omega)]; rfl
    exact hX _ _ ⟨k + 1, by omega, hw, h'⟩ (by dsimp only; rw [hw]; omega)
  rw [slBase0]
  have rdc : ∀ {ws : List Int} {e : Option Addr} {p q : Nat} {w' : World}, rdA (ws.map (Value.int .u64)) e p q w' → k < ws.length → ∃ x, e = some x ∧ w'.cell? (x.add (((k : Int)).toNat * 1)) = some (.int .u64 (ws.getD k 0)) := fun {ws e p q w'} h hk => by
    obtain ⟨x, hx, hc⟩ := h.at_ k (by rw [h.len, List.length_map]; exact hk)
    refine ⟨x, hx, ?_⟩
    rw [Int.toNat_natCast, Nat.mul_one, hc]
    simp [List.getD_eq_getElem?_getD, hk]
  refine cond_i (fun hb => ?_) (fun _ => hJ _ _ hS)
  have hlt : k < n + 12 := by simp at hb; omega
  have hlen12 : (l ++ marksU).length = n + 12 := by simp [marksU]; omega
  refine cond_i (fun hb => ?_) (fun hb => ?_)
  · have hkn : k < n := by simp at hb; omega
    obtain ⟨x, hx, hcx⟩ := rdc (hA.now (fun _ h => h) hS) (by omega)
    obtain ⟨y, hy, hcy⟩ := rdc (hB.now (fun _ h => h) hS) (by omega)
    refine ⟨by omega, by dsimp only; omega, optM_mk hx ⟨_, hcx, ?_⟩⟩
    refine ⟨by omega, by dsimp only; omega, optM_mk hy ⟨_, hcy, ?_⟩⟩
    have e : (l ++ marksU).getD k 0 = l.getD k 0 := by
      simp [List.getElem?_append_left (show k < l.length by omega)]
    refine cond_i (fun _ => ?_) (fun h => by rw [e] at h; simp at h)
    refine cond_i (fun h => by simp at h; omega) (fun _ => ?_)
    refine drM_s hS fun w2 hS => ?_
    obtain ⟨x', hx', hcx'⟩ := rdc (hA.now (fun _ h => h) hS) (by omega)
    obtain ⟨y', hy', hcy'⟩ := rdc (hB.now (fun _ h => h) hS) (by omega)
    rw [hx] at hx'; cases hx'
    rw [hy] at hy'; cases hy'
    exact ⟨hcy', hcx', drM_s hS fun w3 hS => step _ hS hlt⟩
  · have hkn : n ≤ k := by simp at hb; omega
    refine cond_i (fun h => ?_) (fun h => by simp at h; omega)
    obtain ⟨x, hx, hcx⟩ := rdc (hA.now (fun _ h => h) hS) (by omega)
    refine ⟨by omega, by dsimp only; omega, optM_mk hx ⟨_, hcx, ?_⟩⟩
    refine drM_s hS fun w3 hS => ?_
    have hs : IntKind.i64.wrap ((k : Int) - (n : Int)) = ((k - n : Nat) : Int) := by rw [wrI (by omega) (by omega)]; omega
    dsimp only
    rw [hs]
    refine markU_c H (k := 1) (i := k - n) hS (by omega) (by omega) fun w4 hS => ?_
    obtain ⟨x', hx', hcx'⟩ := rdc (hA.now (fun _ h => h) hS) (by omega)
    rw [hx] at hx'; cases hx'
    refine ⟨_, rfl, hcx', ?_⟩
    refine drM_s hS fun w5 hS => ?_
    have em : IntKind.u64.wrap (1000003 * (((1 : Nat) : Int) + 7) + ((k - n : Nat) : Int)) = 8000024 + ((k - n : Nat) : Int) := by
      have : IntKind.u64.wrap (1000003 * (((1 : Nat) : Int) + 7) + ((k - n : Nat) : Int)) = (1000003 * (((1 : Nat) : Int) + 7) + ((k - n : Nat) : Int)) % 18446744073709551616 := by simp [IntKind.wrap, IntKind.bits, IntKind.signed]
      rw [this]; omega
    have e : (l ++ marksU).getD k 0 = 8000024 + ((k - n : Nat) : Int) := by
      simp [List.getElem?_append_right (show l.length ≤ k by omega), ← hn, marksU, show k - n < 12 by omega]
    refine cond_i (fun h => ?_) (fun _ => step _ hS hlt)
    rw [em, e] at h
    simp at h

theorem overU_c {w0 w : World} {L : List It} {r n : Nat} {l : List Int} {K : Value → World → Prop} (hS : Ho w0 w (sl (some ⟨r, 0, none⟩) (n + 12) (n + 12) (l.map (Value.int .u64)) N.t_uint64 :: L)) (hn : n ≤ 4294967000)
    (hK : ∀ w1 : World, Ho w0 w1 L → K (.tuple #[]) w1) : CallsX P N.f_girderkit_OverLimbs #[.slice (some ⟨r, 0, none⟩) n (n + 12)] w K := by
  refine H.girderkit_OverLimbs _ n (n + 12) w _ ?_
  unfold S_girderkit_OverLimbs
  have hw : IntKind.i64.wrap ((n : Int) + 12) = ((n + 12 : Nat) : Int) := by rw [← wrN (n := n + 12) (by omega)]; rfl
  rw [hw, Int.toNat_natCast]
  refine ⟨by omega, by omega, ?_⟩
  refine cutM_i (fun s w' => Ho w0 w' L) (fun J hJ => ?_) (fun s w' h => hK w' h)
  refine loopM_i (fun s w' => ∃ (k : Nat) (l1 : List Int), k ≤ n + 12 ∧ s.1 = (k : Int) ∧ Ho w0 w' (sl (some ⟨r, 0, none⟩) (n + 12) (n + 12) (l1.map (Value.int .u64)) N.t_uint64 :: L)) (fun s => n + 12 - s.1.toNat) ⟨0, l, by omega, rfl, hS⟩ ?_
  rintro ⟨i, u⟩ w1 X ⟨k, l1, hk, hi, hS⟩ hX
  dsimp only at hi
  subst hi
  refine cond_i (fun hb => ?_) (fun _ => hJ _ _ hS.drop)
  have hlt : k < n + 12 := by simp at hb; omega
  refine markU_c H (k := 2) (i := k) hS (by omega) (by omega) fun w2 hS => ?_
  refine ⟨_, rfl, by omega, by dsimp only; omega, ?_⟩
  rw [slBase0]
  refine optM_s ?_
  have hl1 : n + 12 = l1.length := by
    have := (slA.rd (hS.hold _ (List.mem_cons_self ..))).len
    rwa [List.length_map] at this
  refine sto_s hS rfl (by rw [Int.toNat_natCast]; omega) fun w3 hS => ?_
  have hw : IntKind.i64.wrap ((k : Int) + 1) = ((k + 1 : Nat) : Int) := by rw [← wrN (n := k + 1) (by omega)]; rfl
  exact hX _ _ ⟨k + 1, _, by omega, hw, hS⟩ (by dsimp only; rw [hw]; omega)

theorem wk_girderkit_OverLimbs {w0 w : World} {L : List It} {r n : Nat} {l : List Int} {K : Value → World → Prop} (hS : Ho w0 w (sl (some ⟨r, 0, none⟩) (n + 12) (n + 12) ((l ++ marksU).map (Value.int .u64)) N.t_uint64 :: L)) (hl : l.length ≤ 4294967000)
    (hK : ∀ w1 : World, Ho w0 w1 L → K (.tuple #[]) w1) : CallsX P N.f_girderkit_OverLimbs #[.slice (some ⟨r, 0, none⟩) n (n + 12)] w K := overU_c H hS (by have := (lent_n hS); omega) hK
theorem wk_girderkit_OverDyad {w0 w : World} {L : List It} {r n : Nat} {l : List Int} {b : Bool} {e : Int} {K : Value → World → Prop} (hS : Ho w0 w (sl (some ⟨r, 0, none⟩) (n + 12) (n + 12) ((l ++ marksU).map (Value.int .u64)) N.t_uint64 :: L)) (hl : l.length ≤ 4294967000)
    (hK : ∀ w1 : World, Ho w0 w1 L → K (.tuple #[]) w1) : CallsX P N.f_girderkit_OverDyad #[.agg #[.bool b, .slice (some ⟨r, 0, none⟩) n (n + 12), .int .i64 e]] w K := by
  refine H.girderkit_OverDyad _ _ _ _ _ w _ ?_
  unfold S_girderkit_OverDyad
  refine newM_s hS fun p w1 hS1 => ?_
  refine ⟨_, _, _, hS1.cel (List.mem_cons_self ..) rfl, ?_⟩
  have hS2 := hS1.drop
  refine overU_c H hS2 (by have := lent_n hS2; omega) fun w2 hS3 => ?_
  exact ⟨rfl, hK w2 hS3⟩
end
end Go.Eng
