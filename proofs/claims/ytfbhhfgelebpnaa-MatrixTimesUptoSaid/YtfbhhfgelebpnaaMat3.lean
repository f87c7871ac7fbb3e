/-
  What lending, comparing and keeping come to. No condition.
-/
import Derived.Test.YtfbhhfgelebpnaaMat2
import Derived.Test.YtfbhhfgelebpnaaHum2
set_option maxRecDepth 100000
namespace Go.Eng
open Go

def markF (i : Nat) : Nat := FloatKind.f64.nearest (8000024 + (i : Int))
def marks : List Nat := (List.range 12).map markF
theorem marks_same : ∀ i, i < 12 → feq (markF i) (markF i) = true := by decide +kernel

theorem slBase0 (a : Option Addr) (c size : Nat) : slBase a 0 c size = a := by
  unfold slBase
  split
  · rfl
  · cases a with
    | none => rfl
    | some x => simp [add_zero']

section
variable {N : Nums} {P : Program} (H : AllOk N P)
include H

theorem mark_c (i : Nat) (hi : i < 1000) (w : World) : CallsX P N.f_girderkit_mark #[.int .i64 1, .int .i64 i] w fun v w' => v = .int .i64 (8000024 + (i : Int)) ∧ St w w' [] := by
  refine H.girderkit_mark 1 i w _ ?_
  unfold S_girderkit_mark
  refine ⟨?_, St.refl _⟩
  congr 1
  have h1 : IntKind.i64.wrap (1 + 7) = 8 := by decide
  have h2 : IntKind.i64.wrap (1000003 * 8) = 8000024 := by decide
  rw [h1, h2, wrI (by omega) (by omega)]

theorem lentReals_c {w : World} {a : Option Addr} {n c : Nat} {l : List Nat} (hA : Reals w a n c l) (hn : n ≤ 4294967000) :
    CallsX P N.f_girderkit_LentReals #[.slice a n c] w fun v w' => ∃ (r : Nat) (M : List (Nat × Array Value × Nat)), v = .slice (some ⟨r, 0, none⟩) n (n + 12) ∧ St w w' M ∧ (r, flts (l ++ marks), N.t_float64) ∈ M := by
  refine H.girderkit_LentReals a n c w _ ?_
  unfold S_girderkit_LentReals
  have hS := St.refl w
  have hw : IntKind.i64.wrap ((n : Int) + 12) = ((n + 12 : Nat) : Int) := by rw [← wrN (n := n + 12) (by omega)]; rfl
  rw [hw, Int.toNat_natCast]
  refine mkS_i (l := 0) hS rfl rfl (by omega) (by omega) (by omega) fun r w1 hS => ?_
  have hln := hA.len
  refine app_in (L := []) (l := []) (z := List.replicate (n + 12) (.float .f64 0)) (k := l.map (Value.float .f64)) hS rfl (by simp) (by simpa using hln) (by simp) (by intro v hv; simp at hv; obtain ⟨x, _, rfl⟩ := hv; rfl) (hA.keep hS).row fun w2 hS => ?_
  refine cutM_i (fun s w' => s.1 = (some ⟨r, 0, none⟩, n + 12, n + 12) ∧ St w w' [(r, flts (l ++ marks), N.t_float64)]) (fun J hJ => ?_) ?_
  · refine loopM_i (fun s w' => ∃ k : Nat, k ≤ 12 ∧ s.2.1 = (k : Int) ∧ s.1 = (some ⟨r, 0, none⟩, n + k, n + 12) ∧ St w w' [(r, flts (l ++ (List.range k).map markF ++ List.replicate (12 - k) 0), N.t_float64)]) (fun s => 12 - s.2.1.toNat) ⟨0, by omega, rfl, by simp, ?_⟩ ?_
    · have e : flts (l ++ (List.range 0).map markF ++ List.replicate (12 - 0) 0) = ([] ++ l.map (Value.float .f64) ++ (List.replicate (n + 12) (Value.float .f64 0)).drop n).toArray := by
        simp [flts]
      rw [e]; exact hS
    · rintro ⟨s, i, u⟩ w3 X ⟨k, hk, hi, hs, hS⟩ hX
      dsimp only at hi hs
      subst hi; subst hs
      refine cond_i (fun hb => ?_) (fun hb => ?_)
      · have hlt : k < 12 := by simp at hb; omega
        refine (mark_c H k (by omega) w3).mono ?_
        rintro _ w4 ⟨rfl, h4⟩
        replace hS := (hS.next h4)
        refine ⟨_, rfl, ?_⟩
        refine newM_i hS fun q w5 hS => ?_
        have hq : rowOf w5 (some ⟨q, 0, none⟩) [Value.float .f64 (markF k)] := by
          intro i hi
          simp at hi; subst hi
          rw [add_at, hS.get (List.mem_cons_self ..)]; rfl
        replace hS := hS.forget (M := [_])
        dsimp only
        refine app_in (L := []) (l := (l ++ (List.range k).map markF).map (Value.float .f64)) (z := List.replicate (12 - k) (.float .f64 0)) (k := [.float .f64 (markF k)]) (by
          have e : flts (l ++ (List.range k).map markF ++ List.replicate (12 - k) 0) = ((l ++ (List.range k).map markF).map (Value.float .f64) ++ List.replicate (12 - k) (Value.float .f64 0)).toArray := by simp [flts]
          rw [← e]; exact hS) (by simp [hln]) (by simp [hln]; omega) rfl (by simp; omega) (by intro v hv; simp at hv; subst hv; rfl) hq fun w6 hS => ?_
        have hw : IntKind.i64.wrap ((k : Int) + 1) = ((k + 1 : Nat) : Int) := by rw [← wrN (n := k + 1) (by omega)]; rfl
        refine hX _ _ ⟨k + 1, by omega, hw, rfl, ?_⟩ (by dsimp only; rw [hw]; omega)
        have e : flts (l ++ (List.range (k + 1)).map markF ++ List.replicate (12 - (k + 1)) 0) = ((l ++ (List.range k).map markF).map (Value.float .f64) ++ [Value.float .f64 (markF k)] ++ (List.replicate (12 - k) (Value.float .f64 0)).drop 1).toArray := by
          simp [flts, List.range_succ, Nat.sub_sub]
        rw [e]; exact hS
      · have hk : k = 12 := by simp at hb; omega
        subst hk
        refine hJ _ _ ⟨rfl, ?_⟩
        simpa [marks] using hS
  · rintro ⟨s, u⟩ w3 ⟨hs, hS⟩
    dsimp only at hs
    subst hs
    refine ⟨by omega, by dsimp only; omega, ?_⟩
    rw [slBase0]
    exact ⟨r, _, rfl, hS, List.mem_singleton.2 rfl⟩

theorem lentMatrix_c {w : World} {rows cols : Int} {a : Option Addr} {n c : Nat} {l : List Nat} (hA : Reals w a n c l) (hn : n ≤ 4294967000) :
    CallsX P N.f_girderkit_LentMatrix #[.agg #[.int .i64 rows, .int .i64 cols, .slice a n c]] w fun v w' => ∃ (r : Nat) (M : List (Nat × Array Value × Nat)), v = .agg #[.int .i64 rows, .int .i64 cols, .slice (some ⟨r, 0, none⟩) n (n + 12)] ∧ St w w' M ∧ (r, flts (l ++ marks), N.t_float64) ∈ M := by
  refine H.girderkit_LentMatrix rows cols a n c w _ ?_
  unfold S_girderkit_LentMatrix
  have hS := St.refl w
  generalize hw0 : w = w0 at hS ⊢
  rw [hw0] at hA
  (repeat (first | ((with_reducible first | apply ldI hS | apply ldS hS | apply hldS hS | apply hldI hS | apply ldF hS | apply ldP hS | apply ldB hS | apply hldF hS); (case ha => exact rfl); (case he => (repeat (first | exact .head _ | refine .tail _ ?_))); (case hc => exact rfl)) | (guard_target = newM _ _ _ _; refine newM_i hS ?_; clear hS; intro _ w hS) | (guard_target = drM _ _; refine drM_i hS ?_; clear hS; intro w hS) | (guard_target = stM _ _ _ _; (first | refine st0 hS rfl rfl ?_ | refine st1 hS rfl rfl ?_ | refine st2 hS rfl rfl ?_ | refine st3 hS rfl rfl ?_ | refine st4 hS rfl rfl ?_ | refine st5 hS rfl rfl ?_ | refine st6 hS rfl rfl ?_ | refine st7 hS rfl rfl ?_); clear hS; intro w hS) | (guard_target = optM (some _) _; refine optM_mk rfl ?_) | (with_reducible (refine ⟨_, hS.cell ‹_›, ?_⟩)) | (with_reducible (refine ⟨_, _, _, hS.cell ‹_›, ?_⟩)) | (with_reducible (refine ⟨hS.cell ‹_›, ?_⟩))))
  refine (lentReals_c H (hA.keep hS) hn).mono ?_
  rintro _ w1 ⟨r, M, rfl, h1, hr⟩
  replace hS := (hS.next h1).pick hr
  refine ⟨_, _, _, rfl, ?_⟩
  (repeat (first | ((with_reducible first | apply ldI hS | apply ldS hS | apply hldS hS | apply hldI hS | apply ldF hS | apply ldP hS | apply ldB hS | apply hldF hS); (case ha => exact rfl); (case he => (repeat (first | exact .head _ | refine .tail _ ?_))); (case hc => exact rfl)) | (guard_target = newM _ _ _ _; refine newM_i hS ?_; clear hS; intro _ w hS) | (guard_target = drM _ _; refine drM_i hS ?_; clear hS; intro w hS) | (guard_target = stM _ _ _ _; (first | refine st0 hS rfl rfl ?_ | refine st1 hS rfl rfl ?_ | refine st2 hS rfl rfl ?_ | refine st3 hS rfl rfl ?_ | refine st4 hS rfl rfl ?_ | refine st5 hS rfl rfl ?_ | refine st6 hS rfl rfl ?_ | refine st7 hS rfl rfl ?_); clear hS; intro w hS) | (guard_target = optM (some _) _; refine optM_mk rfl ?_) | (with_reducible (refine ⟨_, hS.cell ‹_›, ?_⟩)) | (with_reducible (refine ⟨_, _, _, hS.cell ‹_›, ?_⟩)) | (with_reducible (refine ⟨hS.cell ‹_›, ?_⟩))))
  exact ⟨r, _, rfl, hS, by simp⟩

theorem rAt_c {w : World} {rows : Int} {cols : Nat} {a : Option Addr} {n c : Nat} {l : List Nat} (hA : Reals w a n c l) {i j rw' : Nat} (hi : i < rw') (hj : j < cols) (hn : n = rw' * cols) (hb : rw' * cols ≤ 1099511627776) :
    CallsX P N.f_girderref10_At #[.agg #[.int .i64 rows, .int .i64 cols, .slice a n c], .int .i64 i, .int .i64 j] w fun v w' => v = .float .f64 (l.getD (i * cols + j) 0) ∧ St w w' [] := by
  refine H.girderref10_At rows cols a n c i j w _ ?_
  unfold S_girderref10_At
  have hS := St.refl w
  generalize hw0 : w = w0 at hS ⊢
  rw [hw0] at hA
  (repeat (first | ((with_reducible first | apply ldI hS | apply ldS hS | apply hldS hS | apply hldI hS | apply ldF hS | apply ldP hS | apply ldB hS | apply hldF hS); (case ha => exact rfl); (case he => (repeat (first | exact .head _ | refine .tail _ ?_))); (case hc => exact rfl)) | (guard_target = newM _ _ _ _; refine newM_i hS ?_; clear hS; intro _ w hS) | (guard_target = drM _ _; refine drM_i hS ?_; clear hS; intro w hS) | (guard_target = stM _ _ _ _; (first | refine st0 hS rfl rfl ?_ | refine st1 hS rfl rfl ?_ | refine st2 hS rfl rfl ?_ | refine st3 hS rfl rfl ?_ | refine st4 hS rfl rfl ?_ | refine st5 hS rfl rfl ?_ | refine st6 hS rfl rfl ?_ | refine st7 hS rfl rfl ?_); clear hS; intro w hS) | (guard_target = optM (some _) _; refine optM_mk rfl ?_) | (with_reducible (refine ⟨_, hS.cell ‹_›, ?_⟩)) | (with_reducible (refine ⟨_, _, _, hS.cell ‹_›, ?_⟩)) | (with_reducible (refine ⟨hS.cell ‹_›, ?_⟩))))
  have i1 := wr_idx hi hj hb
  have l1 := idx_lt hi hj
  rw [i1]
  refine ⟨by omega, by omega, (hA.keep hS).read (i := i * cols + j) (by omega) fun y hy => ⟨_, by rw [Int.toNat_natCast, Nat.mul_one]; exact hy, rfl, hS.nil⟩⟩

theorem keptReals_c {w : World} {a b : Option Addr} {n d : Nat} {l : List Nat} (hA : Reals w a (n + 12) (n + 12) (l ++ marks)) (hB : Reals w b n d l) (hn : n ≤ 4294967000) :
    CallsX P N.f_girderkit_KeptReals #[.slice a n (n + 12), .slice b n d] w fun v w' => v = .bool true ∧ St w w' [] := by
  refine H.girderkit_KeptReals a n (n + 12) b n d w _ ?_
  unfold S_girderkit_KeptReals
  refine cond_i (fun h => by simp at h) (fun _ => ?_)
  have hw : IntKind.i64.wrap ((n : Int) + 12) = ((n + 12 : Nat) : Int) := by rw [← wrN (n := n + 12) (by omega)]; rfl
  rw [hw, Int.toNat_natCast]
  have hlen := hB.len
  refine ⟨by omega, by omega, ?_⟩
  refine cutM_i (fun s w' => St w w' []) (fun J hJ => ?_) (fun s w' h => ⟨rfl, h⟩)
  refine loopM_i (fun s w' => ∃ k : Nat, k ≤ n + 12 ∧ s.1 = (k : Int) ∧ St w w' []) (fun s => n + 12 - s.1.toNat) ⟨0, by omega, rfl, St.refl w⟩ ?_
  rintro ⟨i, u⟩ w1 X ⟨k, hk, hi, hS⟩ hX
  dsimp only at hi
  subst hi
  have step : ∀ w', St w w' [] → k < n + 12 → X (IntKind.i64.wrap ((k : Int) + 1), u) w' := fun w' h' hlt => by
    have hw : IntKind.i64.wrap ((k : Int) + 1) = ((k + 1 : Nat) : Int) := by rw [← wrN (n := k + 1) (by omega)]; rfl
    exact hX _ _ ⟨k + 1, by omega, hw, h'⟩ (by dsimp only; rw [hw]; omega)
  rw [slBase0]
  refine cond_i (fun hb => ?_) (fun _ => hJ _ _ hS)
  have hlt : k < n + 12 := by simp at hb; omega
  refine cond_i (fun hb => ?_) (fun hb => ?_)
  · have hkn : k < n := by simp at hb; omega
    refine ⟨by omega, by dsimp only; omega, (hA.keep hS).read (i := k) (by omega) fun x hx => ⟨_, by rw [Int.toNat_natCast, Nat.mul_one]; exact hx, ?_⟩⟩
    refine ⟨by omega, by dsimp only; omega, (hB.keep hS).read (i := k) (by omega) fun y hy => ⟨_, by rw [Int.toNat_natCast, Nat.mul_one]; exact hy, ?_⟩⟩
    refine drM_i hS fun w2 hS => ?_
    refine (sameFloat_c H _ _ _).mono ?_
    rintro _ w3 ⟨rfl, h3⟩
    replace hS := hS.next h3
    refine ⟨_, rfl, ?_⟩
    have e : (l ++ marks).getD k 0 = l.getD k 0 := by
      simp [List.getElem?_append_left (show k < l.length by omega)]
    refine cond_i (fun _ => ?_) (fun h => by rw [e] at h; simp at h)
    refine cond_i (fun h => by simp at h; omega) (fun _ => ?_)
    exact drM_i hS fun w4 hS => drM_i hS fun w5 hS => step _ hS hlt
  · have hkn : n ≤ k := by simp at hb; omega
    refine drM_i hS fun w2 hS => ?_
    refine cond_i (fun h => ?_) (fun h => by simp at h; omega)
    obtain ⟨x, rfl, hx⟩ := hA.at_ k (by simp [marks]; omega)
    refine ⟨by omega, by dsimp only; omega, optM_mk rfl ⟨_, by rw [Int.toNat_natCast, Nat.mul_one]; exact hS.cell hx, ?_⟩⟩
    refine drM_i hS fun w3 hS => ?_
    have hs : IntKind.i64.wrap ((k : Int) - (n : Int)) = ((k - n : Nat) : Int) := by rw [wrI (by omega) (by omega)]; omega
    dsimp only
    rw [hs]
    refine (mark_c H (k - n) (by omega) w3).mono ?_
    rintro _ w4 ⟨rfl, h4⟩
    replace hS := hS.next h4
    refine ⟨_, rfl, by rw [Int.toNat_natCast, Nat.mul_one]; exact hS.cell hx, ?_⟩
    refine drM_i hS fun w5 hS => ?_
    have e : (l ++ marks).getD k 0 = markF (k - n) := by
      simp [List.getElem?_append_right (show l.length ≤ k by omega), hlen, marks, show k - n < 12 by omega]
    refine cond_i (fun h => ?_) (fun _ => step _ hS hlt)
    rw [e] at h
    have := marks_same (k - n) (by omega)
    unfold markF at h this
    rw [this] at h
    simp at h

theorem sameMatrix_c {w : World} {ra ca rb cb : Int} {a b : Option Addr} {n c m d : Nat} {l k : List Nat} (hA : Reals w a n c l) (hB : Reals w b m d k) (hn : n ≤ 1099511627776) :
    CallsX P N.f_girderkit_SameMatrix #[.agg #[.int .i64 ra, .int .i64 ca, .slice a n c], .agg #[.int .i64 rb, .int .i64 cb, .slice b m d]] w fun v w' => v = .bool (ra == rb && ca == cb && l.map nf == k.map nf) ∧ ∃ M, St w w' M := by
  refine H.girderkit_SameMatrix ra ca a n c rb cb b m d w _ ?_
  unfold S_girderkit_SameMatrix
  have hS := St.refl w
  generalize hw0 : w = w0 at hS ⊢
  rw [hw0] at hA hB
  (repeat (first | ((with_reducible first | apply ldI hS | apply ldS hS | apply hldS hS | apply hldI hS | apply ldF hS | apply ldP hS | apply ldB hS | apply hldF hS); (case ha => exact rfl); (case he => (repeat (first | exact .head _ | refine .tail _ ?_))); (case hc => exact rfl)) | (guard_target = newM _ _ _ _; refine newM_i hS ?_; clear hS; intro _ w hS) | (guard_target = drM _ _; refine drM_i hS ?_; clear hS; intro w hS) | (guard_target = stM _ _ _ _; (first | refine st0 hS rfl rfl ?_ | refine st1 hS rfl rfl ?_ | refine st2 hS rfl rfl ?_ | refine st3 hS rfl rfl ?_ | refine st4 hS rfl rfl ?_ | refine st5 hS rfl rfl ?_ | refine st6 hS rfl rfl ?_ | refine st7 hS rfl rfl ?_); clear hS; intro w hS) | (guard_target = optM (some _) _; refine optM_mk rfl ?_) | (with_reducible (refine ⟨_, hS.cell ‹_›, ?_⟩)) | (with_reducible (refine ⟨_, _, _, hS.cell ‹_›, ?_⟩)) | (with_reducible (refine ⟨hS.cell ‹_›, ?_⟩))))
  refine cond_i (fun h1 => ?_) (fun h1 => ⟨by simp [h1], _, hS⟩)
  (repeat (first | ((with_reducible first | apply ldI hS | apply ldS hS | apply hldS hS | apply hldI hS | apply ldF hS | apply ldP hS | apply ldB hS | apply hldF hS); (case ha => exact rfl); (case he => (repeat (first | exact .head _ | refine .tail _ ?_))); (case hc => exact rfl)) | (guard_target = newM _ _ _ _; refine newM_i hS ?_; clear hS; intro _ w hS) | (guard_target = drM _ _; refine drM_i hS ?_; clear hS; intro w hS) | (guard_target = stM _ _ _ _; (first | refine st0 hS rfl rfl ?_ | refine st1 hS rfl rfl ?_ | refine st2 hS rfl rfl ?_ | refine st3 hS rfl rfl ?_ | refine st4 hS rfl rfl ?_ | refine st5 hS rfl rfl ?_ | refine st6 hS rfl rfl ?_ | refine st7 hS rfl rfl ?_); clear hS; intro w hS) | (guard_target = optM (some _) _; refine optM_mk rfl ?_) | (with_reducible (refine ⟨_, hS.cell ‹_›, ?_⟩)) | (with_reducible (refine ⟨_, _, _, hS.cell ‹_›, ?_⟩)) | (with_reducible (refine ⟨hS.cell ‹_›, ?_⟩))))
  refine cond_i (fun h2 => ?_) (fun h2 => ⟨by simp [h2], _, hS⟩)
  (repeat (first | ((with_reducible first | apply ldI hS | apply ldS hS | apply hldS hS | apply hldI hS | apply ldF hS | apply ldP hS | apply ldB hS | apply hldF hS); (case ha => exact rfl); (case he => (repeat (first | exact .head _ | refine .tail _ ?_))); (case hc => exact rfl)) | (guard_target = newM _ _ _ _; refine newM_i hS ?_; clear hS; intro _ w hS) | (guard_target = drM _ _; refine drM_i hS ?_; clear hS; intro w hS) | (guard_target = stM _ _ _ _; (first | refine st0 hS rfl rfl ?_ | refine st1 hS rfl rfl ?_ | refine st2 hS rfl rfl ?_ | refine st3 hS rfl rfl ?_ | refine st4 hS rfl rfl ?_ | refine st5 hS rfl rfl ?_ | refine st6 hS rfl rfl ?_ | refine st7 hS rfl rfl ?_); clear hS; intro w hS) | (guard_target = optM (some _) _; refine optM_mk rfl ?_) | (with_reducible (refine ⟨_, hS.cell ‹_›, ?_⟩)) | (with_reducible (refine ⟨_, _, _, hS.cell ‹_›, ?_⟩)) | (with_reducible (refine ⟨hS.cell ‹_›, ?_⟩))))
  refine (sameReals_c H (hA.keep hS) (hB.keep hS) hn).mono ?_
  rintro _ w1 ⟨rfl, h3⟩
  exact ⟨_, rfl, by simp [h1, h2], _, hS.next h3⟩

theorem is_c {w : World} {ra ca rb cb ea eb : Int} {a b : Option Addr} {n c m d : Nat} {l k : List Nat} (hA : Reals w a n c l) (hB : Reals w b m d k) (hn : n ≤ 1099511627776) :
    CallsX P N.f_girderlaw10_is #[.agg #[.int .i64 ra, .int .i64 ca, .slice a n c], .int .i64 ea, .agg #[.int .i64 rb, .int .i64 cb, .slice b m d], .int .i64 eb] w fun v w' => v = .bool (ea == eb && (ra == rb && ca == cb && l.map nf == k.map nf)) ∧ ∃ M, St w w' M := by
  refine H.girderlaw10_is ra ca a n c ea rb cb b m d eb w _ ?_
  unfold S_girderlaw10_is
  have hS := St.refl w
  generalize hw0 : w = w0 at hS ⊢
  rw [hw0] at hA hB
  (repeat (first | ((with_reducible first | apply ldI hS | apply ldS hS | apply hldS hS | apply hldI hS | apply ldF hS | apply ldP hS | apply ldB hS | apply hldF hS); (case ha => exact rfl); (case he => (repeat (first | exact .head _ | refine .tail _ ?_))); (case hc => exact rfl)) | (guard_target = newM _ _ _ _; refine newM_i hS ?_; clear hS; intro _ w hS) | (guard_target = drM _ _; refine drM_i hS ?_; clear hS; intro w hS) | (guard_target = stM _ _ _ _; (first | refine st0 hS rfl rfl ?_ | refine st1 hS rfl rfl ?_ | refine st2 hS rfl rfl ?_ | refine st3 hS rfl rfl ?_ | refine st4 hS rfl rfl ?_ | refine st5 hS rfl rfl ?_ | refine st6 hS rfl rfl ?_ | refine st7 hS rfl rfl ?_); clear hS; intro w hS) | (guard_target = optM (some _) _; refine optM_mk rfl ?_) | (with_reducible (refine ⟨_, hS.cell ‹_›, ?_⟩)) | (with_reducible (refine ⟨_, _, _, hS.cell ‹_›, ?_⟩)) | (with_reducible (refine ⟨hS.cell ‹_›, ?_⟩))))
  refine cond_i (fun h1 => ?_) (fun h1 => ⟨by simp [h1], _, hS⟩)
  (repeat (first | ((with_reducible first | apply ldI hS | apply ldS hS | apply hldS hS | apply hldI hS | apply ldF hS | apply ldP hS | apply ldB hS | apply hldF hS); (case ha => exact rfl); (case he => (repeat (first | exact .head _ | refine .tail _ ?_))); (case hc => exact rfl)) | (guard_target = newM _ _ _ _; refine newM_i hS ?_; clear hS; intro _ w hS) | (guard_target = drM _ _; refine drM_i hS ?_; clear hS; intro w hS) | (guard_target = stM _ _ _ _; (first | refine st0 hS rfl rfl ?_ | refine st1 hS rfl rfl ?_ | refine st2 hS rfl rfl ?_ | refine st3 hS rfl rfl ?_ | refine st4 hS rfl rfl ?_ | refine st5 hS rfl rfl ?_ | refine st6 hS rfl rfl ?_ | refine st7 hS rfl rfl ?_); clear hS; intro w hS) | (guard_target = optM (some _) _; refine optM_mk rfl ?_) | (with_reducible (refine ⟨_, hS.cell ‹_›, ?_⟩)) | (with_reducible (refine ⟨_, _, _, hS.cell ‹_›, ?_⟩)) | (with_reducible (refine ⟨hS.cell ‹_›, ?_⟩))))
  refine (sameMatrix_c H (hA.keep hS) (hB.keep hS) hn).mono ?_
  rintro _ w1 ⟨rfl, M, h3⟩
  exact ⟨_, rfl, by simp [h1], _, hS.next h3⟩

theorem keptMatrix_c {w : World} {ra ca : Int} {a b : Option Addr} {n d : Nat} {l : List Nat} (hA : Reals w a (n + 12) (n + 12) (l ++ marks)) (hB : Reals w b n d l) (hn : n ≤ 4294967000) :
    CallsX P N.f_girderkit_KeptMatrix #[.agg #[.int .i64 ra, .int .i64 ca, .slice a n (n + 12)], .agg #[.int .i64 ra, .int .i64 ca, .slice b n d]] w fun v w' => v = .bool true ∧ ∃ M, St w w' M := by
  refine H.girderkit_KeptMatrix ra ca a n (n + 12) ra ca b n d w _ ?_
  unfold S_girderkit_KeptMatrix
  have hS := St.refl w
  generalize hw0 : w = w0 at hS ⊢
  rw [hw0] at hA hB
  (repeat (first | ((with_reducible first | apply ldI hS | apply ldS hS | apply hldS hS | apply hldI hS | apply ldF hS | apply ldP hS | apply ldB hS | apply hldF hS); (case ha => exact rfl); (case he => (repeat (first | exact .head _ | refine .tail _ ?_))); (case hc => exact rfl)) | (guard_target = newM _ _ _ _; refine newM_i hS ?_; clear hS; intro _ w hS) | (guard_target = drM _ _; refine drM_i hS ?_; clear hS; intro w hS) | (guard_target = stM _ _ _ _; (first | refine st0 hS rfl rfl ?_ | refine st1 hS rfl rfl ?_ | refine st2 hS rfl rfl ?_ | refine st3 hS rfl rfl ?_ | refine st4 hS rfl rfl ?_ | refine st5 hS rfl rfl ?_ | refine st6 hS rfl rfl ?_ | refine st7 hS rfl rfl ?_); clear hS; intro w hS) | (guard_target = optM (some _) _; refine optM_mk rfl ?_) | (with_reducible (refine ⟨_, hS.cell ‹_›, ?_⟩)) | (with_reducible (refine ⟨_, _, _, hS.cell ‹_›, ?_⟩)) | (with_reducible (refine ⟨hS.cell ‹_›, ?_⟩))))
  have hA' : Reals w0 a n (n + 12) l := ⟨hB.len, by omega, fun i hi => by
    obtain ⟨x, hx, hc⟩ := hA.at_ i (by simp; omega)
    refine ⟨x, hx, ?_⟩
    rw [hc]; simp [List.getElem?_append_left hi]⟩
  refine (sameMatrix_c H (hA'.keep hS) (hB.keep hS) (by omega)).mono ?_
  rintro _ w1 ⟨rfl, M, h3⟩
  replace hS := (hS.next h3).forget
  refine ⟨_, rfl, cond_i (fun _ => ?_) (fun h => by simp at h)⟩
  (repeat (first | ((with_reducible first | apply ldI hS | apply ldS hS | apply hldS hS | apply hldI hS | apply ldF hS | apply ldP hS | apply ldB hS | apply hldF hS); (case ha => exact rfl); (case he => (repeat (first | exact .head _ | refine .tail _ ?_))); (case hc => exact rfl)) | (guard_target = newM _ _ _ _; refine newM_i hS ?_; clear hS; intro _ w hS) | (guard_target = drM _ _; refine drM_i hS ?_; clear hS; intro w hS) | (guard_target = stM _ _ _ _; (first | refine st0 hS rfl rfl ?_ | refine st1 hS rfl rfl ?_ | refine st2 hS rfl rfl ?_ | refine st3 hS rfl rfl ?_ | refine st4 hS rfl rfl ?_ | refine st5 hS rfl rfl ?_ | refine st6 hS rfl rfl ?_ | refine st7 hS rfl rfl ?_); clear hS; intro w hS) | (guard_target = optM (some _) _; refine optM_mk rfl ?_) | (with_reducible (refine ⟨_, hS.cell ‹_›, ?_⟩)) | (with_reducible (refine ⟨_, _, _, hS.cell ‹_›, ?_⟩)) | (with_reducible (refine ⟨hS.cell ‹_›, ?_⟩))))
  refine (keptReals_c H (hA.keep hS) (hB.keep hS) hn).mono ?_
  rintro _ w1 ⟨rfl, h3⟩
  exact ⟨_, rfl, rfl, _, hS.next h3⟩

theorem of_c (r c : Int) (a : Option Addr) (n m : Nat) (w : World) : CallsX P N.f_girderlaw10_of #[.int .i64 r, .int .i64 c, .slice a n m] w fun v w' => v = .agg #[.int .i64 r, .int .i64 c, .slice a n m] ∧ ∃ M, St w w' M := by
  refine H.girderlaw10_of r c a n m w _ ?_
  unfold S_girderlaw10_of
  have hS := St.refl w
  (repeat (first | ((with_reducible first | apply ldI hS | apply ldS hS | apply hldS hS | apply hldI hS | apply ldF hS | apply ldP hS | apply ldB hS | apply hldF hS); (case ha => exact rfl); (case he => (repeat (first | exact .head _ | refine .tail _ ?_))); (case hc => exact rfl)) | (guard_target = newM _ _ _ _; refine newM_i hS ?_; clear hS; intro _ w hS) | (guard_target = drM _ _; refine drM_i hS ?_; clear hS; intro w hS) | (guard_target = stM _ _ _ _; (first | refine st0 hS rfl rfl ?_ | refine st1 hS rfl rfl ?_ | refine st2 hS rfl rfl ?_ | refine st3 hS rfl rfl ?_ | refine st4 hS rfl rfl ?_ | refine st5 hS rfl rfl ?_ | refine st6 hS rfl rfl ?_ | refine st7 hS rfl rfl ?_); clear hS; intro w hS) | (guard_target = optM (some _) _; refine optM_mk rfl ?_) | (with_reducible (refine ⟨_, hS.cell ‹_›, ?_⟩)) | (with_reducible (refine ⟨_, _, _, hS.cell ‹_›, ?_⟩)) | (with_reducible (refine ⟨hS.cell ‹_›, ?_⟩))))
  exact ⟨rfl, _, hS⟩

end
end Go.Eng
