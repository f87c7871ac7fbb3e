/-
  What 'append' and 'make' come to, for slices whose elements are of one cell each. No condition.
-/
import Derived.Test.YtmecjaojkegamaaGreatDoorHum
set_option linter.unusedVariables false
set_option linter.unusedSimpArgs false
set_option linter.unnecessarySimpa false
set_option linter.unusedSectionVars false
namespace Go.Eng
open Go
open Go.RowKit (Below)

def putRow (c : Array Value) : Nat → List Value → Array Value
  | _, [] => c
  | i, v :: vs => putRow (c.setIfInBounds i v) (i + 1) vs

theorem putRow_app : ∀ (k l z : List Value), k.length ≤ z.length → putRow (l ++ z).toArray l.length k = (l ++ k ++ z.drop k.length).toArray
  | [], l, z, _ => by simp [putRow]
  | v :: k, l, z, h => by
    cases z with
    | nil => simp at h
    | cons y z =>
      have h' : k.length ≤ z.length := by simpa using h
      have e : ((l ++ y :: z).toArray.setIfInBounds l.length v) = ((l ++ [v]) ++ z).toArray := by simp
      have e2 : l.length + 1 = (l ++ [v]).length := by simp
      show putRow ((l ++ y :: z).toArray.setIfInBounds l.length v) (l.length + 1) k = _
      rw [e, e2, putRow_app k (l ++ [v]) z h']
      simp

theorem setOwn {w0 : World} {A B : List (Nat × Array Value × Nat)} {r t : Nat} : ∀ {vs : List Value} {w : World} {c : Array Value} {o i : Nat}, St w0 w (A ++ (r, c, t) :: B) → o + i + vs.length ≤ c.size → (∀ v ∈ vs, cellV v = true) →
    stOk vs ⟨r, o, none⟩ i w ∧ St w0 (setRow vs ⟨r, o, none⟩ i w) (A ++ (r, putRow c (o + i) vs, t) :: B)
  | [], w, c, o, i, h, _, _ => ⟨trivial, h⟩
  | v :: vs, w, c, o, i, h, hl, hv => by
    have e : (⟨r, o, none⟩ : Addr).add i = ⟨r, o + i, none⟩ := by
      unfold Addr.add
      by_cases hi : i = 0
      · subst hi; rfl
      · simp [hi]
    have hlt : o + i < c.size := by simp at hl; omega
    have hs := h.set (o + i) v
    obtain ⟨h1, h2⟩ := setOwn (vs := vs) (o := o) (i := i + 1) hs (by simp at hl ⊢; omega) (fun x hx => hv x (List.mem_cons_of_mem _ hx))
    have hh : St w0 (setRow vs ⟨r, o, none⟩ (i + 1) (w.setCell ⟨r, o + i, none⟩ v)) (A ++ (r, putRow c (o + i) (v :: vs), t) :: B) := h2
    refine ⟨⟨hv v (List.mem_cons_self ..), ?_, ?_⟩, ?_⟩
    · rw [e]; exact h.ok (List.mem_append_right _ (List.mem_cons_self ..)) hlt
    · rw [e]; exact h1
    · show St w0 (setRow vs ⟨r, o, none⟩ (i + 1) (w.setCell ((⟨r, o, none⟩ : Addr).add i) v)) _
      rw [e]; exact hh

theorem zrow_one (n : Nat) (v : Value) : zrow n #[v] = (List.replicate n v).toArray := by
  apply Array.ext_getElem?
  intro i
  by_cases h : i < n
  · simp [zrow, h, Nat.mod_one]
  · simp [zrow, h]

/-- A slice of the call's own: nothing yet, or all of a block, of which the last part is free. -/
def Sl (B : List (Nat × Array Value × Nat)) (a : Option Addr) (n c : Nat) (l : List Value) (t : Nat) : Prop :=
  n = l.length ∧ ((B = [] ∧ a = none ∧ c = 0 ∧ l = []) ∨ ∃ (r : Nat) (z : List Value), B = [(r, (l ++ z).toArray, t)] ∧ a = some ⟨r, 0, none⟩ ∧ l.length + z.length = c)

theorem Sl.nil (t : Nat) : Sl [] none 0 0 [] t := ⟨rfl, .inl ⟨rfl, rfl, rfl, rfl⟩⟩
theorem Sl.blk {r c : Nat} {l z : List Value} {t : Nat} (h : l.length + z.length = c) : Sl [(r, (l ++ z).toArray, t)] (some ⟨r, 0, none⟩) l.length c l t := ⟨rfl, .inr ⟨r, z, rfl, rfl, h⟩⟩

section
variable {w0 w : World} {L : List (Nat × Array Value × Nat)} {K : Option Addr → Nat → Nat → World → Prop}

/-- 'append' where the room suffices. -/
theorem app_in {r t bytes m c n : Nat} {l z k : List Value} {b : Option Addr} {zero : Array Value} (hS : St w0 w (L ++ [(r, (l ++ z).toArray, t)])) (hn : n = l.length) (hc : l.length + z.length = c) (hk : k.length = m) (hm : m ≤ z.length)
    (hv : ∀ v ∈ k, cellV v = true) (hb : rowOf w b k)
    (hK : ∀ w', St w0 w' (L ++ [(r, (l ++ k ++ z.drop m).toArray, t)]) → K (some ⟨r, 0, none⟩) (n + m) c w') : appM t 1 bytes zero (some ⟨r, 0, none⟩) n c b m w K := by
  subst hn; subst hk
  refine ⟨k, by simp, hb, fun _ => ?_, fun h => by omega⟩
  have e : (⟨r, 0, none⟩ : Addr).add (l.length * 1) = ⟨r, l.length, none⟩ := by rw [Nat.mul_one, add_at]
  show stOk k ((⟨r, 0, none⟩ : Addr).add (l.length * 1)) 0 w ∧ K _ _ _ (setRow k ((⟨r, 0, none⟩ : Addr).add (l.length * 1)) 0 w)
  rw [e]
  obtain ⟨h1, h2⟩ := setOwn (vs := k) (o := l.length) (i := 0) hS (by simp; omega) hv
  rw [show l.length + 0 = l.length from rfl, putRow_app _ _ _ hm] at h2
  exact ⟨h1, hK _ h2⟩

/-- 'append' to a slice of the call's own. -/
theorem app_i {B : List (Nat × Array Value × Nat)} {t bytes m c n : Nat} {a : Option Addr} {l k : List Value} {b : Option Addr} {v0 : Value} (hS : St w0 w (L ++ B)) (hl : Sl B a n c l t) (hk : k.length = m)
    (hv : ∀ v ∈ k, cellV v = true) (hb : rowOf w b k) (hs : n + m ≤ 4294967296) (hbt : bytes ≤ 4096)
    (hK : ∀ (B' : List (Nat × Array Value × Nat)) (a' : Option Addr) (c' : Nat) (w' : World), St w0 w' (L ++ B') → Sl B' a' (n + m) c' (l ++ k) t → K a' (n + m) c' w') : appM t 1 bytes #[v0] a n c b m w K := by
  obtain ⟨rfl, hl⟩ := hl
  have grow : rowOf w a l → c < l.length + m → appM t 1 bytes #[v0] a l.length c b m w K := by
    rintro ho hlt
    refine ⟨k, by simp [hk], hb, fun h => by omega, fun _ => ⟨by omega, ?_, hbt, l, by simp, ho, fun c' d hc' => ?_⟩⟩
    · have : (l.length + m) * bytes ≤ 4294967296 * 4096 := Nat.mul_le_mul hs hbt
      omega
    · have h1 := ((hS.drop (List.sublist_append_left L B)).drew d).alloc ((l ++ k).toArray ++ zrow ((c' - (l.length + m)) * (#[v0] : Array Value).size) #[v0]) t
      have h4 := St.pick (M := [_]) h1 (List.mem_singleton.2 rfl)
      have e : (l ++ k).toArray ++ zrow ((c' - (l.length + m)) * (#[v0] : Array Value).size) #[v0] = ((l ++ k) ++ List.replicate (c' - (l.length + m)) v0).toArray := by rw [zrow_one]; simp
      rw [e] at h4 ⊢
      refine hK _ _ _ _ h4 ⟨by simp [hk], .inr ⟨_, _, rfl, rfl, by simp [hk]; omega⟩⟩
  rcases hl with ⟨rfl, rfl, rfl, rfl⟩ | ⟨r, z, rfl, rfl, hc⟩
  · rcases Nat.eq_zero_or_pos m with h0 | h0
    · subst h0
      have : k = [] := List.eq_nil_of_length_eq_zero hk
      subst this
      refine ⟨[], by simp, hb, fun _ => hK [] none 0 w hS ?_, fun h => by simp at h⟩
      exact Sl.nil t
    · exact grow rfl (by simp; omega)
  · by_cases hm : l.length + m ≤ c
    · refine app_in hS rfl hc hk (by omega) hv hb fun w' h' => hK _ _ _ _ h' ⟨by simp [hk], .inr ⟨r, z.drop m, rfl, rfl, by simp [hk]; omega⟩⟩
    · refine grow ?_ (by omega)
      intro i hi
      rw [add_at, hS.get (List.mem_append_right _ (List.mem_singleton.2 rfl))]
      simp [List.getElem?_append_left hi]

theorem mkS_i {e bytes : Nat} {v0 : Value} {l c : Nat} {k : Addr → World → Prop} {li ci : Int} (h : St w0 w L) (hl : li = l) (hc : ci = c) (h1 : l ≤ c) (h2 : c ≤ 1099511627776) (h3 : c * bytes ≤ 281474976710656)
    (hk : ∀ r w', St w0 w' ((r, (List.replicate c v0).toArray, e) :: L) → k ⟨r, 0, none⟩ w') : mkM e 1 bytes #[v0] li ci w k := by
  subst hl; subst hc
  refine mkM_i h (by omega) (by omega) (by omega) ?_ fun r w' hw => hk r w' ?_
  · have : ((c * bytes : Nat) : Int) ≤ ((281474976710656 : Nat) : Int) := Int.ofNat_le.2 h3
    rwa [Int.natCast_mul] at this
  · rw [zrow_one] at hw
    simpa using hw

theorem Reals.row {a : Option Addr} {n c : Nat} {l : List Nat} (h : Reals w a n c l) : rowOf w a (l.map (Value.float .f64)) := by
  cases a with
  | none =>
    cases l with
    | nil => rfl
    | cons x l => obtain ⟨y, hy, _⟩ := h.at_ 0 (by simp); cases hy
  | some x =>
    intro i hi
    simp at hi
    obtain ⟨y, hy, hc⟩ := h.at_ i hi
    cases hy
    rw [hc]; simp [hi]

theorem Reals.slm {B L : List (Nat × Array Value × Nat)} {a : Option Addr} {n c t : Nat} {l : List Nat} (hS : St w0 w L) (hm : ∀ e ∈ B, e ∈ L) (h : Sl B a n c (l.map (Value.float .f64)) t) : Reals w a n c l := by
  obtain ⟨rfl, ⟨rfl, rfl, rfl, hl⟩ | ⟨r, z, rfl, rfl, hc⟩⟩ := h
  · have : l = [] := by simpa using hl
    subst this
    exact ⟨rfl, Nat.le_refl _, fun i hi => by simp at hi⟩
  · refine ⟨by simp, by omega, fun i hi => ⟨_, rfl, ?_⟩⟩
    rw [add_at, hS.get (hm _ (List.mem_singleton.2 rfl))]
    simp [List.getElem?_append_left, hi]

theorem Reals.sl {B : List (Nat × Array Value × Nat)} {a : Option Addr} {n c t : Nat} {l : List Nat} (hS : St w0 w (L ++ B)) (h : Sl B a n c (l.map (Value.float .f64)) t) : Reals w a n c l := by
  obtain ⟨rfl, ⟨rfl, rfl, rfl, hl⟩ | ⟨r, z, rfl, rfl, hc⟩⟩ := h
  · have : l = [] := by simpa using hl
    subst this
    exact ⟨rfl, Nat.le_refl _, fun i hi => by simp at hi⟩
  · refine ⟨by simp, by omega, fun i hi => ⟨_, rfl, ?_⟩⟩
    rw [add_at, hS.get (List.mem_append_right _ (List.mem_singleton.2 rfl))]
    simp [List.getElem?_append_left, hi]
end
end Go.Eng
