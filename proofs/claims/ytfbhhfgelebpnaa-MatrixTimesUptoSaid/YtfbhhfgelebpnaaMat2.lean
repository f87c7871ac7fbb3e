/-
  What the products of the package matrix and of its reference come to. No condition.
-/
import Derived.Test.YtfbhhfgelebpnaaMat1
set_option maxRecDepth 100000
namespace Go.Eng
open Go

/-- The numbers of a matrix, row by row. -/
def gridL (rows cols : Nat) (g : Nat → Nat → Nat) : List Nat := (List.range (rows * cols)).map fun k => g (k / cols) (k % cols)

theorem isMat_map {l : List Nat} {rows cols : Nat} {g : Nat → Nat → Nat} (h : IsMat l rows cols g) : l.map nf = gridL rows cols g := by
  obtain ⟨hl, h⟩ := h
  apply List.ext_getElem
  · simp [gridL, hl]
  · intro k h1 h2
    simp [hl] at h1
    have hc : 0 < cols := by
      rcases Nat.eq_zero_or_pos cols with h0 | h0
      · subst h0; simp at h1
      · exact h0
    have hd : k / cols < rows := Nat.div_lt_of_lt_mul (by rw [Nat.mul_comm]; exact h1)
    have := h (k / cols) (k % cols) hd (Nat.mod_lt _ hc)
    have e : k / cols * cols + k % cols = k := by rw [Nat.mul_comm]; exact Nat.div_add_mod k cols
    rw [e] at this
    simp [gridL, ← this, hl, h1]

def mulOk (ra ca : Int) (al : Nat) (rb cb : Int) (bl : Nat) : Bool := rightB ra ca al && rightB rb cb bl && (ca == rb)

def mulG (la lb : List Nat) (ca cb : Nat) (i j : Nat) : Nat := dotN (fun k => la.getD (i * ca + k) 0) (fun k => lb.getD (k * cb + j) 0) ca

/-- What comes of a product, or of its refusal. -/
def MatRes (t : Nat) (w w' : World) (v : Value) (ok : Bool) (rows cols : Nat) (g : Nat → Nat → Nat) : Prop :=
  (ok = true ∧ ∃ (r : Nat) (l : List Nat) (M : List (Nat × Array Value × Nat)), v = .tuple #[.agg #[.int .i64 rows, .int .i64 cols, .slice (some ⟨r, 0, none⟩) (rows * cols) (rows * cols)], .int .i64 0] ∧ IsMat l rows cols g ∧ St w w' M ∧ (r, flts l, t) ∈ M) ∨
  (ok = false ∧ v = .tuple #[.agg #[.int .i64 0, .int .i64 0, .slice none 0 0], .int .i64 4] ∧ ∃ M, St w w' M)

/-- The cells of a matrix. -/
abbrev mtx (r c : Int) (a : Option Addr) (n m : Nat) : Array Value := #[.int .i64 r, .int .i64 c, .slice a n m]

section
variable {N : Nums} {P : Program} (H : AllOk N P)
include H

theorem mul1_c {ra ca cb : Nat} (hra : ra ≤ 48) (hca : ca ≤ 48) (hcb : cb ≤ 48) {sa sb : Option Addr} {na ma nb mb : Nat} {la lb : List Nat} {w : World} {a b : Addr} (i j : Nat) (hi : i < ra) (hj : j < cb)
    (hla : na = ra * ca) (hlb : nb = ca * cb) (ha1 : w.cell? (a.add 1) = some (.int .i64 ca)) (ha2 : w.cell? (a.add 2) = some (.slice sa na ma)) (hb1 : w.cell? (b.add 1) = some (.int .i64 cb)) (hb2 : w.cell? (b.add 2) = some (.slice sb nb mb))
    (hA : Reals w sa na ma la) (hB : Reals w sb nb mb lb) :
    CallsX P N.f_matrix_Mul_1 #[.int .i64 i, .int .i64 j, .pointer (some a), .pointer (some b)] w fun v w' => ∃ x, v = .float .f64 x ∧ nf x = mulG la lb ca cb i j ∧ St w w' [] := by
  refine H.matrix_Mul_1 i j (some a) (some b) w _ ?_
  unfold S_matrix_Mul_1
  have b1 : ra * ca ≤ 2304 := Nat.le_trans (Nat.mul_le_mul hra hca) (by omega)
  have b2 : ca * cb ≤ 2304 := Nat.le_trans (Nat.mul_le_mul hca hcb) (by omega)
  refine optM_mk rfl ⟨_, ha1, ?_⟩
  refine cutM_i (fun s w' => nf s.1 = mulG la lb ca cb i j ∧ St w w' []) (fun J hJ => ?_) (fun s w' ⟨h1, h2⟩ => ⟨_, rfl, h1, h2⟩)
  refine loopM_i (fun s w' => ∃ k : Nat, s.2.1 = (k : Int) ∧ k ≤ ca ∧ nf s.1 = dotN (fun k => la.getD (i * ca + k) 0) (fun k => lb.getD (k * cb + j) 0) k ∧ St w w' []) (fun s => ca - s.2.1.toNat)
    ⟨0, rfl, by omega, nf_zero, St.refl _⟩ ?_
  rintro ⟨x, s, u⟩ w1 X ⟨k, hk, hkc, hx, hS⟩ hX
  dsimp only at hk hx
  subst hk
  refine cond_i (fun hb => ?_) (fun hb => ?_)
  · have hlt : k < ca := by simpa using hb
    have i1 := wr_idx hi hlt (by omega)
    have i2 := wr_idx hlt hj (by omega)
    have l1 := idx_lt hi hlt
    have l2 := idx_lt hlt hj
    refine optM_mk rfl ⟨_, _, _, hS.cell ha2, optM_mk rfl ⟨_, hS.cell ha1, ?_⟩⟩
    dsimp only
    rw [i1]
    refine ⟨by omega, by omega, (hA.keep hS).read (i := i * ca + k) (by omega) fun y hy => ⟨_, by rw [Int.toNat_natCast, Nat.mul_one]; exact hy, ?_⟩⟩
    refine optM_mk rfl ⟨_, _, _, hS.cell hb2, optM_mk rfl ⟨_, hS.cell hb1, ?_⟩⟩
    rw [i2]
    refine ⟨by omega, by omega, (hB.keep hS).read (i := k * cb + j) (by omega) fun z hz => ⟨_, by rw [Int.toNat_natCast, Nat.mul_one]; exact hz, ?_⟩⟩
    refine fresM_i hS fun p w2 hp _ => fresM_i hS fun q w3 hq _ => drM_i hS fun w4 hS => ?_
    have hw : IntKind.i64.wrap ((k : Int) + 1) = ((k + 1 : Nat) : Int) := by rw [← wrN (n := k + 1) (by omega)]; rfl
    refine hX _ _ ⟨k + 1, hw, by omega, ?_, hS⟩ (by dsimp only; rw [hw]; omega)
    dsimp only
    rw [hq, dotN]
    exact fadd_eq (by rw [hx, nf_dotN]) (by rw [hp, nf_fmul])
  · have hge : k = ca := by have : ca ≤ k := by simpa using hb
                            omega
    subst hge
    exact hJ _ _ ⟨hx, hS⟩

theorem mul_c {ra ca rb cb : Int} {sa sb : Option Addr} {na ma nb mb : Nat} {la lb : List Nat} {w : World} (hA : Reals w sa na ma la) (hB : Reals w sb nb mb lb) :
    CallsX P N.f_matrix_Mul #[.agg #[.int .i64 ra, .int .i64 ca, .slice sa na ma], .agg #[.int .i64 rb, .int .i64 cb, .slice sb nb mb]] w fun v w' =>
      MatRes N.t_float64 w w' v (mulOk ra ca na rb cb nb) ra.toNat cb.toNat (mulG la lb ca.toNat cb.toNat) := by
  refine H.matrix_Mul ra ca sa na ma rb cb sb nb mb w _ ?_
  unfold S_matrix_Mul
  have hS := St.refl w
  generalize hw0 : w = w0 at hS ⊢
  (first | ((with_reducible first | apply ldI hS | apply ldS hS | apply hldS hS | apply hldI hS | apply ldF hS | apply ldP hS | apply ldB hS | apply hldF hS); (case ha => exact rfl); (case he => (repeat (first | exact .head _ | refine .tail _ ?_))); (case hc => exact rfl)) | (guard_target = newM _ _ _ _; refine newM_i hS ?_; clear hS; intro _ w hS) | (guard_target = drM _ _; refine drM_i hS ?_; clear hS; intro w hS) | (guard_target = stM _ _ _ _; (first | refine st0 hS rfl rfl ?_ | refine st1 hS rfl rfl ?_ | refine st2 hS rfl rfl ?_ | refine st3 hS rfl rfl ?_ | refine st4 hS rfl rfl ?_ | refine st5 hS rfl rfl ?_ | refine st6 hS rfl rfl ?_ | refine st7 hS rfl rfl ?_); clear hS; intro w hS) | (guard_target = optM (some _) _; refine optM_mk rfl ?_) | (with_reducible (refine ⟨_, hS.cell ‹_›, ?_⟩)) | (with_reducible (refine ⟨_, _, _, hS.cell ‹_›, ?_⟩)) | (with_reducible (refine ⟨hS.cell ‹_›, ?_⟩)))
  (first | ((with_reducible first | apply ldI hS | apply ldS hS | apply hldS hS | apply hldI hS | apply ldF hS | apply ldP hS | apply ldB hS | apply hldF hS); (case ha => exact rfl); (case he => (repeat (first | exact .head _ | refine .tail _ ?_))); (case hc => exact rfl)) | (guard_target = newM _ _ _ _; refine newM_i hS ?_; clear hS; intro _ w hS) | (guard_target = drM _ _; refine drM_i hS ?_; clear hS; intro w hS) | (guard_target = stM _ _ _ _; (first | refine st0 hS rfl rfl ?_ | refine st1 hS rfl rfl ?_ | refine st2 hS rfl rfl ?_ | refine st3 hS rfl rfl ?_ | refine st4 hS rfl rfl ?_ | refine st5 hS rfl rfl ?_ | refine st6 hS rfl rfl ?_ | refine st7 hS rfl rfl ?_); clear hS; intro w hS) | (guard_target = optM (some _) _; refine optM_mk rfl ?_) | (with_reducible (refine ⟨_, hS.cell ‹_›, ?_⟩)) | (with_reducible (refine ⟨_, _, _, hS.cell ‹_›, ?_⟩)) | (with_reducible (refine ⟨hS.cell ‹_›, ?_⟩)))
  (first | ((with_reducible first | apply ldI hS | apply ldS hS | apply hldS hS | apply hldI hS | apply ldF hS | apply ldP hS | apply ldB hS | apply hldF hS); (case ha => exact rfl); (case he => (repeat (first | exact .head _ | refine .tail _ ?_))); (case hc => exact rfl)) | (guard_target = newM _ _ _ _; refine newM_i hS ?_; clear hS; intro _ w hS) | (guard_target = drM _ _; refine drM_i hS ?_; clear hS; intro w hS) | (guard_target = stM _ _ _ _; (first | refine st0 hS rfl rfl ?_ | refine st1 hS rfl rfl ?_ | refine st2 hS rfl rfl ?_ | refine st3 hS rfl rfl ?_ | refine st4 hS rfl rfl ?_ | refine st5 hS rfl rfl ?_ | refine st6 hS rfl rfl ?_ | refine st7 hS rfl rfl ?_); clear hS; intro w hS) | (guard_target = optM (some _) _; refine optM_mk rfl ?_) | (with_reducible (refine ⟨_, hS.cell ‹_›, ?_⟩)) | (with_reducible (refine ⟨_, _, _, hS.cell ‹_›, ?_⟩)) | (with_reducible (refine ⟨hS.cell ‹_›, ?_⟩)))
  rename_i r1 _ r2 _ r3
  refine cutM_i (fun s w' => s.1 = (!mulOk ra ca na rb cb nb) ∧ St w0 w' [(r3, mtx 0 0 none 0 0, N.t_Matrix), (r2, mtx rb cb sb nb mb, N.t_Matrix), (r1, mtx ra ca sa na ma, N.t_Matrix)]) (fun J hJ => ?_) ?_
  · (repeat (first | ((with_reducible first | apply ldI hS | apply ldS hS | apply hldS hS | apply hldI hS | apply ldF hS | apply ldP hS | apply ldB hS | apply hldF hS); (case ha => exact rfl); (case he => (repeat (first | exact .head _ | refine .tail _ ?_))); (case hc => exact rfl)) | (guard_target = newM _ _ _ _; refine newM_i hS ?_; clear hS; intro _ w hS) | (guard_target = drM _ _; refine drM_i hS ?_; clear hS; intro w hS) | (guard_target = stM _ _ _ _; (first | refine st0 hS rfl rfl ?_ | refine st1 hS rfl rfl ?_ | refine st2 hS rfl rfl ?_ | refine st3 hS rfl rfl ?_ | refine st4 hS rfl rfl ?_ | refine st5 hS rfl rfl ?_ | refine st6 hS rfl rfl ?_ | refine st7 hS rfl rfl ?_); clear hS; intro w hS) | (guard_target = optM (some _) _; refine optM_mk rfl ?_) | (with_reducible (refine ⟨_, hS.cell ‹_›, ?_⟩)) | (with_reducible (refine ⟨_, _, _, hS.cell ‹_›, ?_⟩)) | (with_reducible (refine ⟨hS.cell ‹_›, ?_⟩))))
    refine (right_c H _ _ _ _ _ _).mono ?_
    rintro _ w1 ⟨rfl, M, h1⟩
    replace hS := (hS.next h1).forget
    refine ⟨_, rfl, cond_i (fun hb => ?_) (fun hb => ?_)⟩
    · (repeat (first | ((with_reducible first | apply ldI hS | apply ldS hS | apply hldS hS | apply hldI hS | apply ldF hS | apply ldP hS | apply ldB hS | apply hldF hS); (case ha => exact rfl); (case he => (repeat (first | exact .head _ | refine .tail _ ?_))); (case hc => exact rfl)) | (guard_target = newM _ _ _ _; refine newM_i hS ?_; clear hS; intro _ w hS) | (guard_target = drM _ _; refine drM_i hS ?_; clear hS; intro w hS) | (guard_target = stM _ _ _ _; (first | refine st0 hS rfl rfl ?_ | refine st1 hS rfl rfl ?_ | refine st2 hS rfl rfl ?_ | refine st3 hS rfl rfl ?_ | refine st4 hS rfl rfl ?_ | refine st5 hS rfl rfl ?_ | refine st6 hS rfl rfl ?_ | refine st7 hS rfl rfl ?_); clear hS; intro w hS) | (guard_target = optM (some _) _; refine optM_mk rfl ?_) | (with_reducible (refine ⟨_, hS.cell ‹_›, ?_⟩)) | (with_reducible (refine ⟨_, _, _, hS.cell ‹_›, ?_⟩)) | (with_reducible (refine ⟨hS.cell ‹_›, ?_⟩))))
      refine (right_c H _ _ _ _ _ _).mono ?_
      rintro _ w2 ⟨rfl, M, h2⟩
      replace hS := (hS.next h2).forget
      refine ⟨_, rfl, cond_i (fun hb2 => ?_) (fun hb2 => ?_)⟩
      · (repeat (first | ((with_reducible first | apply ldI hS | apply ldS hS | apply hldS hS | apply hldI hS | apply ldF hS | apply ldP hS | apply ldB hS | apply hldF hS); (case ha => exact rfl); (case he => (repeat (first | exact .head _ | refine .tail _ ?_))); (case hc => exact rfl)) | (guard_target = newM _ _ _ _; refine newM_i hS ?_; clear hS; intro _ w hS) | (guard_target = drM _ _; refine drM_i hS ?_; clear hS; intro w hS) | (guard_target = stM _ _ _ _; (first | refine st0 hS rfl rfl ?_ | refine st1 hS rfl rfl ?_ | refine st2 hS rfl rfl ?_ | refine st3 hS rfl rfl ?_ | refine st4 hS rfl rfl ?_ | refine st5 hS rfl rfl ?_ | refine st6 hS rfl rfl ?_ | refine st7 hS rfl rfl ?_); clear hS; intro w hS) | (guard_target = optM (some _) _; refine optM_mk rfl ?_) | (with_reducible (refine ⟨_, hS.cell ‹_›, ?_⟩)) | (with_reducible (refine ⟨_, _, _, hS.cell ‹_›, ?_⟩)) | (with_reducible (refine ⟨hS.cell ‹_›, ?_⟩))))
        refine hJ _ _ ⟨?_, hS⟩
        simp only [Bool.not_not] at hb hb2
        simp [mulOk, hb, hb2, bne]
      · refine hJ _ _ ⟨?_, hS⟩
        simp only [Bool.not_not] at hb hb2
        simp [mulOk, hb, hb2]
    · refine hJ _ _ ⟨?_, hS⟩
      simp only [Bool.not_not] at hb
      simp [mulOk, hb]
  · clear hS
    rintro ⟨s, u⟩ w1 ⟨hs, hS⟩
    dsimp only at hs
    subst hs
    refine cond_i (fun hb => ?_) (fun hb => ?_)
    · (repeat (first | ((with_reducible first | apply ldI hS | apply ldS hS | apply hldS hS | apply hldI hS | apply ldF hS | apply ldP hS | apply ldB hS | apply hldF hS); (case ha => exact rfl); (case he => (repeat (first | exact .head _ | refine .tail _ ?_))); (case hc => exact rfl)) | (guard_target = newM _ _ _ _; refine newM_i hS ?_; clear hS; intro _ w hS) | (guard_target = drM _ _; refine drM_i hS ?_; clear hS; intro w hS) | (guard_target = stM _ _ _ _; (first | refine st0 hS rfl rfl ?_ | refine st1 hS rfl rfl ?_ | refine st2 hS rfl rfl ?_ | refine st3 hS rfl rfl ?_ | refine st4 hS rfl rfl ?_ | refine st5 hS rfl rfl ?_ | refine st6 hS rfl rfl ?_ | refine st7 hS rfl rfl ?_); clear hS; intro w hS) | (guard_target = optM (some _) _; refine optM_mk rfl ?_) | (with_reducible (refine ⟨_, hS.cell ‹_›, ?_⟩)) | (with_reducible (refine ⟨_, _, _, hS.cell ‹_›, ?_⟩)) | (with_reducible (refine ⟨hS.cell ‹_›, ?_⟩))))
      exact .inr ⟨by simpa using hb, rfl, _, hS⟩
    · have hok : mulOk ra ca na rb cb nb = true := by simpa using hb
      have hok' := hok
      simp only [mulOk, Bool.and_eq_true, beq_iff_eq] at hok'
      obtain ⟨⟨h1, h2⟩, h3⟩ := hok'
      obtain ⟨a, b, rfl, rfl, ha, hb', hn⟩ := rightB_nat h1
      obtain ⟨c, d, hc, rfl, hc', hd, hm⟩ := rightB_nat h2
      subst hc
      have hbc : b = c := by omega
      subst hbc
      subst hw0
      (repeat (first | ((with_reducible first | apply ldI hS | apply ldS hS | apply hldS hS | apply hldI hS | apply ldF hS | apply ldP hS | apply ldB hS | apply hldF hS); (case ha => exact rfl); (case he => (repeat (first | exact .head _ | refine .tail _ ?_))); (case hc => exact rfl)) | (guard_target = newM _ _ _ _; refine newM_i hS ?_; clear hS; intro _ w hS) | (guard_target = drM _ _; refine drM_i hS ?_; clear hS; intro w hS) | (guard_target = stM _ _ _ _; (first | refine st0 hS rfl rfl ?_ | refine st1 hS rfl rfl ?_ | refine st2 hS rfl rfl ?_ | refine st3 hS rfl rfl ?_ | refine st4 hS rfl rfl ?_ | refine st5 hS rfl rfl ?_ | refine st6 hS rfl rfl ?_ | refine st7 hS rfl rfl ?_); clear hS; intro w hS) | (guard_target = optM (some _) _; refine optM_mk rfl ?_) | (with_reducible (refine ⟨_, hS.cell ‹_›, ?_⟩)) | (with_reducible (refine ⟨_, _, _, hS.cell ‹_›, ?_⟩)) | (with_reducible (refine ⟨hS.cell ‹_›, ?_⟩))))
      refine (laid_c H ha hd (.func (.func N.f_matrix_Mul_1) #[] #[.pointer (some ⟨r1, 0, none⟩), .pointer (some ⟨r2, 0, none⟩)]) (mulG la lb b d) w1 ?_).mono ?_
      · intro i j w' M hi hj hM
        have hS' := hS.next hM
        refine (mul1_c H ha hb' hd (sa := sa) (sb := sb) i j hi hj hn hm ?_ ?_ ?_ ?_ (hA.keep hS') (hB.keep hS'))
        · exact hS'.rd (List.mem_append_right _ (.tail _ (.tail _ (.head _)))) rfl rfl
        · exact hS'.rd (List.mem_append_right _ (.tail _ (.tail _ (.head _)))) rfl rfl
        · exact hS'.rd (List.mem_append_right _ (.tail _ (.head _))) rfl rfl
        · exact hS'.rd (List.mem_append_right _ (.tail _ (.head _))) rfl rfl
      · rintro _ w2 ⟨r, l, M, rfl, hl, hM, hr⟩
        refine ⟨_, _, _, _, _, rfl, ?_⟩
        replace hS := (hS.next hM).pick hr
        (repeat (first | ((with_reducible first | apply ldI hS | apply ldS hS | apply hldS hS | apply hldI hS | apply ldF hS | apply ldP hS | apply ldB hS | apply hldF hS); (case ha => exact rfl); (case he => (repeat (first | exact .head _ | refine .tail _ ?_))); (case hc => exact rfl)) | (guard_target = newM _ _ _ _; refine newM_i hS ?_; clear hS; intro _ w hS) | (guard_target = drM _ _; refine drM_i hS ?_; clear hS; intro w hS) | (guard_target = stM _ _ _ _; (first | refine st0 hS rfl rfl ?_ | refine st1 hS rfl rfl ?_ | refine st2 hS rfl rfl ?_ | refine st3 hS rfl rfl ?_ | refine st4 hS rfl rfl ?_ | refine st5 hS rfl rfl ?_ | refine st6 hS rfl rfl ?_ | refine st7 hS rfl rfl ?_); clear hS; intro w hS) | (guard_target = optM (some _) _; refine optM_mk rfl ?_) | (with_reducible (refine ⟨_, hS.cell ‹_›, ?_⟩)) | (with_reducible (refine ⟨_, _, _, hS.cell ‹_›, ?_⟩)) | (with_reducible (refine ⟨hS.cell ‹_›, ?_⟩))))
        exact .inl ⟨hok, r, l, _, rfl, hl, hS, .tail _ (.tail _ (.tail _ (.head _)))⟩

end
end Go.Eng
