/-
  What the applications of a matrix to a vector come to. No condition.
-/
import Derived.Test.YtfbhhfgelebpnaaMat4
set_option maxRecDepth 100000
namespace Go.Eng
open Go

def applyOk (ra ca : Int) (al : Nat) (m : Nat) : Bool := rightB ra ca al && ((m : Int) == ca)

/-- What comes of an application, or of its refusal: the numbers, and how they are reached. -/
def VecRes (t : Nat) (w w' : World) (v : Value) (ok : Bool) (rows : Nat) (g : Nat → Nat) : Prop :=
  ∃ (a : Option Addr) (n c : Nat) (l : List Nat) (e : Int) (B : List (Nat × Array Value × Nat)), v = .tuple #[.slice a n c, .int .i64 e] ∧ Sl B a n c (l.map (Value.float .f64)) t ∧ St w w' B ∧
    e = (if ok = true then 0 else 4) ∧ l.map nf = (if ok = true then (List.range rows).map g else [])

theorem Sl.full {r n : Nat} {l : List Nat} {t : Nat} (h : l.length = n) : Sl [(r, flts l, t)] (some ⟨r, 0, none⟩) n n (l.map (Value.float .f64)) t :=
  ⟨by simp [h], .inr ⟨r, [], by simp [flts], rfl, by simp [h]⟩⟩

def apG (la lv : List Nat) (ca : Nat) (i : Nat) : Nat := dotN (fun k => la.getD (i * ca + k) 0) (fun k => lv.getD k 0) ca

theorem mulG_one (la lv : List Nat) (ca i : Nat) : mulG la lv ca 1 i 0 = apG la lv ca i := by
  unfold mulG apG
  simp

theorem gridL_one (rows : Nat) (g : Nat → Nat → Nat) : gridL rows 1 g = (List.range rows).map fun i => g i 0 := by
  simp [gridL, Nat.mod_one]

section
variable {N : Nums} {P : Program} (H : AllOk N P)
include H

theorem apply_c {ra ca : Int} {sa sv : Option Addr} {na ma nv mv : Nat} {la lv : List Nat} {w : World} (hA : Reals w sa na ma la) (hV : Reals w sv nv mv lv) :
    CallsX P N.f_matrix_Apply #[.agg #[.int .i64 ra, .int .i64 ca, .slice sa na ma], .slice sv nv mv] w fun v w' => VecRes N.t_float64 w w' v (applyOk ra ca na nv) ra.toNat (apG la lv ca.toNat) := by
  refine H.matrix_Apply ra ca sa na ma sv nv mv w _ ?_
  unfold S_matrix_Apply
  have hS := St.refl w
  generalize hw0 : w = w0 at hS ⊢
  rw [hw0] at hA hV
  clear hw0
  (repeat (first | ((with_reducible first | apply ldI hS | apply ldS hS | apply hldS hS | apply hldI hS | apply ldF hS | apply ldP hS | apply ldB hS | apply hldF hS); (case ha => exact rfl); (case he => (repeat (first | exact .head _ | refine .tail _ ?_))); (case hc => exact rfl)) | (guard_target = newM _ _ _ _; refine newM_i hS ?_; clear hS; intro _ w hS) | (guard_target = drM _ _; refine drM_i hS ?_; clear hS; intro w hS) | (guard_target = stM _ _ _ _; (first | refine st0 hS rfl rfl ?_ | refine st1 hS rfl rfl ?_ | refine st2 hS rfl rfl ?_ | refine st3 hS rfl rfl ?_ | refine st4 hS rfl rfl ?_ | refine st5 hS rfl rfl ?_ | refine st6 hS rfl rfl ?_ | refine st7 hS rfl rfl ?_); clear hS; intro w hS) | (guard_target = optM (some _) _; refine optM_mk rfl ?_) | (with_reducible (refine ⟨_, hS.cell ‹_›, ?_⟩)) | (with_reducible (refine ⟨_, _, _, hS.cell ‹_›, ?_⟩)) | (with_reducible (refine ⟨hS.cell ‹_›, ?_⟩))))
  refine (mul_c H (hA.keep hS) (hV.keep hS)).mono ?_
  have hok : mulOk ra ca na nv 1 nv = true ↔ applyOk ra ca na nv = true := by
    simp only [mulOk, applyOk, rightB, Bool.and_eq_true, decide_eq_true_eq, beq_iff_eq]
    constructor
    · rintro ⟨⟨h1, h2⟩, h3⟩; exact ⟨h1, h3.symm⟩
    · rintro ⟨h1, h3⟩
      exact ⟨⟨h1, by omega⟩, h3.symm⟩
  rintro _ w1 (⟨hm, r, l, M, rfl, hl, hM, hr⟩ | ⟨hm, rfl, M, hM⟩)
  · replace hS := (hS.next hM).pick hr
    refine ⟨_, _, _, _, _, _, rfl, ?_⟩
    (repeat (first | ((with_reducible first | apply ldI hS | apply ldS hS | apply hldS hS | apply hldI hS | apply ldF hS | apply ldP hS | apply ldB hS | apply hldF hS); (case ha => exact rfl); (case he => (repeat (first | exact .head _ | refine .tail _ ?_))); (case hc => exact rfl)) | (guard_target = newM _ _ _ _; refine newM_i hS ?_; clear hS; intro _ w hS) | (guard_target = drM _ _; refine drM_i hS ?_; clear hS; intro w hS) | (guard_target = stM _ _ _ _; (first | refine st0 hS rfl rfl ?_ | refine st1 hS rfl rfl ?_ | refine st2 hS rfl rfl ?_ | refine st3 hS rfl rfl ?_ | refine st4 hS rfl rfl ?_ | refine st5 hS rfl rfl ?_ | refine st6 hS rfl rfl ?_ | refine st7 hS rfl rfl ?_); clear hS; intro w hS) | (guard_target = optM (some _) _; refine optM_mk rfl ?_) | (with_reducible (refine ⟨_, hS.cell ‹_›, ?_⟩)) | (with_reducible (refine ⟨_, _, _, hS.cell ‹_›, ?_⟩)) | (with_reducible (refine ⟨hS.cell ‹_›, ?_⟩))))
    have e := hok.1 hm
    have hS1 := hS.only (e := (r, flts l, N.t_float64)) (by simp)
    refine ⟨_, _, _, l, _, _, rfl, Sl.full hl.1, hS1, by rw [if_pos e], ?_⟩
    · rw [if_pos e, isMat_map hl]
      show gridL _ 1 _ = _
      rw [gridL_one]
      exact List.map_congr_left fun i _ => mulG_one _ _ _ _
  · replace hS := (hS.next hM).forget
    refine ⟨_, _, _, _, _, _, rfl, ?_⟩
    (repeat (first | ((with_reducible first | apply ldI hS | apply ldS hS | apply hldS hS | apply hldI hS | apply ldF hS | apply ldP hS | apply ldB hS | apply hldF hS); (case ha => exact rfl); (case he => (repeat (first | exact .head _ | refine .tail _ ?_))); (case hc => exact rfl)) | (guard_target = newM _ _ _ _; refine newM_i hS ?_; clear hS; intro _ w hS) | (guard_target = drM _ _; refine drM_i hS ?_; clear hS; intro w hS) | (guard_target = stM _ _ _ _; (first | refine st0 hS rfl rfl ?_ | refine st1 hS rfl rfl ?_ | refine st2 hS rfl rfl ?_ | refine st3 hS rfl rfl ?_ | refine st4 hS rfl rfl ?_ | refine st5 hS rfl rfl ?_ | refine st6 hS rfl rfl ?_ | refine st7 hS rfl rfl ?_); clear hS; intro w hS) | (guard_target = optM (some _) _; refine optM_mk rfl ?_) | (with_reducible (refine ⟨_, hS.cell ‹_›, ?_⟩)) | (with_reducible (refine ⟨_, _, _, hS.cell ‹_›, ?_⟩)) | (with_reducible (refine ⟨hS.cell ‹_›, ?_⟩))))
    have e : ¬ applyOk ra ca na nv = true := fun h => by rw [hok.2 h] at hm; cases hm
    exact ⟨_, _, _, [], _, [], rfl, Sl.nil _, hS.nil, by rw [if_neg e], by rw [if_neg e]; rfl⟩

theorem rApply_c {ra ca : Int} {sa sv : Option Addr} {na ma nv mv : Nat} {la lv : List Nat} {w : World} (hA : Reals w sa na ma la) (hV : Reals w sv nv mv lv) :
    CallsX P N.f_girderref10_Apply #[.agg #[.int .i64 ra, .int .i64 ca, .slice sa na ma], .slice sv nv mv] w fun v w' => VecRes N.t_float64 w w' v (applyOk ra ca na nv) ra.toNat (apG la lv ca.toNat) := by
  refine H.girderref10_Apply ra ca sa na ma sv nv mv w _ ?_
  unfold S_girderref10_Apply
  have hS := St.refl w
  generalize hw0 : w = w0 at hS ⊢
  rw [hw0] at hA hV
  clear hw0
  (first | ((with_reducible first | apply ldI hS | apply ldS hS | apply hldS hS | apply hldI hS | apply ldF hS | apply ldP hS | apply ldB hS | apply hldF hS); (case ha => exact rfl); (case he => (repeat (first | exact .head _ | refine .tail _ ?_))); (case hc => exact rfl)) | (guard_target = newM _ _ _ _; refine newM_i hS ?_; clear hS; intro _ w hS) | (guard_target = drM _ _; refine drM_i hS ?_; clear hS; intro w hS) | (guard_target = stM _ _ _ _; (first | refine st0 hS rfl rfl ?_ | refine st1 hS rfl rfl ?_ | refine st2 hS rfl rfl ?_ | refine st3 hS rfl rfl ?_ | refine st4 hS rfl rfl ?_ | refine st5 hS rfl rfl ?_ | refine st6 hS rfl rfl ?_ | refine st7 hS rfl rfl ?_); clear hS; intro w hS) | (guard_target = optM (some _) _; refine optM_mk rfl ?_) | (with_reducible (refine ⟨_, hS.cell ‹_›, ?_⟩)) | (with_reducible (refine ⟨_, _, _, hS.cell ‹_›, ?_⟩)) | (with_reducible (refine ⟨hS.cell ‹_›, ?_⟩)))
  rename_i r1
  refine cutM_i (fun s w' => s.1 = (!applyOk ra ca na nv) ∧ St w0 w' [(r1, mtx ra ca sa na ma, N.t_Matrix)]) (fun J hJ => ?_) ?_
  · (repeat (first | ((with_reducible first | apply ldI hS | apply ldS hS | apply hldS hS | apply hldI hS | apply ldF hS | apply ldP hS | apply ldB hS | apply hldF hS); (case ha => exact rfl); (case he => (repeat (first | exact .head _ | refine .tail _ ?_))); (case hc => exact rfl)) | (guard_target = newM _ _ _ _; refine newM_i hS ?_; clear hS; intro _ w hS) | (guard_target = drM _ _; refine drM_i hS ?_; clear hS; intro w hS) | (guard_target = stM _ _ _ _; (first | refine st0 hS rfl rfl ?_ | refine st1 hS rfl rfl ?_ | refine st2 hS rfl rfl ?_ | refine st3 hS rfl rfl ?_ | refine st4 hS rfl rfl ?_ | refine st5 hS rfl rfl ?_ | refine st6 hS rfl rfl ?_ | refine st7 hS rfl rfl ?_); clear hS; intro w hS) | (guard_target = optM (some _) _; refine optM_mk rfl ?_) | (with_reducible (refine ⟨_, hS.cell ‹_›, ?_⟩)) | (with_reducible (refine ⟨_, _, _, hS.cell ‹_›, ?_⟩)) | (with_reducible (refine ⟨hS.cell ‹_›, ?_⟩))))
    refine (rright_c H _ _ _ _ _ _).mono ?_
    rintro _ w1 ⟨rfl, M, h1⟩
    replace hS := (hS.next h1).forget
    refine ⟨_, rfl, cond_i (fun hb => ?_) (fun hb => ?_)⟩
    · (repeat (first | ((with_reducible first | apply ldI hS | apply ldS hS | apply hldS hS | apply hldI hS | apply ldF hS | apply ldP hS | apply ldB hS | apply hldF hS); (case ha => exact rfl); (case he => (repeat (first | exact .head _ | refine .tail _ ?_))); (case hc => exact rfl)) | (guard_target = newM _ _ _ _; refine newM_i hS ?_; clear hS; intro _ w hS) | (guard_target = drM _ _; refine drM_i hS ?_; clear hS; intro w hS) | (guard_target = stM _ _ _ _; (first | refine st0 hS rfl rfl ?_ | refine st1 hS rfl rfl ?_ | refine st2 hS rfl rfl ?_ | refine st3 hS rfl rfl ?_ | refine st4 hS rfl rfl ?_ | refine st5 hS rfl rfl ?_ | refine st6 hS rfl rfl ?_ | refine st7 hS rfl rfl ?_); clear hS; intro w hS) | (guard_target = optM (some _) _; refine optM_mk rfl ?_) | (with_reducible (refine ⟨_, hS.cell ‹_›, ?_⟩)) | (with_reducible (refine ⟨_, _, _, hS.cell ‹_›, ?_⟩)) | (with_reducible (refine ⟨hS.cell ‹_›, ?_⟩))))
      refine hJ _ _ ⟨?_, hS⟩
      simp only [Bool.not_not] at hb
      simp [applyOk, hb, bne]
    · refine hJ _ _ ⟨?_, hS⟩
      simp only [Bool.not_not] at hb
      simp [applyOk, hb]
  · clear hS
    rintro ⟨s, u⟩ w1 ⟨hs, hS⟩
    dsimp only at hs
    subst hs
    refine cond_i (fun hb => ?_) (fun hb => ?_)
    · have e : ¬ applyOk ra ca na nv = true := by simpa using hb
      exact ⟨_, _, _, [], _, [], rfl, Sl.nil _, hS.nil, by rw [if_neg e], by rw [if_neg e]; rfl⟩
    · have hok : applyOk ra ca na nv = true := by simpa using hb
      have hok' := hok
      simp only [applyOk, Bool.and_eq_true, beq_iff_eq] at hok'
      obtain ⟨h1, h2⟩ := hok'
      obtain ⟨a, b, rfl, rfl, ha, hb', hn⟩ := rightB_nat h1
      have hnv : nv = b := by omega
      subst hnv
      have b1 : a * nv ≤ 2304 := Nat.le_trans (Nat.mul_le_mul ha hb') (by omega)
      simp only [Int.toNat_natCast]
      let Inv (i : Nat) (s : Option Addr × Nat × Nat) (w' : World) : Prop := ∃ (B : List (Nat × Array Value × Nat)) (l : List Nat), s.2.1 = i ∧ Sl B s.1 i s.2.2 (l.map (Value.float .f64)) N.t_float64 ∧ St w0 w' ([(r1, mtx a nv sa na ma, N.t_Matrix)] ++ B) ∧ l.map nf = (List.range i).map (apG la lv nv)
      refine cutM_i (fun s w' => Inv a s.1 w') (fun J hJ => ?_) ?_
      · refine loopM_i (fun s w' => ∃ i : Nat, s.2.1 = (i : Int) ∧ i ≤ a ∧ Inv i s.1 w') (fun s => a - s.2.1.toNat) ⟨0, rfl, by omega, [], [], rfl, Sl.nil _, hS, rfl⟩ ?_
        clear hS
        rintro ⟨⟨sa', sn, sc⟩, s, u⟩ w X ⟨i, hi, hia, B, l, hsn, hB, hS, hl⟩ hX
        dsimp only at hi hsn hB; subst hi; subst hsn
        rw [List.singleton_append] at hS
        (repeat (first | ((with_reducible first | apply ldI hS | apply ldS hS | apply hldS hS | apply hldI hS | apply ldF hS | apply ldP hS | apply ldB hS | apply hldF hS); (case ha => exact rfl); (case he => (repeat (first | exact .head _ | refine .tail _ ?_))); (case hc => exact rfl)) | (guard_target = newM _ _ _ _; refine newM_i hS ?_; clear hS; intro _ w hS) | (guard_target = drM _ _; refine drM_i hS ?_; clear hS; intro w hS) | (guard_target = stM _ _ _ _; (first | refine st0 hS rfl rfl ?_ | refine st1 hS rfl rfl ?_ | refine st2 hS rfl rfl ?_ | refine st3 hS rfl rfl ?_ | refine st4 hS rfl rfl ?_ | refine st5 hS rfl rfl ?_ | refine st6 hS rfl rfl ?_ | refine st7 hS rfl rfl ?_); clear hS; intro w hS) | (guard_target = optM (some _) _; refine optM_mk rfl ?_) | (with_reducible (refine ⟨_, hS.cell ‹_›, ?_⟩)) | (with_reducible (refine ⟨_, _, _, hS.cell ‹_›, ?_⟩)) | (with_reducible (refine ⟨hS.cell ‹_›, ?_⟩))))
        refine cond_i (fun hb => ?_) (fun hb => ?_)
        · have hlt : sn < a := by simpa using hb
          refine cutM_i (fun s w' => nf s.1 = apG la lv nv sn ∧ St w0 w' ((r1, mtx a nv sa na ma, N.t_Matrix) :: B)) (fun J2 hJ2 => ?_) ?_
          · refine loopM_i (fun s w' => ∃ k : Nat, s.2.1 = (k : Int) ∧ k ≤ nv ∧ nf s.1 = dotN (fun k => la.getD (sn * nv + k) 0) (fun k => lv.getD k 0) k ∧ St w0 w' ((r1, mtx a nv sa na ma, N.t_Matrix) :: B)) (fun s => nv - s.2.1.toNat) ⟨0, rfl, by omega, nf_zero, hS⟩ ?_
            clear hS hX
            rintro ⟨x, s, u⟩ w X ⟨k, hk, hkc, hx, hS⟩ hX
            dsimp only at hk hx; subst hk
            (repeat (first | ((with_reducible first | apply ldI hS | apply ldS hS | apply hldS hS | apply hldI hS | apply ldF hS | apply ldP hS | apply ldB hS | apply hldF hS); (case ha => exact rfl); (case he => (repeat (first | exact .head _ | refine .tail _ ?_))); (case hc => exact rfl)) | (guard_target = newM _ _ _ _; refine newM_i hS ?_; clear hS; intro _ w hS) | (guard_target = drM _ _; refine drM_i hS ?_; clear hS; intro w hS) | (guard_target = stM _ _ _ _; (first | refine st0 hS rfl rfl ?_ | refine st1 hS rfl rfl ?_ | refine st2 hS rfl rfl ?_ | refine st3 hS rfl rfl ?_ | refine st4 hS rfl rfl ?_ | refine st5 hS rfl rfl ?_ | refine st6 hS rfl rfl ?_ | refine st7 hS rfl rfl ?_); clear hS; intro w hS) | (guard_target = optM (some _) _; refine optM_mk rfl ?_) | (with_reducible (refine ⟨_, hS.cell ‹_›, ?_⟩)) | (with_reducible (refine ⟨_, _, _, hS.cell ‹_›, ?_⟩)) | (with_reducible (refine ⟨hS.cell ‹_›, ?_⟩))))
            refine cond_i (fun hb3 => ?_) (fun hb3 => ?_)
            · have hlt3 : k < nv := by simpa using hb3
              (repeat (first | ((with_reducible first | apply ldI hS | apply ldS hS | apply hldS hS | apply hldI hS | apply ldF hS | apply ldP hS | apply ldB hS | apply hldF hS); (case ha => exact rfl); (case he => (repeat (first | exact .head _ | refine .tail _ ?_))); (case hc => exact rfl)) | (guard_target = newM _ _ _ _; refine newM_i hS ?_; clear hS; intro _ w hS) | (guard_target = drM _ _; refine drM_i hS ?_; clear hS; intro w hS) | (guard_target = stM _ _ _ _; (first | refine st0 hS rfl rfl ?_ | refine st1 hS rfl rfl ?_ | refine st2 hS rfl rfl ?_ | refine st3 hS rfl rfl ?_ | refine st4 hS rfl rfl ?_ | refine st5 hS rfl rfl ?_ | refine st6 hS rfl rfl ?_ | refine st7 hS rfl rfl ?_); clear hS; intro w hS) | (guard_target = optM (some _) _; refine optM_mk rfl ?_) | (with_reducible (refine ⟨_, hS.cell ‹_›, ?_⟩)) | (with_reducible (refine ⟨_, _, _, hS.cell ‹_›, ?_⟩)) | (with_reducible (refine ⟨hS.cell ‹_›, ?_⟩))))
              obtain ⟨y, hy, hc⟩ := hV.at_ k (by rw [hV.len]; exact hlt3)
              subst hy
              refine ⟨by dsimp only; omega, by dsimp only; omega, optM_mk rfl ⟨_, by rw [Int.toNat_natCast, Nat.mul_one]; exact hS.cell hc, ?_⟩⟩
              (repeat (first | ((with_reducible first | apply ldI hS | apply ldS hS | apply hldS hS | apply hldI hS | apply ldF hS | apply ldP hS | apply ldB hS | apply hldF hS); (case ha => exact rfl); (case he => (repeat (first | exact .head _ | refine .tail _ ?_))); (case hc => exact rfl)) | (guard_target = newM _ _ _ _; refine newM_i hS ?_; clear hS; intro _ w hS) | (guard_target = drM _ _; refine drM_i hS ?_; clear hS; intro w hS) | (guard_target = stM _ _ _ _; (first | refine st0 hS rfl rfl ?_ | refine st1 hS rfl rfl ?_ | refine st2 hS rfl rfl ?_ | refine st3 hS rfl rfl ?_ | refine st4 hS rfl rfl ?_ | refine st5 hS rfl rfl ?_ | refine st6 hS rfl rfl ?_ | refine st7 hS rfl rfl ?_); clear hS; intro w hS) | (guard_target = optM (some _) _; refine optM_mk rfl ?_) | (with_reducible (refine ⟨_, hS.cell ‹_›, ?_⟩)) | (with_reducible (refine ⟨_, _, _, hS.cell ‹_›, ?_⟩)) | (with_reducible (refine ⟨hS.cell ‹_›, ?_⟩))))
              dsimp only
              refine (rAt_c H (hA.keep hS) (rw' := a) (cols := nv) hlt hlt3 hn (by omega)).mono ?_
              rintro _ w1 ⟨rfl, h4⟩
              replace hS := hS.next h4
              rw [List.nil_append] at hS
              refine ⟨_, rfl, by rw [Int.toNat_natCast, Nat.mul_one]; exact hS.cell hc, ?_⟩
              refine fresM_i hS fun p w3 hp _ => drM_i hS fun w4 hS => fresM_i hS fun q w5 hq hS => ?_
              refine hX _ _ ⟨k + 1, wrS hlt3 (by omega), by omega, ?_, hS⟩ (by dsimp only; rw [wrS hlt3 (by omega)]; omega)
              dsimp only
              rw [hq, dotN]
              exact fadd_eq (by rw [hx, nf_dotN]) (by rw [hp, nf_fmul])
            · have hge : k = nv := by have : nv ≤ k := by simpa using hb3
                                      omega
              subst hge
              exact hJ2 _ _ ⟨hx, hS⟩
          · clear hS
            rintro ⟨x, u⟩ w ⟨hx, hS⟩
            dsimp only at hx
            refine newM_i hS ?_
            clear hS; intro q w hS
            have hq : rowOf w (some ⟨q, 0, none⟩) [Value.float .f64 x] := by
              intro i hi
              simp at hi; subst hi
              rw [add_at, hS.get (List.mem_cons_self ..)]; rfl
            replace hS := hS.forget (M := [_])
            dsimp only
            refine app_i (L := [_]) hS hB (k := [.float .f64 x]) rfl (by intro v hv; simp at hv; subst hv; rfl) hq (by omega) (by omega) fun B' a' c' w' hS' hB' => ?_
            refine hX _ _ ⟨sn + 1, wrS hlt (by omega), by omega, B', l ++ [x], rfl, by simpa using hB', hS', ?_⟩ (by dsimp only; rw [wrS hlt (by omega)]; omega)
            rw [List.range_succ]; simp [hl, hx]
        · have hge : sn = a := by have : a ≤ sn := by simpa using hb
                                  omega
          subst hge
          exact hJ _ _ ⟨B, l, rfl, hB, hS, hl⟩
      · clear hS
        rintro ⟨⟨sa', sn, sc⟩, u⟩ w ⟨B, l, hsn, hB, hS, hl⟩
        dsimp only at hsn hB; subst hsn
        exact ⟨_, _, _, l, _, B, rfl, hB, hS.forget (M := [_]), by rw [if_pos hok], by rw [if_pos hok]; exact hl⟩

end
end Go.Eng
