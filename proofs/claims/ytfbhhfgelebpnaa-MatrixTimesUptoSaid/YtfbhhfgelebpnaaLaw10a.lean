/-
  The law of products holds. No condition.
-/
import Derived.Test.YtfbhhfgelebpnaaMat6
set_option maxRecDepth 100000
set_option maxHeartbeats 4000000
namespace Go.Eng
open Go

/-- A matrix in memory. -/
structure CM (w : World) (p : Addr) (r c : Int) (a : Option Addr) (n m : Nat) : Prop where
  c0 : w.cell? p = some (.int .i64 r)
  c1 : w.cell? (p.add 1) = some (.int .i64 c)
  c2 : w.cell? (p.add 2) = some (.slice a n m)

theorem CM.of {w0 w : World} {L : List (Nat × Array Value × Nat)} {r t : Nat} {cs : Array Value} {x y : Int} {a : Option Addr} {n m : Nat} (hS : St w0 w L) (he : (r, cs, t) ∈ L) (h0 : cs[0]? = some (.int .i64 x)) (h1 : cs[1]? = some (.int .i64 y)) (h2 : cs[2]? = some (.slice a n m)) : CM w ⟨r, 0, none⟩ x y a n m :=
  ⟨hS.rd he rfl h0, hS.rd he rfl h1, hS.rd he rfl h2⟩

theorem Reals.part {w : World} {a : Option Addr} {n m c : Nat} {l k : List Nat} (h : Reals w a m c (l ++ k)) (hn : l.length = n) : Reals w a n c l := by
  have := h.len
  have := h.cap
  subst hn
  refine ⟨rfl, by simp at *; omega, fun i hi => ?_⟩
  obtain ⟨x, hx, hc⟩ := h.at_ i (by simp; omega)
  refine ⟨x, hx, ?_⟩
  rw [hc]; simp [List.getElem?_append_left hi]

theorem mul_len {ra ca rb cb : Int} {na nb n : Nat} {l : List Nat} {g : Nat → Nat → Nat} (hn : n = l.length) (hl : l.map nf = (if mulOk ra ca na rb cb nb = true then gridL ra.toNat cb.toNat g else [])) : n ≤ 2304 := by
  have e := congrArg List.length hl
  split at e
  · rename_i hok
    simp only [mulOk, Bool.and_eq_true] at hok
    obtain ⟨a, b, rfl, rfl, ha, hb', _⟩ := rightB_nat hok.1.1
    obtain ⟨c, d, rfl, rfl, hc', hd, _⟩ := rightB_nat hok.1.2
    have : a * d ≤ 2304 := Nat.le_trans (Nat.mul_le_mul ha hd) (by omega)
    simp [gridL] at e
    omega
  · simp at e
    subst e
    simp at hn
    omega

theorem apply_len {ra ca : Int} {na nb n : Nat} {l : List Nat} {g : Nat → Nat} (hn : n = l.length) (hl : l.map nf = (if applyOk ra ca na nb = true then (List.range ra.toNat).map g else [])) : n ≤ 2304 := by
  have e := congrArg List.length hl
  split at e
  · rename_i hok
    simp only [applyOk, Bool.and_eq_true] at hok
    obtain ⟨a, b, rfl, rfl, ha, hb', _⟩ := rightB_nat hok.1
    simp at e
    omega
  · simp at e
    subst e
    simp at hn
    omega

section
variable {N : Nums} {P : Program} (H : AllOk N P)
include H

theorem times_c {ra ca rb cb : Int} {sa sb sv : Option Addr} {na ma nb mb nv mv : Nat} {la lb lv : List Nat} {w : World} (hA : Reals w sa na ma la) (hB : Reals w sb nb mb lb) (hV : Reals w sv nv mv lv)
    (ha : na ≤ 4294967000) (hb : nb ≤ 4294967000) (hv : nv ≤ 4294967000) :
    S_girderlaw10_MatrixTimes N P ra ca sa na ma rb cb sb nb mb sv nv mv w fun v w' => v = .bool true ∧ ∃ M, St w w' M := by
  unfold S_girderlaw10_MatrixTimes
  have hS := St.refl w
  generalize hw0 : w = w0 at hS ⊢
  rw [hw0] at hA hB hV
  clear hw0
  (first | ((with_reducible first | apply ldI hS | apply ldS hS | apply hldS hS | apply hldI hS | apply ldF hS | apply ldP hS | apply ldB hS | apply hldF hS); (case ha => exact rfl); (case he => (repeat (first | exact .head _ | refine .tail _ ?_))); (case hc => exact rfl)) | (guard_target = newM _ _ _ _; refine newM_i hS ?_; clear hS; intro _ w hS) | (guard_target = drM _ _; refine drM_i hS ?_; clear hS; intro w hS) | (guard_target = stM _ _ _ _; (first | refine st0 hS rfl rfl ?_ | refine st1 hS rfl rfl ?_ | refine st2 hS rfl rfl ?_ | refine st3 hS rfl rfl ?_ | refine st4 hS rfl rfl ?_ | refine st5 hS rfl rfl ?_ | refine st6 hS rfl rfl ?_ | refine st7 hS rfl rfl ?_); clear hS; intro w hS) | (guard_target = optM (some _) _; refine optM_mk rfl ?_) | (with_reducible (refine ⟨_, hS.cell ‹_›, ?_⟩)) | (with_reducible (refine ⟨_, _, _, hS.cell ‹_›, ?_⟩)) | (with_reducible (refine ⟨hS.cell ‹_›, ?_⟩)))
  (first | ((with_reducible first | apply ldI hS | apply ldS hS | apply hldS hS | apply hldI hS | apply ldF hS | apply ldP hS | apply ldB hS | apply hldF hS); (case ha => exact rfl); (case he => (repeat (first | exact .head _ | refine .tail _ ?_))); (case hc => exact rfl)) | (guard_target = newM _ _ _ _; refine newM_i hS ?_; clear hS; intro _ w hS) | (guard_target = drM _ _; refine drM_i hS ?_; clear hS; intro w hS) | (guard_target = stM _ _ _ _; (first | refine st0 hS rfl rfl ?_ | refine st1 hS rfl rfl ?_ | refine st2 hS rfl rfl ?_ | refine st3 hS rfl rfl ?_ | refine st4 hS rfl rfl ?_ | refine st5 hS rfl rfl ?_ | refine st6 hS rfl rfl ?_ | refine st7 hS rfl rfl ?_); clear hS; intro w hS) | (guard_target = optM (some _) _; refine optM_mk rfl ?_) | (with_reducible (refine ⟨_, hS.cell ‹_›, ?_⟩)) | (with_reducible (refine ⟨_, _, _, hS.cell ‹_›, ?_⟩)) | (with_reducible (refine ⟨hS.cell ‹_›, ?_⟩)))
  rename_i r1 _ r2
  refine cutM_i (fun s w' => ∃ (pa pb xa xb xv : Addr), s.1 = some pa ∧ s.2.1 = some pb ∧ s.2.2.1 = (some xv, nv, nv + 12) ∧ CM w' pa ra ca (some xa) na (na + 12) ∧ CM w' pb rb cb (some xb) nb (nb + 12) ∧
    CM w' ⟨r1, 0, none⟩ ra ca sa na ma ∧ CM w' ⟨r2, 0, none⟩ rb cb sb nb mb ∧ Reals w' (some xa) (na + 12) (na + 12) (la ++ marks) ∧ Reals w' (some xb) (nb + 12) (nb + 12) (lb ++ marks) ∧ Reals w' (some xv) (nv + 12) (nv + 12) (lv ++ marks) ∧ St w0 w' []) (fun J hJ => ?_) ?_
  · have la12 : (la ++ marks).length = na + 12 := by simp [marks, hA.len]
    have lb12 : (lb ++ marks).length = nb + 12 := by simp [marks, hB.len]
    have lv12 : (lv ++ marks).length = nv + 12 := by simp [marks, hV.len]
    (repeat (first | ((with_reducible first | apply ldI hS | apply ldS hS | apply hldS hS | apply hldI hS | apply ldF hS | apply ldP hS | apply ldB hS | apply hldF hS); (case ha => exact rfl); (case he => (repeat (first | exact .head _ | refine .tail _ ?_))); (case hc => exact rfl)) | (guard_target = newM _ _ _ _; refine newM_i hS ?_; clear hS; intro _ w hS) | (guard_target = drM _ _; refine drM_i hS ?_; clear hS; intro w hS) | (guard_target = stM _ _ _ _; (first | refine st0 hS rfl rfl ?_ | refine st1 hS rfl rfl ?_ | refine st2 hS rfl rfl ?_ | refine st3 hS rfl rfl ?_ | refine st4 hS rfl rfl ?_ | refine st5 hS rfl rfl ?_ | refine st6 hS rfl rfl ?_ | refine st7 hS rfl rfl ?_); clear hS; intro w hS) | (guard_target = optM (some _) _; refine optM_mk rfl ?_) | (with_reducible (refine ⟨_, hS.cell ‹_›, ?_⟩)) | (with_reducible (refine ⟨_, _, _, hS.cell ‹_›, ?_⟩)) | (with_reducible (refine ⟨hS.cell ‹_›, ?_⟩))))
    refine ⟨?_, ?_, ?_⟩
    all_goals (repeat' (first | ((with_reducible first | apply ldI hS | apply ldS hS | apply hldS hS | apply hldI hS | apply ldF hS | apply ldP hS | apply ldB hS | apply hldF hS); (case ha => exact rfl); (case he => (repeat (first | exact .head _ | refine .tail _ ?_))); (case hc => exact rfl)) | (guard_target = newM _ _ _ _; refine newM_i hS ?_; clear hS; intro _ w hS) | (guard_target = drM _ _; refine drM_i hS ?_; clear hS; intro w hS) | (guard_target = stM _ _ _ _; (first | refine st0 hS rfl rfl ?_ | refine st1 hS rfl rfl ?_ | refine st2 hS rfl rfl ?_ | refine st3 hS rfl rfl ?_ | refine st4 hS rfl rfl ?_ | refine st5 hS rfl rfl ?_ | refine st6 hS rfl rfl ?_ | refine st7 hS rfl rfl ?_); clear hS; intro w hS) | (guard_target = optM (some _) _; refine optM_mk rfl ?_) | (with_reducible (refine ⟨_, hS.cell ‹_›, ?_⟩)) | (with_reducible (refine ⟨_, _, _, hS.cell ‹_›, ?_⟩)) | (with_reducible (refine ⟨hS.cell ‹_›, ?_⟩)) |  (refine (lentMatrix_c H (hA.keep hS) ha).mono ?_; rintro _ w ⟨xa, M, rfl, h1, hr⟩; replace hS := (hS.next h1).pick hr; clear h1 hr; refine ⟨_, _, _, _, _, rfl, ?_⟩) | (refine (lentMatrix_c H (hB.keep hS) hb).mono ?_; rintro _ w ⟨xb, M, rfl, h1, hr⟩; replace hS := (hS.next h1).pick hr; clear h1 hr; refine ⟨_, _, _, _, _, rfl, ?_⟩) | (refine (lentReals_c H (hV.keep hS) hv).mono ?_; rintro _ w ⟨xv, M, rfl, h1, hr⟩; replace hS := (hS.next h1).pick hr; clear h1 hr; refine ⟨_, _, _, rfl, ?_⟩)  | (guard_target = And (drM _ _) _; refine ⟨?_, ?_⟩)))
    all_goals exact hJ _ _ ⟨_, _, ⟨xa, 0, none⟩, ⟨xb, 0, none⟩, ⟨xv, 0, none⟩, rfl, rfl, rfl, .of hS (by (repeat (first | exact .head _ | refine .tail _ ?_))) (by rfl) (by rfl) (by rfl), .of hS (by (repeat (first | exact .head _ | refine .tail _ ?_))) (by rfl) (by rfl) (by rfl), .of hS (by (repeat (first | exact .head _ | refine .tail _ ?_))) (by rfl) (by rfl) (by rfl), .of hS (by (repeat (first | exact .head _ | refine .tail _ ?_))) (by rfl) (by rfl) (by rfl),
      .lits _ hS (by (repeat (first | exact .head _ | refine .tail _ ?_))) (by assumption), .lits _ hS (by (repeat (first | exact .head _ | refine .tail _ ?_))) (by assumption), .lits _ hS (by (repeat (first | exact .head _ | refine .tail _ ?_))) (by assumption), hS.nil⟩
  · clear hS
    rintro ⟨oa, ob, ⟨ov, nv', cv'⟩, u⟩ w5 ⟨pa, pb, xa, xb, xv, h1, h2, h3, ⟨a0, a1, a2⟩, ⟨b0, b1, b2⟩, ⟨c0, c1, c2⟩, ⟨d0, d1, d2⟩, hRa, hRb, hRv, hS5⟩
    dsimp only at h1 h2 h3
    subst h1
    subst h2
    cases h3
    have hRa' := hRa.part hA.len
    have hRb' := hRb.part hB.len
    have hRv' := hRv.part hV.len
    replace hA := hA.keep hS5
    replace hB := hB.keep hS5
    replace hV := hV.keep hS5
    obtain ⟨w, hw, hS⟩ : ∃ w, w = w5 ∧ St w5 w [] := ⟨w5, rfl, St.refl w5⟩
    rw [← hw]
    clear hw
    dsimp only
    (repeat (first | ((with_reducible first | apply ldI hS | apply ldS hS | apply hldS hS | apply hldI hS | apply ldF hS | apply ldP hS | apply ldB hS | apply hldF hS); (case ha => exact rfl); (case he => (repeat (first | exact .head _ | refine .tail _ ?_))); (case hc => exact rfl)) | (guard_target = newM _ _ _ _; refine newM_i hS ?_; clear hS; intro _ w hS) | (guard_target = drM _ _; refine drM_i hS ?_; clear hS; intro w hS) | (guard_target = stM _ _ _ _; (first | refine st0 hS rfl rfl ?_ | refine st1 hS rfl rfl ?_ | refine st2 hS rfl rfl ?_ | refine st3 hS rfl rfl ?_ | refine st4 hS rfl rfl ?_ | refine st5 hS rfl rfl ?_ | refine st6 hS rfl rfl ?_ | refine st7 hS rfl rfl ?_); clear hS; intro w hS) | (guard_target = optM (some _) _; refine optM_mk rfl ?_) | (with_reducible (refine ⟨_, hS.cell ‹_›, ?_⟩)) | (with_reducible (refine ⟨_, _, _, hS.cell ‹_›, ?_⟩)) | (with_reducible (refine ⟨hS.cell ‹_›, ?_⟩))))
    refine (mul_c H (hRa'.keep hS) (hRb'.keep hS)).mono ?_
    intro v w1 hv
    obtain ⟨er, ec, ea, en, el, ee, B, rfl, hE, hBS, he, her, hec, hel⟩ := hv.uni
    replace hS := (hS.next hBS).swap
    rw [List.nil_append] at hS
    clear hv hBS
    refine ⟨_, _, _, _, _, _, rfl, ?_⟩
    (repeat (first | ((with_reducible first | apply ldI hS | apply ldS hS | apply hldS hS | apply hldI hS | apply ldF hS | apply ldP hS | apply ldB hS | apply hldF hS); (case ha => exact rfl); (case he => (repeat (first | exact .head _ | refine .tail _ ?_))); (case hc => exact rfl)) | (guard_target = newM _ _ _ _; refine newM_i hS ?_; clear hS; intro _ w hS) | (guard_target = drM _ _; refine drM_i hS ?_; clear hS; intro w hS) | (guard_target = stM _ _ _ _; (first | refine st0 hS rfl rfl ?_ | refine st1 hS rfl rfl ?_ | refine st2 hS rfl rfl ?_ | refine st3 hS rfl rfl ?_ | refine st4 hS rfl rfl ?_ | refine st5 hS rfl rfl ?_ | refine st6 hS rfl rfl ?_ | refine st7 hS rfl rfl ?_); clear hS; intro w hS) | (guard_target = optM (some _) _; refine optM_mk rfl ?_) | (with_reducible (refine ⟨_, hS.cell ‹_›, ?_⟩)) | (with_reducible (refine ⟨_, _, _, hS.cell ‹_›, ?_⟩)) | (with_reducible (refine ⟨hS.cell ‹_›, ?_⟩))))
    refine (rMul_c H (hA.keep hS) (hB.keep hS)).mono ?_
    intro v w1 hv
    obtain ⟨fr, fc, fa, fn, fl, fe, B', rfl, hF, hBS, hfe, hfr, hfc, hfl⟩ := hv.uni
    replace hS := (hS.next hBS).swap
    clear hv hBS
    refine ⟨_, _, _, _, _, _, rfl, ?_⟩
    (repeat (first | ((with_reducible first | apply ldI hS | apply ldS hS | apply hldS hS | apply hldI hS | apply ldF hS | apply ldP hS | apply ldB hS | apply hldF hS); (case ha => exact rfl); (case he => (repeat (first | exact .head _ | refine .tail _ ?_))); (case hc => exact rfl)) | (guard_target = newM _ _ _ _; refine newM_i hS ?_; clear hS; intro _ w hS) | (guard_target = drM _ _; refine drM_i hS ?_; clear hS; intro w hS) | (guard_target = stM _ _ _ _; (first | refine st0 hS rfl rfl ?_ | refine st1 hS rfl rfl ?_ | refine st2 hS rfl rfl ?_ | refine st3 hS rfl rfl ?_ | refine st4 hS rfl rfl ?_ | refine st5 hS rfl rfl ?_ | refine st6 hS rfl rfl ?_ | refine st7 hS rfl rfl ?_); clear hS; intro w hS) | (guard_target = optM (some _) _; refine optM_mk rfl ?_) | (with_reducible (refine ⟨_, hS.cell ‹_›, ?_⟩)) | (with_reducible (refine ⟨_, _, _, hS.cell ‹_›, ?_⟩)) | (with_reducible (refine ⟨hS.cell ‹_›, ?_⟩))))
    refine (apply_c H (hRa'.keep hS) (hRv'.keep hS)).mono ?_
    intro v w1 hv
    obtain ⟨ga, gn, gc, gl, ge, B3, rfl, hG, hBS, hge, hgl⟩ := hv
    replace hS := (hS.next hBS).swap
    clear hBS
    refine ⟨_, _, _, _, rfl, ?_⟩
    (repeat (first | ((with_reducible first | apply ldI hS | apply ldS hS | apply hldS hS | apply hldI hS | apply ldF hS | apply ldP hS | apply ldB hS | apply hldF hS); (case ha => exact rfl); (case he => (repeat (first | exact .head _ | refine .tail _ ?_))); (case hc => exact rfl)) | (guard_target = newM _ _ _ _; refine newM_i hS ?_; clear hS; intro _ w hS) | (guard_target = drM _ _; refine drM_i hS ?_; clear hS; intro w hS) | (guard_target = stM _ _ _ _; (first | refine st0 hS rfl rfl ?_ | refine st1 hS rfl rfl ?_ | refine st2 hS rfl rfl ?_ | refine st3 hS rfl rfl ?_ | refine st4 hS rfl rfl ?_ | refine st5 hS rfl rfl ?_ | refine st6 hS rfl rfl ?_ | refine st7 hS rfl rfl ?_); clear hS; intro w hS) | (guard_target = optM (some _) _; refine optM_mk rfl ?_) | (with_reducible (refine ⟨_, hS.cell ‹_›, ?_⟩)) | (with_reducible (refine ⟨_, _, _, hS.cell ‹_›, ?_⟩)) | (with_reducible (refine ⟨hS.cell ‹_›, ?_⟩))))
    refine (rApply_c H (hA.keep hS) (hV.keep hS)).mono ?_
    intro v w1 hv
    obtain ⟨ia, iN, ic, il, ie, B4, rfl, hI, hBS, hie, hil⟩ := hv
    replace hS := (hS.next hBS).swap
    clear hBS
    refine ⟨_, _, _, _, rfl, ?_⟩
    (repeat (first | ((with_reducible first | apply ldI hS | apply ldS hS | apply hldS hS | apply hldI hS | apply ldF hS | apply ldP hS | apply ldB hS | apply hldF hS); (case ha => exact rfl); (case he => (repeat (first | exact .head _ | refine .tail _ ?_))); (case hc => exact rfl)) | (guard_target = newM _ _ _ _; refine newM_i hS ?_; clear hS; intro _ w hS) | (guard_target = drM _ _; refine drM_i hS ?_; clear hS; intro w hS) | (guard_target = stM _ _ _ _; (first | refine st0 hS rfl rfl ?_ | refine st1 hS rfl rfl ?_ | refine st2 hS rfl rfl ?_ | refine st3 hS rfl rfl ?_ | refine st4 hS rfl rfl ?_ | refine st5 hS rfl rfl ?_ | refine st6 hS rfl rfl ?_ | refine st7 hS rfl rfl ?_); clear hS; intro w hS) | (guard_target = optM (some _) _; refine optM_mk rfl ?_) | (with_reducible (refine ⟨_, hS.cell ‹_›, ?_⟩)) | (with_reducible (refine ⟨_, _, _, hS.cell ‹_›, ?_⟩)) | (with_reducible (refine ⟨hS.cell ‹_›, ?_⟩))))
    have e1 : el.map nf = fl.map nf := hel.trans hfl.symm
    have e2 : gl.map nf = il.map nf := hgl.trans hil.symm
    have lE := mul_len (by simpa using hE.1) hel
    have lG := apply_len (by simpa using hG.1) hgl
    refine (is_c H (.slm hS (by intro e he; simp [he]) hE) (.slm hS (by intro e he; simp [he]) hF) (by omega)).mono ?_
    rintro _ w1 ⟨rfl, M, h1⟩
    replace hS := (hS.next h1).forget
    clear h1
    refine ⟨_, rfl, cond_i (fun _ => ?_) (fun h => ?_)⟩
    case refine_2 => simp [he, her, hec, hfe, hfr, hfc, e1] at h
    refine (sameReals_c H (.slm hS (by intro e he; simp [he]) hG) (.slm hS (by intro e he; simp [he]) hI) (by omega)).mono ?_
    rintro _ w1 ⟨rfl, h1⟩
    replace hS := (hS.next h1)
    rw [List.nil_append] at hS
    clear h1
    refine ⟨_, rfl, cond_i (fun _ => ?_) (fun h => ?_)⟩
    case refine_2 => simp [e2] at h
    refine cond_i (fun _ => ?_) (fun h => ?_)
    case refine_2 => simp [hge, hie] at h
    (repeat (first | ((with_reducible first | apply ldI hS | apply ldS hS | apply hldS hS | apply hldI hS | apply ldF hS | apply ldP hS | apply ldB hS | apply hldF hS); (case ha => exact rfl); (case he => (repeat (first | exact .head _ | refine .tail _ ?_))); (case hc => exact rfl)) | (guard_target = newM _ _ _ _; refine newM_i hS ?_; clear hS; intro _ w hS) | (guard_target = drM _ _; refine drM_i hS ?_; clear hS; intro w hS) | (guard_target = stM _ _ _ _; (first | refine st0 hS rfl rfl ?_ | refine st1 hS rfl rfl ?_ | refine st2 hS rfl rfl ?_ | refine st3 hS rfl rfl ?_ | refine st4 hS rfl rfl ?_ | refine st5 hS rfl rfl ?_ | refine st6 hS rfl rfl ?_ | refine st7 hS rfl rfl ?_); clear hS; intro w hS) | (guard_target = optM (some _) _; refine optM_mk rfl ?_) | (with_reducible (refine ⟨_, hS.cell ‹_›, ?_⟩)) | (with_reducible (refine ⟨_, _, _, hS.cell ‹_›, ?_⟩)) | (with_reducible (refine ⟨hS.cell ‹_›, ?_⟩))))
    refine (keptMatrix_c H (hRa.keep hS) (hA.keep hS) ha).mono ?_
    rintro _ w1 ⟨rfl, M, h1⟩
    replace hS := (hS.next h1).forget
    clear h1
    refine ⟨_, rfl, cond_i (fun _ => ?_) (fun h => by cases h)⟩
    (repeat (first | ((with_reducible first | apply ldI hS | apply ldS hS | apply hldS hS | apply hldI hS | apply ldF hS | apply ldP hS | apply ldB hS | apply hldF hS); (case ha => exact rfl); (case he => (repeat (first | exact .head _ | refine .tail _ ?_))); (case hc => exact rfl)) | (guard_target = newM _ _ _ _; refine newM_i hS ?_; clear hS; intro _ w hS) | (guard_target = drM _ _; refine drM_i hS ?_; clear hS; intro w hS) | (guard_target = stM _ _ _ _; (first | refine st0 hS rfl rfl ?_ | refine st1 hS rfl rfl ?_ | refine st2 hS rfl rfl ?_ | refine st3 hS rfl rfl ?_ | refine st4 hS rfl rfl ?_ | refine st5 hS rfl rfl ?_ | refine st6 hS rfl rfl ?_ | refine st7 hS rfl rfl ?_); clear hS; intro w hS) | (guard_target = optM (some _) _; refine optM_mk rfl ?_) | (with_reducible (refine ⟨_, hS.cell ‹_›, ?_⟩)) | (with_reducible (refine ⟨_, _, _, hS.cell ‹_›, ?_⟩)) | (with_reducible (refine ⟨hS.cell ‹_›, ?_⟩))))
    refine (keptMatrix_c H (hRb.keep hS) (hB.keep hS) hb).mono ?_
    rintro _ w1 ⟨rfl, M, h1⟩
    replace hS := (hS.next h1).forget
    clear h1
    refine ⟨_, rfl, cond_i (fun _ => ?_) (fun h => by cases h)⟩
    refine (keptReals_c H (hRv.keep hS) (hV.keep hS) hv).mono ?_
    rintro _ w1 ⟨rfl, h1⟩
    replace hS := (hS.next h1)
    clear h1
    refine ⟨_, rfl, cond_i (fun _ => ?_) (fun h => by cases h)⟩
    refine (awake_c H _).mono ?_
    rintro _ w1 ⟨rfl, M, h1⟩
    exact ⟨_, rfl, rfl, _, hS5.next (hS.next h1)⟩

end
end Go.Eng
