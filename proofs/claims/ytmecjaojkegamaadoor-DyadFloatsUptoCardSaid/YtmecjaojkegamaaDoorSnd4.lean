/-
  Each operation of the definitional reading is sound (continued): slices, fields, elements, append and copy. No condition but that the table of types is the program's.
-/
import Derived.Test.YtmecjaojkegamaaDoorSnd3
set_option linter.unusedVariables false
set_option linter.unusedSimpArgs false
set_option linter.unnecessarySimpa false
set_option linter.unusedSectionVars false
namespace Go.Eng
open Go

section
variable {P : Program} {T : Nat → Option TI}

theorem rep_length (l : List Value) (n : Nat) : (rep l n).length = n * l.length := by
  induction n with
  | zero => simp [rep]
  | succ n ih => simp [rep, ih, Nat.succ_mul, Nat.add_comm]

theorem rep_get (l : List Value) (n i : Nat) (h : i < n * l.length) : (rep l n)[i]? = l[i % l.length]? := by
  induction n generalizing i with
  | zero => simp at h
  | succ n ih =>
    rw [Nat.succ_mul] at h
    by_cases hi : i < l.length
    · simp [rep, List.getElem?_append_left hi, Nat.mod_eq_of_lt hi]
    · have hp : 0 < l.length := by
        rcases Nat.eq_zero_or_pos l.length with h0 | h0
        · rw [h0] at h; simp at h
        · exact h0
      have hi' : l.length ≤ i := by omega
      rw [rep, List.getElem?_append_right hi', ih (i - l.length) (by omega)]
      congr 1
      rw [Nat.mod_eq_sub_mod hi']

theorem rep_row (z : Array Value) (n : Nat) : ((Array.range (n * z.size)).map (z[· % z.size]!)) = (rep z.toList n).toArray := by
  apply Array.ext_getElem?
  intro i
  by_cases h : i < n * z.size
  · have hl : i < n * z.toList.length := by simpa using h
    have hz : 0 < z.size := by
      rcases Nat.eq_zero_or_pos z.size with h0 | h0
      · rw [h0] at h; simp at h
      · exact h0
    have hm : i % z.size < z.size := Nat.mod_lt _ hz
    have e1 : (rep z.toList n).toArray[i]? = z.toList[i % z.toList.length]? := by rw [List.getElem?_toArray, rep_get _ _ _ hl]
    rw [e1]
    simp [h, hm]
  · have h1 : (rep z.toList n).length ≤ i := by rw [rep_length]; simpa using h
    have e1 : (rep z.toList n).toArray[i]? = none := by rw [List.getElem?_toArray, List.getElem?_eq_none h1]
    rw [e1]
    simp; omega

theorem run_buildSlice {t : Nat} {ti : TI} (ht : TIOk P t ti) (hT : TOk P T) {n : Nat} {ps : Array (Nat × Operand)} {e : Env} {ρ : Operand → Value} (he : EvOk e ρ) {w : World} {K : Value → World → Prop}
    (h : match ti.d with
    | .slice el => bindL (T el) fun te => bindL (evps e ps.toList) fun vs =>
      cond (Nat.ble (n * te.size) 4096) (cond (Nat.beq (vcells te.zero).length te.size)
        (bindL (fillL (fun i => some (i * te.size, te.size)) (rep (vcells te.zero) n) vs) fun cs => newM cs.toArray el w fun p w' => K (.slice (some p) n n) w') False) False
    | _ => False) : OutV P K (Instr.buildSlice t n (ps.map fun (i, x) => (i, ρ x))) w := by
  obtain ⟨d, hd, hk⟩ := ht.desc
  split at h
  · rename_i el hel
    rw [hel] at hk
    cases d <;> (try exact hk.elim)
    cases hk
    obtain ⟨te, hte, h⟩ := bindL_some h
    obtain ⟨vs, hvs, h⟩ := bindL_some h
    obtain ⟨hb, h⟩ := cond_true h
    obtain ⟨hb2, h⟩ := cond_true h
    obtain ⟨cs, hcs, h⟩ := bindL_some h
    refine ⟨_, _, ?_, h⟩
    have hparts : (ps.map fun (i, x) => (i, ρ x)).toList = vs := by
      have := evps_ok he hvs
      simpa using this
    have hle := Nat.le_of_ble_eq_true hb
    have hsz := Nat.eq_of_beq_eq_true hb2
    have hsz' : te.zero.cells.size = te.size := by rw [vcells_eq] at hsz; simpa using hsz
    have hfill := fill_ok hcs
    have h24 : ¬ n * te.size > 2 ^ 24 := by omega
    simp only [Instr.buildSlice, Sem.run_bind, run_und hd, Result.andThen_ok, run_size (hT _ _ hte), if_neg h24]
    by_cases h0 : n * te.size = 0
    · have hr0 : rep (vcells te.zero) n = [] := by
        apply List.eq_nil_of_length_eq_zero
        rw [rep_length, hsz]; exact h0
      rw [hr0] at hfill
      simp only [h0, if_true, Sem.run_bind, Sem.run_pure, Result.andThen_ok]
      have : (Array.map (fun x => (#[] : Array Value)[x % (#[] : Array Value).size]!) (Array.range 0)) = ([] : List Value).toArray := by simp
      rw [this, hparts, hfill]
      rfl
    · simp only [h0, if_false, Sem.run_bind, run_zero (hT _ _ hte), Result.andThen_ok, Sem.run_pure]
      have := rep_row te.zero.cells n
      rw [hsz'] at this
      rw [hsz', this, ← vcells_eq, hparts, hfill]
      rfl
  · exact h.elim

theorem zrow_cells (z : Array Value) (n : Nat) : (Array.range n).map (z[· % z.size]!) = zrow n z := rfl

theorem run_makeSlice {t el : Nat} {te : TI} {d : TypeDesc} (hd : P.underlying t = some d) (hk : d = .slice el) (hte : TIOk P el te) {l c : Int} (h0 : 0 ≤ l) (h1 : l ≤ c) (h2 : c ≤ 1099511627776) (h3 : c * te.bytes ≤ 281474976710656) (w : World) :
    (Instr.makeSlice t (.int .i64 l) (.int .i64 c)).run P w = .ok (.slice (some (nxt w)) l.toNat c.toNat) (w.alloc (.cells (zrow (c.toNat * te.size) (vcells te.zero).toArray) el)) := by
  subst hk
  have wl : IntKind.i64.wrap l = l := by simp only [IntKind.wrap, IntKind.bits, IntKind.signed]; simp; omega
  have wc : IntKind.i64.wrap c = c := by simp only [IntKind.wrap, IntKind.bits, IntKind.signed]; simp; omega
  obtain ⟨i, hi, hs, hb, hz⟩ := hte.info
  have hti : (typeInfo el).run P w = .ok i w := by simp [typeInfo, hi]
  have hbig : (decide (c < 0) || decide ((↑i.bytes : Int) * c > 2 ^ 48)) = false := by
    rw [hb]
    have : (te.bytes : Int) * c = c * te.bytes := Int.mul_comm _ _
    simp
    omega
  simp only [Instr.makeSlice, Sem.run_bind, run_und hd, Result.andThen_ok, asInt, asIntOf, Sem.run_pure, hti, wl, wc]
  have hc1 : ¬ ((decide (c < 0) || decide ((↑i.bytes : Int) * c > 2 ^ 48) || decide (l < 0) || decide (l > c)) = true) := by
    rw [hbig]; simp; omega
  rw [if_neg hc1]
  simp only [run_askRoom, Sem.run_bind, Result.andThen_ok, run_size hte, vcells_arr]
  by_cases hn : c.toNat * te.size = 0
  · have hz0 : ∀ z : Array Value, zrow 0 z = #[] := fun z => by simp [zrow]
    simp only [hn, if_true, Sem.run_pure, Result.andThen_ok, newRow, run_newObj, Sem.run_bind, hz0]
    have : (Array.map (fun x => (#[] : Array Value)[x % (#[] : Array Value).size]!) (Array.range 0)) = #[] := by simp
    rw [this]
    rfl
  · simp only [hn, if_false, run_zero hte, Sem.run_pure, Result.andThen_ok, newRow, run_newObj, Sem.run_bind]
    rfl

theorem run_sliceAt {t : Nat} {ti : TI} (ht : TIOk P t ti) (hT : TOk P T) {v : Value} {lo hi mx : Option Value} {w : World} {K : Value → World → Prop}
    (h : match ti.d, v with
    | .slice el, .slice a len cap => bindL (sizeT T el) fun s => sliceD s a len cap lo hi mx fun v => K v w
    | .array n el, .pointer p => optM p fun a => bindL (sizeT T el) fun s => sliceD s (some a) n n lo hi mx fun v => K v w
    | _, _ => False) : OutV P K (Instr.sliceAt t v lo hi mx) w := by
  obtain ⟨d, hd, hk⟩ := ht.desc
  split at h
  · rename_i el a len cap hel
    rw [hel] at hk
    cases d <;> (try exact hk.elim)
    cases hk
    obtain ⟨s, hs, h⟩ := bindL_some h
    obtain ⟨l, hh, m, hr, h⟩ := sliceD_ok (P := P) h true
    refine ⟨_, w, ?_, h⟩
    simp only [sizeT] at hs
    cases hte : T el with
    | none => simp [hte] at hs
    | some te =>
      simp [hte] at hs
      subst hs
      simp only [Instr.sliceAt, Instr.slice, Sem.run_bind, run_und hd, Result.andThen_ok, hr, run_size (hT _ _ hte), Sem.run_pure]
      rfl
  · rename_i n el p hel
    rw [hel] at hk
    cases d <;> (try exact hk.elim)
    obtain ⟨hk1, hk2⟩ := hk
    subst hk1; subst hk2
    obtain ⟨a, rfl, h⟩ := optM_some h
    obtain ⟨s, hs, h⟩ := bindL_some h
    obtain ⟨l, hh, m, hr, h⟩ := sliceD_ok (P := P) h false
    refine ⟨_, w, ?_, h⟩
    simp only [sizeT] at hs
    cases hte : T el with
    | none => simp [hte] at hs
    | some te =>
      simp [hte] at hs
      subst hs
      simp only [Instr.sliceAt, Instr.sureAddr, Sem.run_bind, run_und hd, Result.andThen_ok, hr, run_size (hT _ _ hte), Sem.run_pure, slBase]
      congr 2
      split <;> rfl
  · exact h.elim

theorem run_fieldAt {t : Nat} {ti : TI} (ht : TIOk P t ti) (hT : TOk P T) {v : Value} {i : Nat} {w : World} {K : Value → World → Prop}
    (h : match ti.d with
    | .struct fs => bindL (nth fs i) fun f => bindL (sizeT T f.1) fun s => cond (Nat.beq s 0) False (match v with
      | .pointer p => optM p fun a => K (.pointer (some (a.add f.2))) w
      | _ => False)
    | _ => False) : OutV P K (Instr.fieldAt t v i) w := by
  obtain ⟨d, hd, hk⟩ := ht.desc
  split at h
  · rename_i fs hfs
    rw [hfs] at hk
    cases d <;> (try exact hk.elim)
    rename_i fields
    have hk' : fs = fields.toList.map fun f => (f.type, f.offset) := hk
    subst hk'
    obtain ⟨f, hf, h⟩ := bindL_some h
    obtain ⟨s, hs, h⟩ := bindL_some h
    rcases cond_or h with ⟨_, h⟩ | ⟨hs0, h⟩
    · exact h.elim
    cases v <;> (try exact h.elim)
    obtain ⟨a, rfl, h⟩ := optM_some h
    rw [nth_eq] at hf
    simp only [List.getElem?_map, Option.map_eq_some_iff] at hf
    obtain ⟨fd, hfd, rfl⟩ := hf
    have hfd' : fields[i]? = some fd := by simpa using hfd
    refine ⟨_, w, ?_, h⟩
    simp only [sizeT] at hs
    cases hte : T fd.type with
    | none => simp [hte] at hs
    | some te =>
      simp [hte] at hs
      subst hs
      have hne : ¬ te.size = 0 := by intro e; rw [e] at hs0; cases hs0
      simp only [Instr.fieldAt, Sem.run_bind, run_und hd, Result.andThen_ok, hfd', Instr.sureAddr, Sem.run_pure, fieldPlace, run_size (hT _ _ hte), if_neg hne]
  · exact h.elim

theorem run_field {t : Nat} {ti : TI} (ht : TIOk P t ti) (hT : TOk P T) {v : Value} {i : Nat} {w : World} {K : Value → World → Prop}
    (h : match ti.d with
    | .struct fs => bindL (nth fs i) fun f => bindL (T f.1) fun tf => match v with
      | .agg cs => cond tf.d.isAgg (K (.agg ((cs.toList.drop f.2).take tf.size).toArray) w) (bindL (nth cs.toList f.2) fun v => K v w)
      | _ => False
    | _ => False) : OutV P K (Instr.field t v i) w := by
  obtain ⟨d, hd, hk⟩ := ht.desc
  split at h
  · rename_i fs hfs
    rw [hfs] at hk
    cases d <;> (try exact hk.elim)
    rename_i fields
    have hk' : fs = fields.toList.map fun f => (f.type, f.offset) := hk
    subst hk'
    obtain ⟨f, hf, h⟩ := bindL_some h
    obtain ⟨tf, htf, h⟩ := bindL_some h
    obtain ⟨cs, rfl⟩ : ∃ cs, v = .agg cs := by cases v <;> first | exact ⟨_, rfl⟩ | exact h.elim
    rw [nth_eq] at hf
    simp only [List.getElem?_map, Option.map_eq_some_iff] at hf
    obtain ⟨fd, hfd, rfl⟩ := hf
    have hfd' : fields[i]? = some fd := by simpa using hfd
    have hte := hT _ _ htf
    rcases cond_or h with ⟨hb, h⟩ | ⟨hb, h⟩
    · refine ⟨_, w, ?_, h⟩
      simp only [Instr.field, Sem.run_bind, run_und hd, Result.andThen_ok, hfd', asAgg, Sem.run_pure, part, run_agg hte, hb, if_true, run_size hte]
      congr 2
      apply Array.ext'
      simp [Array.toList_extract, List.extract_eq_take_drop]
    · obtain ⟨u, hu, h⟩ := bindL_some h
      refine ⟨_, w, ?_, h⟩
      rw [nth_eq] at hu
      have hu' : cs[fd.offset]? = some u := by simpa using hu
      simp only [Instr.field, Sem.run_bind, run_und hd, Result.andThen_ok, hfd', asAgg, Sem.run_pure, part, run_agg hte, hb, Bool.false_eq_true, if_false, hu']
  · exact h.elim

theorem run_indexAt {t : Nat} {ti : TI} (ht : TIOk P t ti) (hT : TOk P T) {v vi : Value} {w : World} {K : Value → World → Prop}
    (h : match ti.d, v, vi with
    | .slice el, .slice a len _, .int _ i => bindL (sizeT T el) fun s => 0 ≤ i ∧ i < len ∧ optM a fun a => K (.pointer (some (a.add (i.toNat * s)))) w
    | .array n el, .pointer p, .int _ i => bindL (sizeT T el) fun s => 0 ≤ i ∧ i < n ∧ optM p fun a => K (.pointer (some (a.add (i.toNat * s)))) w
    | _, _, _ => False) : OutV P K (Instr.indexAt t v vi) w := by
  obtain ⟨d, hd, hk⟩ := ht.desc
  split at h
  · rename_i el a len cap k i hel
    rw [hel] at hk
    cases d <;> (try exact hk.elim)
    cases hk
    obtain ⟨s, hs, h0, h1, h⟩ := bindL_some h
    obtain ⟨x, rfl, h⟩ := optM_some h
    refine ⟨_, w, ?_, h⟩
    simp only [sizeT] at hs
    cases hte : T el with
    | none => simp [hte] at hs
    | some te =>
      simp [hte] at hs
      subst hs
      simp only [Instr.indexAt, asIntOf, Sem.run_bind, Sem.run_pure, run_und hd, Result.andThen_ok]
      rw [if_pos ⟨h0, h1⟩]
      simp only [Sem.run_bind, run_size (hT _ _ hte), Result.andThen_ok, Sem.run_pure]
  · rename_i n el p k i hel
    rw [hel] at hk
    cases d <;> (try exact hk.elim)
    obtain ⟨hk1, hk2⟩ := hk
    subst hk1; subst hk2
    obtain ⟨s, hs, h0, h1, h⟩ := bindL_some h
    obtain ⟨x, rfl, h⟩ := optM_some h
    refine ⟨_, w, ?_, h⟩
    simp only [sizeT] at hs
    cases hte : T el with
    | none => simp [hte] at hs
    | some te =>
      simp [hte] at hs
      subst hs
      simp only [Instr.indexAt, asIntOf, Sem.run_bind, Sem.run_pure, run_und hd, Result.andThen_ok, Instr.sureAddr]
      rw [if_pos ⟨h0, h1⟩]
      simp only [Sem.run_bind, run_size (hT _ _ hte), Result.andThen_ok, Sem.run_pure]
  · exact h.elim

theorem run_index {t : Nat} {ti : TI} (ht : TIOk P t ti) (hT : TOk P T) {v vi : Value} {w : World} {K : Value → World → Prop}
    (h : match ti.d, v, vi with
    | .array n el, .agg cs, .int _ i => bindL (T el) fun te => cond te.d.isAgg False (0 ≤ i ∧ i < n ∧ ∃ v, cs[i.toNat * te.size]? = some v ∧ K v w)
    | .string, .string s, .int _ i => 0 ≤ i ∧ ∃ b : UInt8, s[i.toNat]? = some b ∧ K (.int .u8 b.toNat) w
    | _, _, _ => False) : OutV P K (Instr.index t v vi) w := by
  obtain ⟨d, hd, hk⟩ := ht.desc
  split at h
  · rename_i n el cs k i hel
    rw [hel] at hk
    cases d <;> (try exact hk.elim)
    obtain ⟨hk1, hk2⟩ := hk
    subst hk1; subst hk2
    obtain ⟨te, hte, h⟩ := bindL_some h
    rcases cond_or h with ⟨_, h⟩ | ⟨hb, h0, h1, u, hu, h⟩
    · exact h.elim
    refine ⟨_, w, ?_, h⟩
    simp only [Instr.index, asIntOf, Sem.run_bind, Sem.run_pure, run_und hd, Result.andThen_ok]
    rw [if_pos ⟨h0, h1⟩]
    simp only [Sem.run_bind, run_size (hT _ _ hte), Result.andThen_ok, part, run_agg (hT _ _ hte), hb, Bool.false_eq_true, if_false, hu, Sem.run_pure]
  · rename_i s k i hel
    rw [hel] at hk
    cases d <;> (try exact hk.elim)
    obtain ⟨h0, b, hb, h⟩ := h
    refine ⟨_, w, ?_, h⟩
    simp only [Instr.index, asIntOf, Sem.run_bind, Sem.run_pure, run_und hd, Result.andThen_ok]
    rw [if_pos h0, hb]
    rfl
  · exact h.elim

end
end Go.Eng
