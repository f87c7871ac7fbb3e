/-
  The laws of seat 10: the statements' functions answer true. No condition.
-/
import Derived.Test.YtfbhhfgelebpnaaWk
import Derived.Test.YtfbhhfgelebpnaaLw0
import Derived.Test.YtfbhhfgelebpnaaLwTells10
import Derived.Test.YtfbhhfgelebpnaaLwTurns10
set_option linter.unusedVariables false
set_option linter.unusedSimpArgs false
set_option maxRecDepth 100000
namespace Go.Eng
open Go

section
variable {N : Nums} {P : Program} (H : AllOk N P)
include H

theorem tells_f {ra ca rb cb rows cols : Int} {sa sb : Option Addr} {na ma nb mb : Nat} {la lb : List Nat} {w : World} (hA : Reals w sa na ma la) (hB : Reals w sb nb mb lb)
    (ha : na ≤ 1048576) (hb : nb ≤ 1048576) (hw : ∀ p ∈ la, p < 18446744073709551616) :
    CallsX P N.f_girderlaw10_MatrixTells #[.agg #[.int .i64 ra, .int .i64 ca, .slice sa na ma], .agg #[.int .i64 rb, .int .i64 cb, .slice sb nb mb], .int .i64 rows, .int .i64 cols] w fun v w' => v = .bool true ∧ ∃ M, St w w' M := by
  have hS := (Ho.arg1 hB).arg (own_cons rfl own_nil) (.ofReals hA)
  exact wk_girderlaw10_MatrixTells H hS (Ent.rd mp0) (Ent.rd mp1) (tells10 (by rw [List.length_map, hA.len]; exact ha) (by rw [List.length_map, hB.len]; exact hb) (nf_words hw)) fun w1 h => ⟨rfl, h.some_old⟩

theorem turns_f {n m k : Int} {sa sb : Option Addr} {na ma nb mb : Nat} {la lb : List Nat} {w : World} (hA : Reals w sa na ma la) (hB : Reals w sb nb mb lb) (ha : na ≤ 1048576) (hb : nb ≤ 1048576) :
    CallsX P N.f_girderlaw10_MatrixTurns #[.int .i64 n, .int .i64 m, .int .i64 k, .slice sa na ma, .slice sb nb mb] w fun v w' => v = .bool true ∧ ∃ M, St w w' M := by
  have hS := (Ho.arg1 hB).arg (own_cons rfl own_nil) (.ofReals hA)
  exact wk_girderlaw10_MatrixTurns H hS (Ent.rd mp0) (Ent.rd mp1) (turns10 (by rw [List.length_map, hA.len]; exact ha) (by rw [List.length_map, hB.len]; exact hb)) fun w1 h => ⟨rfl, h.some_old⟩

end
end Go.Eng
