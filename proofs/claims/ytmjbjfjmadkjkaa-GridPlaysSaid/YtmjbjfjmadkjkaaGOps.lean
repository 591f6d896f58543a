/- A script that came in: its steps' cells. -/
import Derived.Test.YtmjbjfjmadkjkaaGPlays
import Derived.Deep.Slices
import Derived.Deep.Fields
import Derived.ChangeArms
import Derived.OpenShut
namespace Go.Proofs.Ytmjbjfjmadkjkaa.G
open Go.RowKit Go.Deep
set_option linter.unusedSimpArgs false
set_option linter.unusedVariables false

theorem cellsOf54 : Try.prog.cellsOf 54 = 4 := by kernel_rfl
theorem one_cell {H : Type} {enc : TypeId × Value → H} {w : World} {base n : Nat} {spare : Nat → Bool} {held : Bool} {t : TypeId} {cs' : List Value} {y : DataW H × List MemPlace} {j : Nat} (hl : j < cs'.length)
    (h : DataW.trod enc Try.prog w base spare held n t ((cs'.drop j).take 1) = some y) : DataW.trod enc Try.prog w base spare held n t [cs'[j]] = some y := by
  have : (cs'.drop j).take 1 = [cs'[j]] := by
    rw [List.drop_eq_getElem_cons hl]
    rfl
  rw [this] at h
  exact h
theorem ops_in {H : Type} {enc : TypeId × Value → H} {w : World} {base fuel : Nat} {spare : Nat → Bool} {held : Bool} {a : Option Addr} {len cap : Nat} {x : DataW H × List MemPlace}
    (h : DataW.trod enc Try.prog w base spare held fuel 52 (Value.slice a len cap).cells.toList = some x) : OpsIn w a len := by
  rcases open_slice Try.underlying52 h with ⟨h0, _⟩ | ⟨ad, len', cap', m, n, D, Pl, hcs, hb, hl, hm, hmm, hx, hi⟩
  · simp [Value.cells] at h0
    obtain ⟨rfl, rfl, rfl⟩ := h0
    exact ⟨by omega, fun i hi => by omega⟩
  · simp [Value.cells] at hcs
    obtain ⟨rfl, rfl, rfl⟩ := hcs
    refine ⟨by unfold maxLen at hm; omega, fun i hil => ?_⟩
    obtain ⟨cs', hc, ht'⟩ := hi i (by rw [hmm]; split <;> omega)
    rw [cellsOf54] at hc
    obtain ⟨ys, n', hn', hy, hlen, hyl, hf⟩ := DataW.trod_struct Try.underlying54 ht'
    obtain ⟨_, hcl, hat⟩ := World.cells?_some hc
    have hys : ys.length = 4 := hyl
    have c3 : Try.prog.cellsOf 3 = 1 := by kernel_rfl
    have c4 : Try.prog.cellsOf 4 = 1 := by kernel_rfl
    have f0 : DataW.trod enc Try.prog w base spare held n' 3 ((cs'.drop 0).take (Try.prog.cellsOf 3)) = ys[0]? := hf 0 _ rfl
    have f1 : DataW.trod enc Try.prog w base spare held n' 3 ((cs'.drop 1).take (Try.prog.cellsOf 3)) = ys[1]? := hf 1 _ rfl
    have f2 : DataW.trod enc Try.prog w base spare held n' 3 ((cs'.drop 2).take (Try.prog.cellsOf 3)) = ys[2]? := hf 2 _ rfl
    have f3 : DataW.trod enc Try.prog w base spare held n' 4 ((cs'.drop 3).take (Try.prog.cellsOf 4)) = ys[3]? := hf 3 _ rfl
    rw [c3] at f0 f1 f2
    rw [c4] at f3
    rw [List.getElem?_eq_getElem (by omega)] at f0 f1 f2 f3
    obtain ⟨k0, e0, _, _⟩ := DataW.trod_int Try.underlying3 (one_cell (by omega) f0)
    obtain ⟨k1, e1, _, w1⟩ := DataW.trod_int Try.underlying3 (one_cell (by omega) f1)
    obtain ⟨k2, e2, _, w2⟩ := DataW.trod_int Try.underlying3 (one_cell (by omega) f2)
    obtain ⟨u, e3, _⟩ := DataW.trod_bool Try.underlying4 (one_cell (by omega) f3)
    injection e0 with e0
    injection e1 with e1
    injection e2 with e2
    injection e3 with e3
    have a0 := hat 0 (by omega)
    have a1 := hat 1 (by omega)
    have a2 := hat 2 (by omega)
    have a3 := hat 3 (by omega)
    rw [List.getElem?_eq_getElem (by omega), add_add] at a0 a1 a2 a3
    rw [e0] at a0
    rw [e1] at a1
    rw [e2] at a2
    rw [e3] at a3
    exact ⟨ad, k0, k1, k2, u, rfl, a0, a1, a2, a3, (bounds_i64 w1).2, (bounds_i64 w2).2⟩
end Go.Proofs.Ytmjbjfjmadkjkaa.G
