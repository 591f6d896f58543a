/- Copy: another grid that tells the same, in memory of its own. -/
import Derived.Test.YtmjbjfjmadkjkaaGTake
import Derived.Deep.RegionLaw
namespace Go.Proofs.Ytmjbjfjmadkjkaa.G
open Go.RowKit Go.Proofs.YtmjbjfjmadkjkaaW.PrintWords Go.Proofs.YtmjbjfjmadkjkaaW.PrintLast Go.Proofs.YtmjbjfjmadkjkaaW.PrintMore
attribute [local go_sem] max2_int min2_int max_two min_two max_three min_three max_four min_four
set_option linter.unusedSimpArgs false
set_option linter.unusedVariables false

theorem copy_nil (w : World) :
    Calls Try.prog 27 #[.pointer none] w fun e w' => e = .returned (.pointer none) ∧ w = w' := by
  go_enter Try.func27, Try.ntmps27
  go_wp2
  go_ret
  exact ⟨rfl, rfl⟩

theorem Gr.row {w : World} {base g b : Nat} {n : Int} {bs : List Int} (h : Gr w base g b n bs) : ∃ cap, w.heap[g]? = some (.cells #[.int .i64 n, .slice (some ⟨b, 0, none⟩) 448 cap] 60 (0, 0)) ∧ (Kd.int .u8).C w (some ⟨b, 0, none⟩) 448 bs := by
  obtain ⟨cap, e1, e2, e3⟩ := h
  obtain ⟨e4, _, e5⟩ := Kd.R_reads' e3
  rw [← e4] at e5
  exact ⟨cap, e1, e5⟩
theorem empty_lit (w : World) : (Kd.int .u8).R 5 (w.alloc (.cells #[] 5)) w.heap.size (fun _ => True) (.slice (some ⟨w.heap.size, 0, none⟩) 0 0) [] := by
  have h2 := World.ownsRow_lit (base := w.heap.size) (e := 5) (size := 1) w #[] 0 (Nat.le_refl _) (by decide) rfl
  exact Kd.R_of_own (h1 := fun _ => rfl) h2 (fun _ _ => trivial)

set_option maxRecDepth 100000 in
set_option maxHeartbeats 4000000 in
theorem copy_calls (w : World) (base g b : Nat) (n : Int) (bs : List Int) (h : Gr w base g b n bs) :
    Calls Try.prog 27 #[.pointer (some ⟨g, 0, none⟩)] w fun e w' => ∃ g1 b1, e = .returned (.pointer (some ⟨g1, 0, none⟩)) ∧ Gr w' w.heap.size g1 b1 n bs ∧ Below w.heap.size w w' := by
  have hl := h.len
  obtain ⟨cap, e1, e2⟩ := h.row
  have c0 : w.cell? ⟨g, 0, none⟩ = some (.int .i64 n) := (blk_cell e1 0).trans rfl
  have c1 : w.cell? ⟨g, 1, none⟩ = some (.slice (some ⟨b, 0, none⟩) 448 cap) := (blk_cell e1 1).trans rfl
  have c0' : (w.alloc (.cells #[] 5)).cell? ⟨g, 0, none⟩ = some (.int .i64 n) := pw_cell_below (below_alloc (Below.refl _ _) _) c0
  have c1' : (w.alloc (.cells #[] 5)).cell? ⟨g, 1, none⟩ = some (.slice (some ⟨b, 0, none⟩) 448 cap) := pw_cell_below (below_alloc (Below.refl _ _) _) c1
  have HC0 := Aside0.mk c0
  have HL := Aside0.mk hl
  have HR := Aside0.mk e2
  have HE := Aside0.mk (empty_lit w)
  clear h hl e1 e2
  go_enter Try.func27, Try.ntmps27
  go_wp2
  go_region_law (refine Kd.R_append_rows_step (Kd.int .u8) (w0 := w) w.heap.size rfl (.tmp 9) (.tmp 13) 58 5 (.int .u8 0) 1 rfl Try.underlying58 info5 rfl (by decide) (by decide) (.slice (some ⟨w.heap.size, 0, none⟩) 0 0) [] bs (some ⟨b, 0, none⟩) 448 cap (fun _ => True) (fun _ => False) rfl rfl (by first | exact Kd.R_drew HE.out | exact HE.out) (by first | exact Kd.C_drew (Kd.C_alloc HR.out _) | exact Kd.C_alloc HR.out _) (fun x cs hx => hx) (fun _ hk => hk.elim) (fun _ _ => trivial) (by first | exact (below_alloc (Below.refl _ _) _).drew | exact below_alloc (Below.refl _ _) _) (by simp) (by decide) ?_; intro v1 w1 ho hb hg hat; obtain ⟨g1, cap1, ev1, _, _, _⟩ := Kd.R_form ho (by rw [List.nil_append, HL.out]; decide); (rw [List.nil_append, HL.out] at ev1); subst ev1; have c0w := pw_cell_below hb HC0.out; have HO := Aside0.mk ho; have HB := Aside0.mk hb; clear ho hb hg hat)
  all_goals
    go_wp2
    go_ret
    exact ⟨_, _, rfl, ⟨cap1, heap_alloc_new _ _, HB.out.size, Kd.R_alloc HO.out _⟩, below_alloc HB.out _⟩
end Go.Proofs.Ytmjbjfjmadkjkaa.G
