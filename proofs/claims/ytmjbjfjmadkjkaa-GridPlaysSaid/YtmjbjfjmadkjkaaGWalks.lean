/- Count, Body, New over a grid in memory. -/
import Derived.Test.YtmjbjfjmadkjkaaGState
namespace Go.Proofs.Ytmjbjfjmadkjkaa.G
open Go.RowKit Go.Proofs.YtmjbjfjmadkjkaaW.PrintWords Go.Proofs.YtmjbjfjmadkjkaaW.PrintLast Go.Proofs.YtmjbjfjmadkjkaaW.PrintMore
attribute [local go_sem] max2_int min2_int max_two min_two max_three min_three max_four min_four
set_option linter.unusedSimpArgs false
set_option linter.unusedVariables false

/-- How many of the first m are used. -/
def cnt (f : Nat → Bool) : Nat → Nat
  | 0 => 0
  | m + 1 => cnt f m + (f m).toNat
theorem cnt_le (f : Nat → Bool) (m : Nat) : cnt f m ≤ m := by
  induction m with
  | zero => exact Nat.le_refl _
  | succ m ih => unfold cnt; cases f m <;> simp <;> omega

set_option maxHeartbeats 1000000 in
theorem count_calls (w : World) (base g b : Nat) (n : Int) (f : Nat → Bool) (h : Gr w base g b n (byts f)) (h0 : 0 ≤ n) (h1 : n ≤ 3584) :
    Calls Try.prog 21 #[.pointer (some ⟨g, 0, none⟩)] w fun e w' => e = .returned (.int .i64 (cnt f n.toNat)) ∧ w = w' := by
  have HS := Aside0.mk (size_calls w base g b n _ h)
  have HG := Aside0.mk h
  clear h
  obtain ⟨m, rfl⟩ := Int.eq_ofNat_of_zero_le h0
  rw [Int.toNat_natCast]
  go_enter Try.func21, Try.ntmps21
  go_wp2_with (go_at_call 20; refine HS.out.mono ?_; rintro e w' ⟨rfl, rfl⟩)
  go_loop [3, 7] (fun c i => ∃ k : Nat, k ≤ m ∧ i = .int .i64 k ∧ c = .int .i64 (cnt f k)) (fun _ i => m - (intOf i).toNat)
  case atStart => exact ⟨0, Nat.zero_le _, rfl, rfl⟩
  case round =>
    obtain ⟨k, hk, rfl, rfl⟩ := hrel
    have hc := cnt_le f k
    by_cases hlt : k < m
    · have HA := Aside0.mk (at_calls w base g b m k f HG.out (by omega) (by omega))
      cases hf : f k with
      | true =>
        have HF := Aside0.mk hf
        have HA' : Aside0 (Calls Try.prog 31 #[.pointer (some ⟨g, 0, none⟩), .int .i64 k] w fun e w' => e = .returned (.bool true) ∧ w = w') := by
          have := HA.out
          rw [Int.toNat_natCast, hf] at this
          exact ⟨this⟩
        clear hf HA
        go_wp2_with (go_at_call 31; refine HA'.out.mono ?_; rintro e w' ⟨rfl, rfl⟩)
        go_round
        case rel => exact ⟨k + 1, by omega, by go_num, by simp [cnt, HF.out]⟩
        case measure => simp [intOf]; omega
      | false =>
        have HF := Aside0.mk hf
        have HA' : Aside0 (Calls Try.prog 31 #[.pointer (some ⟨g, 0, none⟩), .int .i64 k] w fun e w' => e = .returned (.bool false) ∧ w = w') := by
          have := HA.out
          rw [Int.toNat_natCast, hf] at this
          exact ⟨this⟩
        clear hf HA
        go_wp2_with (go_at_call 31; refine HA'.out.mono ?_; rintro e w' ⟨rfl, rfl⟩)
        go_round
        case rel => exact ⟨k + 1, by omega, by go_num, by simp [cnt, HF.out]⟩
        case measure => simp [intOf]; omega
    · have : k = m := by omega
      subst this
      go_wp2
      go_ret
      exact ⟨rfl, rfl⟩

theorem count_nil (w : World) :
    Calls Try.prog 21 #[.pointer none] w fun e w' => e = .returned (.int .i64 0) ∧ w = w' := by
  have HS := Aside0.mk (size_nil w)
  go_enter Try.func21, Try.ntmps21
  go_wp2_with (go_at_call 20; refine HS.out.mono ?_; rintro e w' ⟨rfl, rfl⟩)
  refine wp_loop_rounds 1 ?_
  rw [rounds_succ]
  go_wp2
  go_ret
  exact ⟨rfl, rfl⟩

theorem body_calls (w : World) (base g b : Nat) (n : Int) (bs : List Int) (h : Gr w base g b n bs) :
    Calls Try.prog 22 #[.pointer (some ⟨g, 0, none⟩)] w fun e w' => e = .returned (.string (strOfNums bs)) ∧ w = w' := by
  have hr : ∃ cap, w.heap[g]? = some (.cells #[.int .i64 n, .slice (some ⟨b, 0, none⟩) 448 cap] 60 (0, 0)) ∧ (Kd.int .u8).C w (some ⟨b, 0, none⟩) 448 bs := by
    obtain ⟨cap, e1, e2, e3⟩ := h
    obtain ⟨e4, _, e5⟩ := Kd.R_reads' e3
    rw [← e4] at e5
    exact ⟨cap, e1, e5⟩
  clear h
  obtain ⟨cap, e1, e2⟩ := hr
  have c1 : w.cell? ⟨g, 1, none⟩ = some (.slice (some ⟨b, 0, none⟩) 448 cap) := (blk_cell e1 1).trans rfl
  have hs := Kd.C_string (P := Try.prog) (c := cap) Try.underlying58 Try.underlying5 Try.underlying9 e2
  clear e1 e2
  go_enter Try.func22, Try.ntmps22
  go_wp2
  go_ret
  exact ⟨rfl, rfl⟩

theorem body_nil (w : World) :
    Calls Try.prog 22 #[.pointer none] w fun e w' => e = .returned (.string ⟨#[]⟩) ∧ w = w' := by
  go_enter Try.func22, Try.ntmps22
  go_wp2
  go_ret
  exact ⟨rfl, rfl⟩

theorem byts_nothing : byts (fun _ => false) = List.replicate 448 0 := by decide +kernel

theorem info5 : (Try.prog.info? 5).map (fun i => (i.zero, i.size, i.bytes)) = some (some (.int .u8 0), 1, 1) := by kernel_rfl
theorem toNat448 : (448 : Int).toNat = 448 := rfl

set_option maxHeartbeats 1000000 in
theorem new_yes (w : World) (n : Int) (h0 : 0 ≤ n) (h1 : n ≤ 3584) :
    Calls Try.prog 18 #[.int .i64 n] w fun e w' => ∃ g b, e = .returned (.tuple #[.pointer (some ⟨g, 0, none⟩), .int .i64 0]) ∧ Gr w' w.heap.size g b n (byts fun _ => false) ∧ Below w.heap.size w w' := by
  go_enter Try.func18, Try.ntmps18
  go_wp2_with (first | ((with_reducible refine gate_dst (N := 11) rfl ?_); refine Kd.R_make (Kd.int .u8) w.heap.size 5 rfl (N := 11) rfl 58 _ _ rfl 448 rfl rfl Try.underlying58 (.int .u8 0) 1 info5 rfl (by decide) (by omega) 0 (ok := fun _ => True) (okp := fun _ => True) rfl (fun _ hk => hk) trivial (by omega) (by decide) (Below.refl _ _) (Nat.le_refl _) ?_; intro v1 w1 ho hb hg hnew; obtain ⟨g1, cap1, e1, _, _, _⟩ := Kd.R_form ho (by rw [List.length_replicate]; decide); (rw [List.length_replicate, toNat448] at e1); subst e1; have HO := Aside0.mk ho; have HB := Aside0.mk hb; clear ho hb hg hnew))
  go_ret2
  rw [toNat448, ← byts_nothing] at HO
  exact ⟨_, _, rfl, ⟨cap1, heap_alloc_new _ _, HB.out.size, Kd.R_alloc HO.out _⟩, below_alloc HB.out _⟩

theorem new_no (w : World) (n : Int) (h : n < 0 ∨ 3584 < n) :
    Calls Try.prog 18 #[.int .i64 n] w fun e w' => e = .returned (.tuple #[.pointer none, .int .i64 1]) ∧ w = w' := by
  rcases h with h | h
  · go_enter Try.func18, Try.ntmps18
    go_wp2
    go_ret2
    exact ⟨rfl, rfl⟩
  · have : ¬ n < 0 := by omega
    go_enter Try.func18, Try.ntmps18
    go_wp2
    go_ret2
    exact ⟨rfl, rfl⟩
end Go.Proofs.Ytmjbjfjmadkjkaa.G
