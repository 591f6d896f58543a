/- Next: the first that is not used. -/
import Derived.Test.YtmjbjfjmadkjkaaGWalks
import Derived.WalkMore
namespace Go.Proofs.Ytmjbjfjmadkjkaa.G
open Go.RowKit Go.Proofs.YtmjbjfjmadkjkaaW.PrintWords Go.Proofs.YtmjbjfjmadkjkaaW.PrintLast Go.Proofs.YtmjbjfjmadkjkaaW.PrintMore
attribute [local go_sem] max2_int min2_int max_two min_two max_three min_three max_four min_four
set_option linter.unusedSimpArgs false
set_option linter.unusedVariables false

/-- Those from a on, below n, that are not used. -/
def fr (f : Nat → Bool) (n a : Nat) : List Nat := (List.range' a (n - a)).filter fun i => !f i
theorem fr_end (f : Nat → Bool) {n a : Nat} (h : n ≤ a) : fr f n a = [] := by
  unfold fr
  rw [show n - a = 0 by omega]
  rfl
theorem fr_step (f : Nat → Bool) {n a : Nat} (h : a < n) : fr f n a = if f a = true then fr f n (a + 1) else a :: fr f n (a + 1) := by
  unfold fr
  rw [show n - a = (n - (a + 1)) + 1 by omega, List.range'_succ, List.filter_cons]
  cases f a <;> simp
theorem fr_used (f : Nat → Bool) (n a : Nat) (h : f a = true) : fr f n a = fr f n (a + 1) := by
  by_cases h1 : a < n
  · rw [fr_step f h1, if_pos h]
  · rw [fr_end f (by omega), fr_end f (by omega)]
theorem fr_free (f : Nat → Bool) {n a : Nat} (h1 : a < n) (h : f a = false) : fr f n a = a :: fr f n (a + 1) := by
  rw [fr_step f h1, if_neg (by simp [h])]
theorem fr_skip (f : Nat → Bool) (n : Nat) : ∀ (k a : Nat), (∀ j, j < k → f (a + j) = true) → fr f n a = fr f n (a + k)
  | 0, a, _ => rfl
  | k + 1, a, h => by
    rw [fr_used f n a (h 0 (by omega)), fr_skip f n k (a + 1) (fun j hj => by rw [show a + 1 + j = a + (j + 1) by omega]; exact h (j + 1) (by omega))]
    congr 1
    omega

def nxV (o : Option Nat) : Value := match o with
  | none => .tuple #[.int .i64 0, .bool false]
  | some j => .tuple #[.int .i64 j, .bool true]

theorem full_skip (f : Nat → Bool) (m k : Nat) (hk : k < 3584) (h8 : (k : Int) % 8 = 0) (h : rd (byts f) ((k : Int) / 8) = 255) : fr f m k = fr f m (k + 8) := by
  rw [rd_byts f _ (by omega) (by omega)] at h
  have h' : (B8 fun j => f (8 * ((k : Int) / 8).toNat + j)) = 255 := by omega
  refine fr_skip f m 8 k (fun j hj => ?_)
  have := B8_full _ h' j hj
  rw [← this]
  congr 1
  omega

set_option maxHeartbeats 2000000 in
theorem next_calls (w : World) (base g b : Nat) (n a : Int) (f : Nat → Bool) (h : Gr w base g b n (byts f)) (h0 : 0 ≤ n) (h1 : n ≤ 3584) (ham : a ≤ 9223372036854775807) :
    Calls Try.prog 15 #[.pointer (some ⟨g, 0, none⟩), .int .i64 a] w fun e w' => e = .returned (nxV (fr f n.toNat a.toNat).head?) ∧ w = w' := by
  have HS := Aside0.mk (size_calls w base g b n _ h)
  have HG := Aside0.mk h
  obtain ⟨cap, c0, c1, c2⟩ := h.cells
  have HC := Aside0.mk c2
  clear h c2
  obtain ⟨m, rfl⟩ := Int.eq_ofNat_of_zero_le h0
  rw [Int.toNat_natCast]
  go_enter Try.func15, Try.ntmps15
  by_cases ha : a < 0
  all_goals
    go_wp2
    go_step3
    go_wp2
    go_step3
    go_wp2
    go_loop [6] (fun v => ∃ k : Nat, v = .int .i64 k ∧ (k : Int) ≤ 9223372036854775807 ∧ fr f m k = fr f m a.toNat) (fun v => m - (intOf v).toNat)
    case atStart => exact ⟨a.toNat, by congr 1; omega, by omega, rfl⟩
    case round =>
      obtain ⟨k, rfl, hk, hfr⟩ := hrel
      have HF := Aside0.mk hfr
      clear hfr
      by_cases hlt : k < m
      · have HA := Aside0.mk (at_calls w base g b m k f HG.out (by omega) (by omega))
        have hcell : w.cell? ⟨b, k / 8, none⟩ = some (.int .u8 (rd (byts f) ((k : Int) / 8))) := by
          have := (HC.out ((k : Int) / 8) (by omega) (by omega)).1
          rwa [show ((k : Int) / 8).toNat = k / 8 by omega] at this
        obtain ⟨y, hy⟩ : ∃ y, rd (byts f) ((k : Int) / 8) = y := ⟨_, rfl⟩
        rw [hy] at hcell
        have HY := Aside0.mk hy
        clear hy
        by_cases hskip : (k : Int) % 8 = 0 ∧ y = 255
        · obtain ⟨h8, hy⟩ := hskip
          have HS8 := Aside0.mk (full_skip f m k (by omega) h8 (by rw [HY.out, hy]))
          have hyb : (y == 255) = true := by simp [hy]
          clear hy HA HY
          go_wp2_with (go_at_call 20; refine HS.out.mono ?_; rintro e w' ⟨rfl, rfl⟩)
          go_round
          case rel => exact ⟨k + 8, by go_num, by omega, by rw [← HS8.out, HF.out]⟩
          case measure => simp [intOf]; omega
        · have hdec : ((k : Int) % 8 = 0 ∧ (y == 255) = false) ∨ ¬ (k : Int) % 8 = 0 := by
            by_cases h8 : (k : Int) % 8 = 0
            · exact .inl ⟨h8, by simp; intro hy; exact hskip ⟨h8, hy⟩⟩
            · exact .inr h8
          clear hskip HY
          cases hf : f k with
          | true =>
            have HF1 := Aside0.mk (fr_used f m k hf)
            have HA' : Aside0 (Calls Try.prog 31 #[.pointer (some ⟨g, 0, none⟩), .int .i64 k] w fun e w' => e = .returned (.bool true) ∧ w = w') := by
              have := HA.out
              rw [Int.toNat_natCast, hf] at this
              exact ⟨this⟩
            clear hf HA
            rcases hdec with ⟨h8, hyb⟩ | h8
            all_goals
              go_wp2_with (first | (go_at_call 20; refine HS.out.mono ?_; rintro e w' ⟨rfl, rfl⟩) | (go_at_call 31; refine HA'.out.mono ?_; rintro e w' ⟨rfl, rfl⟩))
              go_round
              case rel => exact ⟨k + 1, by go_num, by omega, by rw [← HF1.out, HF.out]⟩
              case measure => simp [intOf]; omega
          | false =>
            have HF1 := Aside0.mk (fr_free f hlt hf)
            have HA' : Aside0 (Calls Try.prog 31 #[.pointer (some ⟨g, 0, none⟩), .int .i64 k] w fun e w' => e = .returned (.bool false) ∧ w = w') := by
              have := HA.out
              rw [Int.toNat_natCast, hf] at this
              exact ⟨this⟩
            clear hf HA
            rcases hdec with ⟨h8, hyb⟩ | h8
            all_goals
              go_wp2_with (first | (go_at_call 20; refine HS.out.mono ?_; rintro e w' ⟨rfl, rfl⟩) | (go_at_call 31; refine HA'.out.mono ?_; rintro e w' ⟨rfl, rfl⟩))
              try rw [Exit.noGoto_ret]
              go_ret2
              exact ⟨by rw [← HF.out, HF1.out]; rfl, rfl⟩
      · have HF1 := Aside0.mk (fr_end f (n := m) (a := k) (by omega))
        go_wp2_with (go_at_call 20; refine HS.out.mono ?_; rintro e w' ⟨rfl, rfl⟩)
        try rw [Exit.noGoto_ret]
        go_ret2
        exact ⟨by rw [← HF.out, HF1.out]; rfl, rfl⟩
end Go.Proofs.Ytmjbjfjmadkjkaa.G
