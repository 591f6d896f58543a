/- A grid in memory: its block, its row of bytes; what keeps it. -/
import Derived.Test.YtmjbjfjmadkjkaaPGridPlaysx2
import Derived.Handy
import Derived.Test.YtmjbjfjmadkjkaaGPure
namespace Go.Proofs.Ytmjbjfjmadkjkaa.G
open Go.RowKit Go.Proofs.YtmjbjfjmadkjkaaW.PrintWords Go.Proofs.YtmjbjfjmadkjkaaW.PrintLast Go.Proofs.YtmjbjfjmadkjkaaW.PrintMore
set_option linter.unusedSimpArgs false
set_option linter.unusedVariables false

/-- A grid of n at block g of w, its bytes bs in block b; both from base on. -/
def Gr (w : World) (base g b : Nat) (n : Int) (bs : List Int) : Prop :=
  ∃ cap, w.heap[g]? = some (.cells #[.int .i64 n, .slice (some ⟨b, 0, none⟩) 448 cap] 60 (0, 0)) ∧ base ≤ g ∧
    (Kd.int .u8).R 5 w base (fun _ => True) (.slice (some ⟨b, 0, none⟩) 448 cap) bs

section
variable {w w1 : World} {base g b : Nat} {n : Int} {bs : List Int}
theorem Gr.len (h : Gr w base g b n bs) : bs.length = 448 := by
  obtain ⟨cap, h1, h2, h3⟩ := h
  exact (Kd.R_reads' h3).1.symm
theorem Gr.ne (h : Gr w base g b n bs) : g ≠ b := by
  obtain ⟨cap, h1, h2, h3⟩ := h
  have := Kd.R_ne h3 h1 (by decide)
  intro e
  exact this (by rw [e]; rfl)
theorem Gr.grown {row : Option Nat} (h : Gr w base g b n bs) (hg : w.grownBy w1 row) (h1 : some g ≠ row) (h2 : some b ≠ row) : Gr w1 base g b n bs := by
  obtain ⟨cap, e1, e2, e3⟩ := h
  refine ⟨cap, blk_grown e1 hg h1, e2, ?_⟩
  have := Kd.R_of_own (h1 := fun _ => rfl) (ok := fun k => k = b) (Kd.own_of_R e3) (fun k hk => by simpa [Value.ownBlock] using hk.symm)
  exact Kd.R_mono (Kd.R_grown this hg (fun k hk => by rw [hk]; exact h2)) (fun _ _ => trivial)
theorem Gr.below (h : Gr w base g b n bs) (hb : Below w.heap.size w w1) : Gr w1 base g b n bs := h.grown (grown_of_below hb none) (by simp) (by simp)
theorem Gr.alloc (h : Gr w base g b n bs) (o : Obj) : Gr (w.alloc o) base g b n bs := h.below (below_alloc (Below.refl _ _) o)
theorem Gr.drewN (h : Gr w base g b n bs) (m : Nat) : Gr (w.drewN m) base g b n bs := h
theorem Gr.drew (h : Gr w base g b n bs) : Gr w.drew base g b n bs := h
theorem Gr.lower {base' : Nat} (h : Gr w base g b n bs) (hb : base' ≤ base) : Gr w base' g b n bs := by
  obtain ⟨cap, e1, e2, e3⟩ := h
  exact ⟨cap, e1, by omega, Kd.R_lower e3 hb⟩
end

set_option maxHeartbeats 400000 in
theorem size_calls (w : World) (base g b : Nat) (n : Int) (bs : List Int) (h : Gr w base g b n bs) :
    Calls Try.prog 20 #[.pointer (some ⟨g, 0, none⟩)] w fun e w' => e = .returned (.int .i64 n) ∧ w = w' := by
  obtain ⟨cap, e1, e2, e3⟩ := h
  have c0 : w.cell? ⟨g, 0, none⟩ = some (.int .i64 n) := (blk_cell e1 0).trans rfl
  clear e1 e3
  go_enter Try.func20, Try.ntmps20
  go_wp2
  go_ret
  exact ⟨rfl, rfl⟩

theorem size_nil (w : World) :
    Calls Try.prog 20 #[.pointer none] w fun e w' => e = .returned (.int .i64 0) ∧ w = w' := by
  go_enter Try.func20, Try.ntmps20
  go_wp2
  go_ret
  exact ⟨rfl, rfl⟩

def inB (n i : Int) : Bool := decide (0 ≤ i) && decide (i < n)

set_option maxHeartbeats 400000 in
theorem has_calls (w : World) (base g b : Nat) (n i : Int) (bs : List Int) (h : Gr w base g b n bs) :
    Calls Try.prog 30 #[.pointer (some ⟨g, 0, none⟩), .int .i64 i] w fun e w' => e = .returned (.bool (inB n i)) ∧ w = w' := by
  obtain ⟨cap, e1, e2, e3⟩ := h
  have c0 : w.cell? ⟨g, 0, none⟩ = some (.int .i64 n) := (blk_cell e1 0).trans rfl
  clear e1 e3
  unfold inB
  by_cases h1 : 0 ≤ i
  · by_cases h2 : i < n
    · go_enter Try.func30, Try.ntmps30
      go_wp2
      go_ret
      exact ⟨by simp [h1, h2], rfl⟩
    · go_enter Try.func30, Try.ntmps30
      go_wp2
      go_ret
      exact ⟨by simp [h1, h2], rfl⟩
  · go_enter Try.func30, Try.ntmps30
    go_wp2
    go_ret
    exact ⟨by simp; omega, rfl⟩

theorem has_nil (w : World) (i : Int) :
    Calls Try.prog 30 #[.pointer none, .int .i64 i] w fun e w' => e = .returned (.bool false) ∧ w = w' := by
  go_enter Try.func30, Try.ntmps30
  go_wp2
  go_ret
  exact ⟨rfl, rfl⟩

/-- The cells of a grid, as a walk wants them. -/
theorem Gr.cells {w : World} {base g b : Nat} {n : Int} {bs : List Int} (h : Gr w base g b n bs) : ∃ cap, w.cell? ⟨g, 0, none⟩ = some (.int .i64 n) ∧ w.cell? ⟨g, 1, none⟩ = some (.slice (some ⟨b, 0, none⟩) 448 cap) ∧
    (∀ i : Int, 0 ≤ i → i < 448 → w.cell? ⟨b, i.toNat, none⟩ = some (.int .u8 (rd bs i)) ∧ w.frozen? ⟨b, i.toNat, none⟩ = false) := by
  have hl := h.len
  obtain ⟨cap, e1, e2, e3⟩ := h
  refine ⟨cap, (blk_cell e1 0).trans rfl, (blk_cell e1 1).trans rfl, fun i h0 h1 => ?_⟩
  rw [← hl] at e3
  have := Kd.R_cell (0 : Int) e3 i h0 (by omega)
  exact this

set_option maxHeartbeats 400000 in
theorem at_calls (w : World) (base g b : Nat) (n i : Int) (f : Nat → Bool) (h : Gr w base g b n (byts f)) (h0 : 0 ≤ i) (h1 : i < 3584) :
    Calls Try.prog 31 #[.pointer (some ⟨g, 0, none⟩), .int .i64 i] w fun e w' => e = .returned (.bool (f i.toNat)) ∧ w = w' := by
  obtain ⟨cap, c0, c1, c2⟩ := h.cells
  obtain ⟨c3, _⟩ := c2 (i / 8) (by omega) (by omega)
  clear c2 h
  go_enter Try.func31, Try.ntmps31
  go_wp2
  go_ret
  exact ⟨congrArg (fun q => Ending.returned (.bool q)) (at_val f i h0 h1), rfl⟩

theorem Gr.put {w : World} {base g b : Nat} {n : Int} {bs : List Int} (h : Gr w base g b n bs) (i x : Int) (h0 : 0 ≤ i) (h1 : i < 448) :
    Gr (w.setCell ⟨b, i.toNat, none⟩ (.int .u8 x)) base g b n (bs.set i.toNat x) ∧ w.grownBy (w.setCell ⟨b, i.toNat, none⟩ (.int .u8 x)) (some b) := by
  have hl := h.len
  have hne := h.ne
  obtain ⟨cap, e1, e2, e3⟩ := h
  rw [← hl] at e3
  obtain ⟨r1, r2⟩ := Kd.R_put e3 i x
  rw [hl] at r1
  exact ⟨⟨cap, blk_far e1 hne _, e2, r1⟩, r2⟩

theorem grown_drew {w w1 : World} {row : Option Nat} (h : w.grownBy w1 row) : w.grownBy w1.drew row := ⟨h.os, h.tape, h.output, h.size, h.block⟩

set_option maxHeartbeats 1000000 in
theorem put_set (w : World) (base g b : Nat) (n i : Int) (f : Nat → Bool) (h : Gr w base g b n (byts f)) (h0 : 0 ≤ i) (h1 : i < n) (hn : n ≤ 3584) :
    Calls Try.prog 14 #[.pointer (some ⟨g, 0, none⟩), .int .i64 i, .bool true] w fun e w' => e = .returned (.int .i64 0) ∧ Gr w' base g b n (byts (upd f i.toNat true)) ∧ w.grownBy w' (some b) := by
  have hput := h.put (i / 8) (Go.bits .or .u8 (rd (byts f) (i / 8)) (2 ^ (i % 8).toNat % 256)) (by omega) (by omega)
  rw [set_val f i h0 (by omega)] at hput
  have HP := Aside0.mk hput
  clear hput
  have hhas := has_calls w base g b n i _ h
  rw [show inB n i = true by simp [inB, h0, h1]] at hhas
  have HH := Aside0.mk hhas
  clear hhas
  obtain ⟨cap, c0, c1, c2⟩ := h.cells
  obtain ⟨c3, c4⟩ := c2 (i / 8) (by omega) (by omega)
  clear c2 h
  go_enter Try.func14, Try.ntmps14
  go_wp2_with (go_at_call 30; refine HH.out.mono ?_; rintro e w' ⟨rfl, rfl⟩)
  go_region
  all_goals (go_wp2; go_ret; exact ⟨rfl, HP.out.1.drew, grown_drew HP.out.2⟩)

set_option maxHeartbeats 1000000 in
theorem put_clr (w : World) (base g b : Nat) (n i : Int) (f : Nat → Bool) (h : Gr w base g b n (byts f)) (h0 : 0 ≤ i) (h1 : i < n) (hn : n ≤ 3584) :
    Calls Try.prog 14 #[.pointer (some ⟨g, 0, none⟩), .int .i64 i, .bool false] w fun e w' => e = .returned (.int .i64 0) ∧ Gr w' base g b n (byts (upd f i.toNat false)) ∧ w.grownBy w' (some b) := by
  have hput := h.put (i / 8) (Go.bits .andNot .u8 (rd (byts f) (i / 8)) (2 ^ (i % 8).toNat % 256)) (by omega) (by omega)
  rw [clr_val f i h0 (by omega)] at hput
  have HP := Aside0.mk hput
  clear hput
  have hhas := has_calls w base g b n i _ h
  rw [show inB n i = true by simp [inB, h0, h1]] at hhas
  have HH := Aside0.mk hhas
  clear hhas
  obtain ⟨cap, c0, c1, c2⟩ := h.cells
  obtain ⟨c3, c4⟩ := c2 (i / 8) (by omega) (by omega)
  clear c2 h
  go_enter Try.func14, Try.ntmps14
  go_wp2_with (go_at_call 30; refine HH.out.mono ?_; rintro e w' ⟨rfl, rfl⟩)
  go_region
  all_goals (go_wp2; go_ret; exact ⟨rfl, HP.out.1.drew, grown_drew HP.out.2⟩)

theorem put_out (w : World) (base g b : Nat) (n i : Int) (u : Bool) (bs : List Int) (h : Gr w base g b n bs) (hi : inB n i = false) :
    Calls Try.prog 14 #[.pointer (some ⟨g, 0, none⟩), .int .i64 i, .bool u] w fun e w' => e = .returned (.int .i64 2) ∧ w = w' := by
  have hhas := has_calls w base g b n i _ h
  rw [hi] at hhas
  have HH := Aside0.mk hhas
  clear hhas h hi
  go_enter Try.func14, Try.ntmps14
  go_wp2_with (go_at_call 30; refine HH.out.mono ?_; rintro e w' ⟨rfl, rfl⟩)
  go_ret
  exact ⟨rfl, rfl⟩

theorem put_nil (w : World) (i : Int) (u : Bool) :
    Calls Try.prog 14 #[.pointer none, .int .i64 i, .bool u] w fun e w' => e = .returned (.int .i64 2) ∧ w = w' := by
  have HH := Aside0.mk (has_nil w i)
  go_enter Try.func14, Try.ntmps14
  go_wp2_with (go_at_call 30; refine HH.out.mono ?_; rintro e w' ⟨rfl, rfl⟩)
  go_ret
  exact ⟨rfl, rfl⟩

/-- Put, whatever the place and the word: the error; the grid behind it. -/
def putE (n i : Int) : Int := if inB n i = true then 0 else 2
def putF (n i : Int) (u : Bool) (f : Nat → Bool) : Nat → Bool := if inB n i = true then upd f i.toNat u else f
theorem put_calls (w : World) (base g b : Nat) (n i : Int) (u : Bool) (f : Nat → Bool) (h : Gr w base g b n (byts f)) (hn : n ≤ 3584) :
    Calls Try.prog 14 #[.pointer (some ⟨g, 0, none⟩), .int .i64 i, .bool u] w fun e w' => e = .returned (.int .i64 (putE n i)) ∧ Gr w' base g b n (byts (putF n i u f)) ∧ w.grownBy w' (some b) := by
  by_cases hi : inB n i = true
  · have h' := hi
    simp only [inB, Bool.and_eq_true, decide_eq_true_eq] at h'
    unfold putE putF
    rw [if_pos hi, if_pos hi]
    cases u with
    | true => exact put_set w base g b n i f h h'.1 h'.2 hn
    | false => exact put_clr w base g b n i f h h'.1 h'.2 hn
  · have hf : inB n i = false := by simpa using hi
    unfold putE putF
    rw [if_neg hi, if_neg hi]
    refine (put_out w base g b n i u _ h hf).mono ?_
    rintro e w' ⟨rfl, rfl⟩
    exact ⟨rfl, h, ⟨rfl, rfl, rfl, Nat.le_refl _, fun _ _ _ => rfl⟩⟩

theorem Has_in (w : World) (base g b : Nat) (n i : Int) (f : Nat → Bool) (h : Gr w base g b n (byts f)) (hn : n ≤ 3584) :
    Calls Try.prog 17 #[.pointer (some ⟨g, 0, none⟩), .int .i64 i] w fun e w' => e = .returned (.bool (inB n i && f i.toNat)) ∧ w = w' := by
  by_cases hi : inB n i = true
  · have h' := hi
    simp only [inB, Bool.and_eq_true, decide_eq_true_eq] at h'
    have hhas := has_calls w base g b n i _ h
    rw [hi] at hhas
    have HH := Aside0.mk hhas
    have HA := Aside0.mk (at_calls w base g b n i f h h'.1 (by omega))
    clear hhas h
    rw [hi]
    clear hi h'
    go_enter Try.func17, Try.ntmps17
    go_wp2_with (first | (go_at_call 30; refine HH.out.mono ?_; rintro e w' ⟨rfl, rfl⟩) | (go_at_call 31; refine HA.out.mono ?_; rintro e w' ⟨rfl, rfl⟩))
    go_ret
    exact ⟨by simp, rfl⟩
  · have hf : inB n i = false := by simpa using hi
    have hhas := has_calls w base g b n i _ h
    rw [hf] at hhas
    have HH := Aside0.mk hhas
    rw [hf]
    clear hhas h hi hf
    go_enter Try.func17, Try.ntmps17
    go_wp2_with (go_at_call 30; refine HH.out.mono ?_; rintro e w' ⟨rfl, rfl⟩)
    go_ret
    exact ⟨by simp, rfl⟩

theorem Has_nil (w : World) (i : Int) :
    Calls Try.prog 17 #[.pointer none, .int .i64 i] w fun e w' => e = .returned (.bool false) ∧ w = w' := by
  have HH := Aside0.mk (has_nil w i)
  go_enter Try.func17, Try.ntmps17
  go_wp2_with (go_at_call 30; refine HH.out.mono ?_; rintro e w' ⟨rfl, rfl⟩)
  go_ret
  exact ⟨rfl, rfl⟩
end Go.Proofs.Ytmjbjfjmadkjkaa.G
