/- The walks of the laws GridNews and GridNobody. -/
import Derived.Test.YtmjbjfjmadkjkaaGFilled
namespace Go.Proofs.Ytmjbjfjmadkjkaa.G
open Go.RowKit Go.Proofs.YtmjbjfjmadkjkaaW.PrintWords Go.Proofs.YtmjbjfjmadkjkaaW.PrintLast Go.Proofs.YtmjbjfjmadkjkaaW.PrintMore Go.Proofs.Ytmjbjfjmadkjkaa.PGridPlays
attribute [local go_sem] max2_int min2_int max_two min_two max_three min_three max_four min_four
set_option linter.unusedSimpArgs false
set_option linter.unusedVariables false

theorem cnt_nothing (n : Nat) : cnt (fun _ => false) n = 0 := by
  induction n with
  | zero => rfl
  | succ n ih => unfold cnt; rw [ih]; rfl
theorem lim_self {f : Nat → Bool} {n : Nat} (h : ∀ i, n ≤ i → f i = false) : byts (lim f n) = byts f := by
  refine byts_congr fun i _ => ?_
  unfold lim
  by_cases hi : i < n
  · simp [hi]
  · rw [h i (by omega)]; simp
/-- The document's body of a grid. -/
theorem refbody_calls (w : World) (base : Nat) (ok : Nat → Prop) (Av : Option Addr) (m cv : Nat) (f : Nat → Bool) (h : Kd.R Kd.bool 4 w base ok (.slice Av m cv) (hs f m)) (hm : m ≤ 3584) (hf : ∀ i, m ≤ i → f i = false) :
    Calls Try.prog 23 #[.slice Av m cv] w fun e w' => e = .returned (.string (strOfNums (byts f))) ∧ Below w.heap.size w w' := by
  obtain ⟨_, h2, h3⟩ := Kd.R_reads' h
  have hl := hs_len f m
  have := grapnelref08_Body.calls (m + 1) Av cv (hs f m) _ w h3 (by omega) (body_f f m hm)
  rw [lim_self hf, hl] at this
  exact this
theorem refcount_calls (w : World) (base : Nat) (ok : Nat → Prop) (Av : Option Addr) (m cv : Nat) (f : Nat → Bool) (h : Kd.R Kd.bool 4 w base ok (.slice Av m cv) (hs f m)) (hm : m ≤ 3584) :
    Calls Try.prog 26 #[.slice Av m cv] w fun e w' => e = .returned (.int .i64 (cnt f m)) ∧ Below w.heap.size w w' := by
  obtain ⟨_, h2, h3⟩ := Kd.R_reads' h
  have hl := hs_len f m
  have := grapnelref08_Count.calls (m + 1) Av cv (hs f m) _ w h3 (by omega) (count_f f m hm)
  rw [hl] at this
  exact this.mono fun e w' ⟨h1, h2⟩ => ⟨h1, h2.below⟩
theorem reffree_calls (w : World) (base : Nat) (ok : Nat → Prop) (Av : Option Addr) (m cv : Nat) (f : Nat → Bool) (a q : Int) (h : Kd.R Kd.bool 4 w base ok (.slice Av m cv) (hs f m)) (hm : m ≤ 3584) :
    Calls Try.prog 16 #[.slice Av m cv, .int .i64 a, .int .i64 q] w fun e w' => ∃ v, e = .returned v ∧ Kd.R (Kd.int .i64) 3 w' w.heap.size (fun _ => True) v (ints ((fr f m a.toNat).take q.toNat)) ∧ Below w.heap.size w w' := by
  obtain ⟨_, h2, h3⟩ := Kd.R_reads' h
  have hl := hs_len f m
  have := grapnelref08_Free.calls (m + 1) Av cv (hs f m) a q _ w h3 (by omega) (free_f f m a q hm)
  rw [hl] at this
  exact this

set_option maxRecDepth 100000 in
set_option maxHeartbeats 4000000 in
theorem news_bad (w : World) (n : Int) (h : n < 0 ∨ 3584 < n) : Calls Try.prog 5 #[.int .i64 n] w fun e w' => e = .returned (.bool true) ∧ Below w.heap.size w w' := by
  have HN := Aside0.mk (new_no w n h)
  have HR := Aside0.mk (refnew_no w n h)
  clear h
  go_enter Try.func5, Try.ntmps5
  go_wp2_with fail
  refine HN.out.mono ?_
  rintro e w1 ⟨rfl, rfl⟩
  go_wp2_with fail
  refine HR.out.mono ?_
  rintro e w1 ⟨v, rfl, hb⟩
  have HB := Aside0.mk hb
  clear hb
  go_wp2_with fail
  refine (awake_calls _).mono ?_
  rintro e w2 ⟨rfl, hb⟩
  have HB2 := Aside0.mk (below_then HB.out HB.out.size hb)
  clear hb
  go_wp2
  go_ret
  exact ⟨rfl, HB2.out⟩

set_option maxRecDepth 100000 in
set_option maxHeartbeats 4000000 in
theorem news_ok (w : World) (n : Int) (h0 : 0 ≤ n) (h1 : n ≤ 3584) : Calls Try.prog 5 #[.int .i64 n] w fun e w' => e = .returned (.bool true) ∧ Below w.heap.size w w' := by
  obtain ⟨m, rfl⟩ := Int.eq_ofNat_of_zero_le h0
  go_enter Try.func5, Try.ntmps5
  go_wp2_with fail
  refine (new_yes w m h0 h1).mono ?_
  rintro e w1 ⟨g, b, rfl, hg, hb⟩
  have HG := Aside0.mk hg
  have HB := Aside0.mk hb
  clear hg hb
  go_wp2_with fail
  refine (refnew_yes w1 m h0 h1).mono ?_
  rw [Int.toNat_natCast]
  rintro e w2 ⟨v, rfl, hv, hb⟩
  have HV := Aside0.mk (Kd.R_lower hv HB.out.size)
  have HG2 := Aside0.mk (HG.out.below hb)
  have HB2 := Aside0.mk (below_then HB.out HB.out.size hb)
  clear hv hb
  obtain ⟨Av, cv, ev⟩ := Kd.R_slice HV.out
  rw [hs_len] at ev
  subst ev
  go_wp2_with fail
  refine (size_calls _ _ g b m _ HG2.out).mono ?_
  rintro e w3 ⟨rfl, rfl⟩
  go_wp2_with fail
  have hcnt := count_calls _ _ g b m _ HG2.out h0 h1
  rw [cnt_nothing] at hcnt
  refine hcnt.mono ?_
  rintro e w3 ⟨rfl, rfl⟩
  clear hcnt
  go_wp2_with fail
  refine (body_calls _ _ g b m _ HG2.out).mono ?_
  rintro e w3 ⟨rfl, rfl⟩
  go_wp2_with fail
  refine (refbody_calls _ _ _ _ m _ _ HV.out (by omega) (fun _ _ => rfl)).mono ?_
  rintro e w3 ⟨rfl, hb⟩
  have HB3 := Aside0.mk (below_then HB2.out HB2.out.size hb)
  clear hb
  generalize strOfNums (byts fun _ => false) = s
  go_wp2_with fail
  refine (awake_calls _).mono ?_
  rintro e w2 ⟨rfl, hb⟩
  have HB4 := Aside0.mk (below_then HB3.out HB3.out.size hb)
  clear hb
  go_wp2
  go_ret
  exact ⟨rfl, HB4.out⟩

theorem gridNews_walk (n : Int) (w : World) (_hn : (Lit.int .i64 n).wf = true) : Calls Try.prog 5 #[.int .i64 n] w fun e w' => e = .returned (.bool true) ∧ Below w.heap.size w w' := by
  by_cases h : 0 ≤ n ∧ n ≤ 3584
  · exact news_ok w n h.1 h.2
  · exact news_bad w n (by omega)
end Go.Proofs.Ytmjbjfjmadkjkaa.G
