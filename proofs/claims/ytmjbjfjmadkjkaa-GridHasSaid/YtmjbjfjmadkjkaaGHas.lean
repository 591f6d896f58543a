/- The walk of the law GridHas. -/
import Derived.Test.YtmjbjfjmadkjkaaGNews
namespace Go.Proofs.Ytmjbjfjmadkjkaa.G
open Go.RowKit Go.Proofs.YtmjbjfjmadkjkaaW.PrintWords Go.Proofs.YtmjbjfjmadkjkaaW.PrintLast Go.Proofs.YtmjbjfjmadkjkaaW.PrintMore Go.Proofs.Ytmjbjfjmadkjkaa.PGridPlays
attribute [local go_sem] max2_int min2_int max_two min_two max_three min_three max_four min_four
set_option linter.unusedSimpArgs false
set_option linter.unusedVariables false

set_option maxRecDepth 100000 in
set_option maxHeartbeats 4000000 in
theorem has_bad (n : Int) (A : Option Addr) (c : Nat) (l : List Int) (q : Int) (w : World) (h : n < 0 ∨ 3584 < n) :
    Calls Try.prog 4 #[.int .i64 n, .slice A l.length c, .int .i64 q] w fun e w' => e = .returned (.bool true) ∧ Below w.heap.size w w' := by
  have hnil := fun W A l c => run_eql_slice_nil (P := Try.prog) W 24 4 A l c Try.underlying24
  go_enter Try.func4, Try.ntmps4
  go_wp2_with fail
  refine (filled_bad w n A l.length c h).mono ?_
  rintro e w1 ⟨rfl, hb⟩
  have HB := Aside0.mk hb
  clear hb
  go_wp2_with fail
  refine (awake_calls _).mono ?_
  rintro e w2 ⟨rfl, hb⟩
  have HB2 := Aside0.mk (below_then HB.out HB.out.size hb)
  clear hb
  go_wp2
  go_ret
  exact ⟨rfl, HB2.out⟩

set_option maxRecDepth 100000 in
set_option maxHeartbeats 4000000 in
theorem has_ok (n : Int) (A : Option Addr) (c : Nat) (l : List Int) (q : Int) (w : World) (h0 : 0 ≤ n) (h1 : n ≤ 3584) (hr : Kd.C (Kd.int .i64) w A l.length l) :
    Calls Try.prog 4 #[.int .i64 n, .slice A l.length c, .int .i64 q] w fun e w' => e = .returned (.bool true) ∧ Below w.heap.size w w' := by
  obtain ⟨m, rfl⟩ := Int.eq_ofNat_of_zero_le h0
  have HC := Aside0.mk hr
  clear hr
  have hnil := fun W A l c => run_eql_slice_nil (P := Try.prog) W 24 4 A l c Try.underlying24
  go_enter Try.func4, Try.ntmps4
  go_wp2_with fail
  refine (filled_ok w m A c l h0 h1 HC.out).mono ?_
  rintro e w1 hfil
  unfold FilledR at hfil
  rw [Int.toNat_natCast] at hfil
  obtain ⟨g, b, v, f, rfl, hg, hv, hb, hl⟩ := hfil
  have HG := Aside0.mk hg
  have HV := Aside0.mk hv
  have HB := Aside0.mk hb
  have HL := Aside0.mk hl
  clear hg hv hb hl
  obtain ⟨Av, cv, ev⟩ := Kd.R_slice HV.out
  rw [hs_len] at ev
  subst ev
  cases Av with
  | none =>
    go_wp2_with fail
    refine (awake_calls _).mono ?_
    rintro e w2 ⟨rfl, hb⟩
    have HB2 := Aside0.mk (below_then HB.out HB.out.size hb)
    clear hb
    go_wp2
    go_ret
    exact ⟨rfl, HB2.out⟩
  | some ad =>
    by_cases hin : inB m q = true
    · have h' := hin
      simp only [inB, Bool.and_eq_true, decide_eq_true_eq] at h'
      obtain ⟨hq0, hq1⟩ := h'
      obtain ⟨hb, ev3, hcb, hfb, _⟩ := hrow HV.out q hq0 hq1
      injection ev3 with ev3
      subst ev3
      have hH := Has_in _ _ g b m q f HG.out (by omega)
      rw [hin, Bool.true_and] at hH
      have HH := Aside0.mk hH
      clear hH hin hfb
      generalize f q.toNat = u at HH hcb
      go_wp2_with fail
      refine HH.out.mono ?_
      rintro e w2 ⟨rfl, rfl⟩
      go_wp2_with fail
      refine (awake_calls _).mono ?_
      rintro e w9 ⟨rfl, hb⟩
      have HB9 := Aside0.mk (below_then HB.out HB.out.size hb)
      clear hb
      go_wp2
      go_ret
      exact ⟨rfl, HB9.out⟩
    · have hH := Has_in _ _ g b m q f HG.out (by omega)
      have hin' : inB m q = false := by simpa using hin
      rw [hin', Bool.false_and] at hH
      have HH := Aside0.mk hH
      have hdec : q < 0 ∨ (0 ≤ q ∧ ¬ q < m) := by
        simp only [inB, Bool.and_eq_true, decide_eq_true_eq] at hin
        omega
      clear hH hin hin'
      rcases hdec with hd | ⟨hd1, hd2⟩
      all_goals
        go_wp2_with fail
        refine HH.out.mono ?_
        rintro e w2 ⟨rfl, rfl⟩
        go_wp2_with fail
        refine (awake_calls _).mono ?_
        rintro e w9 ⟨rfl, hb⟩
        have HB9 := Aside0.mk (below_then HB.out HB.out.size hb)
        clear hb
        go_wp2
        go_ret
        exact ⟨rfl, HB9.out⟩

theorem gridHas_walk (n : Int) (A : Option Addr) (c : Nat) (l : List Int) (q : Int) (w : World) (_hn : (Lit.int .i64 n).wf = true) (hr : Kd.C (Kd.int .i64) w A l.length l) (_hc : l.length ≤ c) (_hy : l.length * 8 ≤ 140737488351232) (_hw : ∀ x ∈ l, (Lit.int .i64 x).wf = true) (_hq : (Lit.int .i64 q).wf = true) :
    Calls Try.prog 4 #[.int .i64 n, .slice A l.length c, .int .i64 q] w fun e w' => e = .returned (.bool true) ∧ Below w.heap.size w w' := by
  by_cases h : 0 ≤ n ∧ n ≤ 3584
  · exact has_ok n A c l q w h.1 h.2 hr
  · exact has_bad n A c l q w (by omega)
end Go.Proofs.Ytmjbjfjmadkjkaa.G
