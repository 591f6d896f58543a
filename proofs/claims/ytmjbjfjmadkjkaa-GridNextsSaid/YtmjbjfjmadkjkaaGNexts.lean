/- The walk of the law GridNexts. -/
import Derived.Test.YtmjbjfjmadkjkaaGNews
import Derived.OpenShut
namespace Go.Proofs.Ytmjbjfjmadkjkaa.G
open Go.RowKit Go.Proofs.YtmjbjfjmadkjkaaW.PrintWords Go.Proofs.YtmjbjfjmadkjkaaW.PrintLast Go.Proofs.YtmjbjfjmadkjkaaW.PrintMore Go.Proofs.Ytmjbjfjmadkjkaa.PGridPlays
attribute [local go_sem] max2_int min2_int max_two min_two max_three min_three max_four min_four
set_option linter.unusedSimpArgs false
set_option linter.unusedVariables false

theorem wf_hi {x : Int} (h : (Lit.int .i64 x).wf = true) : x ≤ 9223372036854775807 := (bounds_i64 h).2

set_option maxRecDepth 100000 in
set_option maxHeartbeats 4000000 in
theorem nexts_bad (n : Int) (A : Option Addr) (c : Nat) (l : List Int) (u : Bool) (q : Int) (w : World) (h : n < 0 ∨ 3584 < n) :
    Calls Try.prog 3 #[.int .i64 n, .slice A l.length c, .bool u, .int .i64 q] w fun e w' => e = .returned (.bool true) ∧ Below w.heap.size w w' := by
  have hnil := fun W A l c => run_eql_slice_nil (P := Try.prog) W 24 4 A l c Try.underlying24
  go_enter Try.func3, Try.ntmps3
  go_wp2_with fail
  refine (filled_bad w n A l.length c h).mono ?_
  rintro e w1 ⟨rfl, hb⟩
  have HB := Aside0.mk hb
  clear hb
  go_wp2_with fail
  refine (awake_calls _).mono ?_
  rintro e w2 ⟨rfl, hb⟩
  have HB2 := Aside0.mk (below_then HB.out HB.out.size hb)
  clear hb
  go_wp2
  go_ret
  exact ⟨rfl, HB2.out⟩

set_option maxRecDepth 100000 in
set_option maxHeartbeats 4000000 in
theorem nexts_few (n : Int) (A : Option Addr) (c : Nat) (l : List Int) (q : Int) (w : World) (h0 : 0 ≤ n) (h1 : n ≤ 3584) (hr : Kd.C (Kd.int .i64) w A l.length l) (hq : q ≤ 9223372036854775807) :
    Calls Try.prog 3 #[.int .i64 n, .slice A l.length c, .bool false, .int .i64 q] w fun e w' => e = .returned (.bool true) ∧ Below w.heap.size w w' := by
  obtain ⟨m, rfl⟩ := Int.eq_ofNat_of_zero_le h0
  have HC := Aside0.mk hr
  clear hr
  have hnil := fun W A l c => run_eql_slice_nil (P := Try.prog) W 24 4 A l c Try.underlying24
  go_enter Try.func3, Try.ntmps3
  go_wp2_with fail
  refine (filled_ok w m A c l h0 h1 HC.out).mono ?_
  rintro e w1 hfil
  unfold FilledR at hfil
  rw [Int.toNat_natCast] at hfil
  obtain ⟨g, b, v, f, rfl, hg, hv, hb, hl⟩ := hfil
  have HG := Aside0.mk hg
  have HV := Aside0.mk hv
  have HB := Aside0.mk hb
  have HL := Aside0.mk hl
  clear hg hv hb hl
  obtain ⟨Av, cv, ev⟩ := Kd.R_slice HV.out
  rw [hs_len] at ev
  subst ev
  cases Av with
  | none =>
    go_wp2_with fail
    refine (awake_calls _).mono ?_
    rintro e w2 ⟨rfl, hb⟩
    have HB2 := Aside0.mk (below_then HB.out HB.out.size hb)
    clear hb
    go_wp2
    go_ret
    exact ⟨rfl, HB2.out⟩
  | some ad =>
    obtain ⟨wr, hwr⟩ : ∃ wr, wr = w1 := ⟨_, rfl⟩
    obtain ⟨f2, hf2⟩ : ∃ f2, f2 = f := ⟨_, rfl⟩
    subst hwr hf2
    have HG2 := HG
    have HV2 := HV
    have HB2 := HB
    by_cases hm : 0 < m
    all_goals
      go_wp2_with fail
      refine wp_loop_rounds 1 ?_
      rw [rounds_succ]
      have hn := next_calls _ _ g b m q f2 HG2.out h0 h1 hq
      rw [Int.toNat_natCast] at hn
      have hfr := reffree_calls _ _ _ _ m _ f2 q 1 HV2.out (by omega)
      rw [show (1 : Int).toNat = 1 from rfl] at hfr
      cases hL : fr f2 m q.toNat with
      | nil =>
        rw [hL] at hn hfr
        have hn' : Aside0 (Calls Try.prog 15 #[.pointer (some ⟨g, 0, none⟩), .int .i64 q] wr fun e w' => e = .returned (.tuple #[.int .i64 0, .bool false]) ∧ wr = w') := ⟨hn⟩
        have HF := Aside0.mk hfr
        clear hn hfr hL
        go_wp2_with fail
        refine hn'.out.mono ?_
        rintro e w3 ⟨rfl, rfl⟩
        go_wp2_with fail
        refine HF.out.mono ?_
        rintro e w3 ⟨v, rfl, hv, hb⟩
        obtain ⟨Av3, cv3, ev3⟩ := Kd.R_slice hv
        have e4 : (ints (List.take 1 ([] : List Nat))).length = 0 := rfl
        rw [e4] at ev3
        subst ev3
        have HB3 := Aside0.mk (below_then HB2.out HB2.out.size hb)
        clear hv hb e4
        go_wp2_with fail
        refine (awake_calls _).mono ?_
        rintro e w9 ⟨rfl, hb⟩
        have HB9 := Aside0.mk (below_then HB3.out HB3.out.size hb)
        clear hb
        go_wp2
        go_ret
        exact ⟨rfl, HB9.out⟩
      | cons i r =>
        rw [hL] at hn hfr
        have hn' : Aside0 (Calls Try.prog 15 #[.pointer (some ⟨g, 0, none⟩), .int .i64 q] wr fun e w' => e = .returned (.tuple #[.int .i64 i, .bool true]) ∧ wr = w') := ⟨hn⟩
        have HF := Aside0.mk hfr
        clear hn hfr hL
        go_wp2_with fail
        refine hn'.out.mono ?_
        rintro e w3 ⟨rfl, rfl⟩
        go_wp2_with fail
        refine HF.out.mono ?_
        rintro e w3 ⟨v, rfl, hv, hb⟩
        obtain ⟨g3, cv3, ev3, _, _, _⟩ := Kd.R_form hv (by show 0 < 1; omega)
        have e4 : (ints (List.take 1 (i :: r))).length = 1 := rfl
        have hcc := (Kd.R_cell (enc := Value.int .i64) (h1 := fun _ => rfl) (0 : Int) (by rw [← ev3]; exact hv) 0 (by omega) (by rw [e4]; omega)).1
        rw [e4] at ev3
        subst ev3
        have hcell : w3.cell? ⟨g3, 0, none⟩ = some (.int .i64 i) := hcc
        have HB3 := Aside0.mk (below_then HB2.out HB2.out.size hb)
        clear hv hb e4 hcc
        go_wp2_with fail
        refine (awake_calls _).mono ?_
        rintro e w9 ⟨rfl, hb⟩
        have HB9 := Aside0.mk (below_then HB3.out HB3.out.size hb)
        clear hb
        go_wp2
        go_ret
        exact ⟨rfl, HB9.out⟩

set_option maxRecDepth 100000 in
set_option maxHeartbeats 8000000 in
theorem nexts_full (n : Int) (A : Option Addr) (c : Nat) (l : List Int) (q : Int) (w : World) (h0 : 0 ≤ n) (h1 : n ≤ 3584) (hr : Kd.C (Kd.int .i64) w A l.length l) (hq : q ≤ 9223372036854775807) :
    Calls Try.prog 3 #[.int .i64 n, .slice A l.length c, .bool true, .int .i64 q] w fun e w' => e = .returned (.bool true) ∧ Below w.heap.size w w' := by
  obtain ⟨m, rfl⟩ := Int.eq_ofNat_of_zero_le h0
  have HC := Aside0.mk hr
  clear hr
  have hnil := fun W A l c => run_eql_slice_nil (P := Try.prog) W 24 4 A l c Try.underlying24
  go_enter Try.func3, Try.ntmps3
  go_wp2_with fail
  refine (filled_ok w m A c l h0 h1 HC.out).mono ?_
  rintro e w1 hfil
  unfold FilledR at hfil
  rw [Int.toNat_natCast] at hfil
  obtain ⟨g, b, v, f, rfl, hg, hv, hb, hl⟩ := hfil
  have HG := Aside0.mk hg
  have HV := Aside0.mk hv
  have HB := Aside0.mk hb
  have HL := Aside0.mk hl
  clear hg hv hb hl
  obtain ⟨Av, cv, ev⟩ := Kd.R_slice HV.out
  rw [hs_len] at ev
  subst ev
  cases Av with
  | none =>
    go_wp2_with fail
    refine (awake_calls _).mono ?_
    rintro e w2 ⟨rfl, hb⟩
    have HB2 := Aside0.mk (below_then HB.out HB.out.size hb)
    clear hb
    go_wp2
    go_ret
    exact ⟨rfl, HB2.out⟩
  | some ad =>
    go_wp2_with fail
    go_loopw [11] (fun i wr => ∃ (k : Nat) (f2 : Nat → Bool), k ≤ m ∧ i = .int .i64 k ∧ Aside0 (Gr wr w.heap.size g b m (byts f2)) ∧ Aside0 (Kd.R Kd.bool 4 wr w.heap.size (fun _ => True) (.slice (some ad) m cv) (hs f2 m)) ∧ Aside0 (Below w.heap.size w wr)) (fun i _ => m - (intOf i).toNat)
    case atStart => exact ⟨0, f, by omega, rfl, HG, HV, HB⟩
    case round =>
      obtain ⟨k, f2, hk, rfl, HG2, HV2, HB2⟩ := hrel
      by_cases hlt : k < m
      · have hdec : (¬ (k : Int) % 9 = 8) ∨ ((k : Int) % 9 = 8 ∧ k < 64) ∨ ((k : Int) % 9 = 8 ∧ ¬ k < 64) := by omega
        rcases hdec with hd | ⟨hd1, hd2⟩ | ⟨hd1, hd2⟩
        · have HP := Aside0.mk (put_set wr _ g b m (k : Int) f2 HG2.out (by omega) (by omega) h1)
          go_wp2_with fail
          refine HP.out.mono ?_
          rintro e w3 ⟨rfl, hg3, hw3⟩
          have HG3 := Aside0.mk hg3
          have HB3 := Aside0.mk (HG2.out.under HB2.out HB2.out.size hw3)
          have HV3 := Aside0.mk (HG2.out.keeps hw3 HV2.out (by decide))
          clear hg3 hw3
          obtain ⟨hb, ev3, hcb, hfb, hput⟩ := hrow HV3.out (k : Int) (by omega) (by omega)
          injection ev3 with ev3
          subst ev3
          rw [Int.toNat_natCast] at hcb hfb hput HG3
          have HPu := Aside0.mk (hput true)
          clear hput
          go_wp2
          go_roundw
          case rel => exact ⟨k + 1, upd f2 k true, by omega, by go_num, ⟨HG3.out.kept HV3.out (by decide) (by decide) HPu.out.2⟩, ⟨HPu.out.1⟩, ⟨HB3.out.grown HPu.out.2 HB3.out.size (fun k hk => by injection hk with hk; rw [← hk]; exact Kd.R_base HV3.out hb rfl)⟩⟩
          case measure => simp [intOf]; omega
        · have HP := Aside0.mk (put_set wr _ g b m (k : Int) f2 HG2.out (by omega) (by omega) h1)
          go_wp2_with fail
          refine HP.out.mono ?_
          rintro e w3 ⟨rfl, hg3, hw3⟩
          have HG3 := Aside0.mk hg3
          have HB3 := Aside0.mk (HG2.out.under HB2.out HB2.out.size hw3)
          have HV3 := Aside0.mk (HG2.out.keeps hw3 HV2.out (by decide))
          clear hg3 hw3
          obtain ⟨hb, ev3, hcb, hfb, hput⟩ := hrow HV3.out (k : Int) (by omega) (by omega)
          injection ev3 with ev3
          subst ev3
          rw [Int.toNat_natCast] at hcb hfb hput HG3
          have HPu := Aside0.mk (hput true)
          clear hput
          go_wp2
          go_roundw
          case rel => exact ⟨k + 1, upd f2 k true, by omega, by go_num, ⟨HG3.out.kept HV3.out (by decide) (by decide) HPu.out.2⟩, ⟨HPu.out.1⟩, ⟨HB3.out.grown HPu.out.2 HB3.out.size (fun k hk => by injection hk with hk; rw [← hk]; exact Kd.R_base HV3.out hb rfl)⟩⟩
          case measure => simp [intOf]; omega
        · go_wp2_with fail
          go_roundw
          case rel => exact ⟨k + 1, f2, by omega, by go_num, HG2, HV2, HB2⟩
          case measure => simp [intOf]; omega
      · have hkm : k = m := by omega
        subst hkm
        have hn := next_calls _ _ g b k q f2 HG2.out h0 h1 hq
        rw [Int.toNat_natCast] at hn
        have hfr := reffree_calls _ _ _ _ k _ f2 q 1 HV2.out (by omega)
        rw [show (1 : Int).toNat = 1 from rfl] at hfr
        cases hL : fr f2 k q.toNat with
        | nil =>
          rw [hL] at hn hfr
          have hn' : Aside0 (Calls Try.prog 15 #[.pointer (some ⟨g, 0, none⟩), .int .i64 q] wr fun e w' => e = .returned (.tuple #[.int .i64 0, .bool false]) ∧ wr = w') := ⟨hn⟩
          have HF := Aside0.mk hfr
          clear hn hfr hL
          go_wp2_with fail
          refine hn'.out.mono ?_
          rintro e w3 ⟨rfl, rfl⟩
          go_wp2_with fail
          refine HF.out.mono ?_
          rintro e w3 ⟨v, rfl, hv, hb⟩
          obtain ⟨Av3, cv3, ev3⟩ := Kd.R_slice hv
          have e4 : (ints (List.take 1 ([] : List Nat))).length = 0 := rfl
          rw [e4] at ev3
          subst ev3
          have HB3 := Aside0.mk (below_then HB2.out HB2.out.size hb)
          clear hv hb e4
          go_wp2_with fail
          refine (awake_calls _).mono ?_
          rintro e w9 ⟨rfl, hb⟩
          have HB9 := Aside0.mk (below_then HB3.out HB3.out.size hb)
          clear hb
          go_wp2
          go_ret
          exact ⟨rfl, HB9.out⟩
        | cons i r =>
          rw [hL] at hn hfr
          have hn' : Aside0 (Calls Try.prog 15 #[.pointer (some ⟨g, 0, none⟩), .int .i64 q] wr fun e w' => e = .returned (.tuple #[.int .i64 i, .bool true]) ∧ wr = w') := ⟨hn⟩
          have HF := Aside0.mk hfr
          clear hn hfr hL
          go_wp2_with fail
          refine hn'.out.mono ?_
          rintro e w3 ⟨rfl, rfl⟩
          go_wp2_with fail
          refine HF.out.mono ?_
          rintro e w3 ⟨v, rfl, hv, hb⟩
          obtain ⟨g3, cv3, ev3, _, _, _⟩ := Kd.R_form hv (by show 0 < 1; omega)
          have e4 : (ints (List.take 1 (i :: r))).length = 1 := rfl
          have hcc := (Kd.R_cell (enc := Value.int .i64) (h1 := fun _ => rfl) (0 : Int) (by rw [← ev3]; exact hv) 0 (by omega) (by rw [e4]; omega)).1
          rw [e4] at ev3
          subst ev3
          have hcell : w3.cell? ⟨g3, 0, none⟩ = some (.int .i64 i) := hcc
          have HB3 := Aside0.mk (below_then HB2.out HB2.out.size hb)
          clear hv hb e4 hcc
          go_wp2_with fail
          refine (awake_calls _).mono ?_
          rintro e w9 ⟨rfl, hb⟩
          have HB9 := Aside0.mk (below_then HB3.out HB3.out.size hb)
          clear hb
          go_wp2
          go_ret
          exact ⟨rfl, HB9.out⟩

theorem gridNexts_walk (n : Int) (A : Option Addr) (c : Nat) (l : List Int) (u : Bool) (q : Int) (w : World) (_hn : (Lit.int .i64 n).wf = true) (hr : Kd.C (Kd.int .i64) w A l.length l) (_hc : l.length ≤ c) (_hy : l.length * 8 ≤ 140737488351232) (_hw : ∀ x ∈ l, (Lit.int .i64 x).wf = true) (hq : (Lit.int .i64 q).wf = true) :
    Calls Try.prog 3 #[.int .i64 n, .slice A l.length c, .bool u, .int .i64 q] w fun e w' => e = .returned (.bool true) ∧ Below w.heap.size w w' := by
  have hq2 := wf_hi hq
  by_cases h : 0 ≤ n ∧ n ≤ 3584
  · cases u with
    | true => exact nexts_full n A c l q w h.1 h.2 hr hq2
    | false => exact nexts_few n A c l q w h.1 h.2 hr hq2
  · exact nexts_bad n A c l u q w (by omega)
end Go.Proofs.Ytmjbjfjmadkjkaa.G
