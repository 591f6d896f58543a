/- The walk of the law GridTakes. -/
import Derived.Test.YtmjbjfjmadkjkaaGBack
import Derived.OpenShut
import Derived.IntWalk
namespace Go.Proofs.Ytmjbjfjmadkjkaa.G
open Go.RowKit Go.Proofs.YtmjbjfjmadkjkaaW.PrintWords Go.Proofs.YtmjbjfjmadkjkaaW.PrintLast Go.Proofs.YtmjbjfjmadkjkaaW.PrintMore Go.Proofs.Ytmjbjfjmadkjkaa.PGridPlays
attribute [local go_sem] max2_int min2_int max_two min_two max_three min_three max_four min_four
set_option linter.unusedSimpArgs false
set_option linter.unusedVariables false

theorem updL_keep (T : List Nat) : ∀ (f : Nat → Bool) (y : Nat), f y = true → updL f T y = true := by
  induction T with
  | nil => exact fun f y h => h
  | cons i r ih =>
    intro f y h
    refine ih _ y ?_
    unfold upd
    by_cases hy : y = i
    · rw [if_pos hy]
    · rw [if_neg hy]; exact h
theorem updL_mem (T : List Nat) : ∀ (f : Nat → Bool) (y : Nat), y ∈ T → updL f T y = true := by
  induction T with
  | nil => exact fun f y h => by cases h
  | cons i r ih =>
    intro f y h
    rcases List.mem_cons.1 h with rfl | h
    · exact updL_keep r _ _ (upd_self _ _ _)
    · exact ih _ y h
theorem cnt_upd (f : Nat → Bool) (m i : Nat) (hi : i < m) (hf : f i = false) : cnt (upd f i true) m = cnt f m + 1 := by
  induction m with
  | zero => omega
  | succ m ih =>
    unfold cnt
    by_cases h : i = m
    · subst h
      rw [cnt_congr (f := upd f i true) (g := f) (fun j hj => upd_ne f true (by omega)), upd_self, hf]
      rfl
    · rw [ih (by omega), upd_ne f true (by omega)]
      omega
theorem cnt_updL (T : List Nat) : ∀ (f : Nat → Bool) (m : Nat), T.Pairwise (· < ·) → (∀ y ∈ T, y < m ∧ f y = false) → cnt (updL f T) m = cnt f m + T.length := by
  induction T with
  | nil => exact fun f m _ _ => rfl
  | cons i r ih =>
    intro f m hp h
    have h1 := h i (List.mem_cons_self ..)
    have hp' := List.pairwise_cons.1 hp
    have := ih (upd f i true) m hp'.2 (fun y hy => by
      have h2 := h y (List.mem_cons_of_mem _ hy)
      have h3 := hp'.1 y hy
      exact ⟨h2.1, by rw [upd_ne f true (by omega)]; exact h2.2⟩)
    show cnt (updL (upd f i true) r) m = _
    rw [this, cnt_upd f m i h1.1 h1.2, List.length_cons]
    omega
theorem lrow {w : World} {base : Nat} {ok : Nat → Prop} {Al : Option Addr} {q cl : Nat} {T : List Nat} (h : Kd.R (Kd.int .i64) 3 w base ok (.slice Al q cl) (ints T)) (hq : T.length = q) (h0 : 0 < q) :
    ∃ g3, Al = some ⟨g3, 0, none⟩ ∧ ∀ j (hj : j < T.length), w.cell? ⟨g3, j, none⟩ = some (.int .i64 (T[j] : Int)) := by
  have hl := (ints_len T).trans hq
  obtain ⟨g3, cap2, ev2, _, _, _⟩ := Kd.R_form h (by rw [hl]; omega)
  rw [hl] at ev2
  injection ev2 with ev3 _ ev4
  subst ev3 ev4
  have h2 : Kd.R (Kd.int .i64) 3 w base ok (.slice (some ⟨g3, 0, none⟩) (ints T).length cl) (ints T) := by rw [hl]; exact h
  refine ⟨g3, rfl, fun j hj => ?_⟩
  have := (Kd.R_cell (enc := Value.int .i64) (h1 := fun _ => rfl) (0 : Int) h2 (j : Int) (by omega) (by rw [hl]; omega)).1
  rw [Int.toNat_natCast] at this
  rw [this]
  have h3 := rd_ints T j hj
  unfold rd at h3
  unfold rdOf
  rw [h3]
theorem fr_sorted (f : Nat → Bool) (n a : Nat) : (fr f n a).Pairwise (· < ·) := by
  unfold fr
  exact List.Pairwise.filter _ List.pairwise_lt_range'

set_option maxRecDepth 100000 in
set_option maxHeartbeats 4000000 in
theorem takes_bad (n : Int) (A : Option Addr) (c : Nat) (l : List Int) (k a : Int) (w : World) (h : n < 0 ∨ 3584 < n) :
    Calls Try.prog 10 #[.int .i64 n, .slice A l.length c, .int .i64 k, .int .i64 a] w fun e w' => e = .returned (.bool true) ∧ Below w.heap.size w w' := by
  have hnil := fun W A l c => run_eql_slice_nil (P := Try.prog) W 24 4 A l c Try.underlying24
  go_enter Try.func10, Try.ntmps10
  go_wp2_with fail
  refine (filled_bad w n A l.length c h).mono ?_
  rintro e w1 ⟨rfl, hb⟩
  have HB := Aside0.mk hb
  clear hb
  go_wp2_with fail
  refine (awake_calls _).mono ?_
  rintro e w2 ⟨rfl, hb⟩
  have HB2 := Aside0.mk (below_then HB.out HB.out.size hb)
  clear hb
  go_wp2
  go_ret
  exact ⟨rfl, HB2.out⟩

set_option maxRecDepth 100000 in
set_option maxHeartbeats 8000000 in
theorem takes_much (n : Int) (A : Option Addr) (c : Nat) (l : List Int) (k a : Int) (w : World) (h0 : 0 ≤ n) (h1 : n ≤ 3584) (hr : Kd.C (Kd.int .i64) w A l.length l) (hk : 4000 < k) :
    Calls Try.prog 10 #[.int .i64 n, .slice A l.length c, .int .i64 k, .int .i64 a] w fun e w' => e = .returned (.bool true) ∧ Below w.heap.size w w' := by
  obtain ⟨m, rfl⟩ := Int.eq_ofNat_of_zero_le h0
  have HC := Aside0.mk hr
  clear hr
  have hnil := fun W A l c => run_eql_slice_nil (P := Try.prog) W 24 4 A l c Try.underlying24
  go_enter Try.func10, Try.ntmps10
  go_wp2_with fail
  refine (filled_ok w m A c l h0 h1 HC.out).mono ?_
  rintro e w1 hfil
  unfold FilledR at hfil
  rw [Int.toNat_natCast] at hfil
  obtain ⟨g, b, v, f, rfl, hg, hv, hb, hl⟩ := hfil
  have HG := Aside0.mk hg
  have HV := Aside0.mk hv
  have HB := Aside0.mk hb
  have HL := Aside0.mk hl
  clear hg hv hb hl
  obtain ⟨Av, cv, ev⟩ := Kd.R_slice HV.out
  rw [hs_len] at ev
  subst ev
  cases Av with
  | none =>
    go_wp2_with fail
    refine (awake_calls _).mono ?_
    rintro e w2 ⟨rfl, hb⟩
    have HB2 := Aside0.mk (below_then HB.out HB.out.size hb)
    clear hb
    go_wp2
    go_ret
    exact ⟨rfl, HB2.out⟩
  | some ad =>
    go_wp2_with fail
    refine (awake_calls _).mono ?_
    rintro e w9 ⟨rfl, hb⟩
    have HB9 := Aside0.mk (below_then HB.out HB.out.size hb)
    clear hb
    go_wp2
    go_ret
    exact ⟨rfl, HB9.out⟩

set_option maxRecDepth 100000 in
set_option maxHeartbeats 8000000 in
theorem takes_refused (n : Int) (A : Option Addr) (c : Nat) (l : List Int) (k a : Int) (w : World) (h0 : 0 ≤ n) (h1 : n ≤ 3584) (hr : Kd.C (Kd.int .i64) w A l.length l) (hk : k < 0) :
    Calls Try.prog 10 #[.int .i64 n, .slice A l.length c, .int .i64 k, .int .i64 a] w fun e w' => e = .returned (.bool true) ∧ Below w.heap.size w w' := by
  obtain ⟨m, rfl⟩ := Int.eq_ofNat_of_zero_le h0
  have HC := Aside0.mk hr
  clear hr
  have hnil := fun W A l c => run_eql_slice_nil (P := Try.prog) W 24 4 A l c Try.underlying24
  go_enter Try.func10, Try.ntmps10
  go_wp2_with fail
  refine (filled_ok w m A c l h0 h1 HC.out).mono ?_
  rintro e w1 hfil
  unfold FilledR at hfil
  rw [Int.toNat_natCast] at hfil
  obtain ⟨g, b, v, f, rfl, hg, hv, hb, hl⟩ := hfil
  have HG := Aside0.mk hg
  have HV := Aside0.mk hv
  have HB := Aside0.mk hb
  have HL := Aside0.mk hl
  clear hg hv hb hl
  obtain ⟨Av, cv, ev⟩ := Kd.R_slice HV.out
  rw [hs_len] at ev
  subst ev
  cases Av with
  | none =>
    go_wp2_with fail
    refine (awake_calls _).mono ?_
    rintro e w2 ⟨rfl, hb⟩
    have HB2 := Aside0.mk (below_then HB.out HB.out.size hb)
    clear hb
    go_wp2
    go_ret
    exact ⟨rfl, HB2.out⟩
  | some ad =>
    obtain ⟨s, hss⟩ : ∃ s, s = strOfNums (byts f) := ⟨_, rfl⟩
    have hbo := body_calls _ _ g b m _ HG.out
    rw [← hss] at hbo
    have HBo := Aside0.mk hbo
    clear hbo hss
    go_wp2_with fail
    refine HBo.out.mono ?_
    rintro e w2 ⟨rfl, rfl⟩
    go_wp2_with fail
    refine (take_neg _ g k a hk).mono ?_
    rintro e w2 ⟨rfl, rfl⟩
    go_wp2_with fail
    refine HBo.out.mono ?_
    rintro e w2 ⟨rfl, rfl⟩
    go_wp2_with fail
    refine (awake_calls _).mono ?_
    rintro e w9 ⟨rfl, hb⟩
    have HB9 := Aside0.mk (below_then HB.out HB.out.size hb)
    clear hb
    go_wp2
    go_ret
    exact ⟨rfl, HB9.out⟩

set_option maxRecDepth 100000 in
set_option maxHeartbeats 4000000 in
theorem takes_ok (n : Int) (A : Option Addr) (c : Nat) (l : List Int) (k a : Int) (w : World) (h0 : 0 ≤ n) (h1 : n ≤ 3584) (hr : Kd.C (Kd.int .i64) w A l.length l) (hk0 : 0 ≤ k) (hk1 : k ≤ 4000) (ha : a ≤ 9223372036854775807) :
    Calls Try.prog 10 #[.int .i64 n, .slice A l.length c, .int .i64 k, .int .i64 a] w fun e w' => e = .returned (.bool true) ∧ Below w.heap.size w w' := by
  obtain ⟨q, rfl⟩ := Int.eq_ofNat_of_zero_le hk0
  obtain ⟨m, rfl⟩ := Int.eq_ofNat_of_zero_le h0
  have HC := Aside0.mk hr
  clear hr
  have hnil := fun W A l c => run_eql_slice_nil (P := Try.prog) W 24 4 A l c Try.underlying24
  go_enter Try.func10, Try.ntmps10
  go_wp2_with fail
  refine (filled_ok w m A c l h0 h1 HC.out).mono ?_
  rintro e w1 hfil
  unfold FilledR at hfil
  rw [Int.toNat_natCast] at hfil
  obtain ⟨g, b, v, f, rfl, hg, hv, hb, hl⟩ := hfil
  have HG := Aside0.mk hg
  have HV := Aside0.mk hv
  have HB := Aside0.mk hb
  have HL := Aside0.mk hl
  clear hg hv hb hl
  obtain ⟨Av, cv, ev⟩ := Kd.R_slice HV.out
  rw [hs_len] at ev
  subst ev
  cases Av with
  | none =>
    go_wp2_with fail
    refine (awake_calls _).mono ?_
    rintro e w2 ⟨rfl, hb⟩
    have HB2 := Aside0.mk (below_then HB.out HB.out.size hb)
    clear hb
    go_wp2
    go_ret
    exact ⟨rfl, HB2.out⟩
  | some ad =>
    obtain ⟨s, hss⟩ : ∃ s, s = strOfNums (byts f) := ⟨_, rfl⟩
    have hbo := body_calls _ _ g b m _ HG.out
    rw [← hss] at hbo
    have HBo := Aside0.mk hbo
    have HSS := Aside0.mk hss
    clear hbo hss
    go_wp2_with fail
    refine HBo.out.mono ?_
    rintro e w2 ⟨rfl, rfl⟩
    go_wp2_with fail
    refine (take_calls _ _ g b m q a f HG.out h0 h1 hk0 (by omega) ha).mono ?_
    rintro e w2 htk
    unfold TakeR at htk
    rw [Int.toNat_natCast, Int.toNat_natCast] at htk
    rcases htk with ⟨hlen, v, rfl, hv, hg2, hw2⟩ | ⟨_, rfl, hb⟩
    · obtain ⟨T, hT⟩ : ∃ T, T = (fr f m a.toNat).take q := ⟨_, rfl⟩
      have hTl : T.length = q := by rw [hT, List.length_take]; omega
      have hTs : T.Pairwise (· < ·) := by rw [hT]; exact (fr_sorted f m a.toNat).sublist (List.take_sublist _ _)
      have hTm : ∀ y ∈ T, (a.toNat ≤ y ∧ y < m ∧ f y = false) := fun y hy => fr_mem (List.mem_of_mem_take (by rw [hT] at hy; exact hy))
      rw [← hT] at hv hg2
      obtain ⟨Al, cl, el⟩ := Kd.R_slice hv
      rw [ints_len, hTl] at el
      subst el
      have hvl := (Kd.R_reads' hv).2.2
      have HV2 := Aside0.mk (HG.out.keeps hw2 HV.out (by decide))
      have HG2 := Aside0.mk hg2
      have HB2 := Aside0.mk (HG.out.under HB.out HB.out.size hw2)
      have HL2 := Aside0.mk hv
      have HTl := Aside0.mk hTl
      have HTs := Aside0.mk hTs
      have HTm := Aside0.mk hTm
      clear hv hg2 hw2 hTl hTs hTm hT hlen hvl
      go_wp2_with fail
      go_loopw [14] (fun i wr => ∃ (j : Nat), j ≤ q ∧ i = .int .i64 j ∧ Aside0 (Gr wr w.heap.size g b m (byts (updL f T))) ∧ Aside0 (Kd.R Kd.bool 4 wr w.heap.size (fun _ => True) (.slice (some ad) m cv) (hs f m)) ∧ Aside0 (Kd.R (Kd.int .i64) 3 wr w1.heap.size (fun _ => True) (.slice Al q cl) (ints T)) ∧ Aside0 (Below w.heap.size w wr)) (fun i _ => q - (intOf i).toNat)
      case atStart => exact ⟨0, by omega, rfl, HG2, HV2, HL2, HB2⟩
      case round =>
        obtain ⟨j, hj, rfl, HGr, HVr, HLr, HBr⟩ := hrel
        by_cases hlt : j < q
        · have htl : j < T.length := by rw [HTl.out]; exact hlt
          obtain ⟨y, hy⟩ : ∃ y, y = T[j] := ⟨_, rfl⟩
          have hmem := HTm.out y (by rw [hy]; exact List.getElem_mem htl)
          obtain ⟨hya, hym, hyf⟩ := hmem
          have hay : a ≤ (y : Int) := by omega
          obtain ⟨g3, eg3, hlc⟩ := lrow HLr.out HTl.out (by omega)
          subst eg3
          have hcell := hlc j htl
          rw [← hy] at hcell
          obtain ⟨hb, ev3, hcb, hfb, _⟩ := hrow HVr.out (y : Int) (by omega) (by omega)
          injection ev3 with ev3
          subst ev3
          rw [Int.toNat_natCast, hyf] at hcb
          have hH : ∀ nq, Calls Try.prog 17 #[.pointer (some ⟨g, 0, none⟩), .int .i64 y] (wr.drewN nq) fun e w' => e = .returned (.bool true) ∧ w' = wr.drewN nq := fun nq => by
            have := Has_in (wr.drewN nq) _ g b m (y : Int) _ (HGr.out.drewN nq) (by omega)
            rw [Int.toNat_natCast, updL_mem T f y (by rw [hy]; exact List.getElem_mem htl), show inB (m : Int) (y : Int) = true by simp [inB]; omega] at this
            exact this.mono fun e w' ⟨h1, h2⟩ => ⟨h1, h2.symm⟩
          have HH := Aside0.mk hH
          have hb1 : decide ((y : Int) < 0) = false := decide_eq_false (by omega)
          have hb2 : decide ((m : Int) ≤ (y : Int)) = false := by simp; omega
          have hb2' : decide (m ≤ y) = false := by simp; omega
          have hb3 : decide ((y : Int) < a) = false := by simp; omega
          by_cases hj0 : j = 0
          · subst hj0
            have hb4 : decide ((0 : Int) < 0) = false := rfl
            clear hlc hyf hfb hH hya hy htl
            go_wp2_with fail
            go_quiet ((go_at_call 17; exact Calls.quiet_of_same (HH.out _)))
            go_wp2_with fail
            go_roundw
            case rel => exact ⟨1, by omega, by go_num, ⟨HGr.out.drewN _⟩, ⟨Kd.R_drewN HVr.out _⟩, ⟨Kd.R_drewN HLr.out _⟩, ⟨pw_below_drewN HBr.out _⟩⟩
            case measure => simp [intOf]; omega
          · have hpl : j - 1 < T.length := by omega
            obtain ⟨z, hz⟩ : ∃ z, z = T[j - 1] := ⟨_, rfl⟩
            have hzy : z < y := by
              rw [hz, hy]
              exact List.pairwise_iff_getElem.1 HTs.out (j - 1) j hpl htl (by omega)
            have hcell2 := hlc (j - 1) hpl
            rw [← hz] at hcell2
            have hj1 : 0 < j := by omega
            have hz0 : 0 ≤ (j : Int) - 1 := by omega
            have hz2 : (j : Int) - 1 < q := by omega
            clear hlc hyf hfb hH hya hy hz htl hpl hj0
            have hz1 : ((j : Int) - 1).toNat = j - 1 := by omega
            have hb4 : decide ((0 : Int) < (j : Int)) = true := by simp; omega
            have hb4' : decide (0 < j) = true := by simp; omega
            have hb5 : decide ((y : Int) ≤ (z : Int)) = false := by simp; omega
            have hb5' : decide (y ≤ z) = false := by simp; omega
            have hw1 : IntKind.i64.wrap ((j : Int) - 1) = (j : Int) - 1 := IntWalk.i64_in _ (by omega)
            go_wp2_with fail
            go_quiet ((go_at_call 17; exact Calls.quiet_of_same (HH.out _)))
            clear hz1 hw1
            go_wp2_with fail
            go_roundw
            case rel => exact ⟨j + 1, by omega, by go_num, ⟨HGr.out.drewN _⟩, ⟨Kd.R_drewN HVr.out _⟩, ⟨Kd.R_drewN HLr.out _⟩, ⟨pw_below_drewN HBr.out _⟩⟩
            case measure => simp [intOf]; omega
        · have hjq : j = q := by omega
          subst hjq
          have hcn := cnt_updL T f m HTs.out (fun y hy => (HTm.out y hy).2)
          have hcm := cnt_le f m
          have hcnt := count_calls _ _ g b m _ HGr.out h0 h1
          have hrc := refcount_calls _ _ _ _ m cv f HVr.out (by omega)
          rw [Int.toNat_natCast, hcn, HTl.out] at hcnt
          obtain ⟨x, hx⟩ : ∃ x, x = cnt f m := ⟨_, rfl⟩
          rw [← hx] at hcnt hrc hcm
          rw [show ((x + j : Nat) : Int) = (x : Int) + (j : Int) by omega] at hcnt
          have HCN := Aside0.mk hcnt
          have HRC := Aside0.mk hrc
          clear hcnt hrc hcn hx
          go_wp2_with fail
          refine HCN.out.mono ?_
          rintro e w6 ⟨rfl, rfl⟩
          go_wp2_with fail
          refine HRC.out.mono ?_
          rintro e w6 ⟨rfl, hb⟩
          have HB6 := Aside0.mk (below_then HBr.out HBr.out.size hb)
          clear hb
          go_wp2_with fail
          refine (awake_calls _).mono ?_
          rintro e w9 ⟨rfl, hb⟩
          have HB9 := Aside0.mk (below_then HB6.out HB6.out.size hb)
          clear hb
          go_wp2
          go_ret
          exact ⟨rfl, HB9.out⟩
    · have hbo := body_calls _ _ g b m _ (HG.out.below hb)
      rw [← HSS.out] at hbo
      have HBo2 := Aside0.mk hbo
      have HB2 := Aside0.mk (below_then HB.out HB.out.size hb)
      clear hbo hb
      go_wp2_with fail
      refine HBo2.out.mono ?_
      rintro e w3 ⟨rfl, rfl⟩
      go_wp2_with fail
      refine (awake_calls _).mono ?_
      rintro e w9 ⟨rfl, hb⟩
      have HB9 := Aside0.mk (below_then HB2.out HB2.out.size hb)
      clear hb
      go_wp2
      go_ret
      exact ⟨rfl, HB9.out⟩

theorem gridTakes_walk (n : Int) (A : Option Addr) (c : Nat) (l : List Int) (k a : Int) (w : World) (_hn : (Lit.int .i64 n).wf = true) (hr : Kd.C (Kd.int .i64) w A l.length l) (_hc : l.length ≤ c) (_hy : l.length * 8 ≤ 140737488351232) (_hw : ∀ x ∈ l, (Lit.int .i64 x).wf = true) (_hk : (Lit.int .i64 k).wf = true) (ha : (Lit.int .i64 a).wf = true) :
    Calls Try.prog 10 #[.int .i64 n, .slice A l.length c, .int .i64 k, .int .i64 a] w fun e w' => e = .returned (.bool true) ∧ Below w.heap.size w w' := by
  have ha2 := (bounds_i64 ha).2
  by_cases h : 0 ≤ n ∧ n ≤ 3584
  · by_cases h1 : 4000 < k
    · exact takes_much n A c l k a w h.1 h.2 hr h1
    · by_cases h2 : k < 0
      · exact takes_refused n A c l k a w h.1 h.2 hr h2
      · exact takes_ok n A c l k a w h.1 h.2 hr (by omega) (by omega) ha2
  · exact takes_bad n A c l k a w (by omega)
end Go.Proofs.Ytmjbjfjmadkjkaa.G
