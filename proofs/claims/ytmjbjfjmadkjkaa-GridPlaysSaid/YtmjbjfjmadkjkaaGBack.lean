/- What a body's bits are; the walks of the laws GridBack, GridCopies, GridNobody. -/
import Derived.Test.YtmjbjfjmadkjkaaGNews
namespace Go.Proofs.Ytmjbjfjmadkjkaa.G
open Go.RowKit Go.Proofs.YtmjbjfjmadkjkaaW.PrintWords Go.Proofs.YtmjbjfjmadkjkaaW.PrintLast Go.Proofs.YtmjbjfjmadkjkaaW.PrintMore Go.Proofs.Ytmjbjfjmadkjkaa.PGridPlays
attribute [local go_sem] max2_int min2_int max_two min_two max_three min_three max_four min_four
set_option linter.unusedSimpArgs false
set_option linter.unusedVariables false

theorem bitsOf_str (f : Nat → Bool) (i : Nat) (h : i < 3584) : bitsOf (strOfNums (byts f)) i = f i := by
  unfold bitsOf
  rw [strOfNums_data]
  have hl : i / 8 < (byts f).length := by rw [byts_length]; omega
  have e1 : ((byts f).map fun n => UInt8.ofNat n.toNat).getD (i / 8) 0 = UInt8.ofNat (B8 fun k => f (8 * (i / 8) + k)) := by
    have : i / 8 < 448 := by omega
    simp [byts, List.getD_eq_getElem?_getD, this]
  rw [e1]
  have hlt := B8_lt (fun k => f (8 * (i / 8) + k))
  rw [UInt8.toNat_ofNat', Nat.mod_eq_of_lt hlt, B8_bit _ _ (Nat.mod_lt _ (by omega))]
  rw [show 8 * (i / 8) + i % 8 = i by omega]
  cases f i <;> rfl
theorem str_bitsOf (s : ByteArray) (h : s.size = 448) : strOfNums (byts (bitsOf s)) = s := by
  rw [← byts_bitsOf s h]
  have : (bytesOf s).map (fun n => UInt8.ofNat n.toNat) = s.data.toList := by
    simp [bytesOf, Function.comp_def]
  unfold strOfNums
  rw [this]
theorem cnt_congr {f g : Nat → Bool} {n : Nat} (h : ∀ i, i < n → f i = g i) : cnt f n = cnt g n := by
  induction n with
  | zero => rfl
  | succ n ih => unfold cnt; rw [ih (fun i hi => h i (by omega)), h n (by omega)]
theorem Gr.lt {w : World} {base g b : Nat} {n : Int} {bs : List Int} (h : Gr w base g b n bs) : g < w.heap.size ∧ b < w.heap.size ∧ base ≤ g ∧ base ≤ b := by
  have hb := h.bge
  obtain ⟨cap, e1, e2, e3⟩ := h
  exact ⟨blk_lt e1, Kd.R_lt e3 b rfl, e2, hb⟩

set_option maxRecDepth 100000 in
set_option maxHeartbeats 4000000 in
theorem back_bad (n : Int) (A : Option Addr) (c : Nat) (l : List Int) (w : World) (h : n < 0 ∨ 3584 < n) :
    Calls Try.prog 7 #[.int .i64 n, .slice A l.length c] w fun e w' => e = .returned (.bool true) ∧ Below w.heap.size w w' := by
  have hnil := fun W A l c => run_eql_slice_nil (P := Try.prog) W 24 4 A l c Try.underlying24
  go_enter Try.func7, Try.ntmps7
  go_wp2_with fail
  refine (filled_bad w n A l.length c h).mono ?_
  rintro e w1 ⟨rfl, hb⟩
  have HB := Aside0.mk hb
  clear hb
  go_wp2_with fail
  refine (awake_calls _).mono ?_
  rintro e w2 ⟨rfl, hb⟩
  have HB2 := Aside0.mk (below_then HB.out HB.out.size hb)
  clear hb
  go_wp2
  go_ret
  exact ⟨rfl, HB2.out⟩

set_option maxRecDepth 100000 in
set_option maxHeartbeats 4000000 in
theorem back_ok (n : Int) (A : Option Addr) (c : Nat) (l : List Int) (w : World) (h0 : 0 ≤ n) (h1 : n ≤ 3584) (hr : Kd.C (Kd.int .i64) w A l.length l) :
    Calls Try.prog 7 #[.int .i64 n, .slice A l.length c] w fun e w' => e = .returned (.bool true) ∧ Below w.heap.size w w' := by
  obtain ⟨m, rfl⟩ := Int.eq_ofNat_of_zero_le h0
  have HC := Aside0.mk hr
  clear hr
  have hnil := fun W A l c => run_eql_slice_nil (P := Try.prog) W 24 4 A l c Try.underlying24
  go_enter Try.func7, Try.ntmps7
  go_wp2_with fail
  refine (filled_ok w m A c l h0 h1 HC.out).mono ?_
  rintro e w1 hfil
  unfold FilledR at hfil
  rw [Int.toNat_natCast] at hfil
  obtain ⟨g, b, v, f, rfl, hg, hv, hb, hl⟩ := hfil
  have HG := Aside0.mk hg
  have HV := Aside0.mk hv
  have HB := Aside0.mk hb
  have HL := Aside0.mk hl
  clear hg hv hb hl
  obtain ⟨Av, cv, ev⟩ := Kd.R_slice HV.out
  rw [hs_len] at ev
  subst ev
  cases Av with
  | none =>
    go_wp2_with fail
    refine (awake_calls _).mono ?_
    rintro e w2 ⟨rfl, hb⟩
    have HB2 := Aside0.mk (below_then HB.out HB.out.size hb)
    clear hb
    go_wp2
    go_ret
    exact ⟨rfl, HB2.out⟩
  | some ad =>
    have hs8 : (strOfNums (byts f)).size = 448 := by rw [strOfNums_size, byts_length]
    have hof := of_ok w1 (strOfNums (byts f)) m h0 h1 hs8
    have hbo := body_calls _ _ g b m _ HG.out
    obtain ⟨s, hss⟩ : ∃ s, s = strOfNums (byts f) := ⟨_, rfl⟩
    have hbits : ∀ i, i < 3584 → bitsOf s i = f i := fun i hi => by rw [hss]; exact bitsOf_str f i hi
    rw [← hss] at hof hbo
    have HO := Aside0.mk hof
    have HBo := Aside0.mk hbo
    have HBits := Aside0.mk hbits
    have HSS := Aside0.mk hss
    clear hs8 hof hbo hbits hss
    go_wp2_with fail
    refine HBo.out.mono ?_
    rintro e w2 ⟨rfl, rfl⟩
    go_wp2_with fail
    refine HO.out.mono ?_
    rintro e w2 hofr
    unfold OfR at hofr
    rw [Int.toNat_natCast] at hofr
    obtain ⟨hb, hcase⟩ := hofr
    rcases hcase with ⟨⟨i, hi1, hi2, hi3⟩, he⟩ | ⟨_, g2, b2, he, hg2⟩
    · exact absurd hi3 (by rw [HBits.out i hi2, HL.out i hi1]; simp)
    · subst he
      rw [byts_congr (fun i hi => HBits.out i hi)] at hg2
      have HG2 := Aside0.mk hg2
      have HGo := Aside0.mk (HG.out.below hb)
      have HVo := Aside0.mk (Kd.R_below HV.out hb)
      have HBo2 := Aside0.mk (below_then HB.out HB.out.size hb)
      have hbo1 := body_calls _ _ g2 b2 m _ HG2.out
      have hbo2 := body_calls _ _ g b m _ HGo.out
      rw [← HSS.out] at hbo1 hbo2
      have HBo3 := Aside0.mk hbo1
      have HBo4 := Aside0.mk hbo2
      clear hb hg2 hbo1 hbo2
      go_wp2_with fail
      refine HBo3.out.mono ?_
      rintro e w3 ⟨rfl, rfl⟩
      go_wp2_with fail
      refine HBo4.out.mono ?_
      rintro e w3 ⟨rfl, rfl⟩
      go_wp2_with fail
      refine (size_calls _ _ g2 b2 m _ HG2.out).mono ?_
      rintro e w3 ⟨rfl, rfl⟩
      go_wp2_with fail
      refine (count_calls _ _ g2 b2 m f HG2.out h0 h1).mono ?_
      rw [Int.toNat_natCast]
      rintro e w3 ⟨rfl, rfl⟩
      go_wp2_with fail
      refine (refcount_calls _ _ _ _ m cv f HVo.out (by omega)).mono ?_
      rintro e w3 ⟨rfl, hb⟩
      have HB3 := Aside0.mk (below_then HBo2.out HBo2.out.size hb)
      clear hb
      generalize cnt f m = q
      go_wp2_with fail
      refine (awake_calls _).mono ?_
      rintro e w9 ⟨rfl, hb⟩
      have HB9 := Aside0.mk (below_then HB3.out HB3.out.size hb)
      clear hb
      go_wp2
      go_ret
      exact ⟨rfl, HB9.out⟩

theorem gridBack_walk (n : Int) (A : Option Addr) (c : Nat) (l : List Int) (w : World) (_hn : (Lit.int .i64 n).wf = true) (hr : Kd.C (Kd.int .i64) w A l.length l) (_hc : l.length ≤ c) (_hy : l.length * 8 ≤ 140737488351232) (_hw : ∀ x ∈ l, (Lit.int .i64 x).wf = true) :
    Calls Try.prog 7 #[.int .i64 n, .slice A l.length c] w fun e w' => e = .returned (.bool true) ∧ Below w.heap.size w w' := by
  by_cases h : 0 ≤ n ∧ n ≤ 3584
  · exact back_ok n A c l w h.1 h.2 hr
  · exact back_bad n A c l w (by omega)

set_option maxRecDepth 100000 in
set_option maxHeartbeats 4000000 in
theorem copies_bad (n : Int) (A : Option Addr) (c : Nat) (l : List Int) (q : Int) (w : World) (h : n < 0 ∨ 3584 < n) :
    Calls Try.prog 8 #[.int .i64 n, .slice A l.length c, .int .i64 q] w fun e w' => e = .returned (.bool true) ∧ Below w.heap.size w w' := by
  have hnil := fun W A l c => run_eql_slice_nil (P := Try.prog) W 24 4 A l c Try.underlying24
  go_enter Try.func8, Try.ntmps8
  go_wp2_with fail
  refine (filled_bad w n A l.length c h).mono ?_
  rintro e w1 ⟨rfl, hb⟩
  have HB := Aside0.mk hb
  clear hb
  go_wp2_with fail
  refine (awake_calls _).mono ?_
  rintro e w2 ⟨rfl, hb⟩
  have HB2 := Aside0.mk (below_then HB.out HB.out.size hb)
  clear hb
  go_wp2
  go_ret
  exact ⟨rfl, HB2.out⟩

set_option maxRecDepth 100000 in
set_option maxHeartbeats 8000000 in
theorem copies_ok (n : Int) (A : Option Addr) (c : Nat) (l : List Int) (q : Int) (w : World) (h0 : 0 ≤ n) (h1 : n ≤ 3584) (hr : Kd.C (Kd.int .i64) w A l.length l) :
    Calls Try.prog 8 #[.int .i64 n, .slice A l.length c, .int .i64 q] w fun e w' => e = .returned (.bool true) ∧ Below w.heap.size w w' := by
  obtain ⟨m, rfl⟩ := Int.eq_ofNat_of_zero_le h0
  have HC := Aside0.mk hr
  clear hr
  have hnil := fun W A l c => run_eql_slice_nil (P := Try.prog) W 24 4 A l c Try.underlying24
  go_enter Try.func8, Try.ntmps8
  go_wp2_with fail
  refine (filled_ok w m A c l h0 h1 HC.out).mono ?_
  rintro e w1 hfil
  unfold FilledR at hfil
  rw [Int.toNat_natCast] at hfil
  obtain ⟨g, b, v, f, rfl, hg, hv, hb, hl⟩ := hfil
  have HG := Aside0.mk hg
  have HV := Aside0.mk hv
  have HB := Aside0.mk hb
  have HL := Aside0.mk hl
  clear hg hv hb hl
  obtain ⟨Av, cv, ev⟩ := Kd.R_slice HV.out
  rw [hs_len] at ev
  subst ev
  cases Av with
  | none =>
    go_wp2_with fail
    refine (awake_calls _).mono ?_
    rintro e w2 ⟨rfl, hb⟩
    have HB2 := Aside0.mk (below_then HB.out HB.out.size hb)
    clear hb
    go_wp2
    go_ret
    exact ⟨rfl, HB2.out⟩
  | some ad =>
    go_wp2_with fail
    refine (copy_calls _ _ g b m _ HG.out).mono ?_
    rintro e w2 ⟨g2, b2, rfl, hg2, hb⟩
    have hlt := HG.out.lt
    have hlt2 := hg2.lt
    have HG2 := Aside0.mk (HG.out.below hb)
    have HC2 := Aside0.mk hg2
    have HB2 := Aside0.mk (below_then HB.out HB.out.size hb)
    have HNE := Aside0.mk (show g ≠ b2 ∧ b ≠ b2 ∧ g2 ≠ b ∧ b2 ≠ b by omega)
    clear hb hg2 hlt hlt2
    go_wp2_with fail
    refine (body_calls _ _ g b m _ HG2.out).mono ?_
    rintro e w3 ⟨rfl, rfl⟩
    have hbo := body_calls _ _ g2 b2 m _ HC2.out
    obtain ⟨s, hss⟩ : ∃ s, s = strOfNums (byts f) := ⟨_, rfl⟩
    rw [← hss] at hbo ⊢
    have HBo := Aside0.mk hbo
    have HSS := Aside0.mk hss
    clear hbo hss
    go_wp2_with fail
    refine HBo.out.mono ?_
    rintro e w3 ⟨rfl, rfl⟩
    go_wp2_with fail
    refine (put_calls _ _ g2 b2 m q true f HC2.out (by omega)).mono ?_
    rintro e w3 ⟨rfl, hc3, hw3⟩
    have HC3 := Aside0.mk hc3
    have HG3 := Aside0.mk (HG2.out.grown hw3 (by simpa using HNE.out.1) (by simpa using HNE.out.2.1))
    have HB3 := Aside0.mk (HC2.out.lower (base' := w.heap.size) HB.out.size |>.under HB2.out HB2.out.size hw3)
    clear hc3 hw3
    have hbo := body_calls _ _ g b m _ HG3.out
    rw [← HSS.out] at hbo
    have HBo2 := Aside0.mk hbo
    clear hbo
    go_wp2_with fail
    refine HBo2.out.mono ?_
    rintro e w4 ⟨rfl, rfl⟩
    go_wp2_with fail
    refine (body_calls _ _ g2 b2 m _ HC3.out).mono ?_
    rintro e w4 ⟨rfl, rfl⟩
    obtain ⟨t, htt⟩ : ∃ t, t = strOfNums (byts (putF m q true f)) := ⟨_, rfl⟩
    rw [← htt]
    have HTT := Aside0.mk htt
    clear htt
    go_wp2_with fail
    refine (put_calls _ _ g b m q true f HG3.out (by omega)).mono ?_
    rintro e w4 ⟨rfl, hg4, hw4⟩
    have HG4 := Aside0.mk hg4
    have HC4 := Aside0.mk (HC3.out.grown hw4 (by simpa using HNE.out.2.2.1) (by simpa using HNE.out.2.2.2))
    have HB4 := Aside0.mk (HG3.out.under HB3.out HB3.out.size hw4)
    clear hg4 hw4
    go_wp2_with fail
    refine (take_calls _ _ g b m 1 0 _ HG4.out h0 h1 (by omega) (by omega) (by omega)).mono ?_
    rintro e w5 htk
    have hsum : ∃ v x, e = .returned (.tuple #[v, .int .i64 x]) ∧ Gr w5 w1.heap.size g2 b2 m (byts (putF m q true f)) ∧ Below w.heap.size w w5 := by
      unfold TakeR at htk
      rcases htk with ⟨_, v, rfl, _, _, hw5⟩ | ⟨_, rfl, hb⟩
      · exact ⟨v, _, rfl, HC4.out.grown hw5 (by simpa using HNE.out.2.2.1) (by simpa using HNE.out.2.2.2), HG4.out.under HB4.out HB4.out.size hw5⟩
      · exact ⟨_, _, rfl, HC4.out.below hb, below_then HB4.out HB4.out.size hb⟩
    obtain ⟨v, x, rfl, hc5, hb5⟩ := hsum
    have HB5 := Aside0.mk hb5
    have hbo := body_calls _ _ g2 b2 m _ hc5
    rw [← HTT.out] at hbo
    have HBo3 := Aside0.mk hbo
    clear htk hc5 hb5 hbo
    go_wp2_with fail
    refine HBo3.out.mono ?_
    rintro e w6 ⟨rfl, rfl⟩
    go_wp2_with fail
    refine (awake_calls _).mono ?_
    rintro e w9 ⟨rfl, hb⟩
    have HB9 := Aside0.mk (below_then HB5.out HB5.out.size hb)
    clear hb
    go_wp2
    go_ret
    exact ⟨rfl, HB9.out⟩

theorem gridCopies_walk (n : Int) (A : Option Addr) (c : Nat) (l : List Int) (q : Int) (w : World) (_hn : (Lit.int .i64 n).wf = true) (hr : Kd.C (Kd.int .i64) w A l.length l) (_hc : l.length ≤ c) (_hy : l.length * 8 ≤ 140737488351232) (_hw : ∀ x ∈ l, (Lit.int .i64 x).wf = true) (_hq : (Lit.int .i64 q).wf = true) :
    Calls Try.prog 8 #[.int .i64 n, .slice A l.length c, .int .i64 q] w fun e w' => e = .returned (.bool true) ∧ Below w.heap.size w w' := by
  by_cases h : 0 ≤ n ∧ n ≤ 3584
  · exact copies_ok n A c l q w h.1 h.2 hr
  · exact copies_bad n A c l q w (by omega)
end Go.Proofs.Ytmjbjfjmadkjkaa.G
