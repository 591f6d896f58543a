/- The example that each statement asks for at its end; a grid and the document's, with the same used. -/
import Derived.Test.YtmjbjfjmadkjkaaGRef
namespace Go.Proofs.Ytmjbjfjmadkjkaa.G
open Go.RowKit Go.Proofs.YtmjbjfjmadkjkaaW.PrintWords Go.Proofs.YtmjbjfjmadkjkaaW.PrintLast Go.Proofs.YtmjbjfjmadkjkaaW.PrintMore Go.Proofs.Ytmjbjfjmadkjkaa.PGridPlays
attribute [local go_sem] max2_int min2_int max_two min_two max_three min_three max_four min_four
set_option linter.unusedSimpArgs false
set_option linter.unusedVariables false

/-- Below over what a call on a grid of the call's own has written. -/
theorem Gr.under {w w1 w2 : World} {base g b : Nat} {n : Int} {bs : List Int} (h : Gr w1 base g b n bs) (hb : Below base w w1) (hs : base ≤ w1.heap.size) (hg : w1.grownBy w2 (some b)) : Below base w w2 :=
  hb.grown hg hs (fun k hk => by injection hk with hk; rw [← hk]; exact h.bge)

def awF : Nat → Bool := upd (upd (fun _ => false) 0 true) 1 true
theorem aw_next : (fr awF 10 0).head? = some 2 := by decide +kernel
theorem aw_byte : rd (byts awF) 0 = 3 := by decide +kernel
theorem str_size (l : List Int) : (strOfNums l).size = l.length := by
  simp [strOfNums, ByteArray.size]
theorem aw_s : ∃ s : ByteArray, strOfNums (byts awF) = s ∧ s.size = 448 ∧ ∃ h : 0 < s.size, (s[0]'h).toNat = 3 := ⟨_, rfl, by rw [str_size, byts_length], by rw [str_size, byts_length]; decide, by decide +kernel⟩

set_option maxRecDepth 100000 in
set_option maxHeartbeats 4000000 in
theorem awake_calls (w : World) : Calls Try.prog 13 #[] w fun e w' => e = .returned (.bool true) ∧ Below w.heap.size w w' := by
  go_enter Try.func13, Try.ntmps13
  go_wp2_with fail
  refine (new_yes _ 10 (by decide) (by decide)).mono ?_
  rintro e w1 ⟨g, b, rfl, hg, hb⟩
  have HG := Aside0.mk hg
  have HB := Aside0.mk hb
  clear hg hb
  go_wp2_with fail
  refine (put_set _ _ g b 10 0 _ HG.out (by decide) (by decide) (by decide)).mono ?_
  rintro e w2 ⟨rfl, hg, hw⟩
  have HB2 := Aside0.mk (HG.out.under HB.out HB.out.size hw)
  have HG2 := Aside0.mk hg
  clear hg hw
  go_wp2_with fail
  refine (put_set _ _ g b 10 1 _ HG2.out (by decide) (by decide) (by decide)).mono ?_
  rintro e w3 ⟨rfl, hg, hw⟩
  have HB3 := Aside0.mk (HG2.out.under HB2.out HB2.out.size hw)
  have HG3 := Aside0.mk (show Gr w3 w.heap.size g b 10 (byts awF) from hg)
  clear hg hw
  go_wp2_with fail
  refine (next_calls _ _ g b 10 0 _ HG3.out (by decide) (by decide) (by decide)).mono ?_
  have h1 : (fr awF (10 : Int).toNat (0 : Int).toNat).head? = some 2 := aw_next
  rw [h1]
  rintro e w4 ⟨rfl, rfl⟩
  clear h1
  show _
  unfold nxV
  go_wp2_with fail
  refine (body_calls _ _ g b 10 _ HG3.out).mono ?_
  rintro e w4 ⟨rfl, rfl⟩
  obtain ⟨s, hs, hs1, hs2, hs3⟩ := aw_s
  rw [hs]
  go_wp2
  go_ret
  exact ⟨rfl, HB3.out⟩

theorem refnew_yes (w : World) (n : Int) (h0 : 0 ≤ n) (h1 : n ≤ 3584) :
    Calls Try.prog 19 #[.int .i64 n] w fun e w' => ∃ v, e = .returned (.tuple #[v, .bool true]) ∧ Kd.R Kd.bool 4 w' w.heap.size (fun _ => True) v (hs (fun _ => false) n.toNat) ∧ Below w.heap.size w w' :=
  grapnelref08_New.calls n _ _ w (new_f n h0 h1)
theorem refnew_no (w : World) (n : Int) (h : n < 0 ∨ 3584 < n) :
    Calls Try.prog 19 #[.int .i64 n] w fun e w' => ∃ v, e = .returned (.tuple #[v, .bool false]) ∧ Below w.heap.size w w' :=
  (grapnelref08_New.calls n _ _ w (new_f_bad n h)).mono fun e w' ⟨v, h1, h2, h3⟩ => ⟨v, h1, h3⟩

theorem Gr.kept {w w1 : World} {base g b : Nat} {n : Int} {bs : List Int} (h : Gr w base g b n bs) {α : Type} {d : Kd α} {e base' : Nat} {ok : Nat → Prop} {v : Value} {xs : List α} (hu : d.R e w base' ok v xs) (h5 : e ≠ 5) (h60 : e ≠ 60) (hg : w.grownBy w1 v.ownBlock) : Gr w1 base g b n bs := by
  obtain ⟨cap, e1, e2, e3⟩ := h
  refine ⟨cap, blk_grown e1 hg (Kd.R_ne hu e1 h60), e2, Kd.R_over' e3 (Kd.R_typed hu) (fun q hq => ?_) hg⟩
  have : q = 5 := by simpa [Kd.int, Kd.scalar] using hq
  rw [this]
  exact fun e => h5 e.symm

/-- The document's grid in memory: a place of it read, and written. -/
theorem hrow {w : World} {base : Nat} {ok : Nat → Prop} {Av : Option Addr} {m cv : Nat} {f : Nat → Bool} (h : Kd.R Kd.bool 4 w base ok (.slice Av m cv) (hs f m)) (x : Int) (h0 : 0 ≤ x) (h1 : x < m) :
    ∃ hb, Av = some ⟨hb, 0, none⟩ ∧ w.cell? ⟨hb, x.toNat, none⟩ = some (.bool (f x.toNat)) ∧ w.frozen? ⟨hb, x.toNat, none⟩ = false ∧
      ∀ u, Kd.R Kd.bool 4 (w.setCell ⟨hb, x.toNat, none⟩ (.bool u)) base ok (.slice (some ⟨hb, 0, none⟩) m cv) (hs (upd f x.toNat u) m) ∧ w.grownBy (w.setCell ⟨hb, x.toNat, none⟩ (.bool u)) (some hb) := by
  have hl := hs_len f m
  obtain ⟨hb, cap2, ev2, _, _, _⟩ := Kd.R_form h (by rw [hl]; omega)
  rw [hl] at ev2
  injection ev2 with ev3 _ ev4
  subst ev3 ev4
  have h2 : Kd.R Kd.bool 4 w base ok (.slice (some ⟨hb, 0, none⟩) (hs f m).length cv) (hs f m) := by rw [hl]; exact h
  obtain ⟨hcb, hfb⟩ := Kd.R_cell (enc := Value.bool) (h1 := fun _ => rfl) false h2 x h0 (by rw [hl]; omega)
  refine ⟨hb, rfl, ?_, hfb, fun u => ?_⟩
  · obtain ⟨y, rfl⟩ := Int.eq_ofNat_of_zero_le h0
    rw [hs_rd f m y (by omega)] at hcb
    exact hcb
  · obtain ⟨p1, p2⟩ := Kd.R_put (enc := Value.bool) (h1 := fun _ => rfl) h2 x u
    rw [hl, hs_set] at p1
    exact ⟨p1, p2⟩

/-- A grid and the document's: what filled leaves. -/
def FilledR (w : World) (n : Int) (e : Ending) (w' : World) : Prop :=
  ∃ g b v f, e = .returned (.tuple #[.pointer (some ⟨g, 0, none⟩), v]) ∧ Gr w' w.heap.size g b n (byts f) ∧ Kd.R Kd.bool 4 w' w.heap.size (fun _ => True) v (hs f n.toNat) ∧ Below w.heap.size w w' ∧ ∀ i, n.toNat ≤ i → f i = false

theorem filled_bad (w : World) (n : Int) (A : Option Addr) (l c : Nat) (h : n < 0 ∨ 3584 < n) :
    Calls Try.prog 12 #[.int .i64 n, .slice A l c] w fun e w' => e = .returned (.tuple #[.pointer none, .slice none 0 0]) ∧ Below w.heap.size w w' := by
  have HN := Aside0.mk (new_no w n h)
  have HR := Aside0.mk (refnew_no w n h)
  clear h
  go_enter Try.func12, Try.ntmps12
  go_wp2_with fail
  refine HN.out.mono ?_
  rintro e w1 ⟨rfl, rfl⟩
  go_wp2_with fail
  refine HR.out.mono ?_
  rintro e w1 ⟨v, rfl, hb⟩
  have HB := Aside0.mk hb
  clear hb
  go_wp2
  refine bodyPost_ret (v := .tuple #[.pointer none, .slice none 0 0]) (by simp [results, Try.results12, go_sem]) rfl ⟨rfl, HB.out⟩

set_option maxRecDepth 100000 in
set_option maxHeartbeats 4000000 in
theorem filled_ok (w : World) (n : Int) (A : Option Addr) (c : Nat) (l : List Int) (h0 : 0 ≤ n) (h1 : n ≤ 3584) (hr : Kd.C (Kd.int .i64) w A l.length l) :
    Calls Try.prog 12 #[.int .i64 n, .slice A l.length c] w (FilledR w n) := by
  have HC := Aside0.mk hr
  clear hr
  obtain ⟨m, rfl⟩ := Int.eq_ofNat_of_zero_le h0
  obtain ⟨ll, hll⟩ : ∃ ll, ll = l.length := ⟨_, rfl⟩
  rw [← hll] at HC ⊢
  have HLL := Aside0.mk hll
  clear hll
  go_enter Try.func12, Try.ntmps12
  go_wp2_with fail
  refine (new_yes w m h0 h1).mono ?_
  rintro e w1 ⟨g, b, rfl, hg, hb⟩
  have HG := Aside0.mk hg
  have HB := Aside0.mk hb
  clear hg hb
  go_wp2_with fail
  refine (refnew_yes w1 m h0 h1).mono ?_
  rw [Int.toNat_natCast]
  rintro e w2 ⟨v, rfl, hv, hb⟩
  have HV := Aside0.mk (Kd.R_lower hv HB.out.size)
  have HG2 := Aside0.mk (HG.out.below hb)
  have HB2 := Aside0.mk (below_then HB.out HB.out.size hb)
  clear hv hb
  obtain ⟨Av, cv, ev⟩ := Kd.R_slice HV.out
  rw [hs_len] at ev
  subst ev
  go_wp2
  go_loopw [10] (fun i wr => ∃ (k : Nat) (f : Nat → Bool), k ≤ ll ∧ k ≤ 500 ∧ i = .int .i64 k ∧ Aside0 (Gr wr w.heap.size g b m (byts f)) ∧ Aside0 (Kd.R Kd.bool 4 wr w.heap.size (fun _ => True) (.slice Av m cv) (hs f m)) ∧ Aside0 (Below w.heap.size w wr) ∧ Aside0 (∀ i, m ≤ i → f i = false)) (fun i _ => 500 - (intOf i).toNat)
  case atStart => exact ⟨0, _, by omega, by omega, rfl, HG2, HV, HB2, ⟨fun _ _ => rfl⟩⟩
  case round =>
    obtain ⟨k, f, hk1, hk2, rfl, HGr, HVr, HBr, HLr⟩ := hrel
    by_cases hc : k < ll ∧ k < 500
    · obtain ⟨hc1, hc2⟩ := hc
      obtain ⟨ad, ead, hcell⟩ := Kd.at_int (Kd.C_below HC.out HBr.out) (k : Int) (by omega) (by omega)
      cases ead
      rw [Int.toNat_natCast] at hcell
      obtain ⟨x, hx⟩ : ∃ x, x = rd l (k : Int) := ⟨_, rfl⟩
      rw [← hx] at hcell
      have HX := Aside0.mk hx
      clear hx
      by_cases hin : inB m x = true
      · have h' := hin
        simp only [inB, Bool.and_eq_true, decide_eq_true_eq] at h'
        obtain ⟨hx0, hx1⟩ := h'
        have HP := Aside0.mk (put_set wr _ g b m x f HGr.out hx0 hx1 h1)
        clear hin
        go_wp2_with fail
        refine HP.out.mono ?_
        rintro e w3 ⟨rfl, hg3, hw3⟩
        have HG3 := Aside0.mk hg3
        have HB3 := Aside0.mk (HGr.out.under HBr.out HBr.out.size hw3)
        have HV3 := Aside0.mk (HGr.out.keeps hw3 HVr.out (by decide))
        clear hg3 hw3 hcell
        have hcell : w3.cell? (ad.add k) = some (.int .i64 x) := by
          obtain ⟨ad2, ead2, h2⟩ := Kd.at_int (Kd.C_below HC.out HB3.out) (k : Int) (by omega) (by omega)
          cases ead2
          rw [Int.toNat_natCast, ← HX.out] at h2
          exact h2
        obtain ⟨hb, ev3, hcb, hfb, hput⟩ := hrow HV3.out x hx0 hx1
        subst ev3
        have HPu := Aside0.mk (hput true)
        clear hput
        go_wp2
        go_roundw
        case rel => exact ⟨k + 1, upd f x.toNat true, by omega, by omega, by go_num, ⟨HG3.out.kept HV3.out (by decide) (by decide) HPu.out.2⟩, ⟨HPu.out.1⟩, ⟨HB3.out.grown HPu.out.2 HB3.out.size (fun k hk => by injection hk with hk; rw [← hk]; exact Kd.R_base HV3.out hb rfl)⟩, ⟨fun i hi => by rw [upd_ne _ _ (by omega)]; exact HLr.out i hi⟩⟩
        case measure => simp [intOf]; omega
      · have hinf : inB m x = false := by simpa using hin
        have HP := Aside0.mk (put_out wr _ g b m x true _ HGr.out hinf)
        have hdec : x < 0 ∨ (0 ≤ x ∧ ¬ x < m) := by
          simp only [inB, Bool.and_eq_true, decide_eq_true_eq] at hin
          omega
        clear hin hinf
        rcases hdec with hd | ⟨hd1, hd2⟩
        all_goals
          go_wp2_with fail
          refine HP.out.mono ?_
          rintro e w3 ⟨rfl, rfl⟩
          go_wp2
          go_roundw
          case rel => exact ⟨k + 1, f, by omega, by omega, by go_num, HGr, HVr, HBr, HLr⟩
          case measure => simp [intOf]; omega
    · by_cases hc1 : k < ll
      all_goals
        go_wp2
        go_ret2
        exact ⟨g, b, _, f, rfl, HGr.out, HVr.out, HBr.out, HLr.out⟩
end Go.Proofs.Ytmjbjfjmadkjkaa.G
