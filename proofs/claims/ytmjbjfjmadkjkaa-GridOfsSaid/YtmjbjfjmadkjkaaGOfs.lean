/- The document's Of; the walks of the laws GridOfs and GridNobody. -/
import Derived.Test.YtmjbjfjmadkjkaaGBack
import Derived.Test.YtmjbjfjmadkjkaaPGridOfsx1
namespace Go.Proofs.Ytmjbjfjmadkjkaa.G
open Go.RowKit Go.Proofs.YtmjbjfjmadkjkaaW.PrintWords Go.Proofs.YtmjbjfjmadkjkaaW.PrintLast Go.Proofs.YtmjbjfjmadkjkaaW.PrintMore Go.Proofs.Ytmjbjfjmadkjkaa.PGridPlays
attribute [local go_sem] max2_int min2_int max_two min_two max_three min_three max_four min_four
set_option linter.unusedSimpArgs false
set_option linter.unusedVariables false

open Go.Proofs.Ytmjbjfjmadkjkaa.PGridOfs (grapnelref08_Of.f grapnelref08_Of.l0 grapnelref08_Of.j0 grapnelref08_Of.calls)
theorem ofs_new (n : Int) (h0 : 0 ≤ n) (h1 : n ≤ 3584) : PGridOfs.grapnelref08_New.f n = some (hs (fun _ => false) n.toNat, true) := new_f n h0 h1
theorem ofs_new_bad (n : Int) (h : n < 0 ∨ 3584 < n) : PGridOfs.grapnelref08_New.f n = some ([], false) := new_f_bad n h
theorem bit_val (s : ByteArray) (hs : s.size = 448) (i : Nat) (hi : i < 3584) :
    (Int.tmod (shr .i64 (wrap64 (bt s (wrap64 (Int.tdiv (i : Int) 8)))) (Int.tmod (i : Int) 8)) 2 == 1) = bitsOf s i := by
  have e1 : Int.tdiv (i : Int) 8 = ((i / 8 : Nat) : Int) := rfl
  have e2 : Int.tmod (i : Int) 8 = ((i % 8 : Nat) : Int) := rfl
  have hr := bt_range s (((i / 8 : Nat) : Int))
  rw [e1, e2, w64 (x := ((i / 8 : Nat) : Int)) (by omega) (by omega), w64 (by omega) (by omega)]
  have hbt : bt s ((i / 8 : Nat) : Int) = (((s.data.toList.getD (i / 8) 0).toNat : Nat) : Int) := by
    have hl : i / 8 < s.size := by omega
    have hl2 : i / 8 < s.data.toList.length := by
      have : s.data.toList.length = s.size := by simp
      omega
    unfold bt
    rw [Int.toNat_natCast, dif_pos hl]
    congr 2
    simp [List.getD_eq_getElem?_getD, List.getElem?_eq_getElem hl2]
    rfl
  rw [hbt]
  unfold bitsOf shr
  rw [Int.toNat_natCast, Nat.min_eq_left (by have : i % 8 < 8 := Nat.mod_lt _ (by omega); show i % 8 ≤ 64; omega)]
  generalize (s.data.toList.getD (i / 8) 0).toNat = x
  rw [show (2 : Int) ^ (i % 8) = ((2 ^ (i % 8) : Nat) : Int) from (Int.natCast_pow 2 _).symm, ← Int.natCast_ediv]
  generalize x / 2 ^ (i % 8) = y
  have e3 : Int.tmod (y : Int) 2 = ((y % 2 : Nat) : Int) := rfl
  rw [e3]
  have h2 : y % 2 < 2 := Nat.mod_lt _ (by omega)
  rcases (show y % 2 = 0 ∨ y % 2 = 1 by omega) with h | h <;> rw [h] <;> rfl

theorem ofs_l (s : ByteArray) (hsz : s.size = 448) (n : Nat) (hn : n ≤ 3584) : ∀ (d k i : Nat), i ≤ 3584 → 3584 - i = d → d < k →
    ((∃ j, i ≤ j ∧ n ≤ j ∧ j < 3584 ∧ bitsOf s j = true) → grapnelref08_Of.l0 k s n (hs (lim (bitsOf s) i) n) i = some ([], 5)) ∧
    ((∀ j, i ≤ j → n ≤ j → j < 3584 → bitsOf s j = false) → grapnelref08_Of.l0 k s n (hs (lim (bitsOf s) i) n) i = some (hs (bitsOf s) n, 0)) := by
  intro d
  induction d with
  | zero =>
    intro k i hi hd hk
    obtain ⟨k, rfl⟩ : ∃ m, k = m + 1 := ⟨k - 1, by omega⟩
    refine ⟨fun ⟨j, h1, _, h2, _⟩ => by omega, fun _ => ?_⟩
    simp only [grapnelref08_Of.l0]
    rw [if_neg (by omega), hs_congr (f := lim (bitsOf s) i) (g := bitsOf s) (fun j hj => by unfold lim; simp; omega)]
  | succ d ih =>
    intro k i hi hd hk
    obtain ⟨k, rfl⟩ : ∃ m, k = m + 1 := ⟨k - 1, by omega⟩
    have key := ih k (i + 1) (by omega) (by omega) (by omega)
    have e1 : Int.tdiv (i : Int) 8 = ((i / 8 : Nat) : Int) := rfl
    have e2 : Int.tmod (i : Int) 8 = ((i % 8 : Nat) : Int) := rfl
    have hbv := bit_val s hsz i (by omega)
    have hcast : ((i + 1 : Nat) : Int) = (i : Int) + 1 := by omega
    simp only [grapnelref08_Of.l0]
    rw [if_pos (by omega), if_pos (by rw [e1, w64 (by omega) (by omega)]; omega), if_pos (by rw [e1, w64 (by omega) (by omega)]; omega), if_pos (by rw [e2]; omega), w64 (x := (i : Int) + 1) (by omega) (by omega)]
    by_cases hin : i < n
    · rw [if_pos (by omega), if_pos (by omega), if_pos (by rw [hs_len]; omega), hbv, Int.toNat_natCast, hs_set]
      have hstep : hs (upd (lim (bitsOf s) i) i (bitsOf s i)) n = hs (lim (bitsOf s) (i + 1)) n := by
        refine hs_congr fun j hj => ?_
        unfold upd lim
        by_cases hji : j = i
        · rw [if_pos hji, hji]; simp
        · rw [if_neg hji]
          congr 1
          exact decide_eq_decide.2 (by omega)
      rw [hstep, ← hcast]
      exact ⟨fun ⟨j, h1, h2, h3, h4⟩ => key.1 ⟨j, by omega, h2, h3, h4⟩, fun h => key.2 (fun j h1 h2 h3 => h j (by omega) h2 h3)⟩
    · rw [if_neg (by omega)]
      have hsame : hs (lim (bitsOf s) i) n = hs (lim (bitsOf s) (i + 1)) n := by
        refine hs_congr fun j hj => ?_
        unfold lim
        congr 1
        exact decide_eq_decide.2 (by omega)
      cases hb : bitsOf s i with
      | true =>
        rw [hb] at hbv
        rw [if_pos (by simpa using hbv)]
        refine ⟨fun _ => rfl, fun h => ?_⟩
        rw [h i (Nat.le_refl _) (by omega) (by omega)] at hb
        cases hb
      | false =>
        rw [hb] at hbv
        rw [if_neg (by simpa using hbv), hsame, ← hcast]
        refine ⟨fun ⟨j, h1, h2, h3, h4⟩ => key.1 ⟨j, ?_, h2, h3, h4⟩, fun h => key.2 (fun j h1 h2 h3 => h j (by omega) h2 h3)⟩
        rcases Nat.lt_or_ge i j with h5 | h5
        · exact h5
        · have : j = i := by omega
          rw [this, hb] at h4
          cases h4
theorem ofs_bad (s : ByteArray) (n : Int) (h : n < 0 ∨ 3584 < n ∨ s.size ≠ 448) : grapnelref08_Of.f 1 s n = some ([], 1) := by
  unfold grapnelref08_Of.f
  by_cases hn : n < 0 ∨ 3584 < n
  · rw [ofs_new_bad n hn]
    rfl
  · rw [ofs_new n (by omega) (by omega)]
    have : ((s.size : Int) != 448) = true := by simp; omega
    simp only [Option.bind_some, if_true, this]
    rfl
theorem ofs_start (s : ByteArray) (n : Int) (h0 : 0 ≤ n) (h1 : n ≤ 3584) (hsz : s.size = 448) (k : Nat) : grapnelref08_Of.f (k + 1) s n = grapnelref08_Of.l0 k s n (hs (lim (bitsOf s) 0) n.toNat) 0 := by
  unfold grapnelref08_Of.f
  rw [ofs_new n h0 h1]
  have : ((s.size : Int) != 448) = false := by simp; omega
  simp only [Option.bind_some, if_true, this]
  simp only [grapnelref08_Of.j0]
  rw [if_neg (by simp), hs_congr (f := fun _ => false) (g := lim (bitsOf s) 0) (fun j _ => by simp [lim])]

theorem refof_bad (w : World) (s : ByteArray) (n : Int) (h : n < 0 ∨ 3584 < n ∨ s.size ≠ 448) :
    Calls Try.prog 25 #[.string s, .int .i64 n] w fun e w' => ∃ v, e = .returned (.tuple #[v, .int .i64 1]) ∧ Below w.heap.size w w' :=
  (grapnelref08_Of.calls 1 s n _ _ w (ofs_bad s n h)).mono fun e w' ⟨v, h1, h2, h3⟩ => ⟨v, h1, h3⟩
theorem refof_bits (w : World) (s : ByteArray) (n : Int) (h0 : 0 ≤ n) (h1 : n ≤ 3584) (hsz : s.size = 448) (h : ∃ j, n.toNat ≤ j ∧ j < 3584 ∧ bitsOf s j = true) :
    Calls Try.prog 25 #[.string s, .int .i64 n] w fun e w' => ∃ v, e = .returned (.tuple #[v, .int .i64 5]) ∧ Below w.heap.size w w' := by
  obtain ⟨m, rfl⟩ := Int.eq_ofNat_of_zero_le h0
  obtain ⟨j, h2, h3, h4⟩ := h
  have := (ofs_l s hsz m (by omega) 3584 3585 0 (by omega) (by omega) (by omega)).1 ⟨j, by omega, by simpa using h2, h3, h4⟩
  have h5 := (ofs_start s m h0 h1 hsz 3585).trans this
  exact (grapnelref08_Of.calls _ s m _ _ w h5).mono fun e w' ⟨v, h1, h2, h3⟩ => ⟨v, h1, h3⟩
theorem refof_ok (w : World) (s : ByteArray) (n : Int) (h0 : 0 ≤ n) (h1 : n ≤ 3584) (hsz : s.size = 448) (h : ∀ j, n.toNat ≤ j → j < 3584 → bitsOf s j = false) :
    Calls Try.prog 25 #[.string s, .int .i64 n] w fun e w' => ∃ v, e = .returned (.tuple #[v, .int .i64 0]) ∧ Kd.R Kd.bool 4 w' w.heap.size (fun _ => True) v (hs (bitsOf s) n.toNat) ∧ Below w.heap.size w w' := by
  obtain ⟨m, rfl⟩ := Int.eq_ofNat_of_zero_le h0
  have := (ofs_l s hsz m (by omega) 3584 3585 0 (by omega) (by omega) (by omega)).2 (fun j _ h2 h3 => h j (by simpa using h2) h3)
  have h5 := (ofs_start s m h0 h1 hsz 3585).trans this
  exact grapnelref08_Of.calls _ s m _ _ w h5

set_option maxRecDepth 100000 in
set_option maxHeartbeats 4000000 in
theorem ofs_walk_bad (s : ByteArray) (n : Int) (w : World) (hs5 : ¬ 500 < (s.size : Int)) (h : n < 0 ∨ 3584 < n ∨ s.size ≠ 448) :
    Calls Try.prog 6 #[.string s, .int .i64 n] w fun e w' => e = .returned (.bool true) ∧ Below w.heap.size w w' := by
  have hof : Calls Try.prog 24 #[.string s, .int .i64 n] w fun e w' => e = .returned (.tuple #[.pointer none, .int .i64 1]) ∧ Below w.heap.size w w' := by
    by_cases hn : n < 0 ∨ 3584 < n
    · exact (of_new_bad w s n hn).mono fun e w' ⟨h1, h2⟩ => ⟨h1, by rw [← h2]; exact Below.refl _ _⟩
    · exact of_size_bad w s n (by omega) (by omega) (by omega)
  have HO := Aside0.mk hof
  have H := Aside0.mk h
  clear hof h
  go_enter Try.func6, Try.ntmps6
  go_wp2_with fail
  refine HO.out.mono ?_
  rintro e w1 ⟨rfl, hb⟩
  have HB := Aside0.mk hb
  clear hb
  go_wp2_with fail
  refine (refof_bad _ s n H.out).mono ?_
  rintro e w2 ⟨v, rfl, hb⟩
  have HB2 := Aside0.mk (below_then HB.out HB.out.size hb)
  clear hb
  go_wp2_with fail
  refine (awake_calls _).mono ?_
  rintro e w9 ⟨rfl, hb⟩
  have HB9 := Aside0.mk (below_then HB2.out HB2.out.size hb)
  clear hb
  go_wp2
  go_ret
  exact ⟨rfl, HB9.out⟩

set_option maxRecDepth 100000 in
set_option maxHeartbeats 4000000 in
theorem ofs_walk_long (s : ByteArray) (n : Int) (w : World) (hs5 : 500 < (s.size : Int)) :
    Calls Try.prog 6 #[.string s, .int .i64 n] w fun e w' => e = .returned (.bool true) ∧ Below w.heap.size w w' := by
  obtain ⟨t, ht⟩ : ∃ t, t = s.extract 0 500 := ⟨_, rfl⟩
  have hts : t.size ≠ 448 := by rw [ht]; simp; omega
  have hof : Calls Try.prog 24 #[.string t, .int .i64 n] w fun e w' => e = .returned (.tuple #[.pointer none, .int .i64 1]) ∧ Below w.heap.size w w' := by
    by_cases hn : n < 0 ∨ 3584 < n
    · exact (of_new_bad w t n hn).mono fun e w' ⟨h1, h2⟩ => ⟨h1, by rw [← h2]; exact Below.refl _ _⟩
    · exact of_size_bad w t n (by omega) (by omega) hts
  have HO := Aside0.mk hof
  have H := Aside0.mk (show n < 0 ∨ 3584 < n ∨ t.size ≠ 448 from .inr (.inr hts))
  have HT := Aside0.mk ht
  clear hof hts ht
  go_enter Try.func6, Try.ntmps6
  go_wp2_with fail
  rw [← HT.out]
  refine HO.out.mono ?_
  rintro e w1 ⟨rfl, hb⟩
  have HB := Aside0.mk hb
  clear hb
  go_wp2_with fail
  refine (refof_bad _ t n H.out).mono ?_
  rintro e w2 ⟨v, rfl, hb⟩
  have HB2 := Aside0.mk (below_then HB.out HB.out.size hb)
  clear hb
  go_wp2_with fail
  refine (awake_calls _).mono ?_
  rintro e w9 ⟨rfl, hb⟩
  have HB9 := Aside0.mk (below_then HB2.out HB2.out.size hb)
  clear hb
  go_wp2
  go_ret
  exact ⟨rfl, HB9.out⟩

set_option maxRecDepth 100000 in
set_option maxHeartbeats 4000000 in
theorem ofs_walk_bits (s : ByteArray) (n : Int) (w : World) (h0 : 0 ≤ n) (h1 : n ≤ 3584) (hsz : s.size = 448) (h : ∃ j, n.toNat ≤ j ∧ j < 3584 ∧ bitsOf s j = true) :
    Calls Try.prog 6 #[.string s, .int .i64 n] w fun e w' => e = .returned (.bool true) ∧ Below w.heap.size w w' := by
  have HO := Aside0.mk (of_ok w s n h0 h1 hsz)
  have H := Aside0.mk h
  have HS := Aside0.mk hsz
  have hs5 : ¬ 500 < (s.size : Int) := by omega
  clear h hsz
  go_enter Try.func6, Try.ntmps6
  go_wp2_with fail
  refine HO.out.mono ?_
  rintro e w1 hofr
  unfold OfR at hofr
  obtain ⟨hb, hcase⟩ := hofr
  rcases hcase with ⟨_, he⟩ | ⟨hno, _⟩
  · subst he
    have HB := Aside0.mk hb
    clear hb
    go_wp2_with fail
    refine (refof_bits _ s n h0 h1 HS.out H.out).mono ?_
    rintro e w2 ⟨v, rfl, hb⟩
    have HB2 := Aside0.mk (below_then HB.out HB.out.size hb)
    clear hb
    go_wp2_with fail
    refine (awake_calls _).mono ?_
    rintro e w9 ⟨rfl, hb⟩
    have HB9 := Aside0.mk (below_then HB2.out HB2.out.size hb)
    clear hb
    go_wp2
    go_ret
    exact ⟨rfl, HB9.out⟩
  · obtain ⟨j, h2, h3, h4⟩ := H.out
    rw [hno j h2 h3] at h4
    cases h4

set_option maxRecDepth 100000 in
set_option maxHeartbeats 4000000 in
theorem ofs_walk_ok (s : ByteArray) (n : Int) (w : World) (h0 : 0 ≤ n) (h1 : n ≤ 3584) (hsz : s.size = 448) (h : ∀ j, n.toNat ≤ j → j < 3584 → bitsOf s j = false) :
    Calls Try.prog 6 #[.string s, .int .i64 n] w fun e w' => e = .returned (.bool true) ∧ Below w.heap.size w w' := by
  have HO := Aside0.mk (of_ok w s n h0 h1 hsz)
  have H := Aside0.mk h
  have HS := Aside0.mk hsz
  have hs5 : ¬ 500 < (s.size : Int) := by omega
  clear h hsz
  obtain ⟨m, rfl⟩ := Int.eq_ofNat_of_zero_le h0
  go_enter Try.func6, Try.ntmps6
  go_wp2_with fail
  refine HO.out.mono ?_
  rintro e w1 hofr
  unfold OfR at hofr
  obtain ⟨hb, hcase⟩ := hofr
  rcases hcase with ⟨⟨j, h2, h3, h4⟩, _⟩ | ⟨_, g, b, he, hg⟩
  · rw [H.out j h2 h3] at h4
    cases h4
  · subst he
    have HB := Aside0.mk hb
    have HG := Aside0.mk hg
    clear hb hg
    go_wp2_with fail
    refine (refof_ok _ s m h0 h1 HS.out H.out).mono ?_
    rw [Int.toNat_natCast]
    rintro e w2 ⟨v, rfl, hv, hb⟩
    obtain ⟨Av, cv, ev⟩ := Kd.R_slice hv
    rw [hs_len] at ev
    subst ev
    have HB2 := Aside0.mk (below_then HB.out HB.out.size hb)
    have HG2 := Aside0.mk (HG.out.below hb)
    have HV2 := Aside0.mk hv
    clear hb hv
    have hbo := body_calls _ _ g b m _ HG2.out
    rw [str_bitsOf s HS.out] at hbo
    have HBo := Aside0.mk hbo
    clear hbo
    go_wp2_with fail
    refine (size_calls _ _ g b m _ HG2.out).mono ?_
    rintro e w3 ⟨rfl, rfl⟩
    go_wp2_with fail
    refine HBo.out.mono ?_
    rintro e w3 ⟨rfl, rfl⟩
    go_wp2_with fail
    refine (count_calls _ _ g b m _ HG2.out h0 h1).mono ?_
    rw [Int.toNat_natCast]
    rintro e w3 ⟨rfl, rfl⟩
    go_wp2_with fail
    refine (refcount_calls _ _ _ _ m cv _ HV2.out (by omega)).mono ?_
    rintro e w3 ⟨rfl, hb⟩
    have HB3 := Aside0.mk (below_then HB2.out HB2.out.size hb)
    clear hb
    generalize cnt (bitsOf s) m = q
    go_wp2_with fail
    refine (awake_calls _).mono ?_
    rintro e w9 ⟨rfl, hb⟩
    have HB9 := Aside0.mk (below_then HB3.out HB3.out.size hb)
    clear hb
    go_wp2
    go_ret
    exact ⟨rfl, HB9.out⟩

theorem gridOfs_walk (s : ByteArray) (n : Int) (w : World) (_hs : s.size ≤ 140737488351232) (_hn : (Lit.int .i64 n).wf = true) :
    Calls Try.prog 6 #[.string s, .int .i64 n] w fun e w' => e = .returned (.bool true) ∧ Below w.heap.size w w' := by
  by_cases h5 : 500 < (s.size : Int)
  · exact ofs_walk_long s n w h5
  · by_cases hb : n < 0 ∨ 3584 < n ∨ s.size ≠ 448
    · exact ofs_walk_bad s n w h5 hb
    · by_cases hx : ∃ j, n.toNat ≤ j ∧ j < 3584 ∧ bitsOf s j = true
      · exact ofs_walk_bits s n w (by omega) (by omega) (by omega) hx
      · refine ofs_walk_ok s n w (by omega) (by omega) (by omega) (fun j h2 h3 => ?_)
        cases hbj : bitsOf s j with
        | false => rfl
        | true => exact absurd ⟨j, h2, h3, hbj⟩ hx

theorem next_nil (w : World) (a : Int) :
    Calls Try.prog 15 #[.pointer none, .int .i64 a] w fun e w' => e = .returned (.tuple #[.int .i64 0, .bool false]) ∧ w = w' := by
  have HS := Aside0.mk (size_nil w)
  go_enter Try.func15, Try.ntmps15
  by_cases ha : a < 0
  all_goals
    go_wp2
    go_step3
    go_wp2
    go_step3
    go_wp2
    refine wp_loop_rounds 1 ?_
    rw [rounds_succ]
    go_wp2_with (go_at_call 20; refine HS.out.mono ?_; rintro e w' ⟨rfl, rfl⟩)
    try rw [Exit.noGoto_ret]
    go_ret2
    exact ⟨rfl, rfl⟩

set_option maxRecDepth 100000 in
set_option maxHeartbeats 4000000 in
theorem gridNobody_walk (q : Int) (w : World) (_hq : (Lit.int .i64 q).wf = true) :
    Calls Try.prog 11 #[.int .i64 q] w fun e w' => e = .returned (.bool true) ∧ Below w.heap.size w w' := by
  have HB := Aside0.mk (Below.refl w.heap.size w)
  have H1 := Aside0.mk (next_nil w q)
  have H2 := Aside0.mk (take_nil w q 0)
  have H3 := Aside0.mk (size_nil w)
  have H4 := Aside0.mk (count_nil w)
  have H5 := Aside0.mk (body_nil w)
  have H6 := Aside0.mk (Has_nil w q)
  have H7 := Aside0.mk (put_nil w q true)
  have H8 := Aside0.mk (copy_nil w)
  go_enter Try.func11, Try.ntmps11
  go_wp2_with (first | (go_at_call 15; refine H1.out.mono ?_; rintro e w' ⟨rfl, rfl⟩) | (go_at_call 28; refine H2.out.mono ?_; rintro e w' ⟨rfl, rfl⟩) | (go_at_call 20; refine H3.out.mono ?_; rintro e w' ⟨rfl, rfl⟩) | (go_at_call 21; refine H4.out.mono ?_; rintro e w' ⟨rfl, rfl⟩) | (go_at_call 22; refine H5.out.mono ?_; rintro e w' ⟨rfl, rfl⟩) | (go_at_call 17; refine H6.out.mono ?_; rintro e w' ⟨rfl, rfl⟩) | (go_at_call 14; refine H7.out.mono ?_; rintro e w' ⟨rfl, rfl⟩) | (go_at_call 27; refine H8.out.mono ?_; rintro e w' ⟨rfl, rfl⟩))
  refine (awake_calls _).mono ?_
  rintro e w9 ⟨rfl, hb⟩
  have HB9 := Aside0.mk (below_then HB.out HB.out.size hb)
  clear hb
  go_wp2
  go_ret
  exact ⟨rfl, HB9.out⟩
end Go.Proofs.Ytmjbjfjmadkjkaa.G
