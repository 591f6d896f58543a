/- Printed: the law's summed. -/
import Derived.Test.YtkhblpmjmkhiiaaGreatDoorQH12
namespace Go.Proofs.YtkhblpmjmkhiiaaGreatDoor.PAll
open Go.RowKit Go.Proofs.YtkhblpmjmkhiiaaGreatDoorW.PrintWords Go.Proofs.YtkhblpmjmkhiiaaGreatDoorW.PrintLast Go.Proofs.YtkhblpmjmkhiiaaGreatDoorW.PrintMore
attribute [local go_sem] max2_int min2_int max_two min_two max_three min_three max_four min_four
set_option linter.unusedVariables false
set_option linter.unusedSimpArgs false
def r2_Sum.f (k : Nat) (a0 : ByteArray) : Option ByteArray := if a0.size < 4294967296 then some ⟨(T.sha (T.pb a0)).toArray⟩ else none
theorem r2_Sum.calls (k : Nat) (a0 : ByteArray) (r : ByteArray) (w : World) (h : r2_Sum.f k a0 = some r) :
 Calls Tryz.prog 28 #[.string a0] w fun e w' => e = .returned (.string r) ∧ Below w.heap.size w w' := by
 unfold r2_Sum.f at h
 split at h
 ·
  rename_i hs
  obtain rfl := Option.some.inj h
  exact T.rsum_c a0 w hs
 ·
  cases h
def l8_summed.f (k : Nat) (a0 : ByteArray) : Option (Bool) := if (wrap64 ((a0.size : Int) - 32)) ≥ 0 then (if 0 ≤ (wrap64 ((a0.size : Int) - 32)) then (if (wrap64 ((a0.size : Int) - 32)) ≤ (a0.size : Int) then ((r2_Sum.f k (a0.extract 0 ((wrap64 ((a0.size : Int) - 32)) : Int).toNat)).bind fun t383 => (some (t383.toList == (a0.extract ((wrap64 ((a0.size : Int) - 32)) : Int).toNat a0.size).toList))) else (none)) else (none)) else (some false)
def l8_summed.T2 : Bool × List (List Nat × List Nat) := (true, [([], []), ([0], [0]), ([1], [1]), ([2], [2]), ([2], [2]), ([3, 4, 2], [2, 3, 4]), ([5, 2, 2], [2, 5]), ([2], [2]), ([2], [2]), ([7, 8, 2], [2, 7, 8]), ([6, 9, 2], [2, 6, 9]), ([2, 10], [2, 10]), ([11, 6, 0, 1, 2, 3, 4, 5, 6, 7, 8, 9, 10, 11], [11])])
def l8_summed.B2 : List Nat := [0, 1, 3, 7, 7, 31, 63, 7, 7, 391, 1023, 2047, 4095]
theorem l8_summed.tab2 : rtab .any (opsOf Tryz.f13 2) = l8_summed.T2 := by kernel_rfl
theorem l8_summed.bits2 : waitsOk l8_summed.T2.2 l8_summed.B2 = true := by kernel_rfl
set_option maxHeartbeats 8000000 in
set_option maxRecDepth 100000 in
theorem l8_summed.calls (k : Nat) (a0 : ByteArray) (r : Bool) (w : World) (h : l8_summed.f k a0 = some r) :
  Calls Tryz.prog 13 #[.string a0] w fun e w' => e = .returned (.bool r) ∧ Below w.heap.size w w' := by
 have HB := Aside0.mk (Below.refl w.heap.size w)
 have H : (if (wrap64 ((a0.size : Int) - 32)) ≥ 0 then (if 0 ≤ (wrap64 ((a0.size : Int) - 32)) then (if (wrap64 ((a0.size : Int) - 32)) ≤ (a0.size : Int) then ((r2_Sum.f k (a0.extract 0 ((wrap64 ((a0.size : Int) - 32)) : Int).toNat)).bind fun t383 => (some (t383.toList == (a0.extract ((wrap64 ((a0.size : Int) - 32)) : Int).toNat a0.size).toList))) else (none)) else (none)) else (some false)) = some r := h
 clear h
 by_cases c2 : (wrap64 ((a0.size : Int) - 32)) ≥ 0
 ·
  rw [if_pos c2] at H
  have c2b0 : decide (0 ≤ (wrap64 ((a0.size : Int) - 32))) = true := decide_eq_true c2
  clear c2
  obtain ⟨ji3, hji3⟩ : ∃ j_ : Int, (wrap64 ((a0.size : Int) - 32)) = j_ := ⟨_, rfl⟩
  replace H : (if 0 ≤ (ji3) then (if (ji3) ≤ (a0.size : Int) then ((r2_Sum.f k (a0.extract 0 ((ji3) : Int).toNat)).bind fun t383 => (some (t383.toList == (a0.extract ((ji3) : Int).toNat a0.size).toList))) else (none)) else (none)) = some r := by first | (rw [hji3] at H; exact H) | (simp only [hji3] at H ⊢; exact H)
  (try rw [hji3] at c2b0)
  have hji3w : (IntKind.i64.wrap ((a0.size : Int) - 32)) = ji3 := (i64_w _).trans hji3
  by_cases c4 : 0 ≤ (ji3)
  ·
   rw [if_pos c4] at H
   have c4b0 := eq_true c4
   have c4b1 : decide (0 ≤ (ji3)) = true := decide_eq_true c4
   clear c4
   by_cases c5 : (ji3) ≤ (a0.size : Int)
   ·
    rw [if_pos c5] at H
    have c5b0 := eq_true c5
    have c5b1 : decide ((ji3) ≤ (a0.size : Int)) = true := decide_eq_true c5
    clear c5
    replace H := Option.bind_eq_some_iff.mp H
    obtain ⟨t383, A60, H⟩ := H
    replace H : (some (t383.toList == (a0.extract ((ji3) : Int).toNat a0.size).toList)) = some r := H
    have A6 := Aside0.mk A60
    clear A60
    have c7b0 := eq_true (of_decide_eq_true Z2 : 0 ≤ (ji3))
    have c8b0 := eq_true (of_decide_eq_true Z2 : (ji3) ≤ (a0.size : Int))
    obtain rfl := Option.some.inj H
    go_enter Tryz.func13, Tryz.ntmps13
    try go_wp2
    have n0_ := Aside0.mk (below_drew1 HB.out)
    clear HB
    have HB := n0_
    clear n0_
    refine start_ (n := 13) (S := fun w' => True) (ds := []) #[false, false, false, false, false, false, false, false, false, false, false, false, false] Z13 rfl rfl trivial (fun hHeld => ?_); refine with_tabW l8_summed.tab2 l8_summed.bits2 (fun HT_ HW_ => ?_)
    generalize w.drew = w9 at HB hHeld ⊢
    refine pu 0 7 (bl 13 1) HT_ ?_
    refine pu 1 8 (bl 13 3) HT_ ?_
    refine pu 2 9 (bl 13 7) HT_ ?_
    refine pu 3 10 (bl 13 15) HT_ ?_
    refine pu 4 11 (bl 13 31) HT_ ?_
    refine pu 5 12 (bl 13 63) HT_ ?_
    refine pu 7 14 (bl 13 191) HT_ ?_
    refine pu 8 15 (bl 13 447) HT_ ?_
    refine pu 9 16 (bl 13 959) HT_ ?_
    refine one_ (i := 6) (N := some 13) (bl 13 1023) rfl rfl (one_of HT_.out Z13) Z11 (fun K hK => ?_)
    refine goes_ Tryz.func28 Z13 rfl #[.string (a0.extract 0 ((ji3) : Int).toNat)] (by rfl) rfl rfl (by (try simp only [List.map_toArray, List.map_cons, List.map_nil]); first | done | (simp only [hji3]; rfl) | rfl | (simp only [List.length_drop, List.length_take]; rfl)) ?_
    with_reducible refine (r2_Sum.calls k (a0.extract 0 ((ji3) : Int).toNat) t383 _ A6.out).mono ?_
    rintro e w10 ⟨rfl, hb⟩
    refine ⟨_, rfl, ?_⟩
    have n0_ := Aside0.mk (below_step Z1 hb)
    clear HB
    have HB := n0_
    clear n0_
    (try clear hb)
    (try clear hb2)
    (try clear hk)
    (try clear hi)
    refine hK.out _ _ trivial (fun hHeld => ?_)
    clear hK K
    refine norm_ (a' := ?_) ?_ ?_
    rotate_left
    ·
     show Act.put _ (some 13) _ = _
     simp only [Act.put, List.setIfInBounds_toArray, List.set_cons_zero, List.set_cons_succ, i64_w, i32_w]
     rfl
    refine pu 10 17 (bl 13 2047) HT_ ?_
    refine pu 11 18 (bl 13 4095) HT_ ?_
    refine pu 12 2 (bl 13 8191) HT_ ?_
    refine done_ (done_of HT_.out Z13) ?_
    try go_wp2
    go_ret
    exact ⟨by first | rfl | (simp [errW_none, errW_some] <;> rfl) | (simp only [← hji3]; first | rfl | (simp [errW_none, errW_some] <;> rfl)) | (simp [*, errW_none, errW_some] <;> rfl), Z1⟩
   ·
    rw [if_neg c5] at H
    exact absurd H Z23
  ·
   rw [if_neg c4] at H
   exact absurd H Z23
 ·
  rw [if_neg c2] at H
  have c2b0 : decide (0 ≤ (wrap64 ((a0.size : Int) - 32))) = false := decide_eq_false c2
  clear c2
  obtain rfl := Option.some.inj H
  go_enter Tryz.func13, Tryz.ntmps13
  try go_wp2
  have n0_ := Aside0.mk (below_drew1 HB.out)
  clear HB
  have HB := n0_
  clear n0_
  refine start_ (n := 13) (S := fun w' => True) (ds := []) #[false, false, false, false, false, false, false, false, false, false, false, false, false] Z13 rfl rfl trivial (fun hHeld => ?_); refine with_tabW l8_summed.tab2 l8_summed.bits2 (fun HT_ HW_ => ?_)
  generalize w.drew = w11 at HB hHeld ⊢
  refine pu 0 7 (bl 13 1) HT_ ?_
  refine pu 1 8 (bl 13 3) HT_ ?_
  refine pu 2 9 (bl 13 7) HT_ ?_
  refine pn 3 10 (bl 13 15) HT_ ?_
  refine pn 4 11 (bl 13 31) HT_ ?_
  refine pn 5 12 (bl 13 63) HT_ ?_
  refine pn 6 13 (bl 13 127) HT_ ?_
  refine pn 7 14 (bl 13 255) HT_ ?_
  refine pn 8 15 (bl 13 511) HT_ ?_
  refine pn 9 16 (bl 13 1023) HT_ ?_
  refine pn 10 17 (bl 13 2047) HT_ ?_
  refine pu 11 18 (bl 13 4095) HT_ ?_
  refine pu 12 2 (bl 13 8191) HT_ ?_
  refine done_ (done_of HT_.out Z13) ?_
  try go_wp2
  go_ret
  exact ⟨Z12, Z1⟩
end Go.Proofs.YtkhblpmjmkhiiaaGreatDoor.PAll
