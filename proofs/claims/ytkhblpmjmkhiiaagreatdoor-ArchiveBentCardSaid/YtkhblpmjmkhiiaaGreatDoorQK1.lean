/- Printed by the kit's print.py, made shorter and regrouped by wip/tools/regroup.py. -/
import Derived.Test.YtkhblpmjmkhiiaaGreatDoorQK0
namespace Go.Proofs.YtkhblpmjmkhiiaaGreatDoor.PAll
open Go.RowKit Go.Proofs.YtkhblpmjmkhiiaaGreatDoorW.PrintWords Go.Proofs.YtkhblpmjmkhiiaaGreatDoorW.PrintLast Go.Proofs.YtkhblpmjmkhiiaaGreatDoorW.PrintMore
attribute [local go_sem] max2_int min2_int max_two min_two max_three min_three max_four min_four
set_option linter.unusedVariables false
set_option linter.unusedSimpArgs false
set_option maxHeartbeats 8000000 in
set_option maxRecDepth 100000 in
theorem r8_Find.calls (k : Nat) (A0 : Option Addr) (c0 : Nat) (l0 : List (S38)) (a1 : ByteArray) (r : Int) (w : World) (hr0 : Kd.C k38 w A0 l0.length l0) (hc0 : l0.length ≤ c0) (h : r8_Find.f k l0 a1 = some r) :
  Calls Tryz.prog 15 #[.slice A0 l0.length c0, .string a1] w fun e w' => e = .returned (.int .i64 r) ∧ Drawn0 w w' := by
 have HR0 := Aside0.mk hr0
 have HC0 := Aside0.mk hc0
 clear hr0 hc0
 have H : (r8_Find.l0 k l0 a1 0) = some r := h
 clear h
 have H' := Aside0.mk H
 clear H
 go_enter Tryz.func15, Tryz.ntmps15
 go_wp2
 go_loopg [5] k (fun kq v5 w' => ∃ (x5_1 : Int), v5 = .int .i64 x5_1 ∧ Aside0 (r8_Find.l0 kq l0 a1 x5_1 = some r) ∧ Aside0 (kq ≤ k) ∧ Drawn0 w w')
 case atStart => exact ⟨(0), Z4, H', ⟨Nat.le_refl _⟩, Z9⟩
 case round =>
  clear H'
  try clear c1; try clear p2
  obtain ⟨x5_1, rfl, HA, HK1, ⟨m1, rfl⟩⟩ := hrel
  cases gk with
  | zero => exact absurd HA.out (by simp [r8_Find.l0])
  | succ k1 =>
   have H := HA.out
   clear HA
   simp only [r8_Find.l0] at H
   by_cases c3 : x5_1 < (l0.length : Int)
   ·
    rw [if_pos c3] at H
    have c3b0 : decide (x5_1 < (l0.length : Int)) = true := decide_eq_true c3
    clear c3
    by_cases c4 : 0 ≤ x5_1
    ·
     rw [if_pos c4] at H
     have c4b0 : decide (0 ≤ x5_1) = true := decide_eq_true c4
     clear c4
     by_cases c5 : ((rd_T38 l0 x5_1).f0).toList = a1.toList
     ·
      rw [if_pos c5] at H
      have c5b0 : (((rd_T38 l0 x5_1).f0).toList == a1.toList) = true := beq_iff_eq.mpr c5
      have c5b1 : (((rd_T38 l0 x5_1).f0).toList != a1.toList) = false := bne_eq_false_iff_eq.mpr c5
      clear c5
      obtain rfl := Option.some.inj H
      have p122 : 0 ≤ (x5_1 : Int) := of_decide_eq_true Z2
      have q122 : x5_1 < (l0.length : Int) := of_decide_eq_true Z2
      obtain ⟨ad122, e122, hx122_0, hx122_1, hx122_2, hx122_3, hx122_4, hx122_5, hx122_6⟩ := at_T38 HR0.out x5_1 p122 q122
      cases e122
      replace p122 := eq_true p122
      replace q122 := eq_true q122
      go_wp2
      go_ret
      exact ⟨Z4, Z9⟩
     ·
      rw [if_neg c5] at H
      have c5b0 : (((rd_T38 l0 x5_1).f0).toList == a1.toList) = false := beq_eq_false_iff_ne.mpr c5
      have c5b1 : (((rd_T38 l0 x5_1).f0).toList != a1.toList) = true := bne_iff_ne.mpr c5
      have H' := Aside0.mk H
      clear H
      have p122 : 0 ≤ (x5_1 : Int) := of_decide_eq_true Z2
      have q122 : x5_1 < (l0.length : Int) := of_decide_eq_true Z2
      obtain ⟨ad122, e122, hx122_0, hx122_1, hx122_2, hx122_3, hx122_4, hx122_5, hx122_6⟩ := at_T38 HR0.out x5_1 p122 q122
      cases e122
      replace p122 := eq_true p122
      replace q122 := eq_true q122
      go_wp2
      go_roundg k1
      case measure => have := HK1.out; omega
      case rel => exact ⟨(wrap64 (x5_1 + 1)), Z4, H', ⟨by have := HK1.out; omega⟩, Z9⟩
    ·
     rw [if_neg c4] at H
     exact absurd H Z23
   ·
    rw [if_neg c3] at H
    have c3b0 : decide (x5_1 < (l0.length : Int)) = false := decide_eq_false c3
    clear c3
    obtain rfl := Option.some.inj H
    go_wp2
    go_ret
    exact ⟨Z4, Z9⟩
set_option maxHeartbeats 8000000 in
set_option maxRecDepth 100000 in
theorem r10_Name.calls (k : Nat) (a0 : ByteArray) (r : Int) (w : World) (h : r10_Name.f k a0 = some r) :
  Calls Tryz.prog 67 #[.string a0] w fun e w' => e = .returned (.int .i64 r) ∧ Drawn0 w w' := by
 have H : (if (a0.size : Int) > 19 then (some 4) else (if a0.toList = ([] : List UInt8) then (r10_Name.j0 k a0 true) else (if a0.toList = ([46] : List UInt8) then (r10_Name.j0 k a0 true) else (r10_Name.j0 k a0 (a0.toList == ([46, 46] : List UInt8)))))) = some r := h
 clear h
 by_cases c2 : (a0.size : Int) > 19
 ·
  rw [if_pos c2] at H
  have c2b0 : decide (19 < (a0.size : Int)) = true := decide_eq_true c2
  have c2b1 : decide (19 < a0.size) = true := decide_eq_true Z3
  clear c2
  obtain rfl := Option.some.inj H
  go_enter Tryz.func67, Tryz.ntmps67
  go_wp2
  go_ret
  exact ⟨Z4, Z9⟩
 ·
  rw [if_neg c2] at H
  have c2b0 : decide (19 < (a0.size : Int)) = false := decide_eq_false c2
  have c2b1 : decide (19 < a0.size) = false := decide_eq_false Z3
  clear c2
  have HC3 := Aside0.mk H
  clear H
  go_enter Tryz.func67, Tryz.ntmps67
  go_upto_region 3 with (fail)
  go_cut [16] (fun v16 wc => ∃ (kq : Nat) (x16_2 : Bool), v16 = .bool x16_2 ∧ Aside0 (r10_Name.j0 kq a0 x16_2 = some r) ∧ Aside0 (kq ≤ k) ∧ Drawn0 w wc)
  case first =>
   have H := HC3.out
   clear HC3
   by_cases c4 : a0.toList = ([] : List UInt8)
   ·
    rw [if_pos c4] at H
    have c4b0 : (a0.toList == ([] : List UInt8)) = true := beq_iff_eq.mpr c4
    have c4b1 : (a0.toList != ([] : List UInt8)) = false := bne_eq_false_iff_eq.mpr c4
    clear c4
    (first | rw [c4b0] | (simp only [i64_w, i32_w]; rw [c4b0]) | skip)
    have H' := Aside0.mk H
    clear H
    go_wp2
    go_meet
    case rel => exact ⟨_, (true), Z4, H', ⟨Z40⟩, Z9⟩
   ·
    rw [if_neg c4] at H
    have c4b0 : (a0.toList == ([] : List UInt8)) = false := beq_eq_false_iff_ne.mpr c4
    have c4b1 : (a0.toList != ([] : List UInt8)) = true := bne_iff_ne.mpr c4
    (first | rw [c4b0] | (simp only [i64_w, i32_w]; rw [c4b0]) | skip)
    by_cases c5 : a0.toList = ([46] : List UInt8)
    ·
     rw [if_pos c5] at H
     have c5b0 : (a0.toList == ([46] : List UInt8)) = true := beq_iff_eq.mpr c5
     have c5b1 : (a0.toList != ([46] : List UInt8)) = false := bne_eq_false_iff_eq.mpr c5
     clear c5
     have H' := Aside0.mk H
     clear H
     go_wp2
     go_meet
     case rel => exact ⟨_, (true), Z4, H', ⟨Z40⟩, Z9⟩
    ·
     rw [if_neg c5] at H
     have c5b0 : (a0.toList == ([46] : List UInt8)) = false := beq_eq_false_iff_ne.mpr c5
     have c5b1 : (a0.toList != ([46] : List UInt8)) = true := bne_iff_ne.mpr c5
     have H' := Aside0.mk H
     clear H
     go_wp2
     go_meet
     case rel => exact ⟨_, ((a0.toList == ([46, 46] : List UInt8))), Z4, H', ⟨Z40⟩, Z9⟩
  case rest =>
   clear HC3; try clear c2; try clear c2b0; try clear c2b1; try clear p2; try clear c4; try clear c4b0; try clear c4b1; try clear c5; try clear c5b0; try clear c5b1
   obtain ⟨kq, x16_2, rfl, HA, HJ2, ⟨mc2, rfl⟩⟩ := hcut
   cases kq with
   | zero => exact absurd HA.out (by simp [r10_Name.j0])
   | succ kj2 =>
    have H := HA.out
    clear HA
    simp only [r10_Name.j0] at H
    by_cases c6 : x16_2 = true
    ·
     subst c6
     have H1 : (some 40) = some r := by rw [if_pos rfl] at H; exact H
     clear H
     have H := H1
     clear H1
     obtain rfl := Option.some.inj H
     go_wp2
     go_ret
     exact ⟨Z4, Z9⟩
    ·
     replace c6 := Bool.eq_false_iff.mpr c6
     subst c6
     have H1 : (r10_Name.l0 kj2 a0 0) = some r := by rw [if_neg (show ¬ (false = true) by decide)] at H; exact H
     clear H
     have H := H1
     clear H1
     have H' := Aside0.mk H
     clear H
     go_wp2
     go_loopg [3] kj2 (fun kq v3 w' => ∃ (x3_2 : Int), v3 = .int .i64 x3_2 ∧ Aside0 (r10_Name.l0 kq a0 x3_2 = some r) ∧ Aside0 (kq ≤ kj2) ∧ Drawn0 w w')
     case atStart => exact ⟨(0), Z4, H', ⟨Nat.le_refl _⟩, Z9⟩
     case round =>
      clear H'
      try clear c2; try clear c2b0; try clear c2b1; try clear p2; try clear c4; try clear c4b0; try clear c4b1; try clear c5; try clear c5b0; try clear c5b1; try clear c6; try clear p2
      obtain ⟨x3_2, rfl, HA, HK2, ⟨m2, rfl⟩⟩ := hrel
      cases gk with
      | zero => exact absurd HA.out (by simp [r10_Name.l0])
      | succ k2 =>
       have H := HA.out
       clear HA
       simp only [r10_Name.l0] at H
       by_cases c7 : x3_2 < (a0.size : Int)
       ·
        rw [if_pos c7] at H
        have c7b0 : decide (x3_2 < (a0.size : Int)) = true := decide_eq_true c7
        clear c7
        by_cases c8 : 0 ≤ x3_2
        ·
         rw [if_pos c8] at H
         have c8b0 : decide (0 ≤ x3_2) = true := decide_eq_true c8
         clear c8
         by_cases c10 : (bt a0 x3_2) < 33
         ·
          rw [if_pos c10] at H
          have c10b0 : decide ((bt a0 x3_2) < 33) = true := decide_eq_true c10
          clear c10
          obtain rfl := Option.some.inj H
          have p9 : 0 ≤ (x3_2 : Int) := of_decide_eq_true Z2
          have q9 : x3_2 < (a0.size : Int) := of_decide_eq_true Z2
          have hx9 := bt_at a0 x3_2
          replace p9 := eq_true p9
          replace q9 := eq_true q9
          go_wp2
          go_ret
          exact ⟨Z4, Z9⟩
         ·
          rw [if_neg c10] at H
          have c10b0 : decide ((bt a0 x3_2) < 33) = false := decide_eq_false c10
          clear c10
          by_cases c12 : (bt a0 x3_2) > 126
          ·
           rw [if_pos c12] at H
           have c12b0 : decide (126 < (bt a0 x3_2)) = true := decide_eq_true c12
           clear c12
           obtain rfl := Option.some.inj H
           have p9 : 0 ≤ (x3_2 : Int) := of_decide_eq_true Z2
           have q9 : x3_2 < (a0.size : Int) := of_decide_eq_true Z2
           have hx9 := bt_at a0 x3_2
           replace p9 := eq_true p9
           replace q9 := eq_true q9
           have p11 : 0 ≤ (x3_2 : Int) := of_decide_eq_true Z2
           have q11 : x3_2 < (a0.size : Int) := of_decide_eq_true Z2
           have hx11 := bt_at a0 x3_2
           replace p11 := eq_true p11
           replace q11 := eq_true q11
           go_wp2
           go_ret
           exact ⟨Z4, Z9⟩
          ·
           rw [if_neg c12] at H
           have c12b0 : decide (126 < (bt a0 x3_2)) = false := decide_eq_false c12
           clear c12
           by_cases c14 : (bt a0 x3_2) = 47
           ·
            rw [if_pos c14] at H
            have c14b0 : ((bt a0 x3_2) == 47) = true := beq_iff_eq.mpr c14
            have c14b1 : ((bt a0 x3_2) != 47) = false := bne_eq_false_iff_eq.mpr c14
            clear c14
            obtain rfl := Option.some.inj H
            have p9 : 0 ≤ (x3_2 : Int) := of_decide_eq_true Z2
            have q9 : x3_2 < (a0.size : Int) := of_decide_eq_true Z2
            have hx9 := bt_at a0 x3_2
            replace p9 := eq_true p9
            replace q9 := eq_true q9
            have p11 : 0 ≤ (x3_2 : Int) := of_decide_eq_true Z2
            have q11 : x3_2 < (a0.size : Int) := of_decide_eq_true Z2
            have hx11 := bt_at a0 x3_2
            replace p11 := eq_true p11
            replace q11 := eq_true q11
            have p13 : 0 ≤ (x3_2 : Int) := of_decide_eq_true Z2
            have q13 : x3_2 < (a0.size : Int) := of_decide_eq_true Z2
            have hx13 := bt_at a0 x3_2
            replace p13 := eq_true p13
            replace q13 := eq_true q13
            go_wp2
            go_ret
            exact ⟨Z4, Z9⟩
           ·
            rw [if_neg c14] at H
            have c14b0 : ((bt a0 x3_2) == 47) = false := beq_eq_false_iff_ne.mpr c14
            have c14b1 : ((bt a0 x3_2) != 47) = true := bne_iff_ne.mpr c14
            have H' := Aside0.mk H
            clear H
            have p9 : 0 ≤ (x3_2 : Int) := of_decide_eq_true Z2
            have q9 : x3_2 < (a0.size : Int) := of_decide_eq_true Z2
            have hx9 := bt_at a0 x3_2
            replace p9 := eq_true p9
            replace q9 := eq_true q9
            have p11 : 0 ≤ (x3_2 : Int) := of_decide_eq_true Z2
            have q11 : x3_2 < (a0.size : Int) := of_decide_eq_true Z2
            have hx11 := bt_at a0 x3_2
            replace p11 := eq_true p11
            replace q11 := eq_true q11
            have p13 : 0 ≤ (x3_2 : Int) := of_decide_eq_true Z2
            have q13 : x3_2 < (a0.size : Int) := of_decide_eq_true Z2
            have hx13 := bt_at a0 x3_2
            replace p13 := eq_true p13
            replace q13 := eq_true q13
            go_wp2
            go_roundg k2
            case measure => have := HJ2.out; have := HK2.out; omega
            case rel => exact ⟨(wrap64 (x3_2 + 1)), Z4, H', ⟨by have := HJ2.out; have := HK2.out; omega⟩, Z9⟩
        ·
         rw [if_neg c8] at H
         exact absurd H Z23
       ·
        rw [if_neg c7] at H
        have c7b0 : decide (x3_2 < (a0.size : Int)) = false := decide_eq_false c7
        clear c7
        obtain rfl := Option.some.inj H
        go_wp2
        go_ret
        exact ⟨Z4, Z9⟩
set_option maxHeartbeats 8000000 in
set_option maxRecDepth 100000 in
theorem r10_Split.calls (k : Nat) (a0 : ByteArray) (r1 : List ByteArray) (r2 : Int) (w : World) (h : r10_Split.f k a0 = some (r1, r2)) :
  Calls Tryz.prog 39 #[.string a0] w fun e w' => ∃ v0_ : Value, e = .returned (.tuple #[v0_, .int .i64 r2]) ∧ Kd.R Kd.string 9 w' w.heap.size (fun _ => True) v0_ r1 ∧ Below w.heap.size w w' := by
 have HB := Aside0.mk (Below.refl w.heap.size w)
 have H : (if (a0.size : Int) > 255 then (some (([] : List ByteArray), 4)) else (if a0.toList = ([] : List UInt8) then (r10_Split.j0 k a0 true) else (if 0 < (a0.size : Int) then (r10_Split.j0 k a0 ((bt a0 0) != 47)) else (none)))) = some (r1, r2) := h
 clear h
 by_cases c2 : (a0.size : Int) > 255
 ·
  rw [if_pos c2] at H
  have c2b0 : decide (255 < (a0.size : Int)) = true := decide_eq_true c2
  have c2b1 : decide (255 < a0.size) = true := decide_eq_true Z3
  clear c2
  simp only [Option.some.injEq, Prod.mk.injEq] at H
  obtain ⟨rfl, rfl⟩ := H
  go_enter Tryz.func39, Tryz.ntmps39
  go_wp2
  go_ret2
  exact ⟨_, Z12, Z17, Z1⟩
 ·
  rw [if_neg c2] at H
  have c2b0 : decide (255 < (a0.size : Int)) = false := decide_eq_false c2
  have c2b1 : decide (255 < a0.size) = false := decide_eq_false Z3
  clear c2
  have HC3 := Aside0.mk H
  clear H
  go_enter Tryz.func39, Tryz.ntmps39
  go_upto_region 3 with (fail)
  go_cut [17] (fun v17 wc => ∃ (kq : Nat) (x17_2 : Bool), v17 = .bool x17_2 ∧ Aside0 (r10_Split.j0 kq a0 x17_2 = some (r1, r2)) ∧ Aside0 (kq ≤ k) ∧ Aside0 (Below w.heap.size w wc))
  case first =>
   have H := HC3.out
   clear HC3
   by_cases c4 : a0.toList = ([] : List UInt8)
   ·
    rw [if_pos c4] at H
    have c4b0 : (a0.toList == ([] : List UInt8)) = true := beq_iff_eq.mpr c4
    have c4b1 : (a0.toList != ([] : List UInt8)) = false := bne_eq_false_iff_eq.mpr c4
    clear c4
    (first | rw [c4b0] | (simp only [i64_w, i32_w]; rw [c4b0]) | skip)
    have H' := Aside0.mk H
    clear H
    go_wp2
    go_meet
    case rel => exact ⟨_, (true), Z4, H', ⟨Z40⟩, ⟨Z1⟩⟩
   ·
    rw [if_neg c4] at H
    have c4b0 : (a0.toList == ([] : List UInt8)) = false := beq_eq_false_iff_ne.mpr c4
    have c4b1 : (a0.toList != ([] : List UInt8)) = true := bne_iff_ne.mpr c4
    (first | rw [c4b0] | (simp only [i64_w, i32_w]; rw [c4b0]) | skip)
    by_cases c5 : 0 < (a0.size : Int)
    ·
     rw [if_pos c5] at H
     have c5b0 : decide (0 < (a0.size : Int)) = true := decide_eq_true c5
     have c5b1 : decide (0 < a0.size) = true := decide_eq_true Z3
     clear c5
     have H' := Aside0.mk H
     clear H
     have p6 : 0 ≤ (0 : Int) := Z3
     have q6 : 0 < a0.size := (by have : (0 : Int) < (a0.size : Int) := of_decide_eq_true Z2; omega)
     have hx6 : ∀ h : 0 < a0.size, ((a0[0]'h).toNat : Int) = bt a0 0 := bt_at a0 0
     clear p6
     have qi6 : (0 < (a0.size : Int)) = True := eq_true (of_decide_eq_true Z2)
     replace q6 := eq_true q6
     go_wp2
     go_meet
     case rel => exact ⟨_, (((bt a0 0) != 47)), Z4, H', ⟨Z40⟩, ⟨Z1⟩⟩
    ·
     rw [if_neg c5] at H
     exact absurd H Z23
  case rest =>
   clear HC3; try clear c2; try clear c2b0; try clear c2b1; try clear p2; try clear c3; try clear c4; try clear c4b0; try clear c4b1; try clear c5; try clear c5b0; try clear c5b1; try clear p6; try clear q6; try clear hx6; try clear qi6; try clear p6; try clear q6
   obtain ⟨kq, x17_2, rfl, HA, HJ2, HB⟩ := hcut
   cases kq with
   | zero => exact absurd HA.out (by simp [r10_Split.j0])
   | succ kj2 =>
    have H := HA.out
    clear HA
    simp only [r10_Split.j0] at H
    by_cases c7 : x17_2 = true
    ·
     subst c7
     have H1 : (some (([] : List ByteArray), 40)) = some (r1, r2) := by rw [if_pos rfl] at H; exact H
     clear H
     have H := H1
     clear H1
     simp only [Option.some.injEq, Prod.mk.injEq] at H
     obtain ⟨rfl, rfl⟩ := H
     go_wp2
     go_ret2
     exact ⟨_, Z12, Z17, Z1⟩
    ·
     replace c7 := Bool.eq_false_iff.mpr c7
     subst c7
     have H1 : (if (a0.size : Int) = 1 then (some (([] : List ByteArray), 0)) else (r10_Split.l0 kj2 a0 ([] : List ByteArray) 1 1)) = some (r1, r2) := by rw [if_neg (show ¬ (false = true) by decide)] at H; exact H
     clear H
     have H := H1
     clear H1
     by_cases c8 : (a0.size : Int) = 1
     ·
      rw [if_pos c8] at H
      have c8b0 : ((a0.size : Int) == 1) = true := beq_iff_eq.mpr c8
      have c8b1 : ((a0.size : Int) != 1) = false := bne_eq_false_iff_eq.mpr c8
      clear c8
      simp only [Option.some.injEq, Prod.mk.injEq] at H
      obtain ⟨rfl, rfl⟩ := H
      go_wp2
      go_ret2
      exact ⟨_, Z12, Z17, Z1⟩
     ·
      rw [if_neg c8] at H
      have c8b0 : ((a0.size : Int) == 1) = false := beq_eq_false_iff_ne.mpr c8
      have c8b1 : ((a0.size : Int) != 1) = true := bne_iff_ne.mpr c8
      have H' := Aside0.mk H
      clear H
      go_wp2
      go_loopg [4, 5, 6] kj2 (fun kq v4 v5 v6 w' => ∃ (x4_2 : List ByteArray) (x5_2 : Int) (x6_2 : Int), v5 = .int .i64 x5_2 ∧ v6 = .int .i64 x6_2 ∧ Aside0 (r10_Split.l0 kq a0 x4_2 x5_2 x6_2 = some (r1, r2)) ∧ Aside0 (kq ≤ kj2) ∧ Aside0 (Kd.R Kd.string 9 w' w.heap.size (fun _ => True) v4 x4_2) ∧ Aside0 (Below w.heap.size w w'))
      case atStart => exact ⟨(([] : List ByteArray)), (1), (1), Z4, Z4, H', ⟨Nat.le_refl _⟩, ⟨Z17⟩, ⟨Z1⟩⟩
      case round =>
       clear H'
       try clear c2; try clear c2b0; try clear c2b1; try clear p2; try clear c3; try clear c4; try clear c4b0; try clear c4b1; try clear c5; try clear c5b0; try clear c5b1; try clear p6; try clear q6; try clear hx6; try clear qi6; try clear c7; try clear c8; try clear c8b0; try clear c8b1; try clear p2; try clear p6; try clear q6
       obtain ⟨x4_2, x5_2, x6_2, rfl, rfl, HA, HK2, HO_4, HB⟩ := hrel
       cases gk with
       | zero => exact absurd HA.out (by simp [r10_Split.l0])
       | succ k2 =>
        have H := HA.out
        clear HA
        simp only [r10_Split.l0] at H
        by_cases c9 : x6_2 ≤ (a0.size : Int)
        ·
         rw [if_pos c9] at H
         have c9b0 : decide (x6_2 ≤ (a0.size : Int)) = true := decide_eq_true c9
         clear c9
         have HC10 := Aside0.mk H
         clear H
         go_upto_region 12 with (fail)
         go_cut [36] (fun v36 wc => ∃ (kq : Nat) (x36_9 : Bool), v36 = .bool x36_9 ∧ Aside0 (r10_Split.j2 kq a0 x4_2 x5_2 x6_2 x36_9 = some (r1, r2)) ∧ Aside0 (kq ≤ k2) ∧ Aside0 (Kd.R Kd.string 9 wc w.heap.size (fun _ => True) u4 x4_2) ∧ Aside0 (Below w.heap.size w wc))
         case first =>
          have H := HC10.out
          clear HC10
          by_cases c11 : x6_2 < (a0.size : Int)
          ·
           rw [if_pos c11] at H
           have c11b0 : decide (x6_2 < (a0.size : Int)) = true := decide_eq_true c11
           clear c11
           (first | rw [c11b0] | (simp only [i64_w, i32_w]; rw [c11b0]) | skip)
           by_cases c12 : 0 ≤ x6_2
           ·
            rw [if_pos c12] at H
            have c12b0 : decide (0 ≤ x6_2) = true := decide_eq_true c12
            clear c12
            have H' := Aside0.mk H
            clear H
            have p13 : 0 ≤ (x6_2 : Int) := of_decide_eq_true Z2
            have q13 : x6_2 < (a0.size : Int) := of_decide_eq_true Z2
            have hx13 := bt_at a0 x6_2
            replace p13 := eq_true p13
            replace q13 := eq_true q13
            go_wp2
            go_meet
            case rel => exact ⟨_, (((bt a0 x6_2) != 47)), Z4, H', ⟨by have := HJ2.out; have := HK2.out; first | omega | exact Nat.le_refl _⟩, ⟨Z10⟩, ⟨Z1⟩⟩
           ·
            rw [if_neg c12] at H
            exact absurd H Z23
          ·
           rw [if_neg c11] at H
           have c11b0 : decide (x6_2 < (a0.size : Int)) = false := decide_eq_false c11
           clear c11
           (first | rw [c11b0] | (simp only [i64_w, i32_w]; rw [c11b0]) | skip)
           have H' := Aside0.mk H
           clear H
           go_wp2
           go_meet
           case rel => exact ⟨_, (false), Z4, H', ⟨by have := HJ2.out; have := HK2.out; first | omega | exact Nat.le_refl _⟩, ⟨Z10⟩, ⟨Z1⟩⟩
         case rest =>
          clear HC10; try clear c1; try clear p1; try clear q1; try clear hx1; try clear c2; try clear c2b0; try clear c2b1; try clear p2; try clear c3; try clear c4; try clear c4b0; try clear c4b1; try clear c5; try clear c5b0; try clear c5b1; try clear p6; try clear q6; try clear hx6; try clear qi6; try clear c7; try clear c8; try clear c8b0; try clear c8b1; try clear c9; try clear c9b0; try clear c11; try clear c11b0; try clear c12; try clear c12b0; try clear p13; try clear q13; try clear hx13; try clear p13; try clear p2; try clear p6; try clear q13; try clear q6
          obtain ⟨kq, x36_9, rfl, HA, HJ9, HO_4, HB⟩ := hcut
          cases kq with
          | zero => exact absurd HA.out (by simp [r10_Split.j2])
          | succ kj9 =>
           have H := HA.out
           clear HA
           simp only [r10_Split.j2] at H
           by_cases c14 : x36_9 = true
           ·
            subst c14
            have H1 : (r10_Split.l0 kj9 a0 x4_2 x5_2 (wrap64 (x6_2 + 1))) = some (r1, r2) := by rw [if_pos rfl] at H; exact H
            clear H
            have H := H1
            clear H1
            have H' := Aside0.mk H
            clear H
            go_wp2
            go_roundg kj9
            case measure => have := HJ2.out; have := HK2.out; have := HJ9.out; omega
            case rel => exact ⟨(x4_2), (x5_2), (wrap64 (x6_2 + 1)), Z4, Z4, H', ⟨by have := HJ2.out; have := HK2.out; have := HJ9.out; omega⟩, ⟨Z10⟩, ⟨Z1⟩⟩
           ·
            replace c14 := Bool.eq_false_iff.mpr c14
            subst c14
            have H1 : (if 0 ≤ x5_2 then (if x5_2 ≤ x6_2 then (if x6_2 ≤ (a0.size : Int) then ((r10_Name.f kj9 (a0.extract (x5_2 : Int).toNat (x6_2 : Int).toNat)).bind fun t109 => (if t109 = 0 then (if x4_2.length < 8796093022208 then (r10_Split.l0 kj9 a0 (x4_2 ++ [a0.extract (x5_2 : Int).toNat (x6_2 : Int).toNat]) (wrap64 (x6_2 + 1)) (wrap64 (x6_2 + 1))) else (none)) else (some (([] : List ByteArray), t109)))) else (none)) else (none)) else (none)) = some (r1, r2) := by rw [if_neg (show ¬ (false = true) by decide)] at H; exact H
            clear H
            have H := H1
            clear H1
            by_cases c15 : 0 ≤ x5_2
            ·
             rw [if_pos c15] at H
             have c15b0 := eq_true c15
             have c15b1 : decide (0 ≤ x5_2) = true := decide_eq_true c15
             clear c15
             by_cases c16 : x5_2 ≤ x6_2
             ·
              rw [if_pos c16] at H
              have c16b0 := eq_true c16
              have c16b1 : decide (x5_2 ≤ x6_2) = true := decide_eq_true c16
              clear c16
              by_cases c17 : x6_2 ≤ (a0.size : Int)
              ·
               rw [if_pos c17] at H
               have c17b0 := eq_true c17
               have c17b1 : decide (x6_2 ≤ (a0.size : Int)) = true := decide_eq_true c17
               clear c17
               replace H := Option.bind_eq_some_iff.mp H
               obtain ⟨t109, A180, H⟩ := H
               replace H : (if t109 = 0 then (if x4_2.length < 8796093022208 then (r10_Split.l0 kj9 a0 (x4_2 ++ [a0.extract (x5_2 : Int).toNat (x6_2 : Int).toNat]) (wrap64 (x6_2 + 1)) (wrap64 (x6_2 + 1))) else (none)) else (some (([] : List ByteArray), t109))) = some (r1, r2) := H
               have A18 := Aside0.mk A180
               clear A180
               by_cases c19 : t109 = 0
               ·
                rw [if_pos c19] at H
                have c19b0 : (t109 == 0) = true := beq_iff_eq.mpr c19
                have c19b1 : (t109 != 0) = false := bne_eq_false_iff_eq.mpr c19
                clear c19
                have c20b0 := eq_true (of_decide_eq_true Z2 : 0 ≤ x5_2)
                have c21b0 := eq_true (of_decide_eq_true Z2 : x5_2 ≤ x6_2)
                have c22b0 := eq_true (of_decide_eq_true Z2 : x6_2 ≤ (a0.size : Int))
                by_cases c23 : x4_2.length < 8796093022208
                ·
                 rw [if_pos c23] at H
                 have LMc23 := Aside0.mk c23
                 clear c23
                 obtain ⟨y110, hy110⟩ : ∃ y_ : List ByteArray, y_ = (x4_2 ++ [a0.extract (x5_2 : Int).toNat (x6_2 : Int).toNat]) := ⟨_, rfl⟩
                 replace H : (r10_Split.l0 kj9 a0 y110 (wrap64 (x6_2 + 1)) (wrap64 (x6_2 + 1))) = some (r1, r2) := by first | (rw [hy110]; with_reducible exact H) | (have H2_ := (Option.bind_some _ _).symm.trans H; rw [hy110]; with_reducible exact H2_) | (have H2_ := (Option.bind_some _ _).symm.trans H; with_reducible exact H2_) | with_reducible exact H | (rw [hy110]; exact H) | exact H
                 have Ny110 := Aside0.mk hy110
                 clear hy110
                 have H' := Aside0.mk H
                 clear H
                 go_wp2_with (first | ((with_reducible refine gate_callee (f := 67) rfl ?_); refine goesL_ (some 41) rfl rfl Tryz.func67 Z13 rfl #[.string (a0.extract (x5_2 : Int).toNat (x6_2 : Int).toNat)] rfl Z7 ?_; (with_reducible refine (r10_Name.calls kj9 (a0.extract (x5_2 : Int).toNat (x6_2 : Int).toNat) t109 _ A18.out).mono ?_); rintro e w' ⟨rfl, ⟨nd, rfl⟩⟩; refine ⟨_, rfl, ?_⟩) | ((with_reducible refine gate_builtin (b := .append) (xs := #[.tmp 45, .tmp 50]) rfl ?_); at_builtin; refine Kd.R_append Kd.string (w0 := w) w.heap.size rfl (.tmp 45) (.tmp 50) 72 9 (.string ⟨#[]⟩) 16 rfl Tryz.underlying72 info9 rfl Z11 Z3 u4 x4_2 (a0.extract (x5_2 : Int).toNat (x6_2 : Int).toNat) [.string (a0.extract (x5_2 : Int).toNat (x6_2 : Int).toNat)] (fun _ => True) (fun _ => False) rfl rfl ?aP (fun _ hk => hk.elim) ?aF ?aO ?aB ?aS ?aL ?_; (case aP => exact rfl); (case aB => exact Z1); (case aF => exact (fun _ _ => trivial)); (case aO => exact Z10); (case aS => exact (below_size Z1)); (case aL => have := LMc23.out; omega); intro v111 w24 ho hb hg hat; rw [← Ny110.out] at ho; have n0_ := Aside0.mk (hb); have n1_ := Aside0.mk (ho); clear HB; clear HO_4; have HB := n0_; have HO112 := n1_; clear n0_ n1_; clear ho hb hg hat))
                 go_roundg kj9
                 case measure => have := HJ2.out; have := HK2.out; have := HJ9.out; omega
                 case rel => exact ⟨(y110), (wrap64 (x6_2 + 1)), (wrap64 (x6_2 + 1)), Z4, Z4, H', ⟨by have := HJ2.out; have := HK2.out; have := HJ9.out; omega⟩, ⟨by (with_reducible repeat (first | apply Kd.R_alloc | apply Kd.R_drewN | apply Kd.R_drew)); exact HO112.out⟩, ⟨Z1⟩⟩
                ·
                 rw [if_neg c23] at H
                 exact absurd H Z23
               ·
                rw [if_neg c19] at H
                have c19b0 : (t109 == 0) = false := beq_eq_false_iff_ne.mpr c19
                have c19b1 : (t109 != 0) = true := bne_iff_ne.mpr c19
                simp only [Option.some.injEq, Prod.mk.injEq] at H
                obtain ⟨rfl, rfl⟩ := H
                go_wp2_with (first | ((with_reducible refine gate_callee (f := 67) rfl ?_); refine goesL_ (some 41) rfl rfl Tryz.func67 Z13 rfl #[.string (a0.extract (x5_2 : Int).toNat (x6_2 : Int).toNat)] rfl Z7 ?_; (with_reducible refine (r10_Name.calls kj9 (a0.extract (x5_2 : Int).toNat (x6_2 : Int).toNat) t109 _ A18.out).mono ?_); rintro e w' ⟨rfl, ⟨nd, rfl⟩⟩; refine ⟨_, rfl, ?_⟩))
                go_ret2
                exact ⟨_, Z12, Z17, Z1⟩
              ·
               rw [if_neg c17] at H
               exact absurd H Z23
             ·
              rw [if_neg c16] at H
              exact absurd H Z23
            ·
             rw [if_neg c15] at H
             exact absurd H Z23
        ·
         rw [if_neg c9] at H
         have c9b0 : decide (x6_2 ≤ (a0.size : Int)) = false := decide_eq_false c9
         clear c9
         simp only [Option.some.injEq, Prod.mk.injEq] at H
         obtain ⟨rfl, rfl⟩ := H
         go_wp2
         go_ret2
         exact ⟨_, Z12, Z10, Z1⟩
set_option maxHeartbeats 8000000 in
set_option maxRecDepth 100000 in
theorem r8_may.calls (k : Nat) (a0_0 : ByteArray) (a0_1 : Int) (a0_2 : Int) (a0_3 : Int) (a0_4 : Int) (a0_5 : Int) (a0_6 : ByteArray) (r : Bool) (w : World) (h : r8_may.f k a0_0 a0_1 a0_2 a0_3 a0_4 a0_5 a0_6 = some r) :
  Calls Tryz.prog 14 #[.agg #[.string a0_0, .int .i64 a0_1, .int .i64 a0_2, .int .i64 a0_3, .int .i64 a0_4, .int .i64 a0_5, .string a0_6]] w fun e w' => e = .returned (.bool r) ∧ Below w.heap.size w w' := by
 have hu38 := Tryz.underlying38
 have HB := Aside0.mk (Below.refl w.heap.size w)
 have H : ((r10_Split.f k a0_0).bind fun bt114 => ((r10_Split.f k a0_6).bind fun bt118 => (if bt114.2 = 0 then (if a0_3 < 1 then (r8_may.j0 k bt118.2 true a0_0 a0_1 a0_2 a0_3 a0_4 a0_5 a0_6) else (r8_may.j0 k bt118.2 (decide (a0_3 > 3)) a0_0 a0_1 a0_2 a0_3 a0_4 a0_5 a0_6)) else (r8_may.j0 k bt118.2 true a0_0 a0_1 a0_2 a0_3 a0_4 a0_5 a0_6)))) = some r := h
 clear h
 replace H := Option.bind_eq_some_iff.mp H
 obtain ⟨⟨t114, t115⟩, A20, H⟩ := H
 replace H : ((r10_Split.f k a0_6).bind fun bt118 => (if t115 = 0 then (if a0_3 < 1 then (r8_may.j0 k bt118.2 true a0_0 a0_1 a0_2 a0_3 a0_4 a0_5 a0_6) else (r8_may.j0 k bt118.2 (decide (a0_3 > 3)) a0_0 a0_1 a0_2 a0_3 a0_4 a0_5 a0_6)) else (r8_may.j0 k bt118.2 true a0_0 a0_1 a0_2 a0_3 a0_4 a0_5 a0_6))) = some r := H
 have A2 := Aside0.mk A20
 clear A20
 replace H := Option.bind_eq_some_iff.mp H
 obtain ⟨⟨t118, t119⟩, A30, H⟩ := H
 replace H : (if t115 = 0 then (if a0_3 < 1 then (r8_may.j0 k t119 true a0_0 a0_1 a0_2 a0_3 a0_4 a0_5 a0_6) else (r8_may.j0 k t119 (decide (a0_3 > 3)) a0_0 a0_1 a0_2 a0_3 a0_4 a0_5 a0_6)) else (r8_may.j0 k t119 true a0_0 a0_1 a0_2 a0_3 a0_4 a0_5 a0_6)) = some r := H
 have A3 := Aside0.mk A30
 clear A30
 have HC4 := Aside0.mk H
 clear H
 go_enter Tryz.func14, Tryz.ntmps14
 go_upto_region 3 with (first | ((with_reducible refine gate_dst (N := 1) rfl ?_); (try (refine gate_guard (by rfl) ?_; dsimp only)); refine box_event ?hg (N := 1) ?hd (cs := #[.string a0_0, .int .i64 a0_1, .int .i64 a0_2, .int .i64 a0_3, .int .i64 a0_4, .int .i64 a0_5, .string a0_6]) (t := 38) ?hr ?_; (case hd => rfl); (case hg => rfl); (case hr => first | (go_simp; done) | (go_simp; rfl)); intro gb113 hg w5 hbox hb; have n0_ := Aside0.mk (below_step Z1 hb); have n1_ := Aside0.mk (hbox); have n2_ := Aside0.mk ((by rw [hg]; exact (below_size Z1) : w.heap.size ≤ gb113)); have n3_ := Aside0.mk ((by rw [hg]; exact (below_size Z1) : w.heap.size ≤ gb113)); clear HB; have HB := n0_; have BK113 := n1_; have GW113 := n2_; have GE113 := n3_; clear n0_ n1_ n2_ n3_; clear hb hbox hg; have hcz6_0 : w5.cell? ⟨gb113, 0, none⟩ = some (.string a0_0) := (blk_cell BK113.out 0).trans rfl; have hcz6_1 : w5.cell? ⟨gb113, 1, none⟩ = some (.int .i64 a0_1) := (blk_cell BK113.out 1).trans rfl; have hcz6_2 : w5.cell? ⟨gb113, 2, none⟩ = some (.int .i64 a0_2) := (blk_cell BK113.out 2).trans rfl; have hcz6_3 : w5.cell? ⟨gb113, 3, none⟩ = some (.int .i64 a0_3) := (blk_cell BK113.out 3).trans rfl; have hcz6_4 : w5.cell? ⟨gb113, 4, none⟩ = some (.int .i64 a0_4) := (blk_cell BK113.out 4).trans rfl; have hcz6_5 : w5.cell? ⟨gb113, 5, none⟩ = some (.int .i64 a0_5) := (blk_cell BK113.out 5).trans rfl; have hcz6_6 : w5.cell? ⟨gb113, 6, none⟩ = some (.string a0_6) := (blk_cell BK113.out 6).trans rfl; have hfz6_0 := blk_frozen BK113.out 0; have hfz6_1 := blk_frozen BK113.out 1; have hfz6_2 := blk_frozen BK113.out 2; have hfz6_3 := blk_frozen BK113.out 3; have hfz6_4 := blk_frozen BK113.out 4; have hfz6_5 := blk_frozen BK113.out 5; have hfz6_6 := blk_frozen BK113.out 6) | ((with_reducible refine gate_callee (f := 39) rfl ?_); refine goesL_ (some 10) rfl rfl Tryz.func39 Z13 rfl #[.string a0_0] rfl Z7 ?_; (with_reducible refine (r10_Split.calls k a0_0 t114 t115 _ A2.out).mono ?_); rintro e w7 ⟨v116, rfl, ho0, hb⟩; refine ⟨_, rfl, ?_⟩; have n0_ := Aside0.mk (Kd.R_lower ho0 (below_size (by repeat (first | (with_reducible first | exact HB.out | apply below_alloc | apply pw_below_drewN | apply below_drew1 | refine below_set ?_ GE113.out) | exact HB.out)))); have n1_ := Aside0.mk (blk_below (g := gb113) (o := .cells #[.string a0_0, .int .i64 a0_1, .int .i64 a0_2, .int .i64 a0_3, .int .i64 a0_4, .int .i64 a0_5, .string a0_6] 38 (0, 0)) (by (with_reducible repeat (first | refine blk_drewN ?_ _ | refine blk_drew ?_ | refine blk_alloc ?_ _)); exact BK113.out) hb); have n2_ := Aside0.mk (below_step (by repeat (first | (with_reducible first | exact HB.out | apply below_alloc | apply pw_below_drewN | apply below_drew1 | refine below_set ?_ GE113.out) | exact HB.out)) hb); clear BK113; clear HB; have HO117 := n0_; have BK113 := n1_; have HB := n2_; clear n0_ n1_ n2_; (try clear hb); (try clear hb2); (try clear hk); (try clear hi); (try clear ho0); have hcz8_0 : w7.cell? ⟨gb113, 0, none⟩ = some (.string a0_0) := (blk_cell BK113.out 0).trans rfl; have hcz8_1 : w7.cell? ⟨gb113, 1, none⟩ = some (.int .i64 a0_1) := (blk_cell BK113.out 1).trans rfl; have hcz8_2 : w7.cell? ⟨gb113, 2, none⟩ = some (.int .i64 a0_2) := (blk_cell BK113.out 2).trans rfl; have hcz8_3 : w7.cell? ⟨gb113, 3, none⟩ = some (.int .i64 a0_3) := (blk_cell BK113.out 3).trans rfl; have hcz8_4 : w7.cell? ⟨gb113, 4, none⟩ = some (.int .i64 a0_4) := (blk_cell BK113.out 4).trans rfl; have hcz8_5 : w7.cell? ⟨gb113, 5, none⟩ = some (.int .i64 a0_5) := (blk_cell BK113.out 5).trans rfl; have hcz8_6 : w7.cell? ⟨gb113, 6, none⟩ = some (.string a0_6) := (blk_cell BK113.out 6).trans rfl; have hfz8_0 := blk_frozen BK113.out 0; have hfz8_1 := blk_frozen BK113.out 1; have hfz8_2 := blk_frozen BK113.out 2; have hfz8_3 := blk_frozen BK113.out 3; have hfz8_4 := blk_frozen BK113.out 4; have hfz8_5 := blk_frozen BK113.out 5; have hfz8_6 := blk_frozen BK113.out 6) | ((with_reducible refine gate_callee (f := 39) rfl ?_); refine goesL_ (some 16) rfl rfl Tryz.func39 Z13 rfl #[.string a0_6] rfl Z7 ?_; (with_reducible refine (r10_Split.calls k a0_6 t118 t119 _ A3.out).mono ?_); rintro e w9 ⟨v120, rfl, ho0, hb⟩; refine ⟨_, rfl, ?_⟩; have n0_ := Aside0.mk (Kd.R_elder' (by (with_reducible repeat (first | apply Kd.R_alloc | apply Kd.R_drewN | apply Kd.R_drew)); exact HO117.out) (Kd.R_base ho0) hb); have n1_ := Aside0.mk (Kd.R_lower (Kd.R_new' ho0 (Kd.R_lt (by (with_reducible repeat (first | apply Kd.R_alloc | apply Kd.R_drewN | apply Kd.R_drew)); exact HO117.out))) (below_size (by repeat (first | (with_reducible first | exact HB.out | apply below_alloc | apply pw_below_drewN | apply below_drew1 | refine below_set ?_ GE113.out) | exact HB.out)))); have n2_ := Aside0.mk (blk_below (g := gb113) (o := .cells #[.string a0_0, .int .i64 a0_1, .int .i64 a0_2, .int .i64 a0_3, .int .i64 a0_4, .int .i64 a0_5, .string a0_6] 38 (0, 0)) (by (with_reducible repeat (first | refine blk_drewN ?_ _ | refine blk_drew ?_ | refine blk_alloc ?_ _)); exact BK113.out) hb); have n3_ := Aside0.mk (below_step (by repeat (first | (with_reducible first | exact HB.out | apply below_alloc | apply pw_below_drewN | apply below_drew1 | refine below_set ?_ GE113.out) | exact HB.out)) hb); clear HO117; clear BK113; clear HB; have HO117 := n0_; have HO121 := n1_; have BK113 := n2_; have HB := n3_; clear n0_ n1_ n2_ n3_; (try clear hb); (try clear hb2); (try clear hk); (try clear hi); (try clear ho0)))
 (try simp only [Act.put, List.setIfInBounds_toArray, List.set_cons_zero, List.set_cons_succ])
 go_cut [32] (fun v32 wc => ∃ (kq : Nat) (x32_3 : Bool), v32 = .bool x32_3 ∧ Aside0 (r8_may.j0 kq t119 x32_3 a0_0 a0_1 a0_2 a0_3 a0_4 a0_5 a0_6 = some r) ∧ Aside0 (kq ≤ k) ∧ Aside0 (wc.heap[gb113]? = some (.cells #[.string a0_0, .int .i64 a0_1, .int .i64 a0_2, .int .i64 a0_3, .int .i64 a0_4, .int .i64 a0_5, .string a0_6] 38 (0, 0))) ∧ Aside0 (Below w.heap.size w wc))
 case first =>
  have H := HC4.out
  clear HC4
  by_cases c10 : t115 = 0
  ·
   rw [if_pos c10] at H
   have c10b0 : (t115 == 0) = true := beq_iff_eq.mpr c10
   have c10b1 : (t115 != 0) = false := bne_eq_false_iff_eq.mpr c10
   clear c10
   (first | rw [c10b0] | (simp only [i64_w, i32_w]; rw [c10b0]) | skip)
   by_cases c11 : a0_3 < 1
   ·
    rw [if_pos c11] at H
    have c11b0 : decide (a0_3 < 1) = true := decide_eq_true c11
    clear c11
    have H' := Aside0.mk H
    clear H
    have hcz12_0 : w9.cell? ⟨gb113, 0, none⟩ = some (.string a0_0) := (blk_cell BK113.out 0).trans rfl
    have hcz12_1 : w9.cell? ⟨gb113, 1, none⟩ = some (.int .i64 a0_1) := (blk_cell BK113.out 1).trans rfl
    have hcz12_2 : w9.cell? ⟨gb113, 2, none⟩ = some (.int .i64 a0_2) := (blk_cell BK113.out 2).trans rfl
    have hcz12_3 : w9.cell? ⟨gb113, 3, none⟩ = some (.int .i64 a0_3) := (blk_cell BK113.out 3).trans rfl
    have hcz12_4 : w9.cell? ⟨gb113, 4, none⟩ = some (.int .i64 a0_4) := (blk_cell BK113.out 4).trans rfl
    have hcz12_5 : w9.cell? ⟨gb113, 5, none⟩ = some (.int .i64 a0_5) := (blk_cell BK113.out 5).trans rfl
    have hcz12_6 : w9.cell? ⟨gb113, 6, none⟩ = some (.string a0_6) := (blk_cell BK113.out 6).trans rfl
    have hfz12_0 := blk_frozen BK113.out 0
    have hfz12_1 := blk_frozen BK113.out 1
    have hfz12_2 := blk_frozen BK113.out 2
    have hfz12_3 := blk_frozen BK113.out 3
    have hfz12_4 := blk_frozen BK113.out 4
    have hfz12_5 := blk_frozen BK113.out 5
    have hfz12_6 := blk_frozen BK113.out 6
    go_wp2
    go_meet
    case rel => exact ⟨_, (true), Z4, H', ⟨Z40⟩, ⟨by (with_reducible repeat (first | refine blk_drewN ?_ _ | refine blk_drew ?_ | refine blk_alloc ?_ _)); exact BK113.out⟩, ⟨by repeat (first | (with_reducible first | exact HB.out | apply below_alloc | apply pw_below_drewN | apply below_drew1 | refine below_set ?_ GE113.out) | exact HB.out)⟩⟩
   ·
    rw [if_neg c11] at H
    have c11b0 : decide (a0_3 < 1) = false := decide_eq_false c11
    clear c11
    have H' := Aside0.mk H
    clear H
    have hcz13_0 : w9.cell? ⟨gb113, 0, none⟩ = some (.string a0_0) := (blk_cell BK113.out 0).trans rfl
    have hcz13_1 : w9.cell? ⟨gb113, 1, none⟩ = some (.int .i64 a0_1) := (blk_cell BK113.out 1).trans rfl
    have hcz13_2 : w9.cell? ⟨gb113, 2, none⟩ = some (.int .i64 a0_2) := (blk_cell BK113.out 2).trans rfl
    have hcz13_3 : w9.cell? ⟨gb113, 3, none⟩ = some (.int .i64 a0_3) := (blk_cell BK113.out 3).trans rfl
    have hcz13_4 : w9.cell? ⟨gb113, 4, none⟩ = some (.int .i64 a0_4) := (blk_cell BK113.out 4).trans rfl
    have hcz13_5 : w9.cell? ⟨gb113, 5, none⟩ = some (.int .i64 a0_5) := (blk_cell BK113.out 5).trans rfl
    have hcz13_6 : w9.cell? ⟨gb113, 6, none⟩ = some (.string a0_6) := (blk_cell BK113.out 6).trans rfl
    have hfz13_0 := blk_frozen BK113.out 0
    have hfz13_1 := blk_frozen BK113.out 1
    have hfz13_2 := blk_frozen BK113.out 2
    have hfz13_3 := blk_frozen BK113.out 3
    have hfz13_4 := blk_frozen BK113.out 4
    have hfz13_5 := blk_frozen BK113.out 5
    have hfz13_6 := blk_frozen BK113.out 6
    go_wp2
    go_meet
    case rel => exact ⟨_, (decide (a0_3 > 3)), Z4, H', ⟨Z40⟩, ⟨by (with_reducible repeat (first | refine blk_drewN ?_ _ | refine blk_drew ?_ | refine blk_alloc ?_ _)); exact BK113.out⟩, ⟨by repeat (first | (with_reducible first | exact HB.out | apply below_alloc | apply pw_below_drewN | apply below_drew1 | refine below_set ?_ GE113.out) | exact HB.out)⟩⟩
  ·
   rw [if_neg c10] at H
   have c10b0 : (t115 == 0) = false := beq_eq_false_iff_ne.mpr c10
   have c10b1 : (t115 != 0) = true := bne_iff_ne.mpr c10
   (first | rw [c10b0] | (simp only [i64_w, i32_w]; rw [c10b0]) | skip)
   have H' := Aside0.mk H
   clear H
   go_wp2
   go_meet
   case rel => exact ⟨_, (true), Z4, H', ⟨Z40⟩, ⟨by (with_reducible repeat (first | refine blk_drewN ?_ _ | refine blk_drew ?_ | refine blk_alloc ?_ _)); exact BK113.out⟩, ⟨by repeat (first | (with_reducible first | exact HB.out | apply below_alloc | apply pw_below_drewN | apply below_drew1 | refine below_set ?_ GE113.out) | exact HB.out)⟩⟩
 case rest =>
  clear HC4; try clear c1; try clear p2; try clear c3; try clear c10; try clear c10b0; try clear c10b1; try clear c11; try clear c11b0; try clear hcz12_0; try clear hcz12_1; try clear hcz12_2; try clear hcz12_3; try clear hcz12_4; try clear hcz12_5; try clear hcz12_6; try clear hcz13_0; try clear hcz13_1; try clear hcz13_2; try clear hcz13_3; try clear hcz13_4; try clear hcz13_5; try clear hcz13_6; try clear hcz6_0; try clear hcz6_1; try clear hcz6_2; try clear hcz6_3; try clear hcz6_4; try clear hcz6_5; try clear hcz6_6; try clear hcz8_0; try clear hcz8_1; try clear hcz8_2; try clear hcz8_3; try clear hcz8_4; try clear hcz8_5; try clear hcz8_6; try clear hfz12_0; try clear hfz12_1; try clear hfz12_2; try clear hfz12_3; try clear hfz12_4; try clear hfz12_5; try clear hfz12_6; try clear hfz13_0; try clear hfz13_1; try clear hfz13_2; try clear hfz13_3; try clear hfz13_4; try clear hfz13_5; try clear hfz13_6; try clear hfz6_0; try clear hfz6_1; try clear hfz6_2; try clear hfz6_3; try clear hfz6_4; try clear hfz6_5; try clear hfz6_6; try clear hfz8_0; try clear hfz8_1; try clear hfz8_2; try clear hfz8_3; try clear hfz8_4; try clear hfz8_5; try clear hfz8_6
  obtain ⟨kq, x32_3, rfl, HA, HJ3, BK113, HB⟩ := hcut
  cases kq with
  | zero => exact absurd HA.out (by simp [r8_may.j0])
  | succ kj3 =>
   have H := HA.out
   clear HA
   simp only [r8_may.j0] at H
   by_cases c14 : x32_3 = true
   ·
    subst c14
    have H1 : (some false) = some r := by rw [if_pos rfl] at H; exact H
    clear H
    have H := H1
    clear H1
    obtain rfl := Option.some.inj H
    go_wp2
    go_ret
    exact ⟨Z12, by repeat (first | (with_reducible first | exact HB.out | apply below_alloc | apply pw_below_drewN | apply below_drew1 | refine below_set ?_ GE113.out) | exact HB.out)⟩
   ·
    replace c14 := Bool.eq_false_iff.mpr c14
    subst c14
    have H1 : (if a0_3 = 2 then (some (a0_6.toList == ([] : List UInt8))) else (if a0_3 = 1 then (if (a0_6.size : Int) ≤ 5675264 then (some true) else (if a0_3 = 3 then (some (t119 == 0)) else (some false))) else (if a0_3 = 3 then (some (t119 == 0)) else (some false)))) = some r := by rw [if_neg (show ¬ (false = true) by decide)] at H; exact H
    clear H
    have H := H1
    clear H1
    by_cases c15 : a0_3 = 2
    ·
     rw [if_pos c15] at H
     have c15b0 : (a0_3 == 2) = true := beq_iff_eq.mpr c15
     have c15b1 : (a0_3 != 2) = false := bne_eq_false_iff_eq.mpr c15
     clear c15
     obtain rfl := Option.some.inj H
     have hcz16_0 : wc.cell? ⟨gb113, 0, none⟩ = some (.string a0_0) := (blk_cell BK113.out 0).trans rfl
     have hcz16_1 : wc.cell? ⟨gb113, 1, none⟩ = some (.int .i64 a0_1) := (blk_cell BK113.out 1).trans rfl
     have hcz16_2 : wc.cell? ⟨gb113, 2, none⟩ = some (.int .i64 a0_2) := (blk_cell BK113.out 2).trans rfl
     have hcz16_3 : wc.cell? ⟨gb113, 3, none⟩ = some (.int .i64 a0_3) := (blk_cell BK113.out 3).trans rfl
     have hcz16_4 : wc.cell? ⟨gb113, 4, none⟩ = some (.int .i64 a0_4) := (blk_cell BK113.out 4).trans rfl
     have hcz16_5 : wc.cell? ⟨gb113, 5, none⟩ = some (.int .i64 a0_5) := (blk_cell BK113.out 5).trans rfl
     have hcz16_6 : wc.cell? ⟨gb113, 6, none⟩ = some (.string a0_6) := (blk_cell BK113.out 6).trans rfl
     have hfz16_0 := blk_frozen BK113.out 0
     have hfz16_1 := blk_frozen BK113.out 1
     have hfz16_2 := blk_frozen BK113.out 2
     have hfz16_3 := blk_frozen BK113.out 3
     have hfz16_4 := blk_frozen BK113.out 4
     have hfz16_5 := blk_frozen BK113.out 5
     have hfz16_6 := blk_frozen BK113.out 6
     go_wp2
     go_ret
     exact ⟨Z12, by repeat (first | (with_reducible first | exact HB.out | apply below_alloc | apply pw_below_drewN | apply below_drew1 | refine below_set ?_ GE113.out) | exact HB.out)⟩
    ·
     rw [if_neg c15] at H
     have c15b0 : (a0_3 == 2) = false := beq_eq_false_iff_ne.mpr c15
     have c15b1 : (a0_3 != 2) = true := bne_iff_ne.mpr c15
     by_cases c17 : a0_3 = 1
     ·
      rw [if_pos c17] at H
      have c17b0 : (a0_3 == 1) = true := beq_iff_eq.mpr c17
      have c17b1 : (a0_3 != 1) = false := bne_eq_false_iff_eq.mpr c17
      clear c17
      by_cases c18 : (a0_6.size : Int) ≤ 5675264
      ·
       rw [if_pos c18] at H
       have c18b0 : decide ((a0_6.size : Int) ≤ 5675264) = true := decide_eq_true c18
       have c18b1 : decide (a0_6.size ≤ 5675264) = true := decide_eq_true Z3
       clear c18
       obtain rfl := Option.some.inj H
       have hcz19_0 : wc.cell? ⟨gb113, 0, none⟩ = some (.string a0_0) := (blk_cell BK113.out 0).trans rfl
       have hcz19_1 : wc.cell? ⟨gb113, 1, none⟩ = some (.int .i64 a0_1) := (blk_cell BK113.out 1).trans rfl
       have hcz19_2 : wc.cell? ⟨gb113, 2, none⟩ = some (.int .i64 a0_2) := (blk_cell BK113.out 2).trans rfl
       have hcz19_3 : wc.cell? ⟨gb113, 3, none⟩ = some (.int .i64 a0_3) := (blk_cell BK113.out 3).trans rfl
       have hcz19_4 : wc.cell? ⟨gb113, 4, none⟩ = some (.int .i64 a0_4) := (blk_cell BK113.out 4).trans rfl
       have hcz19_5 : wc.cell? ⟨gb113, 5, none⟩ = some (.int .i64 a0_5) := (blk_cell BK113.out 5).trans rfl
       have hcz19_6 : wc.cell? ⟨gb113, 6, none⟩ = some (.string a0_6) := (blk_cell BK113.out 6).trans rfl
       have hfz19_0 := blk_frozen BK113.out 0
       have hfz19_1 := blk_frozen BK113.out 1
       have hfz19_2 := blk_frozen BK113.out 2
       have hfz19_3 := blk_frozen BK113.out 3
       have hfz19_4 := blk_frozen BK113.out 4
       have hfz19_5 := blk_frozen BK113.out 5
       have hfz19_6 := blk_frozen BK113.out 6
       go_wp2
       go_ret
       exact ⟨Z12, by repeat (first | (with_reducible first | exact HB.out | apply below_alloc | apply pw_below_drewN | apply below_drew1 | refine below_set ?_ GE113.out) | exact HB.out)⟩
      ·
       rw [if_neg c18] at H
       have c18b0 : decide ((a0_6.size : Int) ≤ 5675264) = false := decide_eq_false c18
       have c18b1 : decide (a0_6.size ≤ 5675264) = false := decide_eq_false Z3
       clear c18
       by_cases c20 : a0_3 = 3
       ·
        rw [if_pos c20] at H
        have c20b0 : (a0_3 == 3) = true := beq_iff_eq.mpr c20
        have c20b1 : (a0_3 != 3) = false := bne_eq_false_iff_eq.mpr c20
        clear c20
        obtain rfl := Option.some.inj H
        have hcz21_0 : wc.cell? ⟨gb113, 0, none⟩ = some (.string a0_0) := (blk_cell BK113.out 0).trans rfl
        have hcz21_1 : wc.cell? ⟨gb113, 1, none⟩ = some (.int .i64 a0_1) := (blk_cell BK113.out 1).trans rfl
        have hcz21_2 : wc.cell? ⟨gb113, 2, none⟩ = some (.int .i64 a0_2) := (blk_cell BK113.out 2).trans rfl
        have hcz21_3 : wc.cell? ⟨gb113, 3, none⟩ = some (.int .i64 a0_3) := (blk_cell BK113.out 3).trans rfl
        have hcz21_4 : wc.cell? ⟨gb113, 4, none⟩ = some (.int .i64 a0_4) := (blk_cell BK113.out 4).trans rfl
        have hcz21_5 : wc.cell? ⟨gb113, 5, none⟩ = some (.int .i64 a0_5) := (blk_cell BK113.out 5).trans rfl
        have hcz21_6 : wc.cell? ⟨gb113, 6, none⟩ = some (.string a0_6) := (blk_cell BK113.out 6).trans rfl
        have hfz21_0 := blk_frozen BK113.out 0
        have hfz21_1 := blk_frozen BK113.out 1
        have hfz21_2 := blk_frozen BK113.out 2
        have hfz21_3 := blk_frozen BK113.out 3
        have hfz21_4 := blk_frozen BK113.out 4
        have hfz21_5 := blk_frozen BK113.out 5
        have hfz21_6 := blk_frozen BK113.out 6
        go_wp2
        go_ret
        exact ⟨Z12, by repeat (first | (with_reducible first | exact HB.out | apply below_alloc | apply pw_below_drewN | apply below_drew1 | refine below_set ?_ GE113.out) | exact HB.out)⟩
       ·
        rw [if_neg c20] at H
        have c20b0 : (a0_3 == 3) = false := beq_eq_false_iff_ne.mpr c20
        have c20b1 : (a0_3 != 3) = true := bne_iff_ne.mpr c20
        obtain rfl := Option.some.inj H
        have hcz22_0 : wc.cell? ⟨gb113, 0, none⟩ = some (.string a0_0) := (blk_cell BK113.out 0).trans rfl
        have hcz22_1 : wc.cell? ⟨gb113, 1, none⟩ = some (.int .i64 a0_1) := (blk_cell BK113.out 1).trans rfl
        have hcz22_2 : wc.cell? ⟨gb113, 2, none⟩ = some (.int .i64 a0_2) := (blk_cell BK113.out 2).trans rfl
        have hcz22_3 : wc.cell? ⟨gb113, 3, none⟩ = some (.int .i64 a0_3) := (blk_cell BK113.out 3).trans rfl
        have hcz22_4 : wc.cell? ⟨gb113, 4, none⟩ = some (.int .i64 a0_4) := (blk_cell BK113.out 4).trans rfl
        have hcz22_5 : wc.cell? ⟨gb113, 5, none⟩ = some (.int .i64 a0_5) := (blk_cell BK113.out 5).trans rfl
        have hcz22_6 : wc.cell? ⟨gb113, 6, none⟩ = some (.string a0_6) := (blk_cell BK113.out 6).trans rfl
        have hfz22_0 := blk_frozen BK113.out 0
        have hfz22_1 := blk_frozen BK113.out 1
        have hfz22_2 := blk_frozen BK113.out 2
        have hfz22_3 := blk_frozen BK113.out 3
        have hfz22_4 := blk_frozen BK113.out 4
        have hfz22_5 := blk_frozen BK113.out 5
        have hfz22_6 := blk_frozen BK113.out 6
        go_wp2
        go_ret
        exact ⟨Z12, by repeat (first | (with_reducible first | exact HB.out | apply below_alloc | apply pw_below_drewN | apply below_drew1 | refine below_set ?_ GE113.out) | exact HB.out)⟩
     ·
      rw [if_neg c17] at H
      have c17b0 : (a0_3 == 1) = false := beq_eq_false_iff_ne.mpr c17
      have c17b1 : (a0_3 != 1) = true := bne_iff_ne.mpr c17
      by_cases c23 : a0_3 = 3
      ·
       rw [if_pos c23] at H
       have c23b0 : (a0_3 == 3) = true := beq_iff_eq.mpr c23
       have c23b1 : (a0_3 != 3) = false := bne_eq_false_iff_eq.mpr c23
       clear c23
       obtain rfl := Option.some.inj H
       have hcz24_0 : wc.cell? ⟨gb113, 0, none⟩ = some (.string a0_0) := (blk_cell BK113.out 0).trans rfl
       have hcz24_1 : wc.cell? ⟨gb113, 1, none⟩ = some (.int .i64 a0_1) := (blk_cell BK113.out 1).trans rfl
       have hcz24_2 : wc.cell? ⟨gb113, 2, none⟩ = some (.int .i64 a0_2) := (blk_cell BK113.out 2).trans rfl
       have hcz24_3 : wc.cell? ⟨gb113, 3, none⟩ = some (.int .i64 a0_3) := (blk_cell BK113.out 3).trans rfl
       have hcz24_4 : wc.cell? ⟨gb113, 4, none⟩ = some (.int .i64 a0_4) := (blk_cell BK113.out 4).trans rfl
       have hcz24_5 : wc.cell? ⟨gb113, 5, none⟩ = some (.int .i64 a0_5) := (blk_cell BK113.out 5).trans rfl
       have hcz24_6 : wc.cell? ⟨gb113, 6, none⟩ = some (.string a0_6) := (blk_cell BK113.out 6).trans rfl
       have hfz24_0 := blk_frozen BK113.out 0
       have hfz24_1 := blk_frozen BK113.out 1
       have hfz24_2 := blk_frozen BK113.out 2
       have hfz24_3 := blk_frozen BK113.out 3
       have hfz24_4 := blk_frozen BK113.out 4
       have hfz24_5 := blk_frozen BK113.out 5
       have hfz24_6 := blk_frozen BK113.out 6
       go_wp2
       go_ret
       exact ⟨Z12, by repeat (first | (with_reducible first | exact HB.out | apply below_alloc | apply pw_below_drewN | apply below_drew1 | refine below_set ?_ GE113.out) | exact HB.out)⟩
      ·
       rw [if_neg c23] at H
       have c23b0 : (a0_3 == 3) = false := beq_eq_false_iff_ne.mpr c23
       have c23b1 : (a0_3 != 3) = true := bne_iff_ne.mpr c23
       obtain rfl := Option.some.inj H
       have hcz25_0 : wc.cell? ⟨gb113, 0, none⟩ = some (.string a0_0) := (blk_cell BK113.out 0).trans rfl
       have hcz25_1 : wc.cell? ⟨gb113, 1, none⟩ = some (.int .i64 a0_1) := (blk_cell BK113.out 1).trans rfl
       have hcz25_2 : wc.cell? ⟨gb113, 2, none⟩ = some (.int .i64 a0_2) := (blk_cell BK113.out 2).trans rfl
       have hcz25_3 : wc.cell? ⟨gb113, 3, none⟩ = some (.int .i64 a0_3) := (blk_cell BK113.out 3).trans rfl
       have hcz25_4 : wc.cell? ⟨gb113, 4, none⟩ = some (.int .i64 a0_4) := (blk_cell BK113.out 4).trans rfl
       have hcz25_5 : wc.cell? ⟨gb113, 5, none⟩ = some (.int .i64 a0_5) := (blk_cell BK113.out 5).trans rfl
       have hcz25_6 : wc.cell? ⟨gb113, 6, none⟩ = some (.string a0_6) := (blk_cell BK113.out 6).trans rfl
       have hfz25_0 := blk_frozen BK113.out 0
       have hfz25_1 := blk_frozen BK113.out 1
       have hfz25_2 := blk_frozen BK113.out 2
       have hfz25_3 := blk_frozen BK113.out 3
       have hfz25_4 := blk_frozen BK113.out 4
       have hfz25_5 := blk_frozen BK113.out 5
       have hfz25_6 := blk_frozen BK113.out 6
       go_wp2
       go_ret
       exact ⟨Z12, by repeat (first | (with_reducible first | exact HB.out | apply below_alloc | apply pw_below_drewN | apply below_drew1 | refine below_set ?_ GE113.out) | exact HB.out)⟩
set_option maxHeartbeats 8000000 in
set_option maxRecDepth 100000 in
theorem r8_Less.calls (k : Nat) (a0 : ByteArray) (a1 : ByteArray) (r : Bool) (w : World) (h : r8_Less.f k a0 a1 = some r) :
  Calls Tryz.prog 16 #[.string a0, .string a1] w fun e w' => e = .returned (.bool r) ∧ Drawn0 w w' := by
 have H : (r8_Less.l0 k a0 a1 0) = some r := h
 clear h
 have H' := Aside0.mk H
 clear H
 go_enter Tryz.func16, Tryz.ntmps16
 go_wp2
 repeat (go_quiet (fail); try go_wp2)
 go_loopg [5] k (fun kq v5 w' => ∃ (x5_1 : Int), v5 = .int .i64 x5_1 ∧ Aside0 (r8_Less.l0 kq a0 a1 x5_1 = some r) ∧ Aside0 (kq ≤ k) ∧ Drawn0 w w')
 case atStart => exact ⟨(0), Z4, H', ⟨Nat.le_refl _⟩, Z9⟩
 case round =>
  clear H'
  try clear c1; try clear p2
  obtain ⟨x5_1, rfl, HA, HK1, ⟨m1, rfl⟩⟩ := hrel
  cases gk with
  | zero => exact absurd HA.out (by simp [r8_Less.l0])
  | succ k1 =>
   have H := HA.out
   clear HA
   simp only [r8_Less.l0] at H
   have HC3 := Aside0.mk H
   clear H
   go_upto_region 2 with (fail)
   repeat (go_quiet (fail); go_upto_region 2 with (fail))
   go_cut [15] (fun v15 wc => ∃ (kq : Nat) (x15_2 : Bool), v15 = .bool x15_2 ∧ Aside0 (r8_Less.j1 kq a0 a1 x5_1 x15_2 = some r) ∧ Aside0 (kq ≤ k1) ∧ Drawn0 w wc)
   case first =>
    have H := HC3.out
    clear HC3
    by_cases c4 : x5_1 < (a0.size : Int)
    ·
     rw [if_pos c4] at H
     have c4b0 : decide (x5_1 < (a0.size : Int)) = true := decide_eq_true c4
     clear c4
     (first | rw [c4b0] | (simp only [i64_w, i32_w]; rw [c4b0]) | skip)
     have H' := Aside0.mk H
     clear H
     go_wp2
     repeat (go_quiet (fail); try go_wp2)
     go_meet
     case rel => exact ⟨_, (decide (x5_1 < (a1.size : Int))), Z4, H', ⟨Z30⟩, Z9⟩
    ·
     rw [if_neg c4] at H
     have c4b0 : decide (x5_1 < (a0.size : Int)) = false := decide_eq_false c4
     clear c4
     (first | rw [c4b0] | (simp only [i64_w, i32_w]; rw [c4b0]) | skip)
     have H' := Aside0.mk H
     clear H
     go_wp2
     repeat (go_quiet (fail); try go_wp2)
     go_meet
     case rel => exact ⟨_, (false), Z4, H', ⟨Z30⟩, Z9⟩
   case rest =>
    clear HC3; try clear c1; try clear p2; try clear c4; try clear c4b0; try clear p2
    obtain ⟨kq, x15_2, rfl, HA, HJ2, ⟨mc2, rfl⟩⟩ := hcut
    cases kq with
    | zero => exact absurd HA.out (by simp [r8_Less.j1])
    | succ kj2 =>
     have H := HA.out
     clear HA
     simp only [r8_Less.j1] at H
     by_cases c5 : x15_2 = true
     ·
      subst c5
      have H1 : (if 0 ≤ x5_1 then (if x5_1 < (a0.size : Int) then (if x5_1 < (a1.size : Int) then (if (bt a0 x5_1) = (bt a1 x5_1) then (r8_Less.l0 kj2 a0 a1 (wrap64 (x5_1 + 1))) else (if (bt a0 x5_1) = 47 then (some ((bt a0 x5_1) == 47)) else (if (bt a1 x5_1) = 47 then (some ((bt a0 x5_1) == 47)) else (some (decide ((bt a0 x5_1) < (bt a1 x5_1))))))) else (none)) else (none)) else (none)) = some r := by rw [if_pos rfl] at H; exact H
      clear H
      have H := H1
      clear H1
      by_cases c6 : 0 ≤ x5_1
      ·
       rw [if_pos c6] at H
       have c6b0 : decide (0 ≤ x5_1) = true := decide_eq_true c6
       clear c6
       by_cases c7 : x5_1 < (a0.size : Int)
       ·
        rw [if_pos c7] at H
        have c7b0 : decide (x5_1 < (a0.size : Int)) = true := decide_eq_true c7
        clear c7
        by_cases c9 : x5_1 < (a1.size : Int)
        ·
         rw [if_pos c9] at H
         have c9b0 : decide (x5_1 < (a1.size : Int)) = true := decide_eq_true c9
         clear c9
         by_cases c11 : (bt a0 x5_1) = (bt a1 x5_1)
         ·
          rw [if_pos c11] at H
          have c11b0 : ((bt a0 x5_1) == (bt a1 x5_1)) = true := beq_iff_eq.mpr c11
          have c11b1 : ((bt a0 x5_1) != (bt a1 x5_1)) = false := bne_eq_false_iff_eq.mpr c11
          clear c11
          have H' := Aside0.mk H
          clear H
          have p8 : 0 ≤ (x5_1 : Int) := of_decide_eq_true Z2
          have q8 : x5_1 < (a0.size : Int) := of_decide_eq_true Z2
          have hx8 := bt_at a0 x5_1
          replace p8 := eq_true p8
          replace q8 := eq_true q8
          have p10 : 0 ≤ (x5_1 : Int) := of_decide_eq_true Z2
          have q10 : x5_1 < (a1.size : Int) := of_decide_eq_true Z2
          have hx10 := bt_at a1 x5_1
          replace p10 := eq_true p10
          replace q10 := eq_true q10
          go_wp2
          repeat (go_quiet (fail); try go_wp2)
          go_roundg kj2
          case measure => have := HK1.out; have := HJ2.out; omega
          case rel => exact ⟨(wrap64 (x5_1 + 1)), Z4, H', ⟨by have := HK1.out; have := HJ2.out; omega⟩, Z9⟩
         ·
          rw [if_neg c11] at H
          have c11b0 : ((bt a0 x5_1) == (bt a1 x5_1)) = false := beq_eq_false_iff_ne.mpr c11
          have c11b1 : ((bt a0 x5_1) != (bt a1 x5_1)) = true := bne_iff_ne.mpr c11
          by_cases c13 : (bt a0 x5_1) = 47
          ·
           rw [if_pos c13] at H
           have c13b0 : ((bt a0 x5_1) == 47) = true := beq_iff_eq.mpr c13
           have c13b1 : ((bt a0 x5_1) != 47) = false := bne_eq_false_iff_eq.mpr c13
           clear c13
           obtain rfl := Option.some.inj H
           have p8 : 0 ≤ (x5_1 : Int) := of_decide_eq_true Z2
           have q8 : x5_1 < (a0.size : Int) := of_decide_eq_true Z2
           have hx8 := bt_at a0 x5_1
           replace p8 := eq_true p8
           replace q8 := eq_true q8
           have p10 : 0 ≤ (x5_1 : Int) := of_decide_eq_true Z2
           have q10 : x5_1 < (a1.size : Int) := of_decide_eq_true Z2
           have hx10 := bt_at a1 x5_1
           replace p10 := eq_true p10
           replace q10 := eq_true q10
           have p12 : 0 ≤ (x5_1 : Int) := of_decide_eq_true Z2
           have q12 : x5_1 < (a0.size : Int) := of_decide_eq_true Z2
           have hx12 := bt_at a0 x5_1
           replace p12 := eq_true p12
           replace q12 := eq_true q12
           have p14 : 0 ≤ (x5_1 : Int) := of_decide_eq_true Z2
           have q14 : x5_1 < (a0.size : Int) := of_decide_eq_true Z2
           have hx14 := bt_at a0 x5_1
           replace p14 := eq_true p14
           replace q14 := eq_true q14
           go_wp2
           repeat (go_quiet (fail); try go_wp2)
           go_ret
           exact ⟨Z4, Z9⟩
          ·
           rw [if_neg c13] at H
           have c13b0 : ((bt a0 x5_1) == 47) = false := beq_eq_false_iff_ne.mpr c13
           have c13b1 : ((bt a0 x5_1) != 47) = true := bne_iff_ne.mpr c13
           by_cases c16 : (bt a1 x5_1) = 47
           ·
            rw [if_pos c16] at H
            have c16b0 : ((bt a1 x5_1) == 47) = true := beq_iff_eq.mpr c16
            have c16b1 : ((bt a1 x5_1) != 47) = false := bne_eq_false_iff_eq.mpr c16
            clear c16
            obtain rfl := Option.some.inj H
            have p8 : 0 ≤ (x5_1 : Int) := of_decide_eq_true Z2
            have q8 : x5_1 < (a0.size : Int) := of_decide_eq_true Z2
            have hx8 := bt_at a0 x5_1
            replace p8 := eq_true p8
            replace q8 := eq_true q8
            have p10 : 0 ≤ (x5_1 : Int) := of_decide_eq_true Z2
            have q10 : x5_1 < (a1.size : Int) := of_decide_eq_true Z2
            have hx10 := bt_at a1 x5_1
            replace p10 := eq_true p10
            replace q10 := eq_true q10
            have p12 : 0 ≤ (x5_1 : Int) := of_decide_eq_true Z2
            have q12 : x5_1 < (a0.size : Int) := of_decide_eq_true Z2
            have hx12 := bt_at a0 x5_1
            replace p12 := eq_true p12
            replace q12 := eq_true q12
            have p15 : 0 ≤ (x5_1 : Int) := of_decide_eq_true Z2
            have q15 : x5_1 < (a1.size : Int) := of_decide_eq_true Z2
            have hx15 := bt_at a1 x5_1
            replace p15 := eq_true p15
            replace q15 := eq_true q15
            have p17 : 0 ≤ (x5_1 : Int) := of_decide_eq_true Z2
            have q17 : x5_1 < (a0.size : Int) := of_decide_eq_true Z2
            have hx17 := bt_at a0 x5_1
            replace p17 := eq_true p17
            replace q17 := eq_true q17
            go_wp2
            repeat (go_quiet (fail); try go_wp2)
            go_ret
            exact ⟨Z4, Z9⟩
           ·
            rw [if_neg c16] at H
            have c16b0 : ((bt a1 x5_1) == 47) = false := beq_eq_false_iff_ne.mpr c16
            have c16b1 : ((bt a1 x5_1) != 47) = true := bne_iff_ne.mpr c16
            obtain rfl := Option.some.inj H
            have p8 : 0 ≤ (x5_1 : Int) := of_decide_eq_true Z2
            have q8 : x5_1 < (a0.size : Int) := of_decide_eq_true Z2
            have hx8 := bt_at a0 x5_1
            replace p8 := eq_true p8
            replace q8 := eq_true q8
            have p10 : 0 ≤ (x5_1 : Int) := of_decide_eq_true Z2
            have q10 : x5_1 < (a1.size : Int) := of_decide_eq_true Z2
            have hx10 := bt_at a1 x5_1
            replace p10 := eq_true p10
            replace q10 := eq_true q10
            have p12 : 0 ≤ (x5_1 : Int) := of_decide_eq_true Z2
            have q12 : x5_1 < (a0.size : Int) := of_decide_eq_true Z2
            have hx12 := bt_at a0 x5_1
            replace p12 := eq_true p12
            replace q12 := eq_true q12
            have p15 : 0 ≤ (x5_1 : Int) := of_decide_eq_true Z2
            have q15 : x5_1 < (a1.size : Int) := of_decide_eq_true Z2
            have hx15 := bt_at a1 x5_1
            replace p15 := eq_true p15
            replace q15 := eq_true q15
            have p18 : 0 ≤ (x5_1 : Int) := of_decide_eq_true Z2
            have q18 : x5_1 < (a0.size : Int) := of_decide_eq_true Z2
            have hx18 := bt_at a0 x5_1
            replace p18 := eq_true p18
            replace q18 := eq_true q18
            have p19 : 0 ≤ (x5_1 : Int) := of_decide_eq_true Z2
            have q19 : x5_1 < (a1.size : Int) := of_decide_eq_true Z2
            have hx19 := bt_at a1 x5_1
            replace p19 := eq_true p19
            replace q19 := eq_true q19
            go_wp2
            repeat (go_quiet (fail); try go_wp2)
            go_ret
            exact ⟨Z4, Z9⟩
        ·
         rw [if_neg c9] at H
         exact absurd H Z23
       ·
        rw [if_neg c7] at H
        exact absurd H Z23
      ·
       rw [if_neg c6] at H
       exact absurd H Z23
     ·
      replace c5 := Bool.eq_false_iff.mpr c5
      subst c5
      have H1 : (some (decide ((a0.size : Int) < (a1.size : Int)))) = some r := by rw [if_neg (show ¬ (false = true) by decide)] at H; exact H
      clear H
      have H := H1
      clear H1
      obtain rfl := Option.some.inj H
      go_wp2
      repeat (go_quiet (fail); try go_wp2)
      go_ret
      exact ⟨Z4, Z9⟩
set_option maxHeartbeats 8000000 in
set_option maxRecDepth 100000 in
theorem r8_Above.calls (k : Nat) (a0 : ByteArray) (r : ByteArray) (w : World) (h : r8_Above.f k a0 = some r) :
  Calls Tryz.prog 17 #[.string a0] w fun e w' => e = .returned (.string r) ∧ Drawn0 w w' := by
 have H : (r8_Above.l0 k a0 (wrap64 ((a0.size : Int) - 1))) = some r := h
 clear h
 have H' := Aside0.mk H
 clear H
 go_enter Tryz.func17, Tryz.ntmps17
 go_wp2
 go_loopg [3] k (fun kq v3 w' => ∃ (x3_1 : Int), v3 = .int .i64 x3_1 ∧ Aside0 (r8_Above.l0 kq a0 x3_1 = some r) ∧ Aside0 (kq ≤ k) ∧ Drawn0 w w')
 case atStart => exact ⟨(wrap64 ((a0.size : Int) - 1)), Z4, H', ⟨Nat.le_refl _⟩, Z9⟩
 case round =>
  clear H'
  try clear c1
  obtain ⟨x3_1, rfl, HA, HK1, ⟨m1, rfl⟩⟩ := hrel
  cases gk with
  | zero => exact absurd HA.out (by simp [r8_Above.l0])
  | succ k1 =>
   have H := HA.out
   clear HA
   simp only [r8_Above.l0] at H
   by_cases c2 : x3_1 > 0
   ·
    rw [if_pos c2] at H
    have c2b0 : decide (0 < x3_1) = true := decide_eq_true c2
    clear c2
    by_cases c3 : 0 ≤ x3_1
    ·
     rw [if_pos c3] at H
     have c3b0 : decide (0 ≤ x3_1) = true := decide_eq_true c3
     clear c3
     by_cases c4 : x3_1 < (a0.size : Int)
     ·
      rw [if_pos c4] at H
      have c4b0 : decide (x3_1 < (a0.size : Int)) = true := decide_eq_true c4
      clear c4
      by_cases c6 : (bt a0 x3_1) = 47
      ·
       rw [if_pos c6] at H
       have c6b0 : ((bt a0 x3_1) == 47) = true := beq_iff_eq.mpr c6
       have c6b1 : ((bt a0 x3_1) != 47) = false := bne_eq_false_iff_eq.mpr c6
       clear c6
       have c7b0 := eq_true (of_decide_eq_true Z2 : 0 ≤ x3_1)
       by_cases c8 : x3_1 ≤ (a0.size : Int)
       ·
        rw [if_pos c8] at H
        have c8b0 := eq_true c8
        have c8b1 : decide (x3_1 ≤ (a0.size : Int)) = true := decide_eq_true c8
        clear c8
        obtain rfl := Option.some.inj H
        have p5 : 0 ≤ (x3_1 : Int) := of_decide_eq_true Z2
        have q5 : x3_1 < (a0.size : Int) := of_decide_eq_true Z2
        have hx5 := bt_at a0 x3_1
        replace p5 := eq_true p5
        replace q5 := eq_true q5
        go_wp2
        go_ret
        exact ⟨Z4, Z9⟩
       ·
        rw [if_neg c8] at H
        exact absurd H Z23
      ·
       rw [if_neg c6] at H
       have c6b0 : ((bt a0 x3_1) == 47) = false := beq_eq_false_iff_ne.mpr c6
       have c6b1 : ((bt a0 x3_1) != 47) = true := bne_iff_ne.mpr c6
       have H' := Aside0.mk H
       clear H
       have p5 : 0 ≤ (x3_1 : Int) := of_decide_eq_true Z2
       have q5 : x3_1 < (a0.size : Int) := of_decide_eq_true Z2
       have hx5 := bt_at a0 x3_1
       replace p5 := eq_true p5
       replace q5 := eq_true q5
       go_wp2
       go_roundg k1
       case measure => have := HK1.out; omega
       case rel => exact ⟨(wrap64 (x3_1 - 1)), Z4, H', ⟨by have := HK1.out; omega⟩, Z9⟩
     ·
      rw [if_neg c4] at H
      exact absurd H Z23
    ·
     rw [if_neg c3] at H
     exact absurd H Z23
   ·
    rw [if_neg c2] at H
    have c2b0 : decide (0 < x3_1) = false := decide_eq_false c2
    clear c2
    obtain rfl := Option.some.inj H
    go_wp2
    go_ret
    exact ⟨Z4, Z9⟩
attribute [local go_sem high] eqA38
set_option maxHeartbeats 8000000 in
set_option maxRecDepth 100000 in
theorem bytealg_LastIndexByteString.calls (k : Nat) (a0 : ByteArray) (a1 : Int) (r : Int) (w : World) (h : bytealg_LastIndexByteString.f k a0 a1 = some r) :
  Calls Tryz.prog 99 #[.string a0, .int .u8 a1] w fun e w' => e = .returned (.int .i64 r) ∧ Drawn0 w w' := by
 have H : (bytealg_LastIndexByteString.l0 k a0 a1 (wrap64 ((a0.size : Int) - 1))) = some r := h
 clear h
 have H' := Aside0.mk H
 clear H
 go_enter Tryz.func99, Tryz.ntmps99
 go_wp2
 go_loopg [5] k (fun kq v5 w' => ∃ (x5_1 : Int), v5 = .int .i64 x5_1 ∧ Aside0 (bytealg_LastIndexByteString.l0 kq a0 a1 x5_1 = some r) ∧ Aside0 (kq ≤ k) ∧ Drawn0 w w')
 case atStart => exact ⟨(wrap64 ((a0.size : Int) - 1)), Z4, H', ⟨Nat.le_refl _⟩, Z9⟩
 case round =>
  clear H'
  try clear p2
  obtain ⟨x5_1, rfl, HA, HK1, ⟨m1, rfl⟩⟩ := hrel
  cases gk with
  | zero => exact absurd HA.out (by simp [bytealg_LastIndexByteString.l0])
  | succ k1 =>
   have H := HA.out
   clear HA
   simp only [bytealg_LastIndexByteString.l0] at H
   by_cases c3 : x5_1 ≥ 0
   ·
    rw [if_pos c3] at H
    have c3b0 : decide (0 ≤ x5_1) = true := decide_eq_true c3
    clear c3
    by_cases c4 : 0 ≤ x5_1
    ·
     rw [if_pos c4] at H
     have c4b0 : decide (0 ≤ x5_1) = true := decide_eq_true c4
     clear c4
     by_cases c5 : x5_1 < (a0.size : Int)
     ·
      rw [if_pos c5] at H
      have c5b0 : decide (x5_1 < (a0.size : Int)) = true := decide_eq_true c5
      clear c5
      by_cases c7 : (bt a0 x5_1) = a1
      ·
       rw [if_pos c7] at H
       have c7b0 : ((bt a0 x5_1) == a1) = true := beq_iff_eq.mpr c7
       have c7b1 : ((bt a0 x5_1) != a1) = false := bne_eq_false_iff_eq.mpr c7
       clear c7
       obtain rfl := Option.some.inj H
       have p6 : 0 ≤ (x5_1 : Int) := of_decide_eq_true Z2
       have q6 : x5_1 < (a0.size : Int) := of_decide_eq_true Z2
       have hx6 := bt_at a0 x5_1
       replace p6 := eq_true p6
       replace q6 := eq_true q6
       go_wp2
       go_ret
       exact ⟨Z4, Z9⟩
      ·
       rw [if_neg c7] at H
       have c7b0 : ((bt a0 x5_1) == a1) = false := beq_eq_false_iff_ne.mpr c7
       have c7b1 : ((bt a0 x5_1) != a1) = true := bne_iff_ne.mpr c7
       have H' := Aside0.mk H
       clear H
       have p6 : 0 ≤ (x5_1 : Int) := of_decide_eq_true Z2
       have q6 : x5_1 < (a0.size : Int) := of_decide_eq_true Z2
       have hx6 := bt_at a0 x5_1
       replace p6 := eq_true p6
       replace q6 := eq_true q6
       go_wp2
       go_roundg k1
       case measure => have := HK1.out; omega
       case rel => exact ⟨(wrap64 (x5_1 - 1)), Z4, H', ⟨by have := HK1.out; omega⟩, Z9⟩
     ·
      rw [if_neg c5] at H
      exact absurd H Z23
    ·
     rw [if_neg c4] at H
     exact absurd H Z23
   ·
    rw [if_neg c3] at H
    have c3b0 : decide (0 ≤ x5_1) = false := decide_eq_false c3
    clear c3
    obtain rfl := Option.some.inj H
    go_wp2
    go_ret
    exact ⟨Z4, Z9⟩
set_option maxHeartbeats 8000000 in
set_option maxRecDepth 100000 in
theorem strings_LastIndexByte.calls (k : Nat) (a0 : ByteArray) (a1 : Int) (r : Int) (w : World) (h : strings_LastIndexByte.f k a0 a1 = some r) :
  Calls Tryz.prog 86 #[.string a0, .int .u8 a1] w fun e w' => e = .returned (.int .i64 r) ∧ Drawn0 w w' := by
 have H : ((bytealg_LastIndexByteString.f k a0 a1).bind fun t175 => (some t175)) = some r := h
 clear h
 replace H := Option.bind_eq_some_iff.mp H
 obtain ⟨t175, A30, H⟩ := H
 replace H : (some t175) = some r := H
 have A3 := Aside0.mk A30
 clear A30
 obtain rfl := Option.some.inj H
 go_enter Tryz.func86, Tryz.ntmps86
 go_wp2_with (first | ((with_reducible refine gate_callee (f := 99) rfl ?_); refine goesL_ (some 7) rfl rfl Tryz.func99 Z13 rfl #[.string a0, .int .u8 a1] rfl Z7 ?_; (with_reducible refine (bytealg_LastIndexByteString.calls k a0 a1 t175 _ A3.out).mono ?_); rintro e w' ⟨rfl, ⟨nd, rfl⟩⟩; refine ⟨_, rfl, ?_⟩))
 go_ret
 exact ⟨Z4, Z9⟩
set_option maxHeartbeats 8000000 in
set_option maxRecDepth 100000 in
theorem archive_above.calls (k : Nat) (a0 : ByteArray) (r : ByteArray) (w : World) (h : archive_above.f k a0 = some r) :
  Calls Tryz.prog 58 #[.string a0] w fun e w' => e = .returned (.string r) ∧ Drawn0 w w' := by
 have H : ((strings_LastIndexByte.f k a0 47).bind fun t176 => (if t176 = 0 then (some (⟨#[47]⟩ : ByteArray)) else (if 0 ≤ t176 then (if t176 ≤ (a0.size : Int) then (some (a0.extract 0 (t176 : Int).toNat)) else (none)) else (none)))) = some r := h
 clear h
 replace H := Option.bind_eq_some_iff.mp H
 obtain ⟨t176, A20, H⟩ := H
 replace H : (if t176 = 0 then (some (⟨#[47]⟩ : ByteArray)) else (if 0 ≤ t176 then (if t176 ≤ (a0.size : Int) then (some (a0.extract 0 (t176 : Int).toNat)) else (none)) else (none))) = some r := H
 have A2 := Aside0.mk A20
 clear A20
 by_cases c3 : t176 = 0
 ·
  rw [if_pos c3] at H
  have c3b0 : (t176 == 0) = true := beq_iff_eq.mpr c3
  have c3b1 : (t176 != 0) = false := bne_eq_false_iff_eq.mpr c3
  clear c3
  obtain rfl := Option.some.inj H
  go_enter Tryz.func58, Tryz.ntmps58
  go_wp2_with (first | ((with_reducible refine gate_callee (f := 86) rfl ?_); refine goesL_ (some 5) rfl rfl Tryz.func86 Z13 rfl #[.string a0, .int .u8 47] rfl Z7 ?_; (with_reducible refine (strings_LastIndexByte.calls k a0 47 t176 _ A2.out).mono ?_); rintro e w' ⟨rfl, ⟨nd, rfl⟩⟩; refine ⟨_, rfl, ?_⟩))
  go_ret
  exact ⟨Z4, Z9⟩
 ·
  rw [if_neg c3] at H
  have c3b0 : (t176 == 0) = false := beq_eq_false_iff_ne.mpr c3
  have c3b1 : (t176 != 0) = true := bne_iff_ne.mpr c3
  by_cases c4 : 0 ≤ t176
  ·
   rw [if_pos c4] at H
   have c4b0 := eq_true c4
   have c4b1 : decide (0 ≤ t176) = true := decide_eq_true c4
   clear c4
   by_cases c5 : t176 ≤ (a0.size : Int)
   ·
    rw [if_pos c5] at H
    have c5b0 := eq_true c5
    have c5b1 : decide (t176 ≤ (a0.size : Int)) = true := decide_eq_true c5
    clear c5
    obtain rfl := Option.some.inj H
    go_enter Tryz.func58, Tryz.ntmps58
    go_wp2_with (first | ((with_reducible refine gate_callee (f := 86) rfl ?_); refine goesL_ (some 5) rfl rfl Tryz.func86 Z13 rfl #[.string a0, .int .u8 47] rfl Z7 ?_; (with_reducible refine (strings_LastIndexByte.calls k a0 47 t176 _ A2.out).mono ?_); rintro e w' ⟨rfl, ⟨nd, rfl⟩⟩; refine ⟨_, rfl, ?_⟩))
    go_ret
    exact ⟨Z4, Z9⟩
   ·
    rw [if_neg c5] at H
    exact absurd H Z23
  ·
   rw [if_neg c4] at H
   exact absurd H Z23
set_option maxHeartbeats 8000000 in
set_option maxRecDepth 100000 in
theorem api_Node_40.calls (k : Nat) (A0 : Option Addr) (c0 : Nat) (l0 : List (S38)) (A1 : Option Addr) (c1 : Nat) (l1 : List (S38)) (r : Bool) (w : World) (hr0 : Kd.C k38 w A0 l0.length l0) (hc0 : l0.length ≤ c0) (hr1 : Kd.C k38 w A1 l1.length l1) (hc1 : l1.length ≤ c1) (h : api_Node_40.f k l0 l1 = some r) :
  Calls Tryz.prog 40 #[.slice A0 l0.length c0, .slice A1 l1.length c1] w fun e w' => e = .returned (.bool r) ∧ Drawn0 w w' := by
 have hu38 := Tryz.underlying38
 have HR0 := Aside0.mk hr0
 have HC0 := Aside0.mk hc0
 clear hr0 hc0
 have HR1 := Aside0.mk hr1
 have HC1 := Aside0.mk hc1
 clear hr1 hc1
 have H : (if (l0.length : Int) = (l1.length : Int) then (api_Node_40.l0 k l0 l1 (l0.length : Int) 0) else (some false)) = some r := h
 clear h
 by_cases c3 : (l0.length : Int) = (l1.length : Int)
 ·
  rw [if_pos c3] at H
  have c3b0 : ((l0.length : Int) == (l1.length : Int)) = true := beq_iff_eq.mpr c3
  have c3b1 : ((l0.length : Int) != (l1.length : Int)) = false := bne_eq_false_iff_eq.mpr c3
  have c3b2 : (l0.length == l1.length) = true := by first | simpa using c3 | (simp at c3 ⊢; omega)
  clear c3
  have H' := Aside0.mk H
  clear H
  go_enter Tryz.func40, Tryz.ntmps40
  go_wp2
  repeat (go_quiet (fail); try go_wp2)
  go_loopg [13] k (fun kq v13 w' => ∃ (x13_1 : Int), v13 = .int .i64 x13_1 ∧ Aside0 (api_Node_40.l0 kq l0 l1 (l0.length : Int) x13_1 = some r) ∧ Aside0 (kq ≤ k) ∧ Drawn0 w w')
  case atStart => exact ⟨(0), Z4, H', ⟨Nat.le_refl _⟩, Z9⟩
  case round =>
   clear H'
   try clear c1; try clear p2; try clear c3; try clear c3b0; try clear c3b1; try clear c3b2
   obtain ⟨x13_1, rfl, HA, HK1, ⟨m1, rfl⟩⟩ := hrel
   cases gk with
   | zero => exact absurd HA.out (by simp [api_Node_40.l0])
   | succ k1 =>
    have H := HA.out
    clear HA
    simp only [api_Node_40.l0] at H
    by_cases c4 : x13_1 < (l0.length : Int)
    ·
     rw [if_pos c4] at H
     have c4b0 : decide (x13_1 < (l0.length : Int)) = true := decide_eq_true c4
     clear c4
     by_cases c5 : 0 ≤ x13_1
     ·
      rw [if_pos c5] at H
      have c5b0 : decide (0 ≤ x13_1) = true := decide_eq_true c5
      clear c5
      by_cases c6 : x13_1 < (l0.length : Int)
      ·
       rw [if_pos c6] at H
       have c6b0 : decide (x13_1 < (l0.length : Int)) = true := decide_eq_true c6
       clear c6
       by_cases c7 : x13_1 < (l1.length : Int)
       ·
        rw [if_pos c7] at H
        have c7b0 : decide (x13_1 < (l1.length : Int)) = true := decide_eq_true c7
        clear c7
        by_cases c8 : (!((((rd_T38 l0 x13_1).f0).toList) == (((rd_T38 l1 x13_1).f0).toList)) || ((!(((rd_T38 l0 x13_1).f1.f0) == ((rd_T38 l1 x13_1).f1.f0)) || (!(((rd_T38 l0 x13_1).f1.f1) == ((rd_T38 l1 x13_1).f1.f1)) || (!(((rd_T38 l0 x13_1).f1.f2) == ((rd_T38 l1 x13_1).f1.f2)) || (!(((rd_T38 l0 x13_1).f1.f3) == ((rd_T38 l1 x13_1).f1.f3)) || (!(((rd_T38 l0 x13_1).f1.f4) == ((rd_T38 l1 x13_1).f1.f4))))))) || (!((((rd_T38 l0 x13_1).f2).toList) == (((rd_T38 l1 x13_1).f2).toList))))) = true
        ·
         rw [if_pos c8] at H
         have c8b0 : (!((((rd_T38 l0 x13_1).f0).toList) == (((rd_T38 l1 x13_1).f0).toList)) || ((!(((rd_T38 l0 x13_1).f1.f0) == ((rd_T38 l1 x13_1).f1.f0)) || (!(((rd_T38 l0 x13_1).f1.f1) == ((rd_T38 l1 x13_1).f1.f1)) || (!(((rd_T38 l0 x13_1).f1.f2) == ((rd_T38 l1 x13_1).f1.f2)) || (!(((rd_T38 l0 x13_1).f1.f3) == ((rd_T38 l1 x13_1).f1.f3)) || (!(((rd_T38 l0 x13_1).f1.f4) == ((rd_T38 l1 x13_1).f1.f4))))))) || (!((((rd_T38 l0 x13_1).f2).toList) == (((rd_T38 l1 x13_1).f2).toList))))) = true := c8
         clear c8
         obtain rfl := Option.some.inj H
         have p185 : 0 ≤ (x13_1 : Int) := of_decide_eq_true Z2
         have q185 : x13_1 < (l0.length : Int) := of_decide_eq_true Z2
         obtain ⟨ad185, e185, hx185_0, hx185_1, hx185_2, hx185_3, hx185_4, hx185_5, hx185_6⟩ := at_T38 HR0.out x13_1 p185 q185
         cases e185
         replace p185 := eq_true p185
         replace q185 := eq_true q185
         have p186 : 0 ≤ (x13_1 : Int) := of_decide_eq_true Z2
         have q186 : x13_1 < (l1.length : Int) := of_decide_eq_true Z2
         obtain ⟨ad186, e186, hx186_0, hx186_1, hx186_2, hx186_3, hx186_4, hx186_5, hx186_6⟩ := at_T38 HR1.out x13_1 p186 q186
         cases e186
         replace p186 := eq_true p186
         replace q186 := eq_true q186
         go_wp2
         repeat (go_quiet (fail); try go_wp2)
         go_ret
         exact ⟨Z4, Z9⟩
        ·
         rw [if_neg c8] at H
         have c8b0 : (!((((rd_T38 l0 x13_1).f0).toList) == (((rd_T38 l1 x13_1).f0).toList)) || ((!(((rd_T38 l0 x13_1).f1.f0) == ((rd_T38 l1 x13_1).f1.f0)) || (!(((rd_T38 l0 x13_1).f1.f1) == ((rd_T38 l1 x13_1).f1.f1)) || (!(((rd_T38 l0 x13_1).f1.f2) == ((rd_T38 l1 x13_1).f1.f2)) || (!(((rd_T38 l0 x13_1).f1.f3) == ((rd_T38 l1 x13_1).f1.f3)) || (!(((rd_T38 l0 x13_1).f1.f4) == ((rd_T38 l1 x13_1).f1.f4))))))) || (!((((rd_T38 l0 x13_1).f2).toList) == (((rd_T38 l1 x13_1).f2).toList))))) = false := by simpa using c8
         clear c8
         have H' := Aside0.mk H
         clear H
         have p185 : 0 ≤ (x13_1 : Int) := of_decide_eq_true Z2
         have q185 : x13_1 < (l0.length : Int) := of_decide_eq_true Z2
         obtain ⟨ad185, e185, hx185_0, hx185_1, hx185_2, hx185_3, hx185_4, hx185_5, hx185_6⟩ := at_T38 HR0.out x13_1 p185 q185
         cases e185
         replace p185 := eq_true p185
         replace q185 := eq_true q185
         have p186 : 0 ≤ (x13_1 : Int) := of_decide_eq_true Z2
         have q186 : x13_1 < (l1.length : Int) := of_decide_eq_true Z2
         obtain ⟨ad186, e186, hx186_0, hx186_1, hx186_2, hx186_3, hx186_4, hx186_5, hx186_6⟩ := at_T38 HR1.out x13_1 p186 q186
         cases e186
         replace p186 := eq_true p186
         replace q186 := eq_true q186
         go_wp2
         repeat (go_quiet (fail); try go_wp2)
         go_roundg k1
         case measure => have := HK1.out; omega
         case rel => exact ⟨(wrap64 (x13_1 + 1)), Z4, H', ⟨by have := HK1.out; omega⟩, Z9⟩
       ·
        rw [if_neg c7] at H
        exact absurd H Z23
      ·
       rw [if_neg c6] at H
       exact absurd H Z23
     ·
      rw [if_neg c5] at H
      exact absurd H Z23
    ·
     rw [if_neg c4] at H
     have c4b0 : decide (x13_1 < (l0.length : Int)) = false := decide_eq_false c4
     clear c4
     obtain rfl := Option.some.inj H
     go_wp2
     repeat (go_quiet (fail); try go_wp2)
     go_ret
     exact ⟨Z4, Z9⟩
 ·
  rw [if_neg c3] at H
  have c3b0 : ((l0.length : Int) == (l1.length : Int)) = false := beq_eq_false_iff_ne.mpr c3
  have c3b1 : ((l0.length : Int) != (l1.length : Int)) = true := bne_iff_ne.mpr c3
  have c3b2 : (l0.length == l1.length) = false := by first | simpa using c3 | (simp at c3 ⊢; omega)
  obtain rfl := Option.some.inj H
  go_enter Tryz.func40, Tryz.ntmps40
  go_wp2
  repeat (go_quiet (fail); try go_wp2)
  go_ret
  exact ⟨Z4, Z9⟩
set_option maxHeartbeats 8000000 in
set_option maxRecDepth 100000 in
theorem archive_same.calls (k : Nat) (A0 : Option Addr) (c0 : Nat) (l0 : List (S38)) (A1 : Option Addr) (c1 : Nat) (l1 : List (S38)) (r : Bool) (w : World) (hr0 : Kd.C k38 w A0 l0.length l0) (hc0 : l0.length ≤ c0) (hr1 : Kd.C k38 w A1 l1.length l1) (hc1 : l1.length ≤ c1) (h : archive_same.f k l0 l1 = some r) :
  Calls Tryz.prog 18 #[.slice A0 l0.length c0, .slice A1 l1.length c1] w fun e w' => e = .returned (.bool r) ∧ Drawn0 w w' := by
 have HR0 := Aside0.mk hr0
 have HC0 := Aside0.mk hc0
 clear hr0 hc0
 have HR1 := Aside0.mk hr1
 have HC1 := Aside0.mk hc1
 clear hr1 hc1
 have H : ((api_Node_40.f k l0 l1).bind fun t187 => (some t187)) = some r := h
 clear h
 replace H := Option.bind_eq_some_iff.mp H
 obtain ⟨t187, A30, H⟩ := H
 replace H : (some t187) = some r := H
 have A3 := Aside0.mk A30
 clear A30
 obtain rfl := Option.some.inj H
 go_enter Tryz.func18, Tryz.ntmps18
 go_wp2_with (first | ((with_reducible refine gate_callee (f := 40) rfl ?_); refine goesL_ (some 7) rfl rfl Tryz.func40 Z13 rfl #[.slice A0 l0.length c0, .slice A1 l1.length c1] rfl Z7 ?_; (with_reducible refine (api_Node_40.calls k _ _ l0 _ _ l1 t187 _ ?side1 ?side2 ?side3 ?side4 A3.out).mono ?_); (case side1 => repeat (first | exact HR0.out | (with_reducible refine Kd.C_alloc ?_ _) | (with_reducible refine Kd.C_drewN ?_ _) | (with_reducible refine Kd.C_drew ?_))); (case side2 => exact HC0.out); (case side3 => repeat (first | exact HR1.out | (with_reducible refine Kd.C_alloc ?_ _) | (with_reducible refine Kd.C_drewN ?_ _) | (with_reducible refine Kd.C_drew ?_))); (case side4 => exact HC1.out); rintro e w' ⟨rfl, ⟨nd, rfl⟩⟩; refine ⟨_, rfl, ?_⟩))
 go_ret
 exact ⟨Z4, Z9⟩
set_option maxHeartbeats 8000000 in
set_option maxRecDepth 100000 in
theorem archive_pieces.calls (a0 : ByteArray) (r : Int) (w : World) (h : archive_pieces.f a0 = some r) :
  Calls Tryz.prog 70 #[.string a0] w fun e w' => e = .returned (.int .i64 r) ∧ Drawn0 w w' := by
 have H : (some (wrap64 (Int.tdiv (wrap64 ((wrap64 ((a0.size : Int) + 448)) - 1)) 448))) = some r := h
 clear h
 obtain rfl := Option.some.inj H
 go_enter Tryz.func70, Tryz.ntmps70
 go_wp2
 go_ret
 exact ⟨Z4, Z9⟩
set_option maxHeartbeats 8000000 in
set_option maxRecDepth 100000 in
theorem archive_blank.calls (k : Nat) (a0 : ByteArray) (r : Bool) (w : World) (h : archive_blank.f k a0 = some r) :
  Calls Tryz.prog 71 #[.string a0] w fun e w' => e = .returned (.bool r) ∧ Drawn0 w w' := by
 have H : (archive_blank.l0 k a0 (a0.size : Int) 0) = some r := h
 clear h
 have H' := Aside0.mk H
 clear H
 go_enter Tryz.func71, Tryz.ntmps71
 go_wp2
 go_loopg [6] k (fun kq v6 w' => ∃ (x6_1 : Int), v6 = .int .i64 x6_1 ∧ Aside0 (archive_blank.l0 kq a0 (a0.size : Int) x6_1 = some r) ∧ Aside0 (kq ≤ k) ∧ Drawn0 w w')
 case atStart => exact ⟨(0), Z4, H', ⟨Nat.le_refl _⟩, Z9⟩
 case round =>
  clear H'
  obtain ⟨x6_1, rfl, HA, HK1, ⟨m1, rfl⟩⟩ := hrel
  cases gk with
  | zero => exact absurd HA.out (by simp [archive_blank.l0])
  | succ k1 =>
   have H := HA.out
   clear HA
   simp only [archive_blank.l0] at H
   by_cases c2 : x6_1 < (a0.size : Int)
   ·
    rw [if_pos c2] at H
    have c2b0 : decide (x6_1 < (a0.size : Int)) = true := decide_eq_true c2
    clear c2
    by_cases c3 : 0 ≤ x6_1
    ·
     rw [if_pos c3] at H
     have c3b0 : decide (0 ≤ x6_1) = true := decide_eq_true c3
     clear c3
     by_cases c4 : x6_1 < (a0.size : Int)
     ·
      rw [if_pos c4] at H
      have c4b0 : decide (x6_1 < (a0.size : Int)) = true := decide_eq_true c4
      clear c4
      by_cases c6 : (bt a0 x6_1) = 0
      ·
       rw [if_pos c6] at H
       have c6b0 : ((bt a0 x6_1) == 0) = true := beq_iff_eq.mpr c6
       have c6b1 : ((bt a0 x6_1) != 0) = false := bne_eq_false_iff_eq.mpr c6
       clear c6
       have H' := Aside0.mk H
       clear H
       have p5 : 0 ≤ (x6_1 : Int) := of_decide_eq_true Z2
       have q5 : x6_1 < (a0.size : Int) := of_decide_eq_true Z2
       have hx5 := bt_at a0 x6_1
       replace p5 := eq_true p5
       replace q5 := eq_true q5
       go_wp2
       go_roundg k1
       case measure => have := HK1.out; omega
       case rel => exact ⟨(wrap64 (x6_1 + 1)), Z4, H', ⟨by have := HK1.out; omega⟩, Z9⟩
      ·
       rw [if_neg c6] at H
       have c6b0 : ((bt a0 x6_1) == 0) = false := beq_eq_false_iff_ne.mpr c6
       have c6b1 : ((bt a0 x6_1) != 0) = true := bne_iff_ne.mpr c6
       obtain rfl := Option.some.inj H
       have p5 : 0 ≤ (x6_1 : Int) := of_decide_eq_true Z2
       have q5 : x6_1 < (a0.size : Int) := of_decide_eq_true Z2
       have hx5 := bt_at a0 x6_1
       replace p5 := eq_true p5
       replace q5 := eq_true q5
       go_wp2
       go_ret
       exact ⟨Z4, Z9⟩
     ·
      rw [if_neg c4] at H
      exact absurd H Z23
    ·
     rw [if_neg c3] at H
     exact absurd H Z23
   ·
    rw [if_neg c2] at H
    have c2b0 : decide (x6_1 < (a0.size : Int)) = false := decide_eq_false c2
    clear c2
    obtain rfl := Option.some.inj H
    go_wp2
    go_ret
    exact ⟨Z4, Z9⟩
set_option maxHeartbeats 8000000 in
set_option maxRecDepth 100000 in
theorem archive_piece.calls (a0 : ByteArray) (a1 : Int) (r : ByteArray) (w : World) (h : archive_piece.f a0 a1 = some r) :
  Calls Tryz.prog 72 #[.string a0, .int .i64 a1] w fun e w' => e = .returned (.string r) ∧ Below w.heap.size w w' := by
 have HB := Aside0.mk (Below.refl w.heap.size w)
 have H : (if 0 ≤ (wrap64 (a1 * 448)) then (if (wrap64 (a1 * 448)) ≤ (mn (wrap64 ((wrap64 (a1 + 1)) * 448)) (a0.size : Int)) then (if (mn (wrap64 ((wrap64 (a1 + 1)) * 448)) (a0.size : Int)) ≤ (a0.size : Int) then (some (a0.extract ((wrap64 (a1 * 448)) : Int).toNat ((mn (wrap64 ((wrap64 (a1 + 1)) * 448)) (a0.size : Int)) : Int).toNat)) else (none)) else (none)) else (none)) = some r := h
 clear h
 obtain ⟨ji3, hji3⟩ : ∃ j_ : Int, (mn (wrap64 ((wrap64 (a1 + 1)) * 448)) (a0.size : Int)) = j_ := ⟨_, rfl⟩
 replace H : (if 0 ≤ (wrap64 (a1 * 448)) then (if (wrap64 (a1 * 448)) ≤ (ji3) then (if (ji3) ≤ (a0.size : Int) then (some (a0.extract ((wrap64 (a1 * 448)) : Int).toNat ((ji3) : Int).toNat)) else (none)) else (none)) else (none)) = some r := by first | (rw [hji3] at H; exact H) | (simp only [hji3] at H ⊢; exact H)
 have hji3_ : (if (a0.size : Int) < (wrap64 ((wrap64 (a1 + 1)) * 448)) then (a0.size : Int) else (wrap64 ((wrap64 (a1 + 1)) * 448))) = ji3 := hji3
 obtain ⟨ji4, hji4⟩ : ∃ j_ : Int, (wrap64 (a1 * 448)) = j_ := ⟨_, rfl⟩
 replace H : (if 0 ≤ (ji4) then (if (ji4) ≤ (ji3) then (if (ji3) ≤ (a0.size : Int) then (some (a0.extract ((ji4) : Int).toNat ((ji3) : Int).toNat)) else (none)) else (none)) else (none)) = some r := by first | (rw [hji4] at H; exact H) | (simp only [hji4] at H ⊢; exact H)
 have hji4w : (IntKind.i64.wrap (a1 * 448)) = ji4 := (i64_w _).trans hji4
 by_cases c5 : 0 ≤ (ji4)
 ·
  rw [if_pos c5] at H
  have c5b0 := eq_true c5
  have c5b1 : decide (0 ≤ (ji4)) = true := decide_eq_true c5
  clear c5
  by_cases c6 : (ji4) ≤ (ji3)
  ·
   rw [if_pos c6] at H
   have c6b0 := eq_true c6
   have c6b1 : decide ((ji4) ≤ (ji3)) = true := decide_eq_true c6
   clear c6
   by_cases c7 : (ji3) ≤ (a0.size : Int)
   ·
    rw [if_pos c7] at H
    have c7b0 := eq_true c7
    have c7b1 : decide ((ji3) ≤ (a0.size : Int)) = true := decide_eq_true c7
    clear c7
    obtain rfl := Option.some.inj H
    go_enter Tryz.func72, Tryz.ntmps72
    go_wp2
    go_ret
    exact ⟨by first | rfl | (simp [errW_none, errW_some] <;> rfl) | (simp only [← hji3, ← hji4]; first | rfl | (simp [errW_none, errW_some] <;> rfl)) | (simp [*, errW_none, errW_some] <;> rfl), Z1⟩
   ·
    rw [if_neg c7] at H
    exact absurd H Z23
  ·
   rw [if_neg c6] at H
   exact absurd H Z23
 ·
  rw [if_neg c5] at H
  exact absurd H Z23
end Go.Proofs.YtkhblpmjmkhiiaaGreatDoor.PAll
