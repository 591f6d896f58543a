/- What the document's Sum answers, as a printed contract; the printed contract of the document's Bytes. -/
import Derived.Test.YtkhblpmjmkhiiaaGreatDoorQH12
import Derived.Test.YtkhblpmjmkhiiaaGreatDoorQK3
import Derived.Test.YtkhblpmjmkhiiaaGreatDoorQK4
import Derived.Test.YtkhblpmjmkhiiaaGreatDoorQK1

namespace Go.Proofs.YtkhblpmjmkhiiaaGreatDoor.PAll
open Go.RowKit Go.Proofs.YtkhblpmjmkhiiaaGreatDoorW.PrintWords Go.Proofs.YtkhblpmjmkhiiaaGreatDoorW.PrintLast Go.Proofs.YtkhblpmjmkhiiaaGreatDoorW.PrintMore
attribute [local go_sem] max2_int min2_int max_two min_two max_three min_three max_four min_four
set_option linter.unusedVariables false
set_option linter.unusedSimpArgs false
def grapnelref02_Sum.f (k : Nat) (a0 : ByteArray) : Option ByteArray := if a0.size < 4294967296 then some ⟨(T.sha (T.pb a0)).toArray⟩ else none
theorem grapnelref02_Sum.calls (k : Nat) (a0 : ByteArray) (r : ByteArray) (w : World) (h : grapnelref02_Sum.f k a0 = some r) :
 Calls Tryz.prog 28 #[.string a0] w fun e w' => e = .returned (.string r) ∧ Below w.heap.size w w' := by
 unfold grapnelref02_Sum.f at h
 split at h
 ·
  rename_i hs
  obtain rfl := Option.some.inj h
  exact T.rsum_c a0 w hs
 ·
  cases h
mutual
def grapnelref18_file.l0 : Nat → ByteArray → Int → ByteArray → Int → Option (ByteArray)
 | 0, _, _, _, _ => none
 | k + 1, x0, x3, x4, x5 => if (wrap64 (448 * x5)) < (x0.size : Int) then (if (wrap64 ((wrap64 (448 * x5)) + 448)) > (x0.size : Int) then (grapnelref18_file.j1 k x0 x3 x4 x5 (x0.size : Int)) else (grapnelref18_file.j1 k x0 x3 x4 x5 (wrap64 ((wrap64 (448 * x5)) + 448)))) else ((grapnelref18_put.f k (x0.size : Int) 6).bind fun t199 => ((grapnelref18_put.f k x3 4).bind fun t200 => (if t199.size + t200.size ≤ 9223372036854775807 then (if (t199 ++ t200).size + x4.size ≤ 9223372036854775807 then (some ((t199 ++ t200) ++ x4)) else (none)) else (none))))
def grapnelref18_file.j1 : Nat → ByteArray → Int → ByteArray → Int → Int → Option (ByteArray)
 | 0, _, _, _, _, _ => none
 | k + 1, x0, x3, x4, x5, x6 => if 0 ≤ (wrap64 (448 * x5)) then (if (wrap64 (448 * x5)) ≤ x6 then (if x6 ≤ (x0.size : Int) then ((grapnelref01_Noughts.f ((x0.extract ((wrap64 (448 * x5)) : Int).toNat (x6 : Int).toNat).size : Int)).bind fun t201 => (if (x0.extract ((wrap64 (448 * x5)) : Int).toNat (x6 : Int).toNat).toList = t201.toList then (grapnelref18_file.l0 k x0 x3 x4 (wrap64 (x5 + 1))) else ((grapnelref18_put.f k x5 4).bind fun t202 => (if x4.size + t202.size ≤ 9223372036854775807 then (if (x4 ++ t202).size + (x0.extract ((wrap64 (448 * x5)) : Int).toNat (x6 : Int).toNat).size ≤ 9223372036854775807 then (grapnelref18_file.l0 k x0 (wrap64 (x3 + 1)) ((x4 ++ t202) ++ (x0.extract ((wrap64 (448 * x5)) : Int).toNat (x6 : Int).toNat)) (wrap64 (x5 + 1))) else (none)) else (none))))) else (none)) else (none)) else (none)
end
def grapnelref18_file.f (k : Nat) (a0 : ByteArray) : Option (ByteArray) := grapnelref18_file.l0 k a0 0 (⟨#[]⟩ : ByteArray) 0
set_option maxHeartbeats 8000000 in
set_option maxRecDepth 100000 in
theorem grapnelref18_file.calls (k : Nat) (a0 : ByteArray) (r : ByteArray) (w : World) (h : grapnelref18_file.f k a0 = some r) :
  Calls Tryz.prog 27 #[.string a0] w fun e w' => e = .returned (.string r) ∧ Below w.heap.size w w' := by
 have HB := Aside0.mk (Below.refl w.heap.size w)
 have H : (grapnelref18_file.l0 k a0 0 (⟨#[]⟩ : ByteArray) 0) = some r := h
 clear h
 have H' := Aside0.mk H
 clear H
 go_enter Tryz.func27, Tryz.ntmps27
 go_wp2
 go_loopg [3, 4, 5] k (fun kq v3 v4 v5 w' => ∃ (x3_1 : Int) (x4_1 : ByteArray) (x5_1 : Int), v3 = .int .i64 x3_1 ∧ v4 = .string x4_1 ∧ v5 = .int .i64 x5_1 ∧ Aside0 (grapnelref18_file.l0 kq a0 x3_1 x4_1 x5_1 = some r) ∧ Aside0 (kq ≤ k) ∧ Aside0 (Below w.heap.size w w'))
 case atStart => exact ⟨(0), ((⟨#[]⟩ : ByteArray)), (0), (by first | rfl | (simp; done) | (simp [*]; done)), (by first | rfl | (simp; done) | (simp [*]; done)), (by first | rfl | (simp; done) | (simp [*]; done)), H', ⟨Nat.le_refl _⟩, ⟨by repeat (first | (with_reducible first | exact HB.out | apply below_alloc | apply pw_below_drewN | apply below_drew1) | exact HB.out)⟩⟩
 case round =>
  clear H'
  obtain ⟨x3_1, x4_1, x5_1, rfl, rfl, rfl, HA, HK1, HB⟩ := hrel
  cases gk with
  | zero => exact absurd HA.out (by simp [grapnelref18_file.l0])
  | succ k1 =>
   have H := HA.out
   clear HA
   simp only [grapnelref18_file.l0] at H
   by_cases c2 : (wrap64 (448 * x5_1)) < (a0.size : Int)
   ·
    rw [if_pos c2] at H
    have c2b0 : decide ((wrap64 (448 * x5_1)) < (a0.size : Int)) = true := decide_eq_true c2
    clear c2
    have HC3 := Aside0.mk H
    clear H
    go_upto_if 21 with (fail)
    go_cut [6] (fun v6 wc => ∃ (kq : Nat) (x6_2 : Int), v6 = .int .i64 x6_2 ∧ Aside0 (grapnelref18_file.j1 kq a0 x3_1 x4_1 x5_1 x6_2 = some r) ∧ Aside0 (kq ≤ k1) ∧ Aside0 (Below w.heap.size w wc))
    case first =>
     have H := HC3.out
     clear HC3
     by_cases c4 : (wrap64 ((wrap64 (448 * x5_1)) + 448)) > (a0.size : Int)
     ·
      rw [if_pos c4] at H
      have c4b0 : decide ((a0.size : Int) < (wrap64 ((wrap64 (448 * x5_1)) + 448))) = true := decide_eq_true c4
      clear c4
      (first | rw [c4b0] | (simp only [i64_w, i32_w]; rw [c4b0]) | skip)
      have H' := Aside0.mk H
      clear H
      go_wp2
      go_meet
      case rel => exact ⟨_, ((a0.size : Int)), (by first | rfl | (simp; done) | (simp [*]; done)), H', ⟨by have := HK1.out; first | omega | exact Nat.le_refl _⟩, ⟨by repeat (first | (with_reducible first | exact HB.out | apply below_alloc | apply pw_below_drewN | apply below_drew1) | exact HB.out)⟩⟩
     ·
      rw [if_neg c4] at H
      have c4b0 : decide ((a0.size : Int) < (wrap64 ((wrap64 (448 * x5_1)) + 448))) = false := decide_eq_false c4
      clear c4
      (first | rw [c4b0] | (simp only [i64_w, i32_w]; rw [c4b0]) | skip)
      have H' := Aside0.mk H
      clear H
      go_wp2
      go_meet
      case rel => exact ⟨_, (wrap64 ((wrap64 (448 * x5_1)) + 448)), (by first | rfl | (simp; done) | (simp [*]; done)), H', ⟨by have := HK1.out; first | omega | exact Nat.le_refl _⟩, ⟨by repeat (first | (with_reducible first | exact HB.out | apply below_alloc | apply pw_below_drewN | apply below_drew1) | exact HB.out)⟩⟩
    case rest =>
     clear HC3
     try clear c2
     try clear c2b0
     try clear p2
     try clear c4
     try clear c4b0
     obtain ⟨kq, x6_2, rfl, HA, HJ2, HB⟩ := hcut
     cases kq with
     | zero => exact absurd HA.out (by simp [grapnelref18_file.j1])
     | succ kj2 =>
      have H := HA.out
      clear HA
      simp only [grapnelref18_file.j1] at H
      obtain ⟨ji5, hji5⟩ : ∃ j_ : Int, (wrap64 (448 * x5_1)) = j_ := ⟨_, rfl⟩
      replace H : (if 0 ≤ (ji5) then (if (ji5) ≤ x6_2 then (if x6_2 ≤ (a0.size : Int) then ((grapnelref01_Noughts.f ((a0.extract ((ji5) : Int).toNat (x6_2 : Int).toNat).size : Int)).bind fun t201 => (if (a0.extract ((ji5) : Int).toNat (x6_2 : Int).toNat).toList = t201.toList then (grapnelref18_file.l0 kj2 a0 x3_1 x4_1 (wrap64 (x5_1 + 1))) else ((grapnelref18_put.f kj2 x5_1 4).bind fun t202 => (if x4_1.size + t202.size ≤ 9223372036854775807 then (if (x4_1 ++ t202).size + (a0.extract ((ji5) : Int).toNat (x6_2 : Int).toNat).size ≤ 9223372036854775807 then (grapnelref18_file.l0 kj2 a0 (wrap64 (x3_1 + 1)) ((x4_1 ++ t202) ++ (a0.extract ((ji5) : Int).toNat (x6_2 : Int).toNat)) (wrap64 (x5_1 + 1))) else (none)) else (none))))) else (none)) else (none)) else (none)) = some r := by first | (rw [hji5] at H; exact H) | (simp only [hji5] at H ⊢; exact H)
      (try rw [hji5] at c2b0)
      have hji5w : (IntKind.i64.wrap (448 * x5_1)) = ji5 := (i64_w _).trans hji5
      by_cases c6 : 0 ≤ (ji5)
      ·
       rw [if_pos c6] at H
       have c6b0 := eq_true c6
       have c6b1 : decide (0 ≤ (ji5)) = true := decide_eq_true c6
       clear c6
       by_cases c7 : (ji5) ≤ x6_2
       ·
        rw [if_pos c7] at H
        have c7b0 := eq_true c7
        have c7b1 : decide ((ji5) ≤ x6_2) = true := decide_eq_true c7
        clear c7
        by_cases c8 : x6_2 ≤ (a0.size : Int)
        ·
         rw [if_pos c8] at H
         have c8b0 := eq_true c8
         have hsz_ : (a0.extract ((ji5) : Int).toNat (x6_2 : Int).toNat).size = (x6_2 : Int).toNat - (ji5 : Int).toNat := by rw [ByteArray.size_extract]; omega
         have c8b1 : decide (x6_2 ≤ (a0.size : Int)) = true := decide_eq_true c8
         clear c8
         replace H := Option.bind_eq_some_iff.mp H
         obtain ⟨t201, A90, H⟩ := H
         replace H : (if (a0.extract ((ji5) : Int).toNat (x6_2 : Int).toNat).toList = t201.toList then (grapnelref18_file.l0 kj2 a0 x3_1 x4_1 (wrap64 (x5_1 + 1))) else ((grapnelref18_put.f kj2 x5_1 4).bind fun t202 => (if x4_1.size + t202.size ≤ 9223372036854775807 then (if (x4_1 ++ t202).size + (a0.extract ((ji5) : Int).toNat (x6_2 : Int).toNat).size ≤ 9223372036854775807 then (grapnelref18_file.l0 kj2 a0 (wrap64 (x3_1 + 1)) ((x4_1 ++ t202) ++ (a0.extract ((ji5) : Int).toNat (x6_2 : Int).toNat)) (wrap64 (x5_1 + 1))) else (none)) else (none)))) = some r := H
         have A9 := Aside0.mk A90
         clear A90
         by_cases c10 : (a0.extract ((ji5) : Int).toNat (x6_2 : Int).toNat).toList = t201.toList
         ·
          rw [if_pos c10] at H
          have c10b0 : ((a0.extract ((ji5) : Int).toNat (x6_2 : Int).toNat).toList == t201.toList) = true := beq_iff_eq.mpr c10
          have c10b1 : ((a0.extract ((ji5) : Int).toNat (x6_2 : Int).toNat).toList != t201.toList) = false := bne_eq_false_iff_eq.mpr c10
          clear c10
          have H' := Aside0.mk H
          clear H
          go_wp2_with (first | ((with_reducible refine gate_callee (f := 49) rfl ?_); refine goesL_ (some 32) rfl rfl Tryz.func49 (by kernel_rfl) rfl #[.int .i64 ((a0.extract ((ji5) : Int).toNat (x6_2 : Int).toNat).size : Int)] rfl (by (try simp only [List.map_toArray, List.map_cons, List.map_nil]); first | done | (simp only [hji5]; rfl) | rfl | (simp only [hsz_]; rfl) | (simp only [List.length_drop, List.length_take]; rfl)) ?_; (with_reducible refine (grapnelref01_Noughts.calls ((a0.extract ((ji5) : Int).toNat (x6_2 : Int).toNat).size : Int) t201 _ A9.out).mono ?_); rintro e w11 ⟨rfl, hb⟩; refine ⟨_, rfl, ?_⟩; have n0_ := Aside0.mk (below_step (by repeat (first | (with_reducible first | exact HB.out | apply below_alloc | apply pw_below_drewN | apply below_drew1) | exact HB.out)) hb); clear HB; have HB := n0_; clear n0_; (try clear hb); (try clear hb2); (try clear hk); (try clear hi)))
          go_roundg kj2
          case measure => have := HK1.out; have := HJ2.out; omega
          case rel => exact ⟨(x3_1), (x4_1), (wrap64 (x5_1 + 1)), (by first | rfl | (simp; done) | (simp [*]; done)), (by first | rfl | (simp; done) | (simp [*]; done)), (by first | rfl | (simp; done) | (simp [*]; done)), H', ⟨by have := HK1.out; have := HJ2.out; omega⟩, ⟨by repeat (first | (with_reducible first | exact HB.out | apply below_alloc | apply pw_below_drewN | apply below_drew1) | exact HB.out)⟩⟩
         ·
          rw [if_neg c10] at H
          have c10b0 : ((a0.extract ((ji5) : Int).toNat (x6_2 : Int).toNat).toList == t201.toList) = false := beq_eq_false_iff_ne.mpr c10
          have c10b1 : ((a0.extract ((ji5) : Int).toNat (x6_2 : Int).toNat).toList != t201.toList) = true := bne_iff_ne.mpr c10
          replace H := Option.bind_eq_some_iff.mp H
          obtain ⟨t202, A120, H⟩ := H
          replace H : (if x4_1.size + t202.size ≤ 9223372036854775807 then (if (x4_1 ++ t202).size + (a0.extract ((ji5) : Int).toNat (x6_2 : Int).toNat).size ≤ 9223372036854775807 then (grapnelref18_file.l0 kj2 a0 (wrap64 (x3_1 + 1)) ((x4_1 ++ t202) ++ (a0.extract ((ji5) : Int).toNat (x6_2 : Int).toNat)) (wrap64 (x5_1 + 1))) else (none)) else (none)) = some r := H
          have A12 := Aside0.mk A120
          clear A120
          by_cases c13 : x4_1.size + t202.size ≤ 9223372036854775807
          ·
           rw [if_pos c13] at H
           have c13b0 := eq_true c13
           have c13b1 : decide (x4_1.size + t202.size ≤ 9223372036854775807) = true := decide_eq_true c13
           try have c13b2 : (9223372036854775807 < x4_1.size + t202.size) = False := eq_false (Nat.not_lt.2 c13)
           try (have c13b3 := c13b2; simp only [ByteArray.size_append] at c13b3)
           by_cases c14 : (x4_1 ++ t202).size + (a0.extract ((ji5) : Int).toNat (x6_2 : Int).toNat).size ≤ 9223372036854775807
           ·
            rw [if_pos c14] at H
            have c14b0 := eq_true c14
            have c14b1 : decide ((x4_1 ++ t202).size + (a0.extract ((ji5) : Int).toNat (x6_2 : Int).toNat).size ≤ 9223372036854775807) = true := decide_eq_true c14
            try have c14b2 : (9223372036854775807 < (x4_1 ++ t202).size + (a0.extract ((ji5) : Int).toNat (x6_2 : Int).toNat).size) = False := eq_false (Nat.not_lt.2 c14)
            try (have c14b3 := c14b2; simp only [ByteArray.size_append, hsz_] at c14b3)
            have H' := Aside0.mk H
            clear H
            go_wp2_with (first | ((with_reducible refine gate_callee (f := 49) rfl ?_); refine goesL_ (some 32) rfl rfl Tryz.func49 (by kernel_rfl) rfl #[.int .i64 ((a0.extract ((ji5) : Int).toNat (x6_2 : Int).toNat).size : Int)] rfl (by (try simp only [List.map_toArray, List.map_cons, List.map_nil]); first | done | (simp only [hji5]; rfl) | rfl | (simp only [hsz_]; rfl) | (simp only [List.length_drop, List.length_take]; rfl)) ?_; (with_reducible refine (grapnelref01_Noughts.calls ((a0.extract ((ji5) : Int).toNat (x6_2 : Int).toNat).size : Int) t201 _ A9.out).mono ?_); rintro e w15 ⟨rfl, hb⟩; refine ⟨_, rfl, ?_⟩; have n0_ := Aside0.mk (below_step (by repeat (first | (with_reducible first | exact HB.out | apply below_alloc | apply pw_below_drewN | apply below_drew1) | exact HB.out)) hb); clear HB; have HB := n0_; clear n0_; (try clear hb); (try clear hb2); (try clear hk); (try clear hi)) | ((with_reducible refine gate_callee (f := 26) rfl ?_); refine goesL_ (some 38) rfl rfl Tryz.func26 (by kernel_rfl) rfl #[.int .i64 x5_1, .int .i64 4] rfl (by (try simp only [List.map_toArray, List.map_cons, List.map_nil]); first | done | rfl | (simp only [List.length_drop, List.length_take]; rfl)) ?_; (with_reducible refine (grapnelref18_put.calls kj2 x5_1 4 t202 _ A12.out).mono ?_); rintro e w16 ⟨rfl, hb⟩; refine ⟨_, rfl, ?_⟩; have n0_ := Aside0.mk (below_step (by repeat (first | (with_reducible first | exact HB.out | apply below_alloc | apply pw_below_drewN | apply below_drew1) | exact HB.out)) hb); clear HB; have HB := n0_; clear n0_; (try clear hb); (try clear hb2); (try clear hk); (try clear hi)))
            go_roundg kj2
            case measure => have := HK1.out; have := HJ2.out; omega
            case rel => exact ⟨(wrap64 (x3_1 + 1)), ((x4_1 ++ t202) ++ (a0.extract ((ji5) : Int).toNat (x6_2 : Int).toNat)), (wrap64 (x5_1 + 1)), (by first | rfl | (simp; done) | (simp [*]; done)), (by first | rfl | (simp; done) | (simp only [← hji5] <;> (first | rfl | simp)) | (simp [*]; done)), (by first | rfl | (simp; done) | (simp [*]; done)), H', ⟨by have := HK1.out; have := HJ2.out; omega⟩, ⟨by repeat (first | (with_reducible first | exact HB.out | apply below_alloc | apply pw_below_drewN | apply below_drew1) | exact HB.out)⟩⟩
           ·
            rw [if_neg c14] at H
            exact absurd H (by simp)
          ·
           rw [if_neg c13] at H
           exact absurd H (by simp)
        ·
         rw [if_neg c8] at H
         exact absurd H (by simp)
       ·
        rw [if_neg c7] at H
        exact absurd H (by simp)
      ·
       rw [if_neg c6] at H
       exact absurd H (by simp)
   ·
    rw [if_neg c2] at H
    have c2b0 : decide ((wrap64 (448 * x5_1)) < (a0.size : Int)) = false := decide_eq_false c2
    clear c2
    replace H := Option.bind_eq_some_iff.mp H
    obtain ⟨t199, A170, H⟩ := H
    replace H : ((grapnelref18_put.f k1 x3_1 4).bind fun t200 => (if t199.size + t200.size ≤ 9223372036854775807 then (if (t199 ++ t200).size + x4_1.size ≤ 9223372036854775807 then (some ((t199 ++ t200) ++ x4_1)) else (none)) else (none))) = some r := H
    have A17 := Aside0.mk A170
    clear A170
    replace H := Option.bind_eq_some_iff.mp H
    obtain ⟨t200, A180, H⟩ := H
    replace H : (if t199.size + t200.size ≤ 9223372036854775807 then (if (t199 ++ t200).size + x4_1.size ≤ 9223372036854775807 then (some ((t199 ++ t200) ++ x4_1)) else (none)) else (none)) = some r := H
    have A18 := Aside0.mk A180
    clear A180
    by_cases c19 : t199.size + t200.size ≤ 9223372036854775807
    ·
     rw [if_pos c19] at H
     have c19b0 := eq_true c19
     have c19b1 : decide (t199.size + t200.size ≤ 9223372036854775807) = true := decide_eq_true c19
     try have c19b2 : (9223372036854775807 < t199.size + t200.size) = False := eq_false (Nat.not_lt.2 c19)
     try (have c19b3 := c19b2; simp only [ByteArray.size_append] at c19b3)
     by_cases c20 : (t199 ++ t200).size + x4_1.size ≤ 9223372036854775807
     ·
      rw [if_pos c20] at H
      have c20b0 := eq_true c20
      have c20b1 : decide ((t199 ++ t200).size + x4_1.size ≤ 9223372036854775807) = true := decide_eq_true c20
      try have c20b2 : (9223372036854775807 < (t199 ++ t200).size + x4_1.size) = False := eq_false (Nat.not_lt.2 c20)
      try (have c20b3 := c20b2; simp only [ByteArray.size_append] at c20b3)
      obtain rfl := Option.some.inj H
      go_wp2_with (first | ((with_reducible refine gate_callee (f := 26) rfl ?_); refine goesL_ (some 44) rfl rfl Tryz.func26 (by kernel_rfl) rfl #[.int .i64 (a0.size : Int), .int .i64 6] rfl (by (try simp only [List.map_toArray, List.map_cons, List.map_nil]); first | done | rfl | (simp only [List.length_drop, List.length_take]; rfl)) ?_; (with_reducible refine (grapnelref18_put.calls k1 (a0.size : Int) 6 t199 _ A17.out).mono ?_); rintro e w21 ⟨rfl, hb⟩; refine ⟨_, rfl, ?_⟩; have n0_ := Aside0.mk (below_step (by repeat (first | (with_reducible first | exact HB.out | apply below_alloc | apply pw_below_drewN | apply below_drew1) | exact HB.out)) hb); clear HB; have HB := n0_; clear n0_; (try clear hb); (try clear hb2); (try clear hk); (try clear hi)) | ((with_reducible refine gate_callee (f := 26) rfl ?_); refine goesL_ (some 46) rfl rfl Tryz.func26 (by kernel_rfl) rfl #[.int .i64 x3_1, .int .i64 4] rfl (by (try simp only [List.map_toArray, List.map_cons, List.map_nil]); first | done | rfl | (simp only [List.length_drop, List.length_take]; rfl)) ?_; (with_reducible refine (grapnelref18_put.calls k1 x3_1 4 t200 _ A18.out).mono ?_); rintro e w22 ⟨rfl, hb⟩; refine ⟨_, rfl, ?_⟩; have n0_ := Aside0.mk (below_step (by repeat (first | (with_reducible first | exact HB.out | apply below_alloc | apply pw_below_drewN | apply below_drew1) | exact HB.out)) hb); clear HB; have HB := n0_; clear n0_; (try clear hb); (try clear hb2); (try clear hk); (try clear hi)))
      go_ret
      exact ⟨by first | rfl | (simp [errW_none, errW_some] <;> rfl) | (simp [*, errW_none, errW_some] <;> rfl), by repeat (first | (with_reducible first | exact HB.out | apply below_alloc | apply pw_below_drewN | apply below_drew1) | exact HB.out)⟩
     ·
      rw [if_neg c20] at H
      exact absurd H (by simp)
    ·
     rw [if_neg c19] at H
     exact absurd H (by simp)
mutual
def grapnelref18_Bytes.j0 : Nat → List (S38) → Bool → Option (ByteArray × Int)
 | 0, _, _ => none
 | k + 1, x0, x22 => if x22 = true then (some ((⟨#[]⟩ : ByteArray), 5)) else ((grapnelref18_put.f k (x0.length : Int) 4).bind fun t235 => (if 4 + t235.size ≤ 9223372036854775807 then (grapnelref18_Bytes.l0 k x0 ((⟨#[65, 82, 67, 72]⟩ : ByteArray) ++ t235) 0 0) else (none)))
def grapnelref18_Bytes.l0 : Nat → List (S38) → ByteArray → Int → Int → Option (ByteArray × Int)
 | 0, _, _, _, _ => none
 | k + 1, x0, x6, x7, x8 => if x8 < (x0.length : Int) then (if 0 ≤ x8 then ((grapnelref18_put.f k ((rd_T38 x0 x8).f1.f2) 1).bind fun t239 => (if x6.size + t239.size ≤ 9223372036854775807 then ((grapnelref18_put.f k (((rd_T38 x0 x8).f0).size : Int) 1).bind fun t240 => (if (x6 ++ t239).size + t240.size ≤ 9223372036854775807 then (if ((x6 ++ t239) ++ t240).size + ((rd_T38 x0 x8).f0).size ≤ 9223372036854775807 then (if ((rd_T38 x0 x8).f1.f2) = 3 then ((grapnelref18_put.f k (((rd_T38 x0 x8).f2).size : Int) 1).bind fun t241 => (if (((x6 ++ t239) ++ t240) ++ ((rd_T38 x0 x8).f0)).size + t241.size ≤ 9223372036854775807 then (if ((((x6 ++ t239) ++ t240) ++ ((rd_T38 x0 x8).f0)) ++ t241).size + ((rd_T38 x0 x8).f2).size ≤ 9223372036854775807 then (grapnelref18_Bytes.j2 k x0 (((((x6 ++ t239) ++ t240) ++ ((rd_T38 x0 x8).f0)) ++ t241) ++ ((rd_T38 x0 x8).f2)) x7 x8 ((rd_T38 x0 x8).f0) ((rd_T38 x0 x8).f1.f0) ((rd_T38 x0 x8).f1.f1) ((rd_T38 x0 x8).f1.f2) ((rd_T38 x0 x8).f1.f3) ((rd_T38 x0 x8).f1.f4) ((rd_T38 x0 x8).f2)) else (none)) else (none))) else (grapnelref18_Bytes.j2 k x0 (((x6 ++ t239) ++ t240) ++ ((rd_T38 x0 x8).f0)) x7 x8 ((rd_T38 x0 x8).f0) ((rd_T38 x0 x8).f1.f0) ((rd_T38 x0 x8).f1.f1) ((rd_T38 x0 x8).f1.f2) ((rd_T38 x0 x8).f1.f3) ((rd_T38 x0 x8).f1.f4) ((rd_T38 x0 x8).f2))) else (none)) else (none))) else (none))) else (none)) else ((grapnelref02_Sum.f k x6).bind fun t236 => (if x6.size + t236.size ≤ 9223372036854775807 then (some (x6 ++ t236, 0)) else (none)))
def grapnelref18_Bytes.j2 : Nat → List (S38) → ByteArray → Int → Int → ByteArray → Int → Int → Int → Int → Int → ByteArray → Option (ByteArray × Int)
 | 0, _, _, _, _, _, _, _, _, _, _, _ => none
 | k + 1, x0, x6, x7, x8, x239000, x239001, x239002, x239003, x239004, x239005, x239006 => if x239003 = 1 then (grapnelref18_Bytes.j3 k x0 x6 x7 x8 (x239001 != (wrap64 (x8 + 1))) x239000 x239001 x239002 x239003 x239004 x239005 x239006) else (grapnelref18_Bytes.j3 k x0 x6 x7 x8 false x239000 x239001 x239002 x239003 x239004 x239005 x239006)
def grapnelref18_Bytes.j3 : Nat → List (S38) → ByteArray → Int → Int → Bool → ByteArray → Int → Int → Int → Int → Int → ByteArray → Option (ByteArray × Int)
 | 0, _, _, _, _, _, _, _, _, _, _, _, _ => none
 | k + 1, x0, x6, x7, x8, x75, x239000, x239001, x239002, x239003, x239004, x239005, x239006 => if x75 = true then ((grapnelref18_put.f k x239001 4).bind fun t242 => (if x6.size + t242.size ≤ 9223372036854775807 then (grapnelref18_Bytes.j4 k x0 (x6 ++ t242) x7 x8 x239000 x239001 x239002 x239003 x239004 x239005 x239006) else (none))) else (grapnelref18_Bytes.j4 k x0 x6 x7 x8 x239000 x239001 x239002 x239003 x239004 x239005 x239006)
def grapnelref18_Bytes.j4 : Nat → List (S38) → ByteArray → Int → Int → ByteArray → Int → Int → Int → Int → Int → ByteArray → Option (ByteArray × Int)
 | 0, _, _, _, _, _, _, _, _, _, _, _ => none
 | k + 1, x0, x6, x7, x8, x239000, x239001, x239002, x239003, x239004, x239005, x239006 => if x239003 = 1 then (grapnelref18_Bytes.j5 k x0 x6 x7 x8 (x239001 == (wrap64 (x8 + 1))) x239000 x239001 x239002 x239003 x239004 x239005 x239006) else (grapnelref18_Bytes.j5 k x0 x6 x7 x8 false x239000 x239001 x239002 x239003 x239004 x239005 x239006)
def grapnelref18_Bytes.j5 : Nat → List (S38) → ByteArray → Int → Int → Bool → ByteArray → Int → Int → Int → Int → Int → ByteArray → Option (ByteArray × Int)
 | 0, _, _, _, _, _, _, _, _, _, _, _, _ => none
 | k + 1, x0, x6, x7, x8, x93, x239000, x239001, x239002, x239003, x239004, x239005, x239006 => if x93 = true then ((grapnelref18_put.f k 0 4).bind fun t243 => (if x6.size + t243.size ≤ 9223372036854775807 then ((grapnelref18_file.f k x239006).bind fun t244 => (if (x6 ++ t243).size + t244.size ≤ 9223372036854775807 then (if (wrap64 (x7 + (x239006.size : Int))) > 8388608 then (some ((⟨#[]⟩ : ByteArray), 4)) else (if (((x6 ++ t243) ++ t244).size : Int) > 8388608 then (some ((⟨#[]⟩ : ByteArray), 4)) else (grapnelref18_Bytes.l0 k x0 ((x6 ++ t243) ++ t244) (wrap64 (x7 + (x239006.size : Int))) (wrap64 (x8 + 1))))) else (none))) else (none))) else (if (wrap64 (x7 + (x239006.size : Int))) > 8388608 then (some ((⟨#[]⟩ : ByteArray), 4)) else (if (x6.size : Int) > 8388608 then (some ((⟨#[]⟩ : ByteArray), 4)) else (grapnelref18_Bytes.l0 k x0 x6 (wrap64 (x7 + (x239006.size : Int))) (wrap64 (x8 + 1)))))
end
def grapnelref18_Bytes.f (k : Nat) (l0 : List (S38)) : Option (ByteArray × Int) := (grapnelref18_Normal.f k l0).bind fun bt230 => (if bt230.2 = 0 then ((grapnelref18_Same.f k bt230.1 l0).bind fun t234 => (grapnelref18_Bytes.j0 k l0 (!t234))) else (grapnelref18_Bytes.j0 k l0 true))
def grapnelref18_Bytes.T10 : Bool × List (List Nat × List Nat) := (true, [([], []), ([], []), ([1], [1]), ([2], [2]), ([3], [3]), ([0, 4], [0, 4]), ([], []), ([6], [6]), ([7], [7]), ([8, 4], [8]), ([5, 9], [5, 9]), ([], []), ([11], [11]), ([10, 12], [10, 12]), ([13, 9, 0, 1, 2, 3, 4, 5, 6, 7, 8, 9, 10, 11, 12, 13], [0, 13])])
def grapnelref18_Bytes.B10 : List Nat := [0, 0, 2, 6, 14, 31, 0, 64, 192, 478, 1023, 0, 2048, 8191, 16383]
theorem grapnelref18_Bytes.tab10 : rtab .any (opsOf Tryz.f8 10) = grapnelref18_Bytes.T10 := by kernel_rfl
theorem grapnelref18_Bytes.bits10 : waitsOk grapnelref18_Bytes.T10.2 grapnelref18_Bytes.B10 = true := by kernel_rfl
def grapnelref18_Bytes.T12 : Bool × List (List Nat × List Nat) := (true, [([], []), ([], []), ([1], [1]), ([2], [2]), ([3], [3]), ([0, 4], [0, 4]), ([], []), ([6], [6]), ([5, 7], [5, 7]), ([8, 4, 0, 1, 2, 3, 4, 5, 6, 7, 8], [0, 8])])
def grapnelref18_Bytes.B12 : List Nat := [0, 0, 2, 6, 14, 31, 0, 64, 255, 511]
theorem grapnelref18_Bytes.tab12 : rtab .any (opsOf Tryz.f8 12) = grapnelref18_Bytes.T12 := by kernel_rfl
theorem grapnelref18_Bytes.bits12 : waitsOk grapnelref18_Bytes.T12.2 grapnelref18_Bytes.B12 = true := by kernel_rfl
def grapnelref18_Bytes.T16 : Bool × List (List Nat × List Nat) := (true, [([], []), ([], []), ([0, 1], [0, 1]), ([], []), ([3], [3]), ([4, 1], [4]), ([2, 5], [2, 5]), ([6, 5, 0, 1, 2, 3, 4, 5, 6], [0, 6])])
def grapnelref18_Bytes.B16 : List Nat := [0, 0, 3, 0, 8, 26, 63, 127]
theorem grapnelref18_Bytes.tab16 : rtab .any (opsOf Tryz.f8 16) = grapnelref18_Bytes.T16 := by kernel_rfl
theorem grapnelref18_Bytes.bits16 : waitsOk grapnelref18_Bytes.T16.2 grapnelref18_Bytes.B16 = true := by kernel_rfl
set_option maxHeartbeats 8000000 in
set_option maxRecDepth 100000 in
theorem grapnelref18_Bytes.calls (k : Nat) (A0 : Option Addr) (c0 : Nat) (l0 : List (S38)) (r1 : ByteArray) (r2 : Int) (w : World) (hr0 : Kd.C k38 w A0 l0.length l0) (hc0 : l0.length ≤ c0) (h : grapnelref18_Bytes.f k l0 = some (r1, r2)) :
  Calls Tryz.prog 8 #[.slice A0 l0.length c0] w fun e w' => e = .returned (.tuple #[.string r1, .int .i64 r2]) ∧ Below w.heap.size w w' := by
 have hu38 := Tryz.underlying38
 have HR0 := Aside0.mk hr0
 have HC0 := Aside0.mk hc0
 clear hr0 hc0
 have HB := Aside0.mk (Below.refl w.heap.size w)
 have H : ((grapnelref18_Normal.f k l0).bind fun bt230 => (if bt230.2 = 0 then ((grapnelref18_Same.f k bt230.1 l0).bind fun t234 => (grapnelref18_Bytes.j0 k l0 (!t234))) else (grapnelref18_Bytes.j0 k l0 true))) = some (r1, r2) := h
 clear h
 replace H := Option.bind_eq_some_iff.mp H
 obtain ⟨⟨t230, t231⟩, A20, H⟩ := H
 replace H : (if t231 = 0 then ((grapnelref18_Same.f k t230 l0).bind fun t234 => (grapnelref18_Bytes.j0 k l0 (!t234))) else (grapnelref18_Bytes.j0 k l0 true)) = some (r1, r2) := H
 have A2 := Aside0.mk A20
 clear A20
 have HC3 := Aside0.mk H
 clear H
 go_enter Tryz.func8, Tryz.ntmps8
 go_upto_region 2 with (first | ((with_reducible refine gate_callee (f := 6) rfl ?_); refine goesL_ (some 12) rfl rfl Tryz.func6 (by kernel_rfl) rfl #[.slice A0 l0.length c0] rfl (by (try simp only [List.map_toArray, List.map_cons, List.map_nil]); first | done | rfl | (simp only [List.length_drop, List.length_take]; rfl)) ?_; (with_reducible refine (grapnelref18_Normal.calls k _ _ l0 t230 t231 _ ?side1 ?side2 A2.out).mono ?_); (case side1 => repeat (first | exact HR0.out | (with_reducible refine Kd.C_alloc ?_ _) | (with_reducible refine Kd.C_drewN ?_ _) | (with_reducible refine Kd.C_drew ?_))); (case side2 => exact HC0.out); rintro e w4 ⟨v232, rfl, ho0, hb⟩; refine ⟨_, rfl, ?_⟩; have n0_ := Aside0.mk (Kd.R_lower ho0 (below_size (by repeat (first | (with_reducible first | exact HB.out | apply below_alloc | apply pw_below_drewN | apply below_drew1) | exact HB.out)))); have n1_ := Aside0.mk (below_step (by repeat (first | (with_reducible first | exact HB.out | apply below_alloc | apply pw_below_drewN | apply below_drew1) | exact HB.out)) hb); clear HB; have HO233 := n0_; have HB := n1_; clear n0_ n1_; (try clear hb); (try clear hb2); (try clear hk); (try clear hi); (try clear ho0)))
 (try simp only [Act.put, List.setIfInBounds_toArray, List.set_cons_zero, List.set_cons_succ])
 go_cut [22] (fun v22 wc => ∃ (kq : Nat) (x22_2 : Bool), v22 = .bool x22_2 ∧ Aside0 (grapnelref18_Bytes.j0 kq l0 x22_2 = some (r1, r2)) ∧ Aside0 (kq ≤ k) ∧ Aside0 (Below w.heap.size w wc))
 case first =>
  have H := HC3.out
  clear HC3
  by_cases c5 : t231 = 0
  ·
   rw [if_pos c5] at H
   have c5b0 : (t231 == 0) = true := beq_iff_eq.mpr c5
   have c5b1 : (t231 != 0) = false := bne_eq_false_iff_eq.mpr c5
   clear c5
   (first | rw [c5b0] | (simp only [i64_w, i32_w]; rw [c5b0]) | skip)
   replace H := Option.bind_eq_some_iff.mp H
   obtain ⟨t234, A60, H⟩ := H
   replace H : (grapnelref18_Bytes.j0 k l0 (!t234)) = some (r1, r2) := H
   have A6 := Aside0.mk A60
   clear A60
   have H' := Aside0.mk H
   clear H
   obtain ⟨Ao7, co7, eo7⟩ := Kd.R_slice HO233.out
   subst eo7
   go_wp2_with (first | (go_at_call 25; (with_reducible refine (grapnelref18_Same.calls k _ _ t230 _ _ l0 t234 _ ?side1 ?side2 ?side3 ?side4 A6.out).mono ?_); (case side1 => repeat (first | exact (Kd.R_reads' HO233.out).2.2 | (with_reducible refine Kd.C_alloc ?_ _) | (with_reducible refine Kd.C_drewN ?_ _) | (with_reducible refine Kd.C_drew ?_))); (case side2 => exact (Kd.R_reads' HO233.out).2.1); (case side3 => repeat (first | exact (Kd.C_below HR0.out HB.out) | (with_reducible refine Kd.C_alloc ?_ _) | (with_reducible refine Kd.C_drewN ?_ _) | (with_reducible refine Kd.C_drew ?_))); (case side4 => exact HC0.out); rintro e w' ⟨rfl, ⟨nd, rfl⟩⟩))
   go_meet
   case rel => exact ⟨_, (!t234), (by first | rfl | (simp; done) | (simp [*]; done)), H', ⟨by first | omega | exact Nat.le_refl _⟩, ⟨by repeat (first | (with_reducible first | exact HB.out | apply below_alloc | apply pw_below_drewN | apply below_drew1) | exact HB.out)⟩⟩
  ·
   rw [if_neg c5] at H
   have c5b0 : (t231 == 0) = false := beq_eq_false_iff_ne.mpr c5
   have c5b1 : (t231 != 0) = true := bne_iff_ne.mpr c5
   (first | rw [c5b0] | (simp only [i64_w, i32_w]; rw [c5b0]) | skip)
   have H' := Aside0.mk H
   clear H
   go_wp2
   go_meet
   case rel => exact ⟨_, (true), (by first | rfl | (simp; done) | (simp [*]; done)), H', ⟨by first | omega | exact Nat.le_refl _⟩, ⟨by repeat (first | (with_reducible first | exact HB.out | apply below_alloc | apply pw_below_drewN | apply below_drew1) | exact HB.out)⟩⟩
 case rest =>
  clear HC3
  try clear p2
  try clear c5
  try clear c5b0
  try clear c5b1
  try clear c6
  obtain ⟨kq, x22_2, rfl, HA, HJ2, HB⟩ := hcut
  cases kq with
  | zero => exact absurd HA.out (by simp [grapnelref18_Bytes.j0])
  | succ kj2 =>
   have H := HA.out
   clear HA
   simp only [grapnelref18_Bytes.j0] at H
   by_cases c8 : x22_2 = true
   ·
    subst c8
    have H1 : (some ((⟨#[]⟩ : ByteArray), 5)) = some (r1, r2) := by rw [if_pos rfl] at H; exact H
    clear H
    have H := H1
    clear H1
    simp only [Option.some.injEq, Prod.mk.injEq] at H
    obtain ⟨rfl, rfl⟩ := H
    go_wp2
    go_ret2
    exact ⟨by first | rfl | (simp [errW_none, errW_some] <;> rfl) | (simp [*, errW_none, errW_some] <;> rfl), by repeat (first | (with_reducible first | exact HB.out | apply below_alloc | apply pw_below_drewN | apply below_drew1) | exact HB.out)⟩
   ·
    replace c8 := Bool.eq_false_iff.mpr c8
    subst c8
    have H1 : ((grapnelref18_put.f kj2 (l0.length : Int) 4).bind fun t235 => (if 4 + t235.size ≤ 9223372036854775807 then (grapnelref18_Bytes.l0 kj2 l0 ((⟨#[65, 82, 67, 72]⟩ : ByteArray) ++ t235) 0 0) else (none))) = some (r1, r2) := by rw [if_neg (show ¬ (false = true) by decide)] at H; exact H
    clear H
    have H := H1
    clear H1
    replace H := Option.bind_eq_some_iff.mp H
    obtain ⟨t235, A90, H⟩ := H
    replace H : (if 4 + t235.size ≤ 9223372036854775807 then (grapnelref18_Bytes.l0 kj2 l0 ((⟨#[65, 82, 67, 72]⟩ : ByteArray) ++ t235) 0 0) else (none)) = some (r1, r2) := H
    have A9 := Aside0.mk A90
    clear A90
    by_cases c10 : 4 + t235.size ≤ 9223372036854775807
    ·
     rw [if_pos c10] at H
     have c10b0 := eq_true c10
     have c10b1 : decide (4 + t235.size ≤ 9223372036854775807) = true := decide_eq_true c10
     try have c10b2 : (9223372036854775807 < 4 + t235.size) = False := eq_false (Nat.not_lt.2 c10)
     try (have c10b3 := c10b2; simp only [ByteArray.size_append] at c10b3)
     have H' := Aside0.mk H
     clear H
     go_wp2_with (first | ((with_reducible refine gate_callee (f := 26) rfl ?_); refine goesL_ (some 25) rfl rfl Tryz.func26 (by kernel_rfl) rfl #[.int .i64 (l0.length : Int), .int .i64 4] rfl (by (try simp only [List.map_toArray, List.map_cons, List.map_nil]); first | done | rfl | (simp only [List.length_drop, List.length_take]; rfl)) ?_; (with_reducible refine (grapnelref18_put.calls kj2 (l0.length : Int) 4 t235 _ A9.out).mono ?_); rintro e w11 ⟨rfl, hb⟩; refine ⟨_, rfl, ?_⟩; have n0_ := Aside0.mk (below_step (by repeat (first | (with_reducible first | exact HB.out | apply below_alloc | apply pw_below_drewN | apply below_drew1) | exact HB.out)) hb); clear HB; have HB := n0_; clear n0_; (try clear hb); (try clear hb2); (try clear hk); (try clear hi)))
     go_loopg [6, 7, 8] kj2 (fun kq v6 v7 v8 w' => ∃ (x6_2 : ByteArray) (x7_2 : Int) (x8_2 : Int), v6 = .string x6_2 ∧ v7 = .int .i64 x7_2 ∧ v8 = .int .i64 x8_2 ∧ Aside0 (grapnelref18_Bytes.l0 kq l0 x6_2 x7_2 x8_2 = some (r1, r2)) ∧ Aside0 (kq ≤ kj2) ∧ Aside0 (Below w.heap.size w w'))
     case atStart => exact ⟨((⟨#[65, 82, 67, 72]⟩ : ByteArray) ++ t235), (0), (0), (by first | rfl | (simp; done) | (simp [*]; done)), (by first | rfl | (simp; done) | (simp [*]; done)), (by first | rfl | (simp; done) | (simp [*]; done)), H', ⟨Nat.le_refl _⟩, ⟨by repeat (first | (with_reducible first | exact HB.out | apply below_alloc | apply pw_below_drewN | apply below_drew1) | exact HB.out)⟩⟩
     case round =>
      clear H'
      try clear c1
      try clear c2
      try clear p2
      try clear c5
      try clear c5b0
      try clear c5b1
      try clear c6
      try clear c8
      try clear c10
      try clear c10b0
      try clear c10b1
      try clear c10b2
      try clear p2
      obtain ⟨x6_2, x7_2, x8_2, rfl, rfl, rfl, HA, HK2, HB⟩ := hrel
      cases gk with
      | zero => exact absurd HA.out (by simp [grapnelref18_Bytes.l0])
      | succ k2 =>
       have H := HA.out
       clear HA
       simp only [grapnelref18_Bytes.l0] at H
       by_cases c12 : x8_2 < (l0.length : Int)
       ·
        rw [if_pos c12] at H
        have c12b0 : decide (x8_2 < (l0.length : Int)) = true := decide_eq_true c12
        clear c12
        by_cases c13 : 0 ≤ x8_2
        ·
         rw [if_pos c13] at H
         have c13b0 : decide (0 ≤ x8_2) = true := decide_eq_true c13
         clear c13
         replace H := Option.bind_eq_some_iff.mp H
         obtain ⟨t239, A140, H⟩ := H
         replace H : (if x6_2.size + t239.size ≤ 9223372036854775807 then ((grapnelref18_put.f k2 (((rd_T38 l0 x8_2).f0).size : Int) 1).bind fun t240 => (if (x6_2 ++ t239).size + t240.size ≤ 9223372036854775807 then (if ((x6_2 ++ t239) ++ t240).size + ((rd_T38 l0 x8_2).f0).size ≤ 9223372036854775807 then (if ((rd_T38 l0 x8_2).f1.f2) = 3 then ((grapnelref18_put.f k2 (((rd_T38 l0 x8_2).f2).size : Int) 1).bind fun t241 => (if (((x6_2 ++ t239) ++ t240) ++ ((rd_T38 l0 x8_2).f0)).size + t241.size ≤ 9223372036854775807 then (if ((((x6_2 ++ t239) ++ t240) ++ ((rd_T38 l0 x8_2).f0)) ++ t241).size + ((rd_T38 l0 x8_2).f2).size ≤ 9223372036854775807 then (grapnelref18_Bytes.j2 k2 l0 (((((x6_2 ++ t239) ++ t240) ++ ((rd_T38 l0 x8_2).f0)) ++ t241) ++ ((rd_T38 l0 x8_2).f2)) x7_2 x8_2 ((rd_T38 l0 x8_2).f0) ((rd_T38 l0 x8_2).f1.f0) ((rd_T38 l0 x8_2).f1.f1) ((rd_T38 l0 x8_2).f1.f2) ((rd_T38 l0 x8_2).f1.f3) ((rd_T38 l0 x8_2).f1.f4) ((rd_T38 l0 x8_2).f2)) else (none)) else (none))) else (grapnelref18_Bytes.j2 k2 l0 (((x6_2 ++ t239) ++ t240) ++ ((rd_T38 l0 x8_2).f0)) x7_2 x8_2 ((rd_T38 l0 x8_2).f0) ((rd_T38 l0 x8_2).f1.f0) ((rd_T38 l0 x8_2).f1.f1) ((rd_T38 l0 x8_2).f1.f2) ((rd_T38 l0 x8_2).f1.f3) ((rd_T38 l0 x8_2).f1.f4) ((rd_T38 l0 x8_2).f2))) else (none)) else (none))) else (none)) = some (r1, r2) := H
         have A14 := Aside0.mk A140
         clear A140
         by_cases c15 : x6_2.size + t239.size ≤ 9223372036854775807
         ·
          rw [if_pos c15] at H
          have c15b0 := eq_true c15
          have c15b1 : decide (x6_2.size + t239.size ≤ 9223372036854775807) = true := decide_eq_true c15
          try have c15b2 : (9223372036854775807 < x6_2.size + t239.size) = False := eq_false (Nat.not_lt.2 c15)
          try (have c15b3 := c15b2; simp only [ByteArray.size_append] at c15b3)
          replace H := Option.bind_eq_some_iff.mp H
          obtain ⟨t240, A160, H⟩ := H
          replace H : (if (x6_2 ++ t239).size + t240.size ≤ 9223372036854775807 then (if ((x6_2 ++ t239) ++ t240).size + ((rd_T38 l0 x8_2).f0).size ≤ 9223372036854775807 then (if ((rd_T38 l0 x8_2).f1.f2) = 3 then ((grapnelref18_put.f k2 (((rd_T38 l0 x8_2).f2).size : Int) 1).bind fun t241 => (if (((x6_2 ++ t239) ++ t240) ++ ((rd_T38 l0 x8_2).f0)).size + t241.size ≤ 9223372036854775807 then (if ((((x6_2 ++ t239) ++ t240) ++ ((rd_T38 l0 x8_2).f0)) ++ t241).size + ((rd_T38 l0 x8_2).f2).size ≤ 9223372036854775807 then (grapnelref18_Bytes.j2 k2 l0 (((((x6_2 ++ t239) ++ t240) ++ ((rd_T38 l0 x8_2).f0)) ++ t241) ++ ((rd_T38 l0 x8_2).f2)) x7_2 x8_2 ((rd_T38 l0 x8_2).f0) ((rd_T38 l0 x8_2).f1.f0) ((rd_T38 l0 x8_2).f1.f1) ((rd_T38 l0 x8_2).f1.f2) ((rd_T38 l0 x8_2).f1.f3) ((rd_T38 l0 x8_2).f1.f4) ((rd_T38 l0 x8_2).f2)) else (none)) else (none))) else (grapnelref18_Bytes.j2 k2 l0 (((x6_2 ++ t239) ++ t240) ++ ((rd_T38 l0 x8_2).f0)) x7_2 x8_2 ((rd_T38 l0 x8_2).f0) ((rd_T38 l0 x8_2).f1.f0) ((rd_T38 l0 x8_2).f1.f1) ((rd_T38 l0 x8_2).f1.f2) ((rd_T38 l0 x8_2).f1.f3) ((rd_T38 l0 x8_2).f1.f4) ((rd_T38 l0 x8_2).f2))) else (none)) else (none)) = some (r1, r2) := H
          have A16 := Aside0.mk A160
          clear A160
          by_cases c17 : (x6_2 ++ t239).size + t240.size ≤ 9223372036854775807
          ·
           rw [if_pos c17] at H
           have c17b0 := eq_true c17
           have c17b1 : decide ((x6_2 ++ t239).size + t240.size ≤ 9223372036854775807) = true := decide_eq_true c17
           try have c17b2 : (9223372036854775807 < (x6_2 ++ t239).size + t240.size) = False := eq_false (Nat.not_lt.2 c17)
           try (have c17b3 := c17b2; simp only [ByteArray.size_append] at c17b3)
           by_cases c18 : ((x6_2 ++ t239) ++ t240).size + ((rd_T38 l0 x8_2).f0).size ≤ 9223372036854775807
           ·
            rw [if_pos c18] at H
            have c18b0 := eq_true c18
            have c18b1 : decide (((x6_2 ++ t239) ++ t240).size + ((rd_T38 l0 x8_2).f0).size ≤ 9223372036854775807) = true := decide_eq_true c18
            try have c18b2 : (9223372036854775807 < ((x6_2 ++ t239) ++ t240).size + ((rd_T38 l0 x8_2).f0).size) = False := eq_false (Nat.not_lt.2 c18)
            try (have c18b3 := c18b2; simp only [ByteArray.size_append] at c18b3)
            have HC19 := Aside0.mk H
            clear H
            have p237 : 0 ≤ (x8_2 : Int) := of_decide_eq_true (by first | (with_reducible assumption) | assumption)
            have q237 : x8_2 < (l0.length : Int) := of_decide_eq_true (by first | (with_reducible assumption) | assumption)
            obtain ⟨ad237, e237, hx237_0, hx237_1, hx237_2, hx237_3, hx237_4, hx237_5, hx237_6⟩ := at_T38 HR0.out x8_2 p237 q237
            cases e237
            replace hx237_0 := (HB.out.cell (World.block_lt_of_cell? w _ hx237_0)).trans hx237_0
            replace hx237_1 := (HB.out.cell (World.block_lt_of_cell? w _ hx237_1)).trans hx237_1
            replace hx237_2 := (HB.out.cell (World.block_lt_of_cell? w _ hx237_2)).trans hx237_2
            replace hx237_3 := (HB.out.cell (World.block_lt_of_cell? w _ hx237_3)).trans hx237_3
            replace hx237_4 := (HB.out.cell (World.block_lt_of_cell? w _ hx237_4)).trans hx237_4
            replace hx237_5 := (HB.out.cell (World.block_lt_of_cell? w _ hx237_5)).trans hx237_5
            replace hx237_6 := (HB.out.cell (World.block_lt_of_cell? w _ hx237_6)).trans hx237_6
            replace p237 := eq_true p237
            replace q237 := eq_true q237
            try go_wp2_with (first | ((with_reducible refine gate_dst (N := 9) rfl ?_); (try (refine gate_guard (by rfl) ?_; dsimp only)); refine box_event ?hg (N := 9) ?hd (cs := #[.string (⟨#[]⟩ : ByteArray), .int .i64 0, .int .i64 0, .int .i64 0, .int .i64 0, .int .i64 0, .string (⟨#[]⟩ : ByteArray)]) (t := 38) ?hr ?_; (case hd => rfl); (case hg => rfl); (case hr => first | (go_simp; done) | (go_simp; rfl)); intro gb238 hg w20 hbox hb; have n0_ := Aside0.mk (below_step (by repeat (first | (with_reducible first | exact HB.out | apply below_alloc | apply pw_below_drewN | apply below_drew1) | exact HB.out)) hb); have n1_ := Aside0.mk (hbox); have n2_ := Aside0.mk ((by rw [hg]; exact (below_size (by repeat (first | (with_reducible first | exact HB.out | apply below_alloc | apply pw_below_drewN | apply below_drew1) | exact HB.out))) : w.heap.size ≤ gb238)); have n3_ := Aside0.mk ((by rw [hg]; exact (below_size (by repeat (first | (with_reducible first | exact HB.out | apply below_alloc | apply pw_below_drewN | apply below_drew1) | exact HB.out))) : w.heap.size ≤ gb238)); clear HB; have HB := n0_; have BK238 := n1_; have GW238 := n2_; have GE238 := n3_; clear n0_ n1_ n2_ n3_; clear hb hbox hg; have hcz21_0 : w20.cell? ⟨gb238, 0, none⟩ = some (.string (⟨#[]⟩ : ByteArray)) := (blk_cell BK238.out 0).trans rfl; have hcz21_1 : w20.cell? ⟨gb238, 1, none⟩ = some (.int .i64 0) := (blk_cell BK238.out 1).trans rfl; have hcz21_2 : w20.cell? ⟨gb238, 2, none⟩ = some (.int .i64 0) := (blk_cell BK238.out 2).trans rfl; have hcz21_3 : w20.cell? ⟨gb238, 3, none⟩ = some (.int .i64 0) := (blk_cell BK238.out 3).trans rfl; have hcz21_4 : w20.cell? ⟨gb238, 4, none⟩ = some (.int .i64 0) := (blk_cell BK238.out 4).trans rfl; have hcz21_5 : w20.cell? ⟨gb238, 5, none⟩ = some (.int .i64 0) := (blk_cell BK238.out 5).trans rfl; have hcz21_6 : w20.cell? ⟨gb238, 6, none⟩ = some (.string (⟨#[]⟩ : ByteArray)) := (blk_cell BK238.out 6).trans rfl; have hfz21_0 := blk_frozen BK238.out 0; have hfz21_1 := blk_frozen BK238.out 1; have hfz21_2 := blk_frozen BK238.out 2; have hfz21_3 := blk_frozen BK238.out 3; have hfz21_4 := blk_frozen BK238.out 4; have hfz21_5 := blk_frozen BK238.out 5; have hfz21_6 := blk_frozen BK238.out 6))
            have n0_ : Aside0 ((((((((w20.setCell ⟨gb238, 0, none⟩ (.string ((rd_T38 l0 x8_2).f0))).setCell ⟨gb238, 1, none⟩ (.int .i64 ((rd_T38 l0 x8_2).f1.f0))).setCell ⟨gb238, 2, none⟩ (.int .i64 ((rd_T38 l0 x8_2).f1.f1))).setCell ⟨gb238, 3, none⟩ (.int .i64 ((rd_T38 l0 x8_2).f1.f2))).setCell ⟨gb238, 4, none⟩ (.int .i64 ((rd_T38 l0 x8_2).f1.f3))).setCell ⟨gb238, 5, none⟩ (.int .i64 ((rd_T38 l0 x8_2).f1.f4))).setCell ⟨gb238, 6, none⟩ (.string ((rd_T38 l0 x8_2).f2))).heap[gb238]? = some (.cells #[.string ((rd_T38 l0 x8_2).f0), .int .i64 ((rd_T38 l0 x8_2).f1.f0), .int .i64 ((rd_T38 l0 x8_2).f1.f1), .int .i64 ((rd_T38 l0 x8_2).f1.f2), .int .i64 ((rd_T38 l0 x8_2).f1.f3), .int .i64 ((rd_T38 l0 x8_2).f1.f4), .string ((rd_T38 l0 x8_2).f2)] 38 (0, 0))) := ⟨by (with_reducible repeat (first | refine blk_drewN ?_ _ | refine blk_drew ?_ | refine blk_alloc ?_ _)); refine blk_put (cs := #[.string ((rd_T38 l0 x8_2).f0), .int .i64 ((rd_T38 l0 x8_2).f1.f0), .int .i64 ((rd_T38 l0 x8_2).f1.f1), .int .i64 ((rd_T38 l0 x8_2).f1.f2), .int .i64 ((rd_T38 l0 x8_2).f1.f3), .int .i64 ((rd_T38 l0 x8_2).f1.f4), .string (⟨#[]⟩ : ByteArray)]) ?_ 6 _ rfl; (with_reducible repeat (first | refine blk_drewN ?_ _ | refine blk_drew ?_ | refine blk_alloc ?_ _)); refine blk_put (cs := #[.string ((rd_T38 l0 x8_2).f0), .int .i64 ((rd_T38 l0 x8_2).f1.f0), .int .i64 ((rd_T38 l0 x8_2).f1.f1), .int .i64 ((rd_T38 l0 x8_2).f1.f2), .int .i64 ((rd_T38 l0 x8_2).f1.f3), .int .i64 0, .string (⟨#[]⟩ : ByteArray)]) ?_ 5 _ rfl; (with_reducible repeat (first | refine blk_drewN ?_ _ | refine blk_drew ?_ | refine blk_alloc ?_ _)); refine blk_put (cs := #[.string ((rd_T38 l0 x8_2).f0), .int .i64 ((rd_T38 l0 x8_2).f1.f0), .int .i64 ((rd_T38 l0 x8_2).f1.f1), .int .i64 ((rd_T38 l0 x8_2).f1.f2), .int .i64 0, .int .i64 0, .string (⟨#[]⟩ : ByteArray)]) ?_ 4 _ rfl; (with_reducible repeat (first | refine blk_drewN ?_ _ | refine blk_drew ?_ | refine blk_alloc ?_ _)); refine blk_put (cs := #[.string ((rd_T38 l0 x8_2).f0), .int .i64 ((rd_T38 l0 x8_2).f1.f0), .int .i64 ((rd_T38 l0 x8_2).f1.f1), .int .i64 0, .int .i64 0, .int .i64 0, .string (⟨#[]⟩ : ByteArray)]) ?_ 3 _ rfl; (with_reducible repeat (first | refine blk_drewN ?_ _ | refine blk_drew ?_ | refine blk_alloc ?_ _)); refine blk_put (cs := #[.string ((rd_T38 l0 x8_2).f0), .int .i64 ((rd_T38 l0 x8_2).f1.f0), .int .i64 0, .int .i64 0, .int .i64 0, .int .i64 0, .string (⟨#[]⟩ : ByteArray)]) ?_ 2 _ rfl; (with_reducible repeat (first | refine blk_drewN ?_ _ | refine blk_drew ?_ | refine blk_alloc ?_ _)); refine blk_put (cs := #[.string ((rd_T38 l0 x8_2).f0), .int .i64 0, .int .i64 0, .int .i64 0, .int .i64 0, .int .i64 0, .string (⟨#[]⟩ : ByteArray)]) ?_ 1 _ rfl; (with_reducible repeat (first | refine blk_drewN ?_ _ | refine blk_drew ?_ | refine blk_alloc ?_ _)); refine blk_put (cs := #[.string (⟨#[]⟩ : ByteArray), .int .i64 0, .int .i64 0, .int .i64 0, .int .i64 0, .int .i64 0, .string (⟨#[]⟩ : ByteArray)]) ?_ 0 _ rfl; (with_reducible repeat (first | refine blk_drewN ?_ _ | refine blk_drew ?_ | refine blk_alloc ?_ _)); exact BK238.out⟩
            have n1_ : Aside0 (Below w.heap.size w (((((((w20.setCell ⟨gb238, 0, none⟩ (.string ((rd_T38 l0 x8_2).f0))).setCell ⟨gb238, 1, none⟩ (.int .i64 ((rd_T38 l0 x8_2).f1.f0))).setCell ⟨gb238, 2, none⟩ (.int .i64 ((rd_T38 l0 x8_2).f1.f1))).setCell ⟨gb238, 3, none⟩ (.int .i64 ((rd_T38 l0 x8_2).f1.f2))).setCell ⟨gb238, 4, none⟩ (.int .i64 ((rd_T38 l0 x8_2).f1.f3))).setCell ⟨gb238, 5, none⟩ (.int .i64 ((rd_T38 l0 x8_2).f1.f4))).setCell ⟨gb238, 6, none⟩ (.string ((rd_T38 l0 x8_2).f2)))) := ⟨by repeat (first | (with_reducible first | exact HB.out | apply below_alloc | apply pw_below_drewN | apply below_drew1 | refine below_set ?_ GE238.out) | exact HB.out)⟩
            (try clear BK238)
            (try clear HB)
            generalize (((((((w20.setCell ⟨gb238, 0, none⟩ (.string ((rd_T38 l0 x8_2).f0))).setCell ⟨gb238, 1, none⟩ (.int .i64 ((rd_T38 l0 x8_2).f1.f0))).setCell ⟨gb238, 2, none⟩ (.int .i64 ((rd_T38 l0 x8_2).f1.f1))).setCell ⟨gb238, 3, none⟩ (.int .i64 ((rd_T38 l0 x8_2).f1.f2))).setCell ⟨gb238, 4, none⟩ (.int .i64 ((rd_T38 l0 x8_2).f1.f3))).setCell ⟨gb238, 5, none⟩ (.int .i64 ((rd_T38 l0 x8_2).f1.f4))).setCell ⟨gb238, 6, none⟩ (.string ((rd_T38 l0 x8_2).f2))) = w22 at n0_ n1_ ⊢
            have BK238 := n0_
            have HB := n1_
            clear n0_ n1_
            have n0_ := Aside0.mk (blk_drew BK238.out)
            have n1_ := Aside0.mk (below_drew1 HB.out)
            clear BK238
            clear HB
            have BK238 := n0_
            have HB := n1_
            clear n0_ n1_
            refine start_ (n := 15) (S := fun w' => w'.cell? ⟨gb238, 0, none⟩ = some (.string ((rd_T38 l0 x8_2).f0)) ∧ w'.cell? ⟨gb238, 1, none⟩ = some (.int .i64 ((rd_T38 l0 x8_2).f1.f0)) ∧ w'.cell? ⟨gb238, 2, none⟩ = some (.int .i64 ((rd_T38 l0 x8_2).f1.f1)) ∧ w'.cell? ⟨gb238, 3, none⟩ = some (.int .i64 ((rd_T38 l0 x8_2).f1.f2)) ∧ w'.cell? ⟨gb238, 4, none⟩ = some (.int .i64 ((rd_T38 l0 x8_2).f1.f3)) ∧ w'.cell? ⟨gb238, 5, none⟩ = some (.int .i64 ((rd_T38 l0 x8_2).f1.f4)) ∧ w'.cell? ⟨gb238, 6, none⟩ = some (.string ((rd_T38 l0 x8_2).f2))) (ds := []) #[false, false, false, false, false, false, false, false, false, false, false, false, false, false, false] (by kernel_rfl) rfl rfl ⟨(blk_cell BK238.out 0).trans rfl, (blk_cell BK238.out 1).trans rfl, (blk_cell BK238.out 2).trans rfl, (blk_cell BK238.out 3).trans rfl, (blk_cell BK238.out 4).trans rfl, (blk_cell BK238.out 5).trans rfl, (blk_cell BK238.out 6).trans rfl⟩ (fun hHeld => ?_); refine with_tabW grapnelref18_Bytes.tab10 grapnelref18_Bytes.bits10 (fun HT_ HW_ => ?_)
            generalize w22.drew = w23 at BK238 HB hHeld ⊢
            refine pu 0 37 (bl 15 1) HT_ ?_
            refine pu 1 38 (bl 15 3) HT_ ?_
            refine pu 2 39 (bl 15 7) HT_ ?_
            refine pu 6 43 (bl 15 71) HT_ ?_
            refine pu 11 48 (bl 15 2119) HT_ ?_
            refine tk 3 40 (bl 15 2127) HT_ HW_ hHeld ?_ (hy := by rintro w' ⟨s0, s1, s2, s3, s4, s5, s6⟩; go_simp; with_reducible rfl)
            refine tk 7 44 (bl 15 2255) HT_ HW_ hHeld ?_ (hy := by rintro w' ⟨s0, s1, s2, s3, s4, s5, s6⟩; go_simp; with_reducible rfl)
            refine pu 8 45 (bl 15 2511) HT_ ?_
            refine tk 12 49 (bl 15 6607) HT_ HW_ hHeld ?_ (hy := by rintro w' ⟨s0, s1, s2, s3, s4, s5, s6⟩; go_simp; with_reducible rfl)
            refine one_ (i := 4) (N := some 41) (bl 15 6623) rfl rfl (one_of HT_.out (by kernel_rfl)) (by decide) (fun K hK => ?_)
            refine goes_ Tryz.func26 (by kernel_rfl) rfl #[.int .i64 ((rd_T38 l0 x8_2).f1.f2), .int .i64 1] (by rfl) rfl rfl (by (try simp only [List.map_toArray, List.map_cons, List.map_nil]); first | done | rfl | (simp only [List.length_drop, List.length_take]; rfl)) ?_
            with_reducible refine (grapnelref18_put.calls k2 ((rd_T38 l0 x8_2).f1.f2) 1 t239 _ A14.out).mono ?_
            rintro e w24 ⟨rfl, hb⟩
            refine ⟨_, rfl, ?_⟩
            have n0_ := Aside0.mk (blk_below (g := gb238) (o := .cells #[.string ((rd_T38 l0 x8_2).f0), .int .i64 ((rd_T38 l0 x8_2).f1.f0), .int .i64 ((rd_T38 l0 x8_2).f1.f1), .int .i64 ((rd_T38 l0 x8_2).f1.f2), .int .i64 ((rd_T38 l0 x8_2).f1.f3), .int .i64 ((rd_T38 l0 x8_2).f1.f4), .string ((rd_T38 l0 x8_2).f2)] 38 (0, 0)) (by (with_reducible repeat (first | refine blk_drewN ?_ _ | refine blk_drew ?_ | refine blk_alloc ?_ _)); exact BK238.out) hb)
            have n1_ := Aside0.mk (below_step (by repeat (first | (with_reducible first | exact HB.out | apply below_alloc | apply pw_below_drewN | apply below_drew1 | refine below_set ?_ GE238.out) | exact HB.out)) hb)
            clear BK238
            clear HB
            have BK238 := n0_
            have HB := n1_
            clear n0_ n1_
            (try clear hb)
            (try clear hb2)
            (try clear hk)
            (try clear hi)
            refine hK.out _ _ ⟨(blk_cell BK238.out 0).trans rfl, (blk_cell BK238.out 1).trans rfl, (blk_cell BK238.out 2).trans rfl, (blk_cell BK238.out 3).trans rfl, (blk_cell BK238.out 4).trans rfl, (blk_cell BK238.out 5).trans rfl, (blk_cell BK238.out 6).trans rfl⟩ (fun hHeld => ?_)
            clear hK K
            refine norm_ (a' := ?_) ?_ ?_
            rotate_left
            ·
             show Act.put _ (some 41) _ = _
             simp only [Act.put, List.setIfInBounds_toArray, List.set_cons_zero, List.set_cons_succ, i64_w, i32_w]
             rfl
            refine pu 5 42 (bl 15 6655) HT_ ?_
            refine one_ (i := 9) (N := some 46) (bl 15 7167) rfl rfl (one_of HT_.out (by kernel_rfl)) (by decide) (fun K hK => ?_)
            refine goes_ Tryz.func26 (by kernel_rfl) rfl #[.int .i64 (((rd_T38 l0 x8_2).f0).size : Int), .int .i64 1] (by rfl) rfl rfl (by (try simp only [List.map_toArray, List.map_cons, List.map_nil]); first | done | rfl | (simp only [List.length_drop, List.length_take]; rfl)) ?_
            with_reducible refine (grapnelref18_put.calls k2 (((rd_T38 l0 x8_2).f0).size : Int) 1 t240 _ A16.out).mono ?_
            rintro e w25 ⟨rfl, hb⟩
            refine ⟨_, rfl, ?_⟩
            have n0_ := Aside0.mk (blk_below (g := gb238) (o := .cells #[.string ((rd_T38 l0 x8_2).f0), .int .i64 ((rd_T38 l0 x8_2).f1.f0), .int .i64 ((rd_T38 l0 x8_2).f1.f1), .int .i64 ((rd_T38 l0 x8_2).f1.f2), .int .i64 ((rd_T38 l0 x8_2).f1.f3), .int .i64 ((rd_T38 l0 x8_2).f1.f4), .string ((rd_T38 l0 x8_2).f2)] 38 (0, 0)) (by (with_reducible repeat (first | refine blk_drewN ?_ _ | refine blk_drew ?_ | refine blk_alloc ?_ _)); exact BK238.out) hb)
            have n1_ := Aside0.mk (below_step (by repeat (first | (with_reducible first | exact HB.out | apply below_alloc | apply pw_below_drewN | apply below_drew1 | refine below_set ?_ GE238.out) | exact HB.out)) hb)
            clear BK238
            clear HB
            have BK238 := n0_
            have HB := n1_
            clear n0_ n1_
            (try clear hb)
            (try clear hb2)
            (try clear hk)
            (try clear hi)
            refine hK.out _ _ ⟨(blk_cell BK238.out 0).trans rfl, (blk_cell BK238.out 1).trans rfl, (blk_cell BK238.out 2).trans rfl, (blk_cell BK238.out 3).trans rfl, (blk_cell BK238.out 4).trans rfl, (blk_cell BK238.out 5).trans rfl, (blk_cell BK238.out 6).trans rfl⟩ (fun hHeld => ?_)
            clear hK K
            refine norm_ (a' := ?_) ?_ ?_
            rotate_left
            ·
             show Act.put _ (some 46) _ = _
             simp only [Act.put, List.setIfInBounds_toArray, List.set_cons_zero, List.set_cons_succ, i64_w, i32_w]
             rfl
            refine pu 10 47 (bl 15 8191) HT_ ?_
            refine pu 13 50 (bl 15 16383) HT_ ?_
            refine pu 14 6 (bl 15 32767) HT_ ?_
            refine done_ (done_of HT_.out (by kernel_rfl)) ?_
            have hcz26_0 : w25.cell? ⟨gb238, 0, none⟩ = some (.string ((rd_T38 l0 x8_2).f0)) := (blk_cell BK238.out 0).trans rfl
            have hcz26_1 : w25.cell? ⟨gb238, 1, none⟩ = some (.int .i64 ((rd_T38 l0 x8_2).f1.f0)) := (blk_cell BK238.out 1).trans rfl
            have hcz26_2 : w25.cell? ⟨gb238, 2, none⟩ = some (.int .i64 ((rd_T38 l0 x8_2).f1.f1)) := (blk_cell BK238.out 2).trans rfl
            have hcz26_3 : w25.cell? ⟨gb238, 3, none⟩ = some (.int .i64 ((rd_T38 l0 x8_2).f1.f2)) := (blk_cell BK238.out 3).trans rfl
            have hcz26_4 : w25.cell? ⟨gb238, 4, none⟩ = some (.int .i64 ((rd_T38 l0 x8_2).f1.f3)) := (blk_cell BK238.out 4).trans rfl
            have hcz26_5 : w25.cell? ⟨gb238, 5, none⟩ = some (.int .i64 ((rd_T38 l0 x8_2).f1.f4)) := (blk_cell BK238.out 5).trans rfl
            have hcz26_6 : w25.cell? ⟨gb238, 6, none⟩ = some (.string ((rd_T38 l0 x8_2).f2)) := (blk_cell BK238.out 6).trans rfl
            have hfz26_0 := blk_frozen BK238.out 0
            have hfz26_1 := blk_frozen BK238.out 1
            have hfz26_2 := blk_frozen BK238.out 2
            have hfz26_3 := blk_frozen BK238.out 3
            have hfz26_4 := blk_frozen BK238.out 4
            have hfz26_5 := blk_frozen BK238.out 5
            have hfz26_6 := blk_frozen BK238.out 6
            go_upto_if 54 with (fail)
            go_cut [6] (fun v6 wc => ∃ (kq : Nat) (x6_18 : ByteArray), v6 = .string x6_18 ∧ Aside0 (grapnelref18_Bytes.j2 kq l0 x6_18 x7_2 x8_2 ((rd_T38 l0 x8_2).f0) ((rd_T38 l0 x8_2).f1.f0) ((rd_T38 l0 x8_2).f1.f1) ((rd_T38 l0 x8_2).f1.f2) ((rd_T38 l0 x8_2).f1.f3) ((rd_T38 l0 x8_2).f1.f4) ((rd_T38 l0 x8_2).f2) = some (r1, r2)) ∧ Aside0 (kq ≤ k2) ∧ Aside0 (wc.heap[gb238]? = some (.cells #[.string ((rd_T38 l0 x8_2).f0), .int .i64 ((rd_T38 l0 x8_2).f1.f0), .int .i64 ((rd_T38 l0 x8_2).f1.f1), .int .i64 ((rd_T38 l0 x8_2).f1.f2), .int .i64 ((rd_T38 l0 x8_2).f1.f3), .int .i64 ((rd_T38 l0 x8_2).f1.f4), .string ((rd_T38 l0 x8_2).f2)] 38 (0, 0))) ∧ Aside0 (Below w.heap.size w wc))
            case first =>
             have H := HC19.out
             clear HC19
             by_cases c27 : ((rd_T38 l0 x8_2).f1.f2) = 3
             ·
              rw [if_pos c27] at H
              have c27b0 : (((rd_T38 l0 x8_2).f1.f2) == 3) = true := beq_iff_eq.mpr c27
              have c27b1 : (((rd_T38 l0 x8_2).f1.f2) != 3) = false := bne_eq_false_iff_eq.mpr c27
              clear c27
              (first | rw [c27b0] | (simp only [i64_w, i32_w]; rw [c27b0]) | skip)
              replace H := Option.bind_eq_some_iff.mp H
              obtain ⟨t241, A280, H⟩ := H
              replace H : (if (((x6_2 ++ t239) ++ t240) ++ ((rd_T38 l0 x8_2).f0)).size + t241.size ≤ 9223372036854775807 then (if ((((x6_2 ++ t239) ++ t240) ++ ((rd_T38 l0 x8_2).f0)) ++ t241).size + ((rd_T38 l0 x8_2).f2).size ≤ 9223372036854775807 then (grapnelref18_Bytes.j2 k2 l0 (((((x6_2 ++ t239) ++ t240) ++ ((rd_T38 l0 x8_2).f0)) ++ t241) ++ ((rd_T38 l0 x8_2).f2)) x7_2 x8_2 ((rd_T38 l0 x8_2).f0) ((rd_T38 l0 x8_2).f1.f0) ((rd_T38 l0 x8_2).f1.f1) ((rd_T38 l0 x8_2).f1.f2) ((rd_T38 l0 x8_2).f1.f3) ((rd_T38 l0 x8_2).f1.f4) ((rd_T38 l0 x8_2).f2)) else (none)) else (none)) = some (r1, r2) := H
              have A28 := Aside0.mk A280
              clear A280
              by_cases c29 : (((x6_2 ++ t239) ++ t240) ++ ((rd_T38 l0 x8_2).f0)).size + t241.size ≤ 9223372036854775807
              ·
               rw [if_pos c29] at H
               have c29b0 := eq_true c29
               have c29b1 : decide ((((x6_2 ++ t239) ++ t240) ++ ((rd_T38 l0 x8_2).f0)).size + t241.size ≤ 9223372036854775807) = true := decide_eq_true c29
               try have c29b2 : (9223372036854775807 < (((x6_2 ++ t239) ++ t240) ++ ((rd_T38 l0 x8_2).f0)).size + t241.size) = False := eq_false (Nat.not_lt.2 c29)
               try (have c29b3 := c29b2; simp only [ByteArray.size_append] at c29b3)
               by_cases c30 : ((((x6_2 ++ t239) ++ t240) ++ ((rd_T38 l0 x8_2).f0)) ++ t241).size + ((rd_T38 l0 x8_2).f2).size ≤ 9223372036854775807
               ·
                rw [if_pos c30] at H
                have c30b0 := eq_true c30
                have c30b1 : decide (((((x6_2 ++ t239) ++ t240) ++ ((rd_T38 l0 x8_2).f0)) ++ t241).size + ((rd_T38 l0 x8_2).f2).size ≤ 9223372036854775807) = true := decide_eq_true c30
                try have c30b2 : (9223372036854775807 < ((((x6_2 ++ t239) ++ t240) ++ ((rd_T38 l0 x8_2).f0)) ++ t241).size + ((rd_T38 l0 x8_2).f2).size) = False := eq_false (Nat.not_lt.2 c30)
                try (have c30b3 := c30b2; simp only [ByteArray.size_append] at c30b3)
                have H' := Aside0.mk H
                clear H
                try go_wp2
                have n0_ := Aside0.mk (blk_drew BK238.out)
                have n1_ := Aside0.mk (below_drew1 HB.out)
                clear BK238
                clear HB
                have BK238 := n0_
                have HB := n1_
                clear n0_ n1_
                refine start_ (n := 10) (S := fun w' => w'.cell? ⟨gb238, 0, none⟩ = some (.string ((rd_T38 l0 x8_2).f0)) ∧ w'.cell? ⟨gb238, 1, none⟩ = some (.int .i64 ((rd_T38 l0 x8_2).f1.f0)) ∧ w'.cell? ⟨gb238, 2, none⟩ = some (.int .i64 ((rd_T38 l0 x8_2).f1.f1)) ∧ w'.cell? ⟨gb238, 3, none⟩ = some (.int .i64 ((rd_T38 l0 x8_2).f1.f2)) ∧ w'.cell? ⟨gb238, 4, none⟩ = some (.int .i64 ((rd_T38 l0 x8_2).f1.f3)) ∧ w'.cell? ⟨gb238, 5, none⟩ = some (.int .i64 ((rd_T38 l0 x8_2).f1.f4)) ∧ w'.cell? ⟨gb238, 6, none⟩ = some (.string ((rd_T38 l0 x8_2).f2))) (ds := []) #[false, false, false, false, false, false, false, false, false, false] (by kernel_rfl) rfl rfl ⟨(blk_cell BK238.out 0).trans rfl, (blk_cell BK238.out 1).trans rfl, (blk_cell BK238.out 2).trans rfl, (blk_cell BK238.out 3).trans rfl, (blk_cell BK238.out 4).trans rfl, (blk_cell BK238.out 5).trans rfl, (blk_cell BK238.out 6).trans rfl⟩ (fun hHeld => ?_); refine with_tabW grapnelref18_Bytes.tab12 grapnelref18_Bytes.bits12 (fun HT_ HW_ => ?_)
                generalize w25.drew = w31 at BK238 HB hHeld ⊢
                refine pu 0 55 (bl 10 1) HT_ ?_
                refine pu 1 56 (bl 10 3) HT_ ?_
                refine pu 6 61 (bl 10 67) HT_ ?_
                refine tk 2 57 (bl 10 71) HT_ HW_ hHeld ?_ (hy := by rintro w' ⟨s0, s1, s2, s3, s4, s5, s6⟩; go_simp; with_reducible rfl)
                refine pu 3 58 (bl 10 79) HT_ ?_
                refine tk 7 62 (bl 10 207) HT_ HW_ hHeld ?_ (hy := by rintro w' ⟨s0, s1, s2, s3, s4, s5, s6⟩; go_simp; with_reducible rfl)
                refine one_ (i := 4) (N := some 59) (bl 10 223) rfl rfl (one_of HT_.out (by kernel_rfl)) (by decide) (fun K hK => ?_)
                refine goes_ Tryz.func26 (by kernel_rfl) rfl #[.int .i64 (((rd_T38 l0 x8_2).f2).size : Int), .int .i64 1] (by rfl) rfl rfl (by (try simp only [List.map_toArray, List.map_cons, List.map_nil]); first | done | rfl | (simp only [List.length_drop, List.length_take]; rfl)) ?_
                with_reducible refine (grapnelref18_put.calls k2 (((rd_T38 l0 x8_2).f2).size : Int) 1 t241 _ A28.out).mono ?_
                rintro e w32 ⟨rfl, hb⟩
                refine ⟨_, rfl, ?_⟩
                have n0_ := Aside0.mk (blk_below (g := gb238) (o := .cells #[.string ((rd_T38 l0 x8_2).f0), .int .i64 ((rd_T38 l0 x8_2).f1.f0), .int .i64 ((rd_T38 l0 x8_2).f1.f1), .int .i64 ((rd_T38 l0 x8_2).f1.f2), .int .i64 ((rd_T38 l0 x8_2).f1.f3), .int .i64 ((rd_T38 l0 x8_2).f1.f4), .string ((rd_T38 l0 x8_2).f2)] 38 (0, 0)) (by (with_reducible repeat (first | refine blk_drewN ?_ _ | refine blk_drew ?_ | refine blk_alloc ?_ _)); exact BK238.out) hb)
                have n1_ := Aside0.mk (below_step (by repeat (first | (with_reducible first | exact HB.out | apply below_alloc | apply pw_below_drewN | apply below_drew1 | refine below_set ?_ GE238.out) | exact HB.out)) hb)
                clear BK238
                clear HB
                have BK238 := n0_
                have HB := n1_
                clear n0_ n1_
                (try clear hb)
                (try clear hb2)
                (try clear hk)
                (try clear hi)
                refine hK.out _ _ ⟨(blk_cell BK238.out 0).trans rfl, (blk_cell BK238.out 1).trans rfl, (blk_cell BK238.out 2).trans rfl, (blk_cell BK238.out 3).trans rfl, (blk_cell BK238.out 4).trans rfl, (blk_cell BK238.out 5).trans rfl, (blk_cell BK238.out 6).trans rfl⟩ (fun hHeld => ?_)
                clear hK K
                refine norm_ (a' := ?_) ?_ ?_
                rotate_left
                ·
                 show Act.put _ (some 59) _ = _
                 simp only [Act.put, List.setIfInBounds_toArray, List.set_cons_zero, List.set_cons_succ, i64_w, i32_w]
                 rfl
                refine pu 5 60 (bl 10 255) HT_ ?_
                refine pu 8 63 (bl 10 511) HT_ ?_
                refine pu 9 6 (bl 10 1023) HT_ ?_
                refine done_ (done_of HT_.out (by kernel_rfl)) ?_
                try go_wp2
                go_meet
                case rel => exact ⟨_, (((((x6_2 ++ t239) ++ t240) ++ ((rd_T38 l0 x8_2).f0)) ++ t241) ++ ((rd_T38 l0 x8_2).f2)), (by first | rfl | (simp; done) | (simp [*]; done)), H', ⟨by have := HJ2.out; have := HK2.out; first | omega | exact Nat.le_refl _⟩, ⟨by (with_reducible repeat (first | refine blk_drewN ?_ _ | refine blk_drew ?_ | refine blk_alloc ?_ _)); exact BK238.out⟩, ⟨by repeat (first | (with_reducible first | exact HB.out | apply below_alloc | apply pw_below_drewN | apply below_drew1 | refine below_set ?_ GE238.out) | exact HB.out)⟩⟩
               ·
                rw [if_neg c30] at H
                exact absurd H (by simp)
              ·
               rw [if_neg c29] at H
               exact absurd H (by simp)
             ·
              rw [if_neg c27] at H
              have c27b0 : (((rd_T38 l0 x8_2).f1.f2) == 3) = false := beq_eq_false_iff_ne.mpr c27
              have c27b1 : (((rd_T38 l0 x8_2).f1.f2) != 3) = true := bne_iff_ne.mpr c27
              (first | rw [c27b0] | (simp only [i64_w, i32_w]; rw [c27b0]) | skip)
              have H' := Aside0.mk H
              clear H
              go_wp2
              go_meet
              case rel => exact ⟨_, (((x6_2 ++ t239) ++ t240) ++ ((rd_T38 l0 x8_2).f0)), (by first | rfl | (simp; done) | (simp [*]; done)), H', ⟨by have := HJ2.out; have := HK2.out; first | omega | exact Nat.le_refl _⟩, ⟨by (with_reducible repeat (first | refine blk_drewN ?_ _ | refine blk_drew ?_ | refine blk_alloc ?_ _)); exact BK238.out⟩, ⟨by repeat (first | (with_reducible first | exact HB.out | apply below_alloc | apply pw_below_drewN | apply below_drew1 | refine below_set ?_ GE238.out) | exact HB.out)⟩⟩
            case rest =>
             clear HC19
             try clear c1
             try clear c2
             try clear p2
             try clear q2
             try clear hx2
             try clear c3
             try clear c5
             try clear c5b0
             try clear c5b1
             try clear c6
             try clear c8
             try clear c10
             try clear c10b0
             try clear c10b1
             try clear c10b2
             try clear c12
             try clear c12b0
             try clear c13
             try clear c13b0
             try clear c15
             try clear c15b0
             try clear c15b1
             try clear c15b2
             try clear c17
             try clear c17b0
             try clear c17b1
             try clear c17b2
             try clear c18
             try clear c18b0
             try clear c18b1
             try clear c18b2
             try clear p23
             try clear q23
             try clear hx23
             try clear c26
             try clear c27
             try clear c27b0
             try clear c27b1
             try clear c29
             try clear c29b0
             try clear c29b1
             try clear c29b2
             try clear c30
             try clear c30b0
             try clear c30b1
             try clear c30b2
             try clear hcz21_0
             try clear hcz21_1
             try clear hcz21_2
             try clear hcz21_3
             try clear hcz21_4
             try clear hcz21_5
             try clear hcz21_6
             try clear hcz26_0
             try clear hcz26_1
             try clear hcz26_2
             try clear hcz26_3
             try clear hcz26_4
             try clear hcz26_5
             try clear hcz26_6
             try clear hfz21_0
             try clear hfz21_1
             try clear hfz21_2
             try clear hfz21_3
             try clear hfz21_4
             try clear hfz21_5
             try clear hfz21_6
             try clear hfz26_0
             try clear hfz26_1
             try clear hfz26_2
             try clear hfz26_3
             try clear hfz26_4
             try clear hfz26_5
             try clear hfz26_6
             try clear hx237_0
             try clear hx237_1
             try clear hx237_2
             try clear hx237_3
             try clear hx237_4
             try clear hx237_5
             try clear hx237_6
             try clear p2
             try clear p237
             try clear q237
             obtain ⟨kq, x6_18, rfl, HA, HJ18, BK238, HB⟩ := hcut
             cases kq with
             | zero => exact absurd HA.out (by simp [grapnelref18_Bytes.j2])
             | succ kj18 =>
              have H := HA.out
              clear HA
              simp only [grapnelref18_Bytes.j2] at H
              have HC33 := Aside0.mk H
              clear H
              go_upto_region 13 with (fail)
              go_cut [75] (fun v75 wc => ∃ (kq : Nat) (x75_32 : Bool), v75 = .bool x75_32 ∧ Aside0 (grapnelref18_Bytes.j3 kq l0 x6_18 x7_2 x8_2 x75_32 ((rd_T38 l0 x8_2).f0) ((rd_T38 l0 x8_2).f1.f0) ((rd_T38 l0 x8_2).f1.f1) ((rd_T38 l0 x8_2).f1.f2) ((rd_T38 l0 x8_2).f1.f3) ((rd_T38 l0 x8_2).f1.f4) ((rd_T38 l0 x8_2).f2) = some (r1, r2)) ∧ Aside0 (kq ≤ kj18) ∧ Aside0 (wc.heap[gb238]? = some (.cells #[.string ((rd_T38 l0 x8_2).f0), .int .i64 ((rd_T38 l0 x8_2).f1.f0), .int .i64 ((rd_T38 l0 x8_2).f1.f1), .int .i64 ((rd_T38 l0 x8_2).f1.f2), .int .i64 ((rd_T38 l0 x8_2).f1.f3), .int .i64 ((rd_T38 l0 x8_2).f1.f4), .string ((rd_T38 l0 x8_2).f2)] 38 (0, 0))) ∧ Aside0 (Below w.heap.size w wc))
              case first =>
               have H := HC33.out
               clear HC33
               by_cases c34 : ((rd_T38 l0 x8_2).f1.f2) = 1
               ·
                rw [if_pos c34] at H
                have c34b0 : (((rd_T38 l0 x8_2).f1.f2) == 1) = true := beq_iff_eq.mpr c34
                have c34b1 : (((rd_T38 l0 x8_2).f1.f2) != 1) = false := bne_eq_false_iff_eq.mpr c34
                clear c34
                (first | rw [c34b0] | (simp only [i64_w, i32_w]; rw [c34b0]) | skip)
                have H' := Aside0.mk H
                clear H
                have hcz35_0 : wc.cell? ⟨gb238, 0, none⟩ = some (.string ((rd_T38 l0 x8_2).f0)) := (blk_cell BK238.out 0).trans rfl
                have hcz35_1 : wc.cell? ⟨gb238, 1, none⟩ = some (.int .i64 ((rd_T38 l0 x8_2).f1.f0)) := (blk_cell BK238.out 1).trans rfl
                have hcz35_2 : wc.cell? ⟨gb238, 2, none⟩ = some (.int .i64 ((rd_T38 l0 x8_2).f1.f1)) := (blk_cell BK238.out 2).trans rfl
                have hcz35_3 : wc.cell? ⟨gb238, 3, none⟩ = some (.int .i64 ((rd_T38 l0 x8_2).f1.f2)) := (blk_cell BK238.out 3).trans rfl
                have hcz35_4 : wc.cell? ⟨gb238, 4, none⟩ = some (.int .i64 ((rd_T38 l0 x8_2).f1.f3)) := (blk_cell BK238.out 4).trans rfl
                have hcz35_5 : wc.cell? ⟨gb238, 5, none⟩ = some (.int .i64 ((rd_T38 l0 x8_2).f1.f4)) := (blk_cell BK238.out 5).trans rfl
                have hcz35_6 : wc.cell? ⟨gb238, 6, none⟩ = some (.string ((rd_T38 l0 x8_2).f2)) := (blk_cell BK238.out 6).trans rfl
                have hfz35_0 := blk_frozen BK238.out 0
                have hfz35_1 := blk_frozen BK238.out 1
                have hfz35_2 := blk_frozen BK238.out 2
                have hfz35_3 := blk_frozen BK238.out 3
                have hfz35_4 := blk_frozen BK238.out 4
                have hfz35_5 := blk_frozen BK238.out 5
                have hfz35_6 := blk_frozen BK238.out 6
                go_wp2
                go_meet
                case rel => exact ⟨_, ((((rd_T38 l0 x8_2).f1.f0) != (wrap64 (x8_2 + 1)))), (by first | rfl | (simp; done) | (simp [*]; done)), H', ⟨by have := HJ2.out; have := HK2.out; have := HJ18.out; first | omega | exact Nat.le_refl _⟩, ⟨by (with_reducible repeat (first | refine blk_drewN ?_ _ | refine blk_drew ?_ | refine blk_alloc ?_ _)); exact BK238.out⟩, ⟨by repeat (first | (with_reducible first | exact HB.out | apply below_alloc | apply pw_below_drewN | apply below_drew1 | refine below_set ?_ GE238.out) | exact HB.out)⟩⟩
               ·
                rw [if_neg c34] at H
                have c34b0 : (((rd_T38 l0 x8_2).f1.f2) == 1) = false := beq_eq_false_iff_ne.mpr c34
                have c34b1 : (((rd_T38 l0 x8_2).f1.f2) != 1) = true := bne_iff_ne.mpr c34
                (first | rw [c34b0] | (simp only [i64_w, i32_w]; rw [c34b0]) | skip)
                have H' := Aside0.mk H
                clear H
                have hcz36_0 : wc.cell? ⟨gb238, 0, none⟩ = some (.string ((rd_T38 l0 x8_2).f0)) := (blk_cell BK238.out 0).trans rfl
                have hcz36_1 : wc.cell? ⟨gb238, 1, none⟩ = some (.int .i64 ((rd_T38 l0 x8_2).f1.f0)) := (blk_cell BK238.out 1).trans rfl
                have hcz36_2 : wc.cell? ⟨gb238, 2, none⟩ = some (.int .i64 ((rd_T38 l0 x8_2).f1.f1)) := (blk_cell BK238.out 2).trans rfl
                have hcz36_3 : wc.cell? ⟨gb238, 3, none⟩ = some (.int .i64 ((rd_T38 l0 x8_2).f1.f2)) := (blk_cell BK238.out 3).trans rfl
                have hcz36_4 : wc.cell? ⟨gb238, 4, none⟩ = some (.int .i64 ((rd_T38 l0 x8_2).f1.f3)) := (blk_cell BK238.out 4).trans rfl
                have hcz36_5 : wc.cell? ⟨gb238, 5, none⟩ = some (.int .i64 ((rd_T38 l0 x8_2).f1.f4)) := (blk_cell BK238.out 5).trans rfl
                have hcz36_6 : wc.cell? ⟨gb238, 6, none⟩ = some (.string ((rd_T38 l0 x8_2).f2)) := (blk_cell BK238.out 6).trans rfl
                have hfz36_0 := blk_frozen BK238.out 0
                have hfz36_1 := blk_frozen BK238.out 1
                have hfz36_2 := blk_frozen BK238.out 2
                have hfz36_3 := blk_frozen BK238.out 3
                have hfz36_4 := blk_frozen BK238.out 4
                have hfz36_5 := blk_frozen BK238.out 5
                have hfz36_6 := blk_frozen BK238.out 6
                go_wp2
                go_meet
                case rel => exact ⟨_, (false), (by first | rfl | (simp; done) | (simp [*]; done)), H', ⟨by have := HJ2.out; have := HK2.out; have := HJ18.out; first | omega | exact Nat.le_refl _⟩, ⟨by (with_reducible repeat (first | refine blk_drewN ?_ _ | refine blk_drew ?_ | refine blk_alloc ?_ _)); exact BK238.out⟩, ⟨by repeat (first | (with_reducible first | exact HB.out | apply below_alloc | apply pw_below_drewN | apply below_drew1 | refine below_set ?_ GE238.out) | exact HB.out)⟩⟩
              case rest =>
               clear HC33
               try clear c1
               try clear c2
               try clear p2
               try clear q2
               try clear hx2
               try clear c3
               try clear c5
               try clear c5b0
               try clear c5b1
               try clear c6
               try clear p6
               try clear c8
               try clear c10
               try clear c10b0
               try clear c10b1
               try clear c10b2
               try clear c12
               try clear c12b0
               try clear c13
               try clear c13b0
               try clear c15
               try clear c15b0
               try clear c15b1
               try clear c15b2
               try clear c17
               try clear c17b0
               try clear c17b1
               try clear c17b2
               try clear c18
               try clear c18b0
               try clear c18b1
               try clear c18b2
               try clear p23
               try clear q23
               try clear hx23
               try clear c26
               try clear c27
               try clear c27b0
               try clear c27b1
               try clear c29
               try clear c29b0
               try clear c29b1
               try clear c29b2
               try clear c30
               try clear c30b0
               try clear c30b1
               try clear c30b2
               try clear c34
               try clear c34b0
               try clear c34b1
               try clear hcz21_0
               try clear hcz21_1
               try clear hcz21_2
               try clear hcz21_3
               try clear hcz21_4
               try clear hcz21_5
               try clear hcz21_6
               try clear hcz26_0
               try clear hcz26_1
               try clear hcz26_2
               try clear hcz26_3
               try clear hcz26_4
               try clear hcz26_5
               try clear hcz26_6
               try clear hcz35_0
               try clear hcz35_1
               try clear hcz35_2
               try clear hcz35_3
               try clear hcz35_4
               try clear hcz35_5
               try clear hcz35_6
               try clear hcz36_0
               try clear hcz36_1
               try clear hcz36_2
               try clear hcz36_3
               try clear hcz36_4
               try clear hcz36_5
               try clear hcz36_6
               try clear hfz21_0
               try clear hfz21_1
               try clear hfz21_2
               try clear hfz21_3
               try clear hfz21_4
               try clear hfz21_5
               try clear hfz21_6
               try clear hfz26_0
               try clear hfz26_1
               try clear hfz26_2
               try clear hfz26_3
               try clear hfz26_4
               try clear hfz26_5
               try clear hfz26_6
               try clear hfz35_0
               try clear hfz35_1
               try clear hfz35_2
               try clear hfz35_3
               try clear hfz35_4
               try clear hfz35_5
               try clear hfz35_6
               try clear hfz36_0
               try clear hfz36_1
               try clear hfz36_2
               try clear hfz36_3
               try clear hfz36_4
               try clear hfz36_5
               try clear hfz36_6
               try clear hx237_0
               try clear hx237_1
               try clear hx237_2
               try clear hx237_3
               try clear hx237_4
               try clear hx237_5
               try clear hx237_6
               try clear p2
               try clear p23
               try clear p237
               try clear q2
               try clear q23
               try clear q237
               obtain ⟨kq, x75_32, rfl, HA, HJ32, BK238, HB⟩ := hcut
               cases kq with
               | zero => exact absurd HA.out (by simp [grapnelref18_Bytes.j3])
               | succ kj32 =>
                have H := HA.out
                clear HA
                simp only [grapnelref18_Bytes.j3] at H
                have HC37 := Aside0.mk H
                clear H
                go_upto_if 75 with (fail)
                go_cut [6] (fun v6 wc => ∃ (kq : Nat) (x6_36 : ByteArray), v6 = .string x6_36 ∧ Aside0 (grapnelref18_Bytes.j4 kq l0 x6_36 x7_2 x8_2 ((rd_T38 l0 x8_2).f0) ((rd_T38 l0 x8_2).f1.f0) ((rd_T38 l0 x8_2).f1.f1) ((rd_T38 l0 x8_2).f1.f2) ((rd_T38 l0 x8_2).f1.f3) ((rd_T38 l0 x8_2).f1.f4) ((rd_T38 l0 x8_2).f2) = some (r1, r2)) ∧ Aside0 (kq ≤ kj32) ∧ Aside0 (wc.heap[gb238]? = some (.cells #[.string ((rd_T38 l0 x8_2).f0), .int .i64 ((rd_T38 l0 x8_2).f1.f0), .int .i64 ((rd_T38 l0 x8_2).f1.f1), .int .i64 ((rd_T38 l0 x8_2).f1.f2), .int .i64 ((rd_T38 l0 x8_2).f1.f3), .int .i64 ((rd_T38 l0 x8_2).f1.f4), .string ((rd_T38 l0 x8_2).f2)] 38 (0, 0))) ∧ Aside0 (Below w.heap.size w wc))
                case first =>
                 have H := HC37.out
                 clear HC37
                 by_cases c38 : x75_32 = true
                 ·
                  subst c38
                  have H1 : ((grapnelref18_put.f kj32 ((rd_T38 l0 x8_2).f1.f0) 4).bind fun t242 => (if x6_18.size + t242.size ≤ 9223372036854775807 then (grapnelref18_Bytes.j4 kj32 l0 (x6_18 ++ t242) x7_2 x8_2 ((rd_T38 l0 x8_2).f0) ((rd_T38 l0 x8_2).f1.f0) ((rd_T38 l0 x8_2).f1.f1) ((rd_T38 l0 x8_2).f1.f2) ((rd_T38 l0 x8_2).f1.f3) ((rd_T38 l0 x8_2).f1.f4) ((rd_T38 l0 x8_2).f2)) else (none))) = some (r1, r2) := by rw [if_pos rfl] at H; exact H
                  clear H
                  have H := H1
                  clear H1
                  replace H := Option.bind_eq_some_iff.mp H
                  obtain ⟨t242, A390, H⟩ := H
                  replace H : (if x6_18.size + t242.size ≤ 9223372036854775807 then (grapnelref18_Bytes.j4 kj32 l0 (x6_18 ++ t242) x7_2 x8_2 ((rd_T38 l0 x8_2).f0) ((rd_T38 l0 x8_2).f1.f0) ((rd_T38 l0 x8_2).f1.f1) ((rd_T38 l0 x8_2).f1.f2) ((rd_T38 l0 x8_2).f1.f3) ((rd_T38 l0 x8_2).f1.f4) ((rd_T38 l0 x8_2).f2)) else (none)) = some (r1, r2) := H
                  have A39 := Aside0.mk A390
                  clear A390
                  by_cases c40 : x6_18.size + t242.size ≤ 9223372036854775807
                  ·
                   rw [if_pos c40] at H
                   have c40b0 := eq_true c40
                   have c40b1 : decide (x6_18.size + t242.size ≤ 9223372036854775807) = true := decide_eq_true c40
                   try have c40b2 : (9223372036854775807 < x6_18.size + t242.size) = False := eq_false (Nat.not_lt.2 c40)
                   try (have c40b3 := c40b2; simp only [ByteArray.size_append] at c40b3)
                   have H' := Aside0.mk H
                   clear H
                   have hcz41_0 : wc.cell? ⟨gb238, 0, none⟩ = some (.string ((rd_T38 l0 x8_2).f0)) := (blk_cell BK238.out 0).trans rfl
                   have hcz41_1 : wc.cell? ⟨gb238, 1, none⟩ = some (.int .i64 ((rd_T38 l0 x8_2).f1.f0)) := (blk_cell BK238.out 1).trans rfl
                   have hcz41_2 : wc.cell? ⟨gb238, 2, none⟩ = some (.int .i64 ((rd_T38 l0 x8_2).f1.f1)) := (blk_cell BK238.out 2).trans rfl
                   have hcz41_3 : wc.cell? ⟨gb238, 3, none⟩ = some (.int .i64 ((rd_T38 l0 x8_2).f1.f2)) := (blk_cell BK238.out 3).trans rfl
                   have hcz41_4 : wc.cell? ⟨gb238, 4, none⟩ = some (.int .i64 ((rd_T38 l0 x8_2).f1.f3)) := (blk_cell BK238.out 4).trans rfl
                   have hcz41_5 : wc.cell? ⟨gb238, 5, none⟩ = some (.int .i64 ((rd_T38 l0 x8_2).f1.f4)) := (blk_cell BK238.out 5).trans rfl
                   have hcz41_6 : wc.cell? ⟨gb238, 6, none⟩ = some (.string ((rd_T38 l0 x8_2).f2)) := (blk_cell BK238.out 6).trans rfl
                   have hfz41_0 := blk_frozen BK238.out 0
                   have hfz41_1 := blk_frozen BK238.out 1
                   have hfz41_2 := blk_frozen BK238.out 2
                   have hfz41_3 := blk_frozen BK238.out 3
                   have hfz41_4 := blk_frozen BK238.out 4
                   have hfz41_5 := blk_frozen BK238.out 5
                   have hfz41_6 := blk_frozen BK238.out 6
                   go_wp2_with (first | ((with_reducible refine gate_callee (f := 26) rfl ?_); refine goesL_ (some 80) rfl rfl Tryz.func26 (by kernel_rfl) rfl #[.int .i64 ((rd_T38 l0 x8_2).f1.f0), .int .i64 4] rfl (by (try simp only [List.map_toArray, List.map_cons, List.map_nil]); first | done | rfl | (simp only [List.length_drop, List.length_take]; rfl)) ?_; (with_reducible refine (grapnelref18_put.calls kj32 ((rd_T38 l0 x8_2).f1.f0) 4 t242 _ A39.out).mono ?_); rintro e w42 ⟨rfl, hb⟩; refine ⟨_, rfl, ?_⟩; have n0_ := Aside0.mk (blk_below (g := gb238) (o := .cells #[.string ((rd_T38 l0 x8_2).f0), .int .i64 ((rd_T38 l0 x8_2).f1.f0), .int .i64 ((rd_T38 l0 x8_2).f1.f1), .int .i64 ((rd_T38 l0 x8_2).f1.f2), .int .i64 ((rd_T38 l0 x8_2).f1.f3), .int .i64 ((rd_T38 l0 x8_2).f1.f4), .string ((rd_T38 l0 x8_2).f2)] 38 (0, 0)) (by (with_reducible repeat (first | refine blk_drewN ?_ _ | refine blk_drew ?_ | refine blk_alloc ?_ _)); exact BK238.out) hb); have n1_ := Aside0.mk (below_step (by repeat (first | (with_reducible first | exact HB.out | apply below_alloc | apply pw_below_drewN | apply below_drew1 | refine below_set ?_ GE238.out) | exact HB.out)) hb); clear BK238; clear HB; have BK238 := n0_; have HB := n1_; clear n0_ n1_; (try clear hb); (try clear hb2); (try clear hk); (try clear hi)))
                   go_meet
                   case rel => exact ⟨_, (x6_18 ++ t242), (by first | rfl | (simp; done) | (simp [*]; done)), H', ⟨by have := HJ2.out; have := HK2.out; have := HJ18.out; have := HJ32.out; first | omega | exact Nat.le_refl _⟩, ⟨by (with_reducible repeat (first | refine blk_drewN ?_ _ | refine blk_drew ?_ | refine blk_alloc ?_ _)); exact BK238.out⟩, ⟨by repeat (first | (with_reducible first | exact HB.out | apply below_alloc | apply pw_below_drewN | apply below_drew1 | refine below_set ?_ GE238.out) | exact HB.out)⟩⟩
                  ·
                   rw [if_neg c40] at H
                   exact absurd H (by simp)
                 ·
                  replace c38 := Bool.eq_false_iff.mpr c38
                  subst c38
                  have H1 : (grapnelref18_Bytes.j4 kj32 l0 x6_18 x7_2 x8_2 ((rd_T38 l0 x8_2).f0) ((rd_T38 l0 x8_2).f1.f0) ((rd_T38 l0 x8_2).f1.f1) ((rd_T38 l0 x8_2).f1.f2) ((rd_T38 l0 x8_2).f1.f3) ((rd_T38 l0 x8_2).f1.f4) ((rd_T38 l0 x8_2).f2)) = some (r1, r2) := by rw [if_neg (show ¬ (false = true) by decide)] at H; exact H
                  clear H
                  have H := H1
                  clear H1
                  have H' := Aside0.mk H
                  clear H
                  go_wp2
                  go_meet
                  case rel => exact ⟨_, (x6_18), (by first | rfl | (simp; done) | (simp [*]; done)), H', ⟨by have := HJ2.out; have := HK2.out; have := HJ18.out; have := HJ32.out; first | omega | exact Nat.le_refl _⟩, ⟨by (with_reducible repeat (first | refine blk_drewN ?_ _ | refine blk_drew ?_ | refine blk_alloc ?_ _)); exact BK238.out⟩, ⟨by repeat (first | (with_reducible first | exact HB.out | apply below_alloc | apply pw_below_drewN | apply below_drew1 | refine below_set ?_ GE238.out) | exact HB.out)⟩⟩
                case rest =>
                 clear HC37
                 try clear c1
                 try clear c2
                 try clear p2
                 try clear q2
                 try clear hx2
                 try clear c3
                 try clear c4
                 try clear c5
                 try clear c5b0
                 try clear c5b1
                 try clear c6
                 try clear p6
                 try clear c8
                 try clear c10
                 try clear c10b0
                 try clear c10b1
                 try clear c10b2
                 try clear c12
                 try clear c12b0
                 try clear c13
                 try clear c13b0
                 try clear c15
                 try clear c15b0
                 try clear c15b1
                 try clear c15b2
                 try clear c17
                 try clear c17b0
                 try clear c17b1
                 try clear c17b2
                 try clear c18
                 try clear c18b0
                 try clear c18b1
                 try clear c18b2
                 try clear p23
                 try clear q23
                 try clear hx23
                 try clear c26
                 try clear c27
                 try clear c27b0
                 try clear c27b1
                 try clear c29
                 try clear c29b0
                 try clear c29b1
                 try clear c29b2
                 try clear c30
                 try clear c30b0
                 try clear c30b1
                 try clear c30b2
                 try clear c34
                 try clear c34b0
                 try clear c34b1
                 try clear c38
                 try clear c40
                 try clear c40b0
                 try clear c40b1
                 try clear c40b2
                 try clear hcz21_0
                 try clear hcz21_1
                 try clear hcz21_2
                 try clear hcz21_3
                 try clear hcz21_4
                 try clear hcz21_5
                 try clear hcz21_6
                 try clear hcz26_0
                 try clear hcz26_1
                 try clear hcz26_2
                 try clear hcz26_3
                 try clear hcz26_4
                 try clear hcz26_5
                 try clear hcz26_6
                 try clear hcz35_0
                 try clear hcz35_1
                 try clear hcz35_2
                 try clear hcz35_3
                 try clear hcz35_4
                 try clear hcz35_5
                 try clear hcz35_6
                 try clear hcz36_0
                 try clear hcz36_1
                 try clear hcz36_2
                 try clear hcz36_3
                 try clear hcz36_4
                 try clear hcz36_5
                 try clear hcz36_6
                 try clear hcz41_0
                 try clear hcz41_1
                 try clear hcz41_2
                 try clear hcz41_3
                 try clear hcz41_4
                 try clear hcz41_5
                 try clear hcz41_6
                 try clear hfz21_0
                 try clear hfz21_1
                 try clear hfz21_2
                 try clear hfz21_3
                 try clear hfz21_4
                 try clear hfz21_5
                 try clear hfz21_6
                 try clear hfz26_0
                 try clear hfz26_1
                 try clear hfz26_2
                 try clear hfz26_3
                 try clear hfz26_4
                 try clear hfz26_5
                 try clear hfz26_6
                 try clear hfz35_0
                 try clear hfz35_1
                 try clear hfz35_2
                 try clear hfz35_3
                 try clear hfz35_4
                 try clear hfz35_5
                 try clear hfz35_6
                 try clear hfz36_0
                 try clear hfz36_1
                 try clear hfz36_2
                 try clear hfz36_3
                 try clear hfz36_4
                 try clear hfz36_5
                 try clear hfz36_6
                 try clear hfz41_0
                 try clear hfz41_1
                 try clear hfz41_2
                 try clear hfz41_3
                 try clear hfz41_4
                 try clear hfz41_5
                 try clear hfz41_6
                 try clear hx237_0
                 try clear hx237_1
                 try clear hx237_2
                 try clear hx237_3
                 try clear hx237_4
                 try clear hx237_5
                 try clear hx237_6
                 try clear p2
                 try clear p23
                 try clear p237
                 try clear p6
                 try clear q2
                 try clear q23
                 try clear q237
                 obtain ⟨kq, x6_36, rfl, HA, HJ36, BK238, HB⟩ := hcut
                 cases kq with
                 | zero => exact absurd HA.out (by simp [grapnelref18_Bytes.j4])
                 | succ kj36 =>
                  have H := HA.out
                  clear HA
                  simp only [grapnelref18_Bytes.j4] at H
                  have HC43 := Aside0.mk H
                  clear H
                  go_upto_region 15 with (fail)
                  go_cut [93] (fun v93 wc => ∃ (kq : Nat) (x93_42 : Bool), v93 = .bool x93_42 ∧ Aside0 (grapnelref18_Bytes.j5 kq l0 x6_36 x7_2 x8_2 x93_42 ((rd_T38 l0 x8_2).f0) ((rd_T38 l0 x8_2).f1.f0) ((rd_T38 l0 x8_2).f1.f1) ((rd_T38 l0 x8_2).f1.f2) ((rd_T38 l0 x8_2).f1.f3) ((rd_T38 l0 x8_2).f1.f4) ((rd_T38 l0 x8_2).f2) = some (r1, r2)) ∧ Aside0 (kq ≤ kj36) ∧ Aside0 (wc.heap[gb238]? = some (.cells #[.string ((rd_T38 l0 x8_2).f0), .int .i64 ((rd_T38 l0 x8_2).f1.f0), .int .i64 ((rd_T38 l0 x8_2).f1.f1), .int .i64 ((rd_T38 l0 x8_2).f1.f2), .int .i64 ((rd_T38 l0 x8_2).f1.f3), .int .i64 ((rd_T38 l0 x8_2).f1.f4), .string ((rd_T38 l0 x8_2).f2)] 38 (0, 0))) ∧ Aside0 (Below w.heap.size w wc))
                  case first =>
                   have H := HC43.out
                   clear HC43
                   by_cases c44 : ((rd_T38 l0 x8_2).f1.f2) = 1
                   ·
                    rw [if_pos c44] at H
                    have c44b0 : (((rd_T38 l0 x8_2).f1.f2) == 1) = true := beq_iff_eq.mpr c44
                    have c44b1 : (((rd_T38 l0 x8_2).f1.f2) != 1) = false := bne_eq_false_iff_eq.mpr c44
                    clear c44
                    (first | rw [c44b0] | (simp only [i64_w, i32_w]; rw [c44b0]) | skip)
                    have H' := Aside0.mk H
                    clear H
                    have hcz45_0 : wc.cell? ⟨gb238, 0, none⟩ = some (.string ((rd_T38 l0 x8_2).f0)) := (blk_cell BK238.out 0).trans rfl
                    have hcz45_1 : wc.cell? ⟨gb238, 1, none⟩ = some (.int .i64 ((rd_T38 l0 x8_2).f1.f0)) := (blk_cell BK238.out 1).trans rfl
                    have hcz45_2 : wc.cell? ⟨gb238, 2, none⟩ = some (.int .i64 ((rd_T38 l0 x8_2).f1.f1)) := (blk_cell BK238.out 2).trans rfl
                    have hcz45_3 : wc.cell? ⟨gb238, 3, none⟩ = some (.int .i64 ((rd_T38 l0 x8_2).f1.f2)) := (blk_cell BK238.out 3).trans rfl
                    have hcz45_4 : wc.cell? ⟨gb238, 4, none⟩ = some (.int .i64 ((rd_T38 l0 x8_2).f1.f3)) := (blk_cell BK238.out 4).trans rfl
                    have hcz45_5 : wc.cell? ⟨gb238, 5, none⟩ = some (.int .i64 ((rd_T38 l0 x8_2).f1.f4)) := (blk_cell BK238.out 5).trans rfl
                    have hcz45_6 : wc.cell? ⟨gb238, 6, none⟩ = some (.string ((rd_T38 l0 x8_2).f2)) := (blk_cell BK238.out 6).trans rfl
                    have hfz45_0 := blk_frozen BK238.out 0
                    have hfz45_1 := blk_frozen BK238.out 1
                    have hfz45_2 := blk_frozen BK238.out 2
                    have hfz45_3 := blk_frozen BK238.out 3
                    have hfz45_4 := blk_frozen BK238.out 4
                    have hfz45_5 := blk_frozen BK238.out 5
                    have hfz45_6 := blk_frozen BK238.out 6
                    go_wp2
                    go_meet
                    case rel => exact ⟨_, ((((rd_T38 l0 x8_2).f1.f0) == (wrap64 (x8_2 + 1)))), (by first | rfl | (simp; done) | (simp [*]; done)), H', ⟨by have := HJ2.out; have := HK2.out; have := HJ18.out; have := HJ32.out; have := HJ36.out; first | omega | exact Nat.le_refl _⟩, ⟨by (with_reducible repeat (first | refine blk_drewN ?_ _ | refine blk_drew ?_ | refine blk_alloc ?_ _)); exact BK238.out⟩, ⟨by repeat (first | (with_reducible first | exact HB.out | apply below_alloc | apply pw_below_drewN | apply below_drew1 | refine below_set ?_ GE238.out) | exact HB.out)⟩⟩
                   ·
                    rw [if_neg c44] at H
                    have c44b0 : (((rd_T38 l0 x8_2).f1.f2) == 1) = false := beq_eq_false_iff_ne.mpr c44
                    have c44b1 : (((rd_T38 l0 x8_2).f1.f2) != 1) = true := bne_iff_ne.mpr c44
                    (first | rw [c44b0] | (simp only [i64_w, i32_w]; rw [c44b0]) | skip)
                    have H' := Aside0.mk H
                    clear H
                    have hcz46_0 : wc.cell? ⟨gb238, 0, none⟩ = some (.string ((rd_T38 l0 x8_2).f0)) := (blk_cell BK238.out 0).trans rfl
                    have hcz46_1 : wc.cell? ⟨gb238, 1, none⟩ = some (.int .i64 ((rd_T38 l0 x8_2).f1.f0)) := (blk_cell BK238.out 1).trans rfl
                    have hcz46_2 : wc.cell? ⟨gb238, 2, none⟩ = some (.int .i64 ((rd_T38 l0 x8_2).f1.f1)) := (blk_cell BK238.out 2).trans rfl
                    have hcz46_3 : wc.cell? ⟨gb238, 3, none⟩ = some (.int .i64 ((rd_T38 l0 x8_2).f1.f2)) := (blk_cell BK238.out 3).trans rfl
                    have hcz46_4 : wc.cell? ⟨gb238, 4, none⟩ = some (.int .i64 ((rd_T38 l0 x8_2).f1.f3)) := (blk_cell BK238.out 4).trans rfl
                    have hcz46_5 : wc.cell? ⟨gb238, 5, none⟩ = some (.int .i64 ((rd_T38 l0 x8_2).f1.f4)) := (blk_cell BK238.out 5).trans rfl
                    have hcz46_6 : wc.cell? ⟨gb238, 6, none⟩ = some (.string ((rd_T38 l0 x8_2).f2)) := (blk_cell BK238.out 6).trans rfl
                    have hfz46_0 := blk_frozen BK238.out 0
                    have hfz46_1 := blk_frozen BK238.out 1
                    have hfz46_2 := blk_frozen BK238.out 2
                    have hfz46_3 := blk_frozen BK238.out 3
                    have hfz46_4 := blk_frozen BK238.out 4
                    have hfz46_5 := blk_frozen BK238.out 5
                    have hfz46_6 := blk_frozen BK238.out 6
                    go_wp2
                    go_meet
                    case rel => exact ⟨_, (false), (by first | rfl | (simp; done) | (simp [*]; done)), H', ⟨by have := HJ2.out; have := HK2.out; have := HJ18.out; have := HJ32.out; have := HJ36.out; first | omega | exact Nat.le_refl _⟩, ⟨by (with_reducible repeat (first | refine blk_drewN ?_ _ | refine blk_drew ?_ | refine blk_alloc ?_ _)); exact BK238.out⟩, ⟨by repeat (first | (with_reducible first | exact HB.out | apply below_alloc | apply pw_below_drewN | apply below_drew1 | refine below_set ?_ GE238.out) | exact HB.out)⟩⟩
                  case rest =>
                   clear HC43
                   try clear c1
                   try clear c2
                   try clear p2
                   try clear q2
                   try clear hx2
                   try clear c3
                   try clear c4
                   try clear c5
                   try clear c5b0
                   try clear c5b1
                   try clear c6
                   try clear p6
                   try clear c8
                   try clear c10
                   try clear c10b0
                   try clear c10b1
                   try clear c10b2
                   try clear c12
                   try clear c12b0
                   try clear c13
                   try clear c13b0
                   try clear c15
                   try clear c15b0
                   try clear c15b1
                   try clear c15b2
                   try clear c17
                   try clear c17b0
                   try clear c17b1
                   try clear c17b2
                   try clear c18
                   try clear c18b0
                   try clear c18b1
                   try clear c18b2
                   try clear p23
                   try clear q23
                   try clear hx23
                   try clear c26
                   try clear c27
                   try clear c27b0
                   try clear c27b1
                   try clear c29
                   try clear c29b0
                   try clear c29b1
                   try clear c29b2
                   try clear c30
                   try clear c30b0
                   try clear c30b1
                   try clear c30b2
                   try clear c34
                   try clear c34b0
                   try clear c34b1
                   try clear c38
                   try clear c40
                   try clear c40b0
                   try clear c40b1
                   try clear c40b2
                   try clear c44
                   try clear c44b0
                   try clear c44b1
                   try clear hcz21_0
                   try clear hcz21_1
                   try clear hcz21_2
                   try clear hcz21_3
                   try clear hcz21_4
                   try clear hcz21_5
                   try clear hcz21_6
                   try clear hcz26_0
                   try clear hcz26_1
                   try clear hcz26_2
                   try clear hcz26_3
                   try clear hcz26_4
                   try clear hcz26_5
                   try clear hcz26_6
                   try clear hcz35_0
                   try clear hcz35_1
                   try clear hcz35_2
                   try clear hcz35_3
                   try clear hcz35_4
                   try clear hcz35_5
                   try clear hcz35_6
                   try clear hcz36_0
                   try clear hcz36_1
                   try clear hcz36_2
                   try clear hcz36_3
                   try clear hcz36_4
                   try clear hcz36_5
                   try clear hcz36_6
                   try clear hcz41_0
                   try clear hcz41_1
                   try clear hcz41_2
                   try clear hcz41_3
                   try clear hcz41_4
                   try clear hcz41_5
                   try clear hcz41_6
                   try clear hcz45_0
                   try clear hcz45_1
                   try clear hcz45_2
                   try clear hcz45_3
                   try clear hcz45_4
                   try clear hcz45_5
                   try clear hcz45_6
                   try clear hcz46_0
                   try clear hcz46_1
                   try clear hcz46_2
                   try clear hcz46_3
                   try clear hcz46_4
                   try clear hcz46_5
                   try clear hcz46_6
                   try clear hfz21_0
                   try clear hfz21_1
                   try clear hfz21_2
                   try clear hfz21_3
                   try clear hfz21_4
                   try clear hfz21_5
                   try clear hfz21_6
                   try clear hfz26_0
                   try clear hfz26_1
                   try clear hfz26_2
                   try clear hfz26_3
                   try clear hfz26_4
                   try clear hfz26_5
                   try clear hfz26_6
                   try clear hfz35_0
                   try clear hfz35_1
                   try clear hfz35_2
                   try clear hfz35_3
                   try clear hfz35_4
                   try clear hfz35_5
                   try clear hfz35_6
                   try clear hfz36_0
                   try clear hfz36_1
                   try clear hfz36_2
                   try clear hfz36_3
                   try clear hfz36_4
                   try clear hfz36_5
                   try clear hfz36_6
                   try clear hfz41_0
                   try clear hfz41_1
                   try clear hfz41_2
                   try clear hfz41_3
                   try clear hfz41_4
                   try clear hfz41_5
                   try clear hfz41_6
                   try clear hfz45_0
                   try clear hfz45_1
                   try clear hfz45_2
                   try clear hfz45_3
                   try clear hfz45_4
                   try clear hfz45_5
                   try clear hfz45_6
                   try clear hfz46_0
                   try clear hfz46_1
                   try clear hfz46_2
                   try clear hfz46_3
                   try clear hfz46_4
                   try clear hfz46_5
                   try clear hfz46_6
                   try clear hx237_0
                   try clear hx237_1
                   try clear hx237_2
                   try clear hx237_3
                   try clear hx237_4
                   try clear hx237_5
                   try clear hx237_6
                   try clear p2
                   try clear p23
                   try clear p237
                   try clear p6
                   try clear q2
                   try clear q23
                   try clear q237
                   obtain ⟨kq, x93_42, rfl, HA, HJ42, BK238, HB⟩ := hcut
                   cases kq with
                   | zero => exact absurd HA.out (by simp [grapnelref18_Bytes.j5])
                   | succ kj42 =>
                    have H := HA.out
                    clear HA
                    simp only [grapnelref18_Bytes.j5] at H
                    by_cases c47 : x93_42 = true
                    ·
                     subst c47
                     have H1 : ((grapnelref18_put.f kj42 0 4).bind fun t243 => (if x6_36.size + t243.size ≤ 9223372036854775807 then ((grapnelref18_file.f kj42 ((rd_T38 l0 x8_2).f2)).bind fun t244 => (if (x6_36 ++ t243).size + t244.size ≤ 9223372036854775807 then (if (wrap64 (x7_2 + (((rd_T38 l0 x8_2).f2).size : Int))) > 8388608 then (some ((⟨#[]⟩ : ByteArray), 4)) else (if (((x6_36 ++ t243) ++ t244).size : Int) > 8388608 then (some ((⟨#[]⟩ : ByteArray), 4)) else (grapnelref18_Bytes.l0 kj42 l0 ((x6_36 ++ t243) ++ t244) (wrap64 (x7_2 + (((rd_T38 l0 x8_2).f2).size : Int))) (wrap64 (x8_2 + 1))))) else (none))) else (none))) = some (r1, r2) := by rw [if_pos rfl] at H; exact H
                     clear H
                     have H := H1
                     clear H1
                     replace H := Option.bind_eq_some_iff.mp H
                     obtain ⟨t243, A480, H⟩ := H
                     replace H : (if x6_36.size + t243.size ≤ 9223372036854775807 then ((grapnelref18_file.f kj42 ((rd_T38 l0 x8_2).f2)).bind fun t244 => (if (x6_36 ++ t243).size + t244.size ≤ 9223372036854775807 then (if (wrap64 (x7_2 + (((rd_T38 l0 x8_2).f2).size : Int))) > 8388608 then (some ((⟨#[]⟩ : ByteArray), 4)) else (if (((x6_36 ++ t243) ++ t244).size : Int) > 8388608 then (some ((⟨#[]⟩ : ByteArray), 4)) else (grapnelref18_Bytes.l0 kj42 l0 ((x6_36 ++ t243) ++ t244) (wrap64 (x7_2 + (((rd_T38 l0 x8_2).f2).size : Int))) (wrap64 (x8_2 + 1))))) else (none))) else (none)) = some (r1, r2) := H
                     have A48 := Aside0.mk A480
                     clear A480
                     by_cases c49 : x6_36.size + t243.size ≤ 9223372036854775807
                     ·
                      rw [if_pos c49] at H
                      have c49b0 := eq_true c49
                      have c49b1 : decide (x6_36.size + t243.size ≤ 9223372036854775807) = true := decide_eq_true c49
                      try have c49b2 : (9223372036854775807 < x6_36.size + t243.size) = False := eq_false (Nat.not_lt.2 c49)
                      try (have c49b3 := c49b2; simp only [ByteArray.size_append] at c49b3)
                      replace H := Option.bind_eq_some_iff.mp H
                      obtain ⟨t244, A500, H⟩ := H
                      replace H : (if (x6_36 ++ t243).size + t244.size ≤ 9223372036854775807 then (if (wrap64 (x7_2 + (((rd_T38 l0 x8_2).f2).size : Int))) > 8388608 then (some ((⟨#[]⟩ : ByteArray), 4)) else (if (((x6_36 ++ t243) ++ t244).size : Int) > 8388608 then (some ((⟨#[]⟩ : ByteArray), 4)) else (grapnelref18_Bytes.l0 kj42 l0 ((x6_36 ++ t243) ++ t244) (wrap64 (x7_2 + (((rd_T38 l0 x8_2).f2).size : Int))) (wrap64 (x8_2 + 1))))) else (none)) = some (r1, r2) := H
                      have A50 := Aside0.mk A500
                      clear A500
                      by_cases c51 : (x6_36 ++ t243).size + t244.size ≤ 9223372036854775807
                      ·
                       rw [if_pos c51] at H
                       have c51b0 := eq_true c51
                       have c51b1 : decide ((x6_36 ++ t243).size + t244.size ≤ 9223372036854775807) = true := decide_eq_true c51
                       try have c51b2 : (9223372036854775807 < (x6_36 ++ t243).size + t244.size) = False := eq_false (Nat.not_lt.2 c51)
                       try (have c51b3 := c51b2; simp only [ByteArray.size_append] at c51b3)
                       by_cases c52 : (wrap64 (x7_2 + (((rd_T38 l0 x8_2).f2).size : Int))) > 8388608
                       ·
                        rw [if_pos c52] at H
                        have c52b0 : decide (8388608 < (wrap64 (x7_2 + (((rd_T38 l0 x8_2).f2).size : Int)))) = true := decide_eq_true c52
                        clear c52
                        simp only [Option.some.injEq, Prod.mk.injEq] at H
                        obtain ⟨rfl, rfl⟩ := H
                        try go_wp2
                        have n0_ := Aside0.mk (blk_drew BK238.out)
                        have n1_ := Aside0.mk (below_drew1 HB.out)
                        clear BK238
                        clear HB
                        have BK238 := n0_
                        have HB := n1_
                        clear n0_ n1_
                        refine start_ (n := 8) (S := fun w' => w'.cell? ⟨gb238, 0, none⟩ = some (.string ((rd_T38 l0 x8_2).f0)) ∧ w'.cell? ⟨gb238, 1, none⟩ = some (.int .i64 ((rd_T38 l0 x8_2).f1.f0)) ∧ w'.cell? ⟨gb238, 2, none⟩ = some (.int .i64 ((rd_T38 l0 x8_2).f1.f1)) ∧ w'.cell? ⟨gb238, 3, none⟩ = some (.int .i64 ((rd_T38 l0 x8_2).f1.f2)) ∧ w'.cell? ⟨gb238, 4, none⟩ = some (.int .i64 ((rd_T38 l0 x8_2).f1.f3)) ∧ w'.cell? ⟨gb238, 5, none⟩ = some (.int .i64 ((rd_T38 l0 x8_2).f1.f4)) ∧ w'.cell? ⟨gb238, 6, none⟩ = some (.string ((rd_T38 l0 x8_2).f2))) (ds := []) #[false, false, false, false, false, false, false, false] (by kernel_rfl) rfl rfl ⟨(blk_cell BK238.out 0).trans rfl, (blk_cell BK238.out 1).trans rfl, (blk_cell BK238.out 2).trans rfl, (blk_cell BK238.out 3).trans rfl, (blk_cell BK238.out 4).trans rfl, (blk_cell BK238.out 5).trans rfl, (blk_cell BK238.out 6).trans rfl⟩ (fun hHeld => ?_); refine with_tabW grapnelref18_Bytes.tab16 grapnelref18_Bytes.bits16 (fun HT_ HW_ => ?_)
                        generalize wc.drew = w53 at BK238 HB hHeld ⊢
                        refine pu 0 94 (bl 8 1) HT_ ?_
                        refine pu 3 97 (bl 8 9) HT_ ?_
                        refine tk 4 98 (bl 8 25) HT_ HW_ hHeld ?_ (hy := by rintro w' ⟨s0, s1, s2, s3, s4, s5, s6⟩; go_simp; with_reducible rfl)
                        refine one_ (i := 1) (N := some 95) (bl 8 27) rfl rfl (one_of HT_.out (by kernel_rfl)) (by decide) (fun K hK => ?_)
                        refine goes_ Tryz.func26 (by kernel_rfl) rfl #[.int .i64 0, .int .i64 4] (by rfl) rfl rfl (by (try simp only [List.map_toArray, List.map_cons, List.map_nil]); first | done | rfl | (simp only [List.length_drop, List.length_take]; rfl)) ?_
                        with_reducible refine (grapnelref18_put.calls kj42 0 4 t243 _ A48.out).mono ?_
                        rintro e w54 ⟨rfl, hb⟩
                        refine ⟨_, rfl, ?_⟩
                        have n0_ := Aside0.mk (blk_below (g := gb238) (o := .cells #[.string ((rd_T38 l0 x8_2).f0), .int .i64 ((rd_T38 l0 x8_2).f1.f0), .int .i64 ((rd_T38 l0 x8_2).f1.f1), .int .i64 ((rd_T38 l0 x8_2).f1.f2), .int .i64 ((rd_T38 l0 x8_2).f1.f3), .int .i64 ((rd_T38 l0 x8_2).f1.f4), .string ((rd_T38 l0 x8_2).f2)] 38 (0, 0)) (by (with_reducible repeat (first | refine blk_drewN ?_ _ | refine blk_drew ?_ | refine blk_alloc ?_ _)); exact BK238.out) hb)
                        have n1_ := Aside0.mk (below_step (by repeat (first | (with_reducible first | exact HB.out | apply below_alloc | apply pw_below_drewN | apply below_drew1 | refine below_set ?_ GE238.out) | exact HB.out)) hb)
                        clear BK238
                        clear HB
                        have BK238 := n0_
                        have HB := n1_
                        clear n0_ n1_
                        (try clear hb)
                        (try clear hb2)
                        (try clear hk)
                        (try clear hi)
                        refine hK.out _ _ ⟨(blk_cell BK238.out 0).trans rfl, (blk_cell BK238.out 1).trans rfl, (blk_cell BK238.out 2).trans rfl, (blk_cell BK238.out 3).trans rfl, (blk_cell BK238.out 4).trans rfl, (blk_cell BK238.out 5).trans rfl, (blk_cell BK238.out 6).trans rfl⟩ (fun hHeld => ?_)
                        clear hK K
                        refine norm_ (a' := ?_) ?_ ?_
                        rotate_left
                        ·
                         show Act.put _ (some 95) _ = _
                         simp only [Act.put, List.setIfInBounds_toArray, List.set_cons_zero, List.set_cons_succ, i64_w, i32_w]
                         rfl
                        refine pu 2 96 (bl 8 31) HT_ ?_
                        refine one_ (i := 5) (N := some 99) (bl 8 63) rfl rfl (one_of HT_.out (by kernel_rfl)) (by decide) (fun K hK => ?_)
                        refine goes_ Tryz.func27 (by kernel_rfl) rfl #[.string ((rd_T38 l0 x8_2).f2)] (by rfl) rfl rfl (by (try simp only [List.map_toArray, List.map_cons, List.map_nil]); first | done | rfl | (simp only [List.length_drop, List.length_take]; rfl)) ?_
                        with_reducible refine (grapnelref18_file.calls kj42 ((rd_T38 l0 x8_2).f2) t244 _ A50.out).mono ?_
                        rintro e w55 ⟨rfl, hb⟩
                        refine ⟨_, rfl, ?_⟩
                        have n0_ := Aside0.mk (blk_below (g := gb238) (o := .cells #[.string ((rd_T38 l0 x8_2).f0), .int .i64 ((rd_T38 l0 x8_2).f1.f0), .int .i64 ((rd_T38 l0 x8_2).f1.f1), .int .i64 ((rd_T38 l0 x8_2).f1.f2), .int .i64 ((rd_T38 l0 x8_2).f1.f3), .int .i64 ((rd_T38 l0 x8_2).f1.f4), .string ((rd_T38 l0 x8_2).f2)] 38 (0, 0)) (by (with_reducible repeat (first | refine blk_drewN ?_ _ | refine blk_drew ?_ | refine blk_alloc ?_ _)); exact BK238.out) hb)
                        have n1_ := Aside0.mk (below_step (by repeat (first | (with_reducible first | exact HB.out | apply below_alloc | apply pw_below_drewN | apply below_drew1 | refine below_set ?_ GE238.out) | exact HB.out)) hb)
                        clear BK238
                        clear HB
                        have BK238 := n0_
                        have HB := n1_
                        clear n0_ n1_
                        (try clear hb)
                        (try clear hb2)
                        (try clear hk)
                        (try clear hi)
                        refine hK.out _ _ ⟨(blk_cell BK238.out 0).trans rfl, (blk_cell BK238.out 1).trans rfl, (blk_cell BK238.out 2).trans rfl, (blk_cell BK238.out 3).trans rfl, (blk_cell BK238.out 4).trans rfl, (blk_cell BK238.out 5).trans rfl, (blk_cell BK238.out 6).trans rfl⟩ (fun hHeld => ?_)
                        clear hK K
                        refine norm_ (a' := ?_) ?_ ?_
                        rotate_left
                        ·
                         show Act.put _ (some 99) _ = _
                         simp only [Act.put, List.setIfInBounds_toArray, List.set_cons_zero, List.set_cons_succ, i64_w, i32_w]
                         rfl
                        refine pu 6 100 (bl 8 127) HT_ ?_
                        refine pu 7 6 (bl 8 255) HT_ ?_
                        refine done_ (done_of HT_.out (by kernel_rfl)) ?_
                        have hcz56_0 : w55.cell? ⟨gb238, 0, none⟩ = some (.string ((rd_T38 l0 x8_2).f0)) := (blk_cell BK238.out 0).trans rfl
                        have hcz56_1 : w55.cell? ⟨gb238, 1, none⟩ = some (.int .i64 ((rd_T38 l0 x8_2).f1.f0)) := (blk_cell BK238.out 1).trans rfl
                        have hcz56_2 : w55.cell? ⟨gb238, 2, none⟩ = some (.int .i64 ((rd_T38 l0 x8_2).f1.f1)) := (blk_cell BK238.out 2).trans rfl
                        have hcz56_3 : w55.cell? ⟨gb238, 3, none⟩ = some (.int .i64 ((rd_T38 l0 x8_2).f1.f2)) := (blk_cell BK238.out 3).trans rfl
                        have hcz56_4 : w55.cell? ⟨gb238, 4, none⟩ = some (.int .i64 ((rd_T38 l0 x8_2).f1.f3)) := (blk_cell BK238.out 4).trans rfl
                        have hcz56_5 : w55.cell? ⟨gb238, 5, none⟩ = some (.int .i64 ((rd_T38 l0 x8_2).f1.f4)) := (blk_cell BK238.out 5).trans rfl
                        have hcz56_6 : w55.cell? ⟨gb238, 6, none⟩ = some (.string ((rd_T38 l0 x8_2).f2)) := (blk_cell BK238.out 6).trans rfl
                        have hfz56_0 := blk_frozen BK238.out 0
                        have hfz56_1 := blk_frozen BK238.out 1
                        have hfz56_2 := blk_frozen BK238.out 2
                        have hfz56_3 := blk_frozen BK238.out 3
                        have hfz56_4 := blk_frozen BK238.out 4
                        have hfz56_5 := blk_frozen BK238.out 5
                        have hfz56_6 := blk_frozen BK238.out 6
                        try go_wp2
                        go_ret2
                        exact ⟨by first | rfl | (simp [errW_none, errW_some] <;> rfl) | (simp [*, errW_none, errW_some] <;> rfl), by repeat (first | (with_reducible first | exact HB.out | apply below_alloc | apply pw_below_drewN | apply below_drew1 | refine below_set ?_ GE238.out) | exact HB.out)⟩
                       ·
                        rw [if_neg c52] at H
                        have c52b0 : decide (8388608 < (wrap64 (x7_2 + (((rd_T38 l0 x8_2).f2).size : Int)))) = false := decide_eq_false c52
                        clear c52
                        by_cases c57 : (((x6_36 ++ t243) ++ t244).size : Int) > 8388608
                        ·
                         rw [if_pos c57] at H
                         have c57b0 : decide (8388608 < (((x6_36 ++ t243) ++ t244).size : Int)) = true := decide_eq_true c57
                         try (have c57b0s := c57b0; simp only [ByteArray.size_append, Int.natCast_add] at c57b0s)
                         have c57b1 : decide (8388608 < ((x6_36 ++ t243) ++ t244).size) = true := decide_eq_true (by omega)
                         try (have c57b1s := c57b1; simp only [ByteArray.size_append, Int.natCast_add] at c57b1s)
                         clear c57
                         simp only [Option.some.injEq, Prod.mk.injEq] at H
                         obtain ⟨rfl, rfl⟩ := H
                         try go_wp2
                         have n0_ := Aside0.mk (blk_drew BK238.out)
                         have n1_ := Aside0.mk (below_drew1 HB.out)
                         clear BK238
                         clear HB
                         have BK238 := n0_
                         have HB := n1_
                         clear n0_ n1_
                         refine start_ (n := 8) (S := fun w' => w'.cell? ⟨gb238, 0, none⟩ = some (.string ((rd_T38 l0 x8_2).f0)) ∧ w'.cell? ⟨gb238, 1, none⟩ = some (.int .i64 ((rd_T38 l0 x8_2).f1.f0)) ∧ w'.cell? ⟨gb238, 2, none⟩ = some (.int .i64 ((rd_T38 l0 x8_2).f1.f1)) ∧ w'.cell? ⟨gb238, 3, none⟩ = some (.int .i64 ((rd_T38 l0 x8_2).f1.f2)) ∧ w'.cell? ⟨gb238, 4, none⟩ = some (.int .i64 ((rd_T38 l0 x8_2).f1.f3)) ∧ w'.cell? ⟨gb238, 5, none⟩ = some (.int .i64 ((rd_T38 l0 x8_2).f1.f4)) ∧ w'.cell? ⟨gb238, 6, none⟩ = some (.string ((rd_T38 l0 x8_2).f2))) (ds := []) #[false, false, false, false, false, false, false, false] (by kernel_rfl) rfl rfl ⟨(blk_cell BK238.out 0).trans rfl, (blk_cell BK238.out 1).trans rfl, (blk_cell BK238.out 2).trans rfl, (blk_cell BK238.out 3).trans rfl, (blk_cell BK238.out 4).trans rfl, (blk_cell BK238.out 5).trans rfl, (blk_cell BK238.out 6).trans rfl⟩ (fun hHeld => ?_); refine with_tabW grapnelref18_Bytes.tab16 grapnelref18_Bytes.bits16 (fun HT_ HW_ => ?_)
                         generalize wc.drew = w58 at BK238 HB hHeld ⊢
                         refine pu 0 94 (bl 8 1) HT_ ?_
                         refine pu 3 97 (bl 8 9) HT_ ?_
                         refine tk 4 98 (bl 8 25) HT_ HW_ hHeld ?_ (hy := by rintro w' ⟨s0, s1, s2, s3, s4, s5, s6⟩; go_simp; with_reducible rfl)
                         refine one_ (i := 1) (N := some 95) (bl 8 27) rfl rfl (one_of HT_.out (by kernel_rfl)) (by decide) (fun K hK => ?_)
                         refine goes_ Tryz.func26 (by kernel_rfl) rfl #[.int .i64 0, .int .i64 4] (by rfl) rfl rfl (by (try simp only [List.map_toArray, List.map_cons, List.map_nil]); first | done | rfl | (simp only [List.length_drop, List.length_take]; rfl)) ?_
                         with_reducible refine (grapnelref18_put.calls kj42 0 4 t243 _ A48.out).mono ?_
                         rintro e w59 ⟨rfl, hb⟩
                         refine ⟨_, rfl, ?_⟩
                         have n0_ := Aside0.mk (blk_below (g := gb238) (o := .cells #[.string ((rd_T38 l0 x8_2).f0), .int .i64 ((rd_T38 l0 x8_2).f1.f0), .int .i64 ((rd_T38 l0 x8_2).f1.f1), .int .i64 ((rd_T38 l0 x8_2).f1.f2), .int .i64 ((rd_T38 l0 x8_2).f1.f3), .int .i64 ((rd_T38 l0 x8_2).f1.f4), .string ((rd_T38 l0 x8_2).f2)] 38 (0, 0)) (by (with_reducible repeat (first | refine blk_drewN ?_ _ | refine blk_drew ?_ | refine blk_alloc ?_ _)); exact BK238.out) hb)
                         have n1_ := Aside0.mk (below_step (by repeat (first | (with_reducible first | exact HB.out | apply below_alloc | apply pw_below_drewN | apply below_drew1 | refine below_set ?_ GE238.out) | exact HB.out)) hb)
                         clear BK238
                         clear HB
                         have BK238 := n0_
                         have HB := n1_
                         clear n0_ n1_
                         (try clear hb)
                         (try clear hb2)
                         (try clear hk)
                         (try clear hi)
                         refine hK.out _ _ ⟨(blk_cell BK238.out 0).trans rfl, (blk_cell BK238.out 1).trans rfl, (blk_cell BK238.out 2).trans rfl, (blk_cell BK238.out 3).trans rfl, (blk_cell BK238.out 4).trans rfl, (blk_cell BK238.out 5).trans rfl, (blk_cell BK238.out 6).trans rfl⟩ (fun hHeld => ?_)
                         clear hK K
                         refine norm_ (a' := ?_) ?_ ?_
                         rotate_left
                         ·
                          show Act.put _ (some 95) _ = _
                          simp only [Act.put, List.setIfInBounds_toArray, List.set_cons_zero, List.set_cons_succ, i64_w, i32_w]
                          rfl
                         refine pu 2 96 (bl 8 31) HT_ ?_
                         refine one_ (i := 5) (N := some 99) (bl 8 63) rfl rfl (one_of HT_.out (by kernel_rfl)) (by decide) (fun K hK => ?_)
                         refine goes_ Tryz.func27 (by kernel_rfl) rfl #[.string ((rd_T38 l0 x8_2).f2)] (by rfl) rfl rfl (by (try simp only [List.map_toArray, List.map_cons, List.map_nil]); first | done | rfl | (simp only [List.length_drop, List.length_take]; rfl)) ?_
                         with_reducible refine (grapnelref18_file.calls kj42 ((rd_T38 l0 x8_2).f2) t244 _ A50.out).mono ?_
                         rintro e w60 ⟨rfl, hb⟩
                         refine ⟨_, rfl, ?_⟩
                         have n0_ := Aside0.mk (blk_below (g := gb238) (o := .cells #[.string ((rd_T38 l0 x8_2).f0), .int .i64 ((rd_T38 l0 x8_2).f1.f0), .int .i64 ((rd_T38 l0 x8_2).f1.f1), .int .i64 ((rd_T38 l0 x8_2).f1.f2), .int .i64 ((rd_T38 l0 x8_2).f1.f3), .int .i64 ((rd_T38 l0 x8_2).f1.f4), .string ((rd_T38 l0 x8_2).f2)] 38 (0, 0)) (by (with_reducible repeat (first | refine blk_drewN ?_ _ | refine blk_drew ?_ | refine blk_alloc ?_ _)); exact BK238.out) hb)
                         have n1_ := Aside0.mk (below_step (by repeat (first | (with_reducible first | exact HB.out | apply below_alloc | apply pw_below_drewN | apply below_drew1 | refine below_set ?_ GE238.out) | exact HB.out)) hb)
                         clear BK238
                         clear HB
                         have BK238 := n0_
                         have HB := n1_
                         clear n0_ n1_
                         (try clear hb)
                         (try clear hb2)
                         (try clear hk)
                         (try clear hi)
                         refine hK.out _ _ ⟨(blk_cell BK238.out 0).trans rfl, (blk_cell BK238.out 1).trans rfl, (blk_cell BK238.out 2).trans rfl, (blk_cell BK238.out 3).trans rfl, (blk_cell BK238.out 4).trans rfl, (blk_cell BK238.out 5).trans rfl, (blk_cell BK238.out 6).trans rfl⟩ (fun hHeld => ?_)
                         clear hK K
                         refine norm_ (a' := ?_) ?_ ?_
                         rotate_left
                         ·
                          show Act.put _ (some 99) _ = _
                          simp only [Act.put, List.setIfInBounds_toArray, List.set_cons_zero, List.set_cons_succ, i64_w, i32_w]
                          rfl
                         refine pu 6 100 (bl 8 127) HT_ ?_
                         refine pu 7 6 (bl 8 255) HT_ ?_
                         refine done_ (done_of HT_.out (by kernel_rfl)) ?_
                         have hcz61_0 : w60.cell? ⟨gb238, 0, none⟩ = some (.string ((rd_T38 l0 x8_2).f0)) := (blk_cell BK238.out 0).trans rfl
                         have hcz61_1 : w60.cell? ⟨gb238, 1, none⟩ = some (.int .i64 ((rd_T38 l0 x8_2).f1.f0)) := (blk_cell BK238.out 1).trans rfl
                         have hcz61_2 : w60.cell? ⟨gb238, 2, none⟩ = some (.int .i64 ((rd_T38 l0 x8_2).f1.f1)) := (blk_cell BK238.out 2).trans rfl
                         have hcz61_3 : w60.cell? ⟨gb238, 3, none⟩ = some (.int .i64 ((rd_T38 l0 x8_2).f1.f2)) := (blk_cell BK238.out 3).trans rfl
                         have hcz61_4 : w60.cell? ⟨gb238, 4, none⟩ = some (.int .i64 ((rd_T38 l0 x8_2).f1.f3)) := (blk_cell BK238.out 4).trans rfl
                         have hcz61_5 : w60.cell? ⟨gb238, 5, none⟩ = some (.int .i64 ((rd_T38 l0 x8_2).f1.f4)) := (blk_cell BK238.out 5).trans rfl
                         have hcz61_6 : w60.cell? ⟨gb238, 6, none⟩ = some (.string ((rd_T38 l0 x8_2).f2)) := (blk_cell BK238.out 6).trans rfl
                         have hfz61_0 := blk_frozen BK238.out 0
                         have hfz61_1 := blk_frozen BK238.out 1
                         have hfz61_2 := blk_frozen BK238.out 2
                         have hfz61_3 := blk_frozen BK238.out 3
                         have hfz61_4 := blk_frozen BK238.out 4
                         have hfz61_5 := blk_frozen BK238.out 5
                         have hfz61_6 := blk_frozen BK238.out 6
                         try go_wp2
                         go_ret2
                         exact ⟨by first | rfl | (simp [errW_none, errW_some] <;> rfl) | (simp [*, errW_none, errW_some] <;> rfl), by repeat (first | (with_reducible first | exact HB.out | apply below_alloc | apply pw_below_drewN | apply below_drew1 | refine below_set ?_ GE238.out) | exact HB.out)⟩
                        ·
                         rw [if_neg c57] at H
                         have c57b0 : decide (8388608 < (((x6_36 ++ t243) ++ t244).size : Int)) = false := decide_eq_false c57
                         try (have c57b0s := c57b0; simp only [ByteArray.size_append, Int.natCast_add] at c57b0s)
                         have c57b1 : decide (8388608 < ((x6_36 ++ t243) ++ t244).size) = false := decide_eq_false (by omega)
                         try (have c57b1s := c57b1; simp only [ByteArray.size_append, Int.natCast_add] at c57b1s)
                         clear c57
                         have H' := Aside0.mk H
                         clear H
                         try go_wp2
                         have n0_ := Aside0.mk (blk_drew BK238.out)
                         have n1_ := Aside0.mk (below_drew1 HB.out)
                         clear BK238
                         clear HB
                         have BK238 := n0_
                         have HB := n1_
                         clear n0_ n1_
                         refine start_ (n := 8) (S := fun w' => w'.cell? ⟨gb238, 0, none⟩ = some (.string ((rd_T38 l0 x8_2).f0)) ∧ w'.cell? ⟨gb238, 1, none⟩ = some (.int .i64 ((rd_T38 l0 x8_2).f1.f0)) ∧ w'.cell? ⟨gb238, 2, none⟩ = some (.int .i64 ((rd_T38 l0 x8_2).f1.f1)) ∧ w'.cell? ⟨gb238, 3, none⟩ = some (.int .i64 ((rd_T38 l0 x8_2).f1.f2)) ∧ w'.cell? ⟨gb238, 4, none⟩ = some (.int .i64 ((rd_T38 l0 x8_2).f1.f3)) ∧ w'.cell? ⟨gb238, 5, none⟩ = some (.int .i64 ((rd_T38 l0 x8_2).f1.f4)) ∧ w'.cell? ⟨gb238, 6, none⟩ = some (.string ((rd_T38 l0 x8_2).f2))) (ds := []) #[false, false, false, false, false, false, false, false] (by kernel_rfl) rfl rfl ⟨(blk_cell BK238.out 0).trans rfl, (blk_cell BK238.out 1).trans rfl, (blk_cell BK238.out 2).trans rfl, (blk_cell BK238.out 3).trans rfl, (blk_cell BK238.out 4).trans rfl, (blk_cell BK238.out 5).trans rfl, (blk_cell BK238.out 6).trans rfl⟩ (fun hHeld => ?_); refine with_tabW grapnelref18_Bytes.tab16 grapnelref18_Bytes.bits16 (fun HT_ HW_ => ?_)
                         generalize wc.drew = w62 at BK238 HB hHeld ⊢
                         refine pu 0 94 (bl 8 1) HT_ ?_
                         refine pu 3 97 (bl 8 9) HT_ ?_
                         refine tk 4 98 (bl 8 25) HT_ HW_ hHeld ?_ (hy := by rintro w' ⟨s0, s1, s2, s3, s4, s5, s6⟩; go_simp; with_reducible rfl)
                         refine one_ (i := 1) (N := some 95) (bl 8 27) rfl rfl (one_of HT_.out (by kernel_rfl)) (by decide) (fun K hK => ?_)
                         refine goes_ Tryz.func26 (by kernel_rfl) rfl #[.int .i64 0, .int .i64 4] (by rfl) rfl rfl (by (try simp only [List.map_toArray, List.map_cons, List.map_nil]); first | done | rfl | (simp only [List.length_drop, List.length_take]; rfl)) ?_
                         with_reducible refine (grapnelref18_put.calls kj42 0 4 t243 _ A48.out).mono ?_
                         rintro e w63 ⟨rfl, hb⟩
                         refine ⟨_, rfl, ?_⟩
                         have n0_ := Aside0.mk (blk_below (g := gb238) (o := .cells #[.string ((rd_T38 l0 x8_2).f0), .int .i64 ((rd_T38 l0 x8_2).f1.f0), .int .i64 ((rd_T38 l0 x8_2).f1.f1), .int .i64 ((rd_T38 l0 x8_2).f1.f2), .int .i64 ((rd_T38 l0 x8_2).f1.f3), .int .i64 ((rd_T38 l0 x8_2).f1.f4), .string ((rd_T38 l0 x8_2).f2)] 38 (0, 0)) (by (with_reducible repeat (first | refine blk_drewN ?_ _ | refine blk_drew ?_ | refine blk_alloc ?_ _)); exact BK238.out) hb)
                         have n1_ := Aside0.mk (below_step (by repeat (first | (with_reducible first | exact HB.out | apply below_alloc | apply pw_below_drewN | apply below_drew1 | refine below_set ?_ GE238.out) | exact HB.out)) hb)
                         clear BK238
                         clear HB
                         have BK238 := n0_
                         have HB := n1_
                         clear n0_ n1_
                         (try clear hb)
                         (try clear hb2)
                         (try clear hk)
                         (try clear hi)
                         refine hK.out _ _ ⟨(blk_cell BK238.out 0).trans rfl, (blk_cell BK238.out 1).trans rfl, (blk_cell BK238.out 2).trans rfl, (blk_cell BK238.out 3).trans rfl, (blk_cell BK238.out 4).trans rfl, (blk_cell BK238.out 5).trans rfl, (blk_cell BK238.out 6).trans rfl⟩ (fun hHeld => ?_)
                         clear hK K
                         refine norm_ (a' := ?_) ?_ ?_
                         rotate_left
                         ·
                          show Act.put _ (some 95) _ = _
                          simp only [Act.put, List.setIfInBounds_toArray, List.set_cons_zero, List.set_cons_succ, i64_w, i32_w]
                          rfl
                         refine pu 2 96 (bl 8 31) HT_ ?_
                         refine one_ (i := 5) (N := some 99) (bl 8 63) rfl rfl (one_of HT_.out (by kernel_rfl)) (by decide) (fun K hK => ?_)
                         refine goes_ Tryz.func27 (by kernel_rfl) rfl #[.string ((rd_T38 l0 x8_2).f2)] (by rfl) rfl rfl (by (try simp only [List.map_toArray, List.map_cons, List.map_nil]); first | done | rfl | (simp only [List.length_drop, List.length_take]; rfl)) ?_
                         with_reducible refine (grapnelref18_file.calls kj42 ((rd_T38 l0 x8_2).f2) t244 _ A50.out).mono ?_
                         rintro e w64 ⟨rfl, hb⟩
                         refine ⟨_, rfl, ?_⟩
                         have n0_ := Aside0.mk (blk_below (g := gb238) (o := .cells #[.string ((rd_T38 l0 x8_2).f0), .int .i64 ((rd_T38 l0 x8_2).f1.f0), .int .i64 ((rd_T38 l0 x8_2).f1.f1), .int .i64 ((rd_T38 l0 x8_2).f1.f2), .int .i64 ((rd_T38 l0 x8_2).f1.f3), .int .i64 ((rd_T38 l0 x8_2).f1.f4), .string ((rd_T38 l0 x8_2).f2)] 38 (0, 0)) (by (with_reducible repeat (first | refine blk_drewN ?_ _ | refine blk_drew ?_ | refine blk_alloc ?_ _)); exact BK238.out) hb)
                         have n1_ := Aside0.mk (below_step (by repeat (first | (with_reducible first | exact HB.out | apply below_alloc | apply pw_below_drewN | apply below_drew1 | refine below_set ?_ GE238.out) | exact HB.out)) hb)
                         clear BK238
                         clear HB
                         have BK238 := n0_
                         have HB := n1_
                         clear n0_ n1_
                         (try clear hb)
                         (try clear hb2)
                         (try clear hk)
                         (try clear hi)
                         refine hK.out _ _ ⟨(blk_cell BK238.out 0).trans rfl, (blk_cell BK238.out 1).trans rfl, (blk_cell BK238.out 2).trans rfl, (blk_cell BK238.out 3).trans rfl, (blk_cell BK238.out 4).trans rfl, (blk_cell BK238.out 5).trans rfl, (blk_cell BK238.out 6).trans rfl⟩ (fun hHeld => ?_)
                         clear hK K
                         refine norm_ (a' := ?_) ?_ ?_
                         rotate_left
                         ·
                          show Act.put _ (some 99) _ = _
                          simp only [Act.put, List.setIfInBounds_toArray, List.set_cons_zero, List.set_cons_succ, i64_w, i32_w]
                          rfl
                         refine pu 6 100 (bl 8 127) HT_ ?_
                         refine pu 7 6 (bl 8 255) HT_ ?_
                         refine done_ (done_of HT_.out (by kernel_rfl)) ?_
                         have hcz65_0 : w64.cell? ⟨gb238, 0, none⟩ = some (.string ((rd_T38 l0 x8_2).f0)) := (blk_cell BK238.out 0).trans rfl
                         have hcz65_1 : w64.cell? ⟨gb238, 1, none⟩ = some (.int .i64 ((rd_T38 l0 x8_2).f1.f0)) := (blk_cell BK238.out 1).trans rfl
                         have hcz65_2 : w64.cell? ⟨gb238, 2, none⟩ = some (.int .i64 ((rd_T38 l0 x8_2).f1.f1)) := (blk_cell BK238.out 2).trans rfl
                         have hcz65_3 : w64.cell? ⟨gb238, 3, none⟩ = some (.int .i64 ((rd_T38 l0 x8_2).f1.f2)) := (blk_cell BK238.out 3).trans rfl
                         have hcz65_4 : w64.cell? ⟨gb238, 4, none⟩ = some (.int .i64 ((rd_T38 l0 x8_2).f1.f3)) := (blk_cell BK238.out 4).trans rfl
                         have hcz65_5 : w64.cell? ⟨gb238, 5, none⟩ = some (.int .i64 ((rd_T38 l0 x8_2).f1.f4)) := (blk_cell BK238.out 5).trans rfl
                         have hcz65_6 : w64.cell? ⟨gb238, 6, none⟩ = some (.string ((rd_T38 l0 x8_2).f2)) := (blk_cell BK238.out 6).trans rfl
                         have hfz65_0 := blk_frozen BK238.out 0
                         have hfz65_1 := blk_frozen BK238.out 1
                         have hfz65_2 := blk_frozen BK238.out 2
                         have hfz65_3 := blk_frozen BK238.out 3
                         have hfz65_4 := blk_frozen BK238.out 4
                         have hfz65_5 := blk_frozen BK238.out 5
                         have hfz65_6 := blk_frozen BK238.out 6
                         try go_wp2
                         go_roundg kj42
                         case measure => have := HJ2.out; have := HK2.out; have := HJ18.out; have := HJ32.out; have := HJ36.out; have := HJ42.out; omega
                         case rel => exact ⟨((x6_36 ++ t243) ++ t244), (wrap64 (x7_2 + (((rd_T38 l0 x8_2).f2).size : Int))), (wrap64 (x8_2 + 1)), (by first | rfl | (simp; done) | (simp [*]; done)), (by first | rfl | (simp; done) | (simp [*]; done)), (by first | rfl | (simp; done) | (simp [*]; done)), H', ⟨by have := HJ2.out; have := HK2.out; have := HJ18.out; have := HJ32.out; have := HJ36.out; have := HJ42.out; omega⟩, ⟨by repeat (first | (with_reducible first | exact HB.out | apply below_alloc | apply pw_below_drewN | apply below_drew1 | refine below_set ?_ GE238.out) | exact HB.out)⟩⟩
                      ·
                       rw [if_neg c51] at H
                       exact absurd H (by simp)
                     ·
                      rw [if_neg c49] at H
                      exact absurd H (by simp)
                    ·
                     replace c47 := Bool.eq_false_iff.mpr c47
                     subst c47
                     have H1 : (if (wrap64 (x7_2 + (((rd_T38 l0 x8_2).f2).size : Int))) > 8388608 then (some ((⟨#[]⟩ : ByteArray), 4)) else (if (x6_36.size : Int) > 8388608 then (some ((⟨#[]⟩ : ByteArray), 4)) else (grapnelref18_Bytes.l0 kj42 l0 x6_36 (wrap64 (x7_2 + (((rd_T38 l0 x8_2).f2).size : Int))) (wrap64 (x8_2 + 1))))) = some (r1, r2) := by rw [if_neg (show ¬ (false = true) by decide)] at H; exact H
                     clear H
                     have H := H1
                     clear H1
                     by_cases c66 : (wrap64 (x7_2 + (((rd_T38 l0 x8_2).f2).size : Int))) > 8388608
                     ·
                      rw [if_pos c66] at H
                      have c66b0 : decide (8388608 < (wrap64 (x7_2 + (((rd_T38 l0 x8_2).f2).size : Int)))) = true := decide_eq_true c66
                      clear c66
                      simp only [Option.some.injEq, Prod.mk.injEq] at H
                      obtain ⟨rfl, rfl⟩ := H
                      have hcz67_0 : wc.cell? ⟨gb238, 0, none⟩ = some (.string ((rd_T38 l0 x8_2).f0)) := (blk_cell BK238.out 0).trans rfl
                      have hcz67_1 : wc.cell? ⟨gb238, 1, none⟩ = some (.int .i64 ((rd_T38 l0 x8_2).f1.f0)) := (blk_cell BK238.out 1).trans rfl
                      have hcz67_2 : wc.cell? ⟨gb238, 2, none⟩ = some (.int .i64 ((rd_T38 l0 x8_2).f1.f1)) := (blk_cell BK238.out 2).trans rfl
                      have hcz67_3 : wc.cell? ⟨gb238, 3, none⟩ = some (.int .i64 ((rd_T38 l0 x8_2).f1.f2)) := (blk_cell BK238.out 3).trans rfl
                      have hcz67_4 : wc.cell? ⟨gb238, 4, none⟩ = some (.int .i64 ((rd_T38 l0 x8_2).f1.f3)) := (blk_cell BK238.out 4).trans rfl
                      have hcz67_5 : wc.cell? ⟨gb238, 5, none⟩ = some (.int .i64 ((rd_T38 l0 x8_2).f1.f4)) := (blk_cell BK238.out 5).trans rfl
                      have hcz67_6 : wc.cell? ⟨gb238, 6, none⟩ = some (.string ((rd_T38 l0 x8_2).f2)) := (blk_cell BK238.out 6).trans rfl
                      have hfz67_0 := blk_frozen BK238.out 0
                      have hfz67_1 := blk_frozen BK238.out 1
                      have hfz67_2 := blk_frozen BK238.out 2
                      have hfz67_3 := blk_frozen BK238.out 3
                      have hfz67_4 := blk_frozen BK238.out 4
                      have hfz67_5 := blk_frozen BK238.out 5
                      have hfz67_6 := blk_frozen BK238.out 6
                      go_wp2
                      go_ret2
                      exact ⟨by first | rfl | (simp [errW_none, errW_some] <;> rfl) | (simp [*, errW_none, errW_some] <;> rfl), by repeat (first | (with_reducible first | exact HB.out | apply below_alloc | apply pw_below_drewN | apply below_drew1 | refine below_set ?_ GE238.out) | exact HB.out)⟩
                     ·
                      rw [if_neg c66] at H
                      have c66b0 : decide (8388608 < (wrap64 (x7_2 + (((rd_T38 l0 x8_2).f2).size : Int)))) = false := decide_eq_false c66
                      clear c66
                      by_cases c68 : (x6_36.size : Int) > 8388608
                      ·
                       rw [if_pos c68] at H
                       have c68b0 : decide (8388608 < (x6_36.size : Int)) = true := decide_eq_true c68
                       have c68b1 : decide (8388608 < x6_36.size) = true := decide_eq_true (by omega)
                       clear c68
                       simp only [Option.some.injEq, Prod.mk.injEq] at H
                       obtain ⟨rfl, rfl⟩ := H
                       have hcz69_0 : wc.cell? ⟨gb238, 0, none⟩ = some (.string ((rd_T38 l0 x8_2).f0)) := (blk_cell BK238.out 0).trans rfl
                       have hcz69_1 : wc.cell? ⟨gb238, 1, none⟩ = some (.int .i64 ((rd_T38 l0 x8_2).f1.f0)) := (blk_cell BK238.out 1).trans rfl
                       have hcz69_2 : wc.cell? ⟨gb238, 2, none⟩ = some (.int .i64 ((rd_T38 l0 x8_2).f1.f1)) := (blk_cell BK238.out 2).trans rfl
                       have hcz69_3 : wc.cell? ⟨gb238, 3, none⟩ = some (.int .i64 ((rd_T38 l0 x8_2).f1.f2)) := (blk_cell BK238.out 3).trans rfl
                       have hcz69_4 : wc.cell? ⟨gb238, 4, none⟩ = some (.int .i64 ((rd_T38 l0 x8_2).f1.f3)) := (blk_cell BK238.out 4).trans rfl
                       have hcz69_5 : wc.cell? ⟨gb238, 5, none⟩ = some (.int .i64 ((rd_T38 l0 x8_2).f1.f4)) := (blk_cell BK238.out 5).trans rfl
                       have hcz69_6 : wc.cell? ⟨gb238, 6, none⟩ = some (.string ((rd_T38 l0 x8_2).f2)) := (blk_cell BK238.out 6).trans rfl
                       have hfz69_0 := blk_frozen BK238.out 0
                       have hfz69_1 := blk_frozen BK238.out 1
                       have hfz69_2 := blk_frozen BK238.out 2
                       have hfz69_3 := blk_frozen BK238.out 3
                       have hfz69_4 := blk_frozen BK238.out 4
                       have hfz69_5 := blk_frozen BK238.out 5
                       have hfz69_6 := blk_frozen BK238.out 6
                       go_wp2
                       go_ret2
                       exact ⟨by first | rfl | (simp [errW_none, errW_some] <;> rfl) | (simp [*, errW_none, errW_some] <;> rfl), by repeat (first | (with_reducible first | exact HB.out | apply below_alloc | apply pw_below_drewN | apply below_drew1 | refine below_set ?_ GE238.out) | exact HB.out)⟩
                      ·
                       rw [if_neg c68] at H
                       have c68b0 : decide (8388608 < (x6_36.size : Int)) = false := decide_eq_false c68
                       have c68b1 : decide (8388608 < x6_36.size) = false := decide_eq_false (by omega)
                       clear c68
                       have H' := Aside0.mk H
                       clear H
                       have hcz70_0 : wc.cell? ⟨gb238, 0, none⟩ = some (.string ((rd_T38 l0 x8_2).f0)) := (blk_cell BK238.out 0).trans rfl
                       have hcz70_1 : wc.cell? ⟨gb238, 1, none⟩ = some (.int .i64 ((rd_T38 l0 x8_2).f1.f0)) := (blk_cell BK238.out 1).trans rfl
                       have hcz70_2 : wc.cell? ⟨gb238, 2, none⟩ = some (.int .i64 ((rd_T38 l0 x8_2).f1.f1)) := (blk_cell BK238.out 2).trans rfl
                       have hcz70_3 : wc.cell? ⟨gb238, 3, none⟩ = some (.int .i64 ((rd_T38 l0 x8_2).f1.f2)) := (blk_cell BK238.out 3).trans rfl
                       have hcz70_4 : wc.cell? ⟨gb238, 4, none⟩ = some (.int .i64 ((rd_T38 l0 x8_2).f1.f3)) := (blk_cell BK238.out 4).trans rfl
                       have hcz70_5 : wc.cell? ⟨gb238, 5, none⟩ = some (.int .i64 ((rd_T38 l0 x8_2).f1.f4)) := (blk_cell BK238.out 5).trans rfl
                       have hcz70_6 : wc.cell? ⟨gb238, 6, none⟩ = some (.string ((rd_T38 l0 x8_2).f2)) := (blk_cell BK238.out 6).trans rfl
                       have hfz70_0 := blk_frozen BK238.out 0
                       have hfz70_1 := blk_frozen BK238.out 1
                       have hfz70_2 := blk_frozen BK238.out 2
                       have hfz70_3 := blk_frozen BK238.out 3
                       have hfz70_4 := blk_frozen BK238.out 4
                       have hfz70_5 := blk_frozen BK238.out 5
                       have hfz70_6 := blk_frozen BK238.out 6
                       go_wp2
                       go_roundg kj42
                       case measure => have := HJ2.out; have := HK2.out; have := HJ18.out; have := HJ32.out; have := HJ36.out; have := HJ42.out; omega
                       case rel => exact ⟨(x6_36), (wrap64 (x7_2 + (((rd_T38 l0 x8_2).f2).size : Int))), (wrap64 (x8_2 + 1)), (by first | rfl | (simp; done) | (simp [*]; done)), (by first | rfl | (simp; done) | (simp [*]; done)), (by first | rfl | (simp; done) | (simp [*]; done)), H', ⟨by have := HJ2.out; have := HK2.out; have := HJ18.out; have := HJ32.out; have := HJ36.out; have := HJ42.out; omega⟩, ⟨by repeat (first | (with_reducible first | exact HB.out | apply below_alloc | apply pw_below_drewN | apply below_drew1 | refine below_set ?_ GE238.out) | exact HB.out)⟩⟩
           ·
            rw [if_neg c18] at H
            exact absurd H (by simp)
          ·
           rw [if_neg c17] at H
           exact absurd H (by simp)
         ·
          rw [if_neg c15] at H
          exact absurd H (by simp)
        ·
         rw [if_neg c13] at H
         exact absurd H (by simp)
       ·
        rw [if_neg c12] at H
        have c12b0 : decide (x8_2 < (l0.length : Int)) = false := decide_eq_false c12
        clear c12
        replace H := Option.bind_eq_some_iff.mp H
        obtain ⟨t236, A710, H⟩ := H
        replace H : (if x6_2.size + t236.size ≤ 9223372036854775807 then (some (x6_2 ++ t236, 0)) else (none)) = some (r1, r2) := H
        have A71 := Aside0.mk A710
        clear A710
        by_cases c72 : x6_2.size + t236.size ≤ 9223372036854775807
        ·
         rw [if_pos c72] at H
         have c72b0 := eq_true c72
         have c72b1 : decide (x6_2.size + t236.size ≤ 9223372036854775807) = true := decide_eq_true c72
         try have c72b2 : (9223372036854775807 < x6_2.size + t236.size) = False := eq_false (Nat.not_lt.2 c72)
         try (have c72b3 := c72b2; simp only [ByteArray.size_append] at c72b3)
         simp only [Option.some.injEq, Prod.mk.injEq] at H
         obtain ⟨rfl, rfl⟩ := H
         go_wp2_with (first | ((with_reducible refine gate_callee (f := 28) rfl ?_); refine goesL_ (some 115) rfl rfl Tryz.func28 (by kernel_rfl) rfl #[.string x6_2] rfl (by (try simp only [List.map_toArray, List.map_cons, List.map_nil]); first | done | rfl | (simp only [List.length_drop, List.length_take]; rfl)) ?_; (with_reducible refine (grapnelref02_Sum.calls k2 x6_2 t236 _ A71.out).mono ?_); rintro e w73 ⟨rfl, hb⟩; refine ⟨_, rfl, ?_⟩; have n0_ := Aside0.mk (below_step (by repeat (first | (with_reducible first | exact HB.out | apply below_alloc | apply pw_below_drewN | apply below_drew1) | exact HB.out)) hb); clear HB; have HB := n0_; clear n0_; (try clear hb); (try clear hb2); (try clear hk); (try clear hi)))
         go_ret2
         exact ⟨by first | rfl | (simp [errW_none, errW_some] <;> rfl) | (simp [*, errW_none, errW_some] <;> rfl), by repeat (first | (with_reducible first | exact HB.out | apply below_alloc | apply pw_below_drewN | apply below_drew1) | exact HB.out)⟩
        ·
         rw [if_neg c72] at H
         exact absurd H (by simp)
    ·
     rw [if_neg c10] at H
     exact absurd H (by simp)
end Go.Proofs.YtkhblpmjmkhiiaaGreatDoor.PAll
