/- Printed by the kit's print.py, made shorter and regrouped by wip/tools/regroup.py. -/
import Derived.Test.YtkhblpmjmkhiiaaGreatDoorQK2
namespace Go.Proofs.YtkhblpmjmkhiiaaGreatDoor.PAll
open Go.RowKit Go.Proofs.YtkhblpmjmkhiiaaGreatDoorW.PrintWords Go.Proofs.YtkhblpmjmkhiiaaGreatDoorW.PrintLast Go.Proofs.YtkhblpmjmkhiiaaGreatDoorW.PrintMore
attribute [local go_sem] max2_int min2_int max_two min_two max_three min_three max_four min_four
set_option linter.unusedVariables false
set_option linter.unusedSimpArgs false
set_option maxHeartbeats 8000000 in
set_option maxRecDepth 100000 in
theorem r8_Normal.calls (k : Nat) (A0 : Option Addr) (c0 : Nat) (l0 : List (S38)) (r1 : List (S38)) (r2 : Int) (w : World) (hr0 : Kd.C k38 w A0 l0.length l0) (hc0 : l0.length ≤ c0) (h : r8_Normal.f k l0 = some (r1, r2)) :
  Calls Tryz.prog 6 #[.slice A0 l0.length c0] w fun e w' => ∃ v0_ : Value, e = .returned (.tuple #[v0_, .int .i64 r2]) ∧ Kd.R k38 38 w' w.heap.size (fun _ => True) v0_ r1 ∧ Below w.heap.size w w' := by
 have hu38 := Tryz.underlying38
 have hu36 := Tryz.underlying36
 have HR0 := Aside0.mk hr0
 have HC0 := Aside0.mk hc0
 clear hr0 hc0
 have HB := Aside0.mk (Below.refl w.heap.size w)
 have H : (r8_Normal.l0 k l0 ([] : List (S38)) 0) = some (r1, r2) := h
 clear h
 have H' := Aside0.mk H
 clear H
 go_enter Tryz.func6, Tryz.ntmps6
 go_wp2
 go_loopg [4, 5] k (fun kq v4 v5 w' => ∃ (x4_1 : List (S38)) (x5_1 : Int), v5 = .int .i64 x5_1 ∧ Aside0 (r8_Normal.l0 kq l0 x4_1 x5_1 = some (r1, r2)) ∧ Aside0 (kq ≤ k) ∧ Aside0 (Kd.R k38 38 w' w.heap.size (fun _ => True) v4 x4_1) ∧ Aside0 (Below w.heap.size w w'))
 case atStart => exact ⟨(([] : List (S38))), (0), Z4, H', ⟨Nat.le_refl _⟩, ⟨Z17⟩, ⟨Z1⟩⟩
 case round =>
  clear H'
  obtain ⟨x4_1, x5_1, rfl, HA, HK1, HO_4, HB⟩ := hrel
  cases gk with
  | zero => exact absurd HA.out (by simp [r8_Normal.l0])
  | succ k1 =>
   have H := HA.out
   clear HA
   simp only [r8_Normal.l0] at H
   by_cases c2 : x5_1 < (l0.length : Int)
   ·
    rw [if_pos c2] at H
    have c2b0 : decide (x5_1 < (l0.length : Int)) = true := decide_eq_true c2
    clear c2
    have HC3 := Aside0.mk H
    clear H
    go_upto_region 5 with (fail)
    go_cut [37] (fun v37 wc => ∃ (kq : Nat) (x37_2 : Bool), v37 = .bool x37_2 ∧ Aside0 (r8_Normal.j1 kq l0 x4_1 x5_1 x37_2 = some (r1, r2)) ∧ Aside0 (kq ≤ k1) ∧ Aside0 (Kd.R k38 38 wc w.heap.size (fun _ => True) u4 x4_1) ∧ Aside0 (Below w.heap.size w wc))
    case first =>
     have H := HC3.out
     clear HC3
     by_cases c4 : 0 ≤ x5_1
     ·
      rw [if_pos c4] at H
      have c4b0 : decide (0 ≤ x5_1) = true := decide_eq_true c4
      clear c4
      (first | rw [c4b0] | (simp only [i64_w, i32_w]; rw [c4b0]) | skip)
      replace H := Option.bind_eq_some_iff.mp H
      obtain ⟨t124, A50, H⟩ := H
      replace H : (if t124 = true then ((r8_Find.f k1 x4_1 ((rd_T38 l0 x5_1).f0)).bind fun t126 => (r8_Normal.j1 k1 l0 x4_1 x5_1 (decide (t126 ≥ 0)))) else (r8_Normal.j1 k1 l0 x4_1 x5_1 true)) = some (r1, r2) := H
      have A5 := Aside0.mk A50
      clear A50
      by_cases c6 : t124 = true
      ·
       subst c6
       have H1 : ((r8_Find.f k1 x4_1 ((rd_T38 l0 x5_1).f0)).bind fun t126 => (r8_Normal.j1 k1 l0 x4_1 x5_1 (decide (t126 ≥ 0)))) = some (r1, r2) := by rw [if_pos rfl] at H; exact H
       clear H
       have H := H1
       clear H1
       replace H := Option.bind_eq_some_iff.mp H
       obtain ⟨t126, A70, H⟩ := H
       replace H : (r8_Normal.j1 k1 l0 x4_1 x5_1 (decide (t126 ≥ 0))) = some (r1, r2) := H
       have A7 := Aside0.mk A70
       clear A70
       have H' := Aside0.mk H
       clear H
       have p123 : 0 ≤ (x5_1 : Int) := of_decide_eq_true Z2
       have q123 : x5_1 < (l0.length : Int) := of_decide_eq_true Z2
       obtain ⟨ad123, e123, hx123_0, hx123_1, hx123_2, hx123_3, hx123_4, hx123_5, hx123_6⟩ := at_T38 HR0.out x5_1 p123 q123
       cases e123
       replace hx123_0 := (HB.out.cell (World.block_lt_of_cell? w _ hx123_0)).trans hx123_0
       replace hx123_1 := (HB.out.cell (World.block_lt_of_cell? w _ hx123_1)).trans hx123_1
       replace hx123_2 := (HB.out.cell (World.block_lt_of_cell? w _ hx123_2)).trans hx123_2
       replace hx123_3 := (HB.out.cell (World.block_lt_of_cell? w _ hx123_3)).trans hx123_3
       replace hx123_4 := (HB.out.cell (World.block_lt_of_cell? w _ hx123_4)).trans hx123_4
       replace hx123_5 := (HB.out.cell (World.block_lt_of_cell? w _ hx123_5)).trans hx123_5
       replace hx123_6 := (HB.out.cell (World.block_lt_of_cell? w _ hx123_6)).trans hx123_6
       replace p123 := eq_true p123
       replace q123 := eq_true q123
       go_wp2_with (first | ((with_reducible refine gate_callee (f := 14) rfl ?_); refine goesL_ (some 26) rfl rfl Tryz.func14 Z13 rfl #[.agg #[.string ((rd_T38 l0 x5_1).f0), .int .i64 ((rd_T38 l0 x5_1).f1.f0), .int .i64 ((rd_T38 l0 x5_1).f1.f1), .int .i64 ((rd_T38 l0 x5_1).f1.f2), .int .i64 ((rd_T38 l0 x5_1).f1.f3), .int .i64 ((rd_T38 l0 x5_1).f1.f4), .string ((rd_T38 l0 x5_1).f2)]] rfl Z7 ?_; (with_reducible refine (r8_may.calls k1 ((rd_T38 l0 x5_1).f0) ((rd_T38 l0 x5_1).f1.f0) ((rd_T38 l0 x5_1).f1.f1) ((rd_T38 l0 x5_1).f1.f2) ((rd_T38 l0 x5_1).f1.f3) ((rd_T38 l0 x5_1).f1.f4) ((rd_T38 l0 x5_1).f2) true _ A5.out).mono ?_); rintro e w8 ⟨rfl, hb⟩; refine ⟨_, rfl, ?_⟩; have n0_ := Aside0.mk (Kd.R_below Z10 hb); have n1_ := Aside0.mk (below_step Z1 hb); clear HO_4; clear HB; have HO_4 := n0_; have HB := n1_; clear n0_ n1_; (try clear hb); (try clear hb2); (try clear hk); (try clear hi); have p125 : 0 ≤ (x5_1 : Int) := of_decide_eq_true Z2; have q125 : x5_1 < (l0.length : Int) := of_decide_eq_true Z2; obtain ⟨ad125, e125, hx125_0, hx125_1, hx125_2, hx125_3, hx125_4, hx125_5, hx125_6⟩ := at_T38 HR0.out x5_1 p125 q125; obtain rfl : ad123 = ad125 := (by injection e125); replace hx125_0 := (HB.out.cell (World.block_lt_of_cell? w _ hx125_0)).trans hx125_0; replace hx125_1 := (HB.out.cell (World.block_lt_of_cell? w _ hx125_1)).trans hx125_1; replace hx125_2 := (HB.out.cell (World.block_lt_of_cell? w _ hx125_2)).trans hx125_2; replace hx125_3 := (HB.out.cell (World.block_lt_of_cell? w _ hx125_3)).trans hx125_3; replace hx125_4 := (HB.out.cell (World.block_lt_of_cell? w _ hx125_4)).trans hx125_4; replace hx125_5 := (HB.out.cell (World.block_lt_of_cell? w _ hx125_5)).trans hx125_5; replace hx125_6 := (HB.out.cell (World.block_lt_of_cell? w _ hx125_6)).trans hx125_6; replace p125 := eq_true p125; replace q125 := eq_true q125; obtain ⟨Ao9, co9, eo9⟩ := Kd.R_slice HO_4.out; subst eo9) | (go_at_call 15; (with_reducible refine (r8_Find.calls k1 _ _ x4_1 ((rd_T38 l0 x5_1).f0) t126 _ ?side1 ?side2 A7.out).mono ?_); (case side1 => repeat (first | exact (Kd.R_reads' HO_4.out).2.2 | (with_reducible refine Kd.C_alloc ?_ _) | (with_reducible refine Kd.C_drewN ?_ _) | (with_reducible refine Kd.C_drew ?_))); (case side2 => exact (Kd.R_reads' HO_4.out).2.1); rintro e w' ⟨rfl, ⟨nd, rfl⟩⟩))
       go_meet
       case rel => exact ⟨_, (decide (t126 ≥ 0)), Z4, H', ⟨Z30⟩, ⟨Z10⟩, ⟨Z1⟩⟩
      ·
       replace c6 := Bool.eq_false_iff.mpr c6
       subst c6
       have H1 : (r8_Normal.j1 k1 l0 x4_1 x5_1 true) = some (r1, r2) := by rw [if_neg (show ¬ (false = true) by decide)] at H; exact H
       clear H
       have H := H1
       clear H1
       have H' := Aside0.mk H
       clear H
       have p123 : 0 ≤ (x5_1 : Int) := of_decide_eq_true Z2
       have q123 : x5_1 < (l0.length : Int) := of_decide_eq_true Z2
       obtain ⟨ad123, e123, hx123_0, hx123_1, hx123_2, hx123_3, hx123_4, hx123_5, hx123_6⟩ := at_T38 HR0.out x5_1 p123 q123
       cases e123
       replace hx123_0 := (HB.out.cell (World.block_lt_of_cell? w _ hx123_0)).trans hx123_0
       replace hx123_1 := (HB.out.cell (World.block_lt_of_cell? w _ hx123_1)).trans hx123_1
       replace hx123_2 := (HB.out.cell (World.block_lt_of_cell? w _ hx123_2)).trans hx123_2
       replace hx123_3 := (HB.out.cell (World.block_lt_of_cell? w _ hx123_3)).trans hx123_3
       replace hx123_4 := (HB.out.cell (World.block_lt_of_cell? w _ hx123_4)).trans hx123_4
       replace hx123_5 := (HB.out.cell (World.block_lt_of_cell? w _ hx123_5)).trans hx123_5
       replace hx123_6 := (HB.out.cell (World.block_lt_of_cell? w _ hx123_6)).trans hx123_6
       replace p123 := eq_true p123
       replace q123 := eq_true q123
       go_wp2_with (first | ((with_reducible refine gate_callee (f := 14) rfl ?_); refine goesL_ (some 26) rfl rfl Tryz.func14 Z13 rfl #[.agg #[.string ((rd_T38 l0 x5_1).f0), .int .i64 ((rd_T38 l0 x5_1).f1.f0), .int .i64 ((rd_T38 l0 x5_1).f1.f1), .int .i64 ((rd_T38 l0 x5_1).f1.f2), .int .i64 ((rd_T38 l0 x5_1).f1.f3), .int .i64 ((rd_T38 l0 x5_1).f1.f4), .string ((rd_T38 l0 x5_1).f2)]] rfl Z7 ?_; (with_reducible refine (r8_may.calls k1 ((rd_T38 l0 x5_1).f0) ((rd_T38 l0 x5_1).f1.f0) ((rd_T38 l0 x5_1).f1.f1) ((rd_T38 l0 x5_1).f1.f2) ((rd_T38 l0 x5_1).f1.f3) ((rd_T38 l0 x5_1).f1.f4) ((rd_T38 l0 x5_1).f2) false _ A5.out).mono ?_); rintro e w10 ⟨rfl, hb⟩; refine ⟨_, rfl, ?_⟩; have n0_ := Aside0.mk (Kd.R_below Z10 hb); have n1_ := Aside0.mk (below_step Z1 hb); clear HO_4; clear HB; have HO_4 := n0_; have HB := n1_; clear n0_ n1_; (try clear hb); (try clear hb2); (try clear hk); (try clear hi)))
       go_meet
       case rel => exact ⟨_, (true), Z4, H', ⟨Z30⟩, ⟨Z10⟩, ⟨Z1⟩⟩
     ·
      rw [if_neg c4] at H
      exact absurd H Z23
    case rest =>
     clear HC3; try clear c1; try clear p1; try clear q1; try clear hx1; try clear c2; try clear c2b0; try clear p2; try clear c4; try clear c4b0; try clear c6; try clear hx123_0; try clear hx123_1; try clear hx123_2; try clear hx123_3; try clear hx123_4; try clear hx123_5; try clear hx123_6; try clear hx125_0; try clear hx125_1; try clear hx125_2; try clear hx125_3; try clear hx125_4; try clear hx125_5; try clear hx125_6; try clear p123; try clear p125; try clear q123; try clear q125
     obtain ⟨kq, x37_2, rfl, HA, HJ2, HO_4, HB⟩ := hcut
     cases kq with
     | zero => exact absurd HA.out (by simp [r8_Normal.j1])
     | succ kj2 =>
      have H := HA.out
      clear HA
      simp only [r8_Normal.j1] at H
      by_cases c11 : x37_2 = true
      ·
       subst c11
       have H1 : (some (([] : List (S38)), 5)) = some (r1, r2) := by rw [if_pos rfl] at H; exact H
       clear H
       have H := H1
       clear H1
       simp only [Option.some.injEq, Prod.mk.injEq] at H
       obtain ⟨rfl, rfl⟩ := H
       go_wp2
       go_ret2
       exact ⟨_, Z12, Z17, Z1⟩
      ·
       replace c11 := Bool.eq_false_iff.mpr c11
       subst c11
       have H1 : (r8_Normal.l1 kj2 l0 x4_1 x5_1 ([] : List (S38)) false 0) = some (r1, r2) := by rw [if_neg (show ¬ (false = true) by decide)] at H; exact H
       clear H
       have H := H1
       clear H1
       have H' := Aside0.mk H
       clear H
       go_wp2
       go_loopg [6, 7, 8] kj2 (fun kq v6 v7 v8 w' => ∃ (x6_3 : List (S38)) (x7_3 : Bool) (x8_3 : Int), v7 = .bool x7_3 ∧ v8 = .int .i64 x8_3 ∧ Aside0 (r8_Normal.l1 kq l0 x4_1 x5_1 x6_3 x7_3 x8_3 = some (r1, r2)) ∧ Aside0 (kq ≤ kj2) ∧ Aside0 (Kd.R k38 38 w' w.heap.size (fun k_ => some k_ ≠ (v6 : Value).ownBlock) u4 x4_1) ∧ Aside0 (Kd.R k38 38 w' w.heap.size (fun k_ => some k_ ≠ (u4 : Value).ownBlock) v6 x6_3) ∧ Aside0 (Below w.heap.size w w'))
       case atStart => exact ⟨(([] : List (S38))), (false), (0), Z4, Z4, H', ⟨Nat.le_refl _⟩, ⟨by (with_reducible repeat (first | apply Kd.R_alloc | apply Kd.R_drewN | apply Kd.R_drew)); exact Kd.R_mono HO_4.out (fun _ hk => (by simp [Value.ownBlock]))⟩, ⟨Z17⟩, ⟨Z1⟩⟩
       case round =>
        clear H'
        try clear c1; try clear p1; try clear q1; try clear hx1; try clear c2; try clear c2b0; try clear p2; try clear c4; try clear c4b0; try clear c6; try clear c11; try clear hx123_0; try clear hx123_1; try clear hx123_2; try clear hx123_3; try clear hx123_4; try clear hx123_5; try clear hx123_6; try clear hx125_0; try clear hx125_1; try clear hx125_2; try clear hx125_3; try clear hx125_4; try clear hx125_5; try clear hx125_6; try clear p1; try clear p123; try clear p125; try clear p2; try clear q1; try clear q123; try clear q125
        obtain ⟨x6_3, x7_3, x8_3, rfl, rfl, HA, HK3, HO_4, HO_6, HB⟩ := hrel
        cases gk with
        | zero => exact absurd HA.out (by simp [r8_Normal.l1])
        | succ k3 =>
         have H := HA.out
         clear HA
         simp only [r8_Normal.l1] at H
         by_cases c12 : x8_3 < (x4_1.length : Int)
         ·
          rw [if_pos c12] at H
          have c12b0 : decide (x8_3 < (x4_1.length : Int)) = true := decide_eq_true c12
          clear c12
          by_cases c13 : x7_3 = true
          ·
           subst c13
           have H1 : (if 0 ≤ x8_3 then (if x6_3.length < 1954687338268 then (r8_Normal.l1 k3 l0 x4_1 x5_1 (x6_3 ++ [(⟨(rd_T38 x4_1 x8_3).f0, (⟨(rd_T38 x4_1 x8_3).f1.f0, (rd_T38 x4_1 x8_3).f1.f1, (rd_T38 x4_1 x8_3).f1.f2, (rd_T38 x4_1 x8_3).f1.f3, (rd_T38 x4_1 x8_3).f1.f4⟩ : S36), (rd_T38 x4_1 x8_3).f2⟩ : S38)]) true (wrap64 (x8_3 + 1))) else (none)) else (none)) = some (r1, r2) := by rw [if_pos rfl] at H; exact H
           clear H
           have H := H1
           clear H1
           by_cases c14 : 0 ≤ x8_3
           ·
            rw [if_pos c14] at H
            have c14b0 : decide (0 ≤ x8_3) = true := decide_eq_true c14
            clear c14
            by_cases c15 : x6_3.length < 1954687338268
            ·
             rw [if_pos c15] at H
             have LMc15 := Aside0.mk c15
             clear c15
             obtain ⟨y128, hy128⟩ : ∃ y_ : List (S38), y_ = (x6_3 ++ [(⟨(rd_T38 x4_1 x8_3).f0, (⟨(rd_T38 x4_1 x8_3).f1.f0, (rd_T38 x4_1 x8_3).f1.f1, (rd_T38 x4_1 x8_3).f1.f2, (rd_T38 x4_1 x8_3).f1.f3, (rd_T38 x4_1 x8_3).f1.f4⟩ : S36), (rd_T38 x4_1 x8_3).f2⟩ : S38)]) := ⟨_, rfl⟩
             replace H : (r8_Normal.l1 k3 l0 x4_1 x5_1 y128 true (wrap64 (x8_3 + 1))) = some (r1, r2) := by first | (rw [hy128]; with_reducible exact H) | (have H2_ := (Option.bind_some _ _).symm.trans H; rw [hy128]; with_reducible exact H2_) | (have H2_ := (Option.bind_some _ _).symm.trans H; with_reducible exact H2_) | with_reducible exact H | (rw [hy128]; exact H) | exact H
             have Ny128 := Aside0.mk hy128
             clear hy128
             have H' := Aside0.mk H
             clear H
             obtain ⟨Ao16, co16, eo16⟩ := Kd.R_slice HO_4.out
             subst eo16
             try go_wp2
             have n0_ := Aside0.mk (Kd.R_drew HO_4.out)
             have n1_ := Aside0.mk (Kd.R_drew HO_6.out)
             have n2_ := Aside0.mk (below_drew1 HB.out)
             clear HO_4; clear HO_6; clear HB
             have HO_4 := n0_
             have HO_6 := n1_
             have HB := n2_
             clear n0_ n1_ n2_
             refine start_ (n := 15) (S := fun w' => True) (ds := []) #[false, false, false, false, false, false, false, false, false, false, false, false, false, false, false] Z13 rfl rfl trivial (fun hHeld => ?_); refine with_tabW r8_Normal.tab12 r8_Normal.bits12 (fun HT_ HW_ => ?_)
             generalize wr.drew = w17 at HO_4 HO_6 HB hHeld ⊢
             refine pu 0 44 (bl 15 1) HT_ ?_
             refine pu 1 45 (bl 15 3) HT_ ?_
             refine pu 2 46 (bl 15 7) HT_ ?_
             refine pn 3 47 (bl 15 15) HT_ ?_
             refine pn 4 48 (bl 15 31) HT_ ?_
             refine pn 5 49 (bl 15 63) HT_ ?_
             refine pn 6 50 (bl 15 127) HT_ ?_
             refine pn 7 51 (bl 15 255) HT_ ?_
             refine pn 8 52 (bl 15 511) HT_ ?_
             refine pn 9 53 (bl 15 1023) HT_ ?_
             refine pn 10 54 (bl 15 2047) HT_ ?_
             refine pn 11 55 (bl 15 4095) HT_ ?_
             refine pn 12 56 (bl 15 8191) HT_ ?_
             refine pn 13 57 (bl 15 16383) HT_ ?_
             refine pu 14 58 (bl 15 32767) HT_ ?_
             refine done_ (done_of HT_.out Z13) ?_
             have p127 : 0 ≤ (x8_3 : Int) := of_decide_eq_true Z2
             have q127 : x8_3 < (x4_1.length : Int) := of_decide_eq_true Z2
             obtain ⟨ad127, e127, hx127_0, hx127_1, hx127_2, hx127_3, hx127_4, hx127_5, hx127_6⟩ := at_T38 (Kd.R_reads' HO_4.out).2.2 x8_3 p127 q127
             cases e127
             replace p127 := eq_true p127
             replace q127 := eq_true q127
             try go_wp2_with (first | ((with_reducible refine gate_builtin (b := .append) (xs := #[.tmp 66, .tmp 71]) rfl ?_); at_builtin; refine Kd.R_append k38 (w0 := w) w.heap.size rfl (.tmp 66) (.tmp 71) 22 38 (.agg #[(.string ⟨#[]⟩), (.int .i64 0), (.int .i64 0), (.int .i64 0), (.int .i64 0), (.int .i64 0), (.string ⟨#[]⟩)]) 72 rfl Tryz.underlying22 info38 rfl Z11 Z3 u6 x6_3 (⟨(rd_T38 x4_1 x8_3).f0, (⟨(rd_T38 x4_1 x8_3).f1.f0, (rd_T38 x4_1 x8_3).f1.f1, (rd_T38 x4_1 x8_3).f1.f2, (rd_T38 x4_1 x8_3).f1.f3, (rd_T38 x4_1 x8_3).f1.f4⟩ : S36), (rd_T38 x4_1 x8_3).f2⟩ : S38) [.string ((rd_T38 x4_1 x8_3).f0), .int .i64 ((rd_T38 x4_1 x8_3).f1.f0), .int .i64 ((rd_T38 x4_1 x8_3).f1.f1), .int .i64 ((rd_T38 x4_1 x8_3).f1.f2), .int .i64 ((rd_T38 x4_1 x8_3).f1.f3), .int .i64 ((rd_T38 x4_1 x8_3).f1.f4), .string ((rd_T38 x4_1 x8_3).f2)] (fun k_ => some k_ ≠ (.slice (some ad127) x4_1.length co16 : Value).ownBlock) (fun _ => False) rfl rfl ?aP (fun _ hk => hk.elim) ?aF ?aO ?aB ?aS ?aL ?_; (case aP => exact k38_mkM _ _ _ (⟨(rd_T38 x4_1 x8_3).f0, (⟨(rd_T38 x4_1 x8_3).f1.f0, (rd_T38 x4_1 x8_3).f1.f1, (rd_T38 x4_1 x8_3).f1.f2, (rd_T38 x4_1 x8_3).f1.f3, (rd_T38 x4_1 x8_3).f1.f4⟩ : S36), (rd_T38 x4_1 x8_3).f2⟩ : S38)); (case aB => exact Z1); (case aF => exact (fun k_ hk => Kd.fresh' (Kd.R_lt Z10) k_ hk)); (case aO => exact Z36); (case aS => exact (below_size Z1)); (case aL => have := LMc15.out; omega); intro v129 w18 ho hb hg hat; rw [← Ny128.out] at ho; have n0_ := Aside0.mk (Kd.R_after (ok := (fun _ => True)) Z31 hg hat); have n1_ := Aside0.mk (hb); have n2_ := Aside0.mk (ho); clear HO_4; clear HB; clear HO_6; have HO_4 := n0_; have HB := n1_; have HO130 := n2_; clear n0_ n1_ n2_; clear ho hb hg hat))
             go_roundg k3
             case measure => have := HK1.out; have := HJ2.out; have := HK3.out; omega
             case rel => exact ⟨(y128), (true), (wrap64 (x8_3 + 1)), Z4, Z4, H', ⟨Z45⟩, ⟨Z39⟩, ⟨by (with_reducible repeat (first | apply Kd.R_alloc | apply Kd.R_drewN | apply Kd.R_drew)); exact HO130.out⟩, ⟨Z1⟩⟩
            ·
             rw [if_neg c15] at H
             exact absurd H Z23
           ·
            rw [if_neg c14] at H
            exact absurd H Z23
          ·
           replace c13 := Bool.eq_false_iff.mpr c13
           subst c13
           have H1 : (if 0 ≤ x5_1 then (if x5_1 < (l0.length : Int) then (if 0 ≤ x8_3 then ((r8_Less.f k3 ((rd_T38 l0 x5_1).f0) ((rd_T38 x4_1 x8_3).f0)).bind fun t133 => (if t133 = true then (if x6_3.length < 1954687338268 then ((some (x6_3 ++ [(⟨(rd_T38 l0 x5_1).f0, (⟨(rd_T38 l0 x5_1).f1.f0, (rd_T38 l0 x5_1).f1.f1, (rd_T38 l0 x5_1).f1.f2, (rd_T38 l0 x5_1).f1.f3, (rd_T38 l0 x5_1).f1.f4⟩ : S36), (rd_T38 l0 x5_1).f2⟩ : S38)] : List (S38))).bind fun y135 => (if y135.length < 1954687338268 then (r8_Normal.l1 k3 l0 x4_1 x5_1 (y135 ++ [(⟨(rd_T38 x4_1 x8_3).f0, (⟨(rd_T38 x4_1 x8_3).f1.f0, (rd_T38 x4_1 x8_3).f1.f1, (rd_T38 x4_1 x8_3).f1.f2, (rd_T38 x4_1 x8_3).f1.f3, (rd_T38 x4_1 x8_3).f1.f4⟩ : S36), (rd_T38 x4_1 x8_3).f2⟩ : S38)]) true (wrap64 (x8_3 + 1))) else (none))) else (none)) else (if x6_3.length < 1954687338268 then (r8_Normal.l1 k3 l0 x4_1 x5_1 (x6_3 ++ [(⟨(rd_T38 x4_1 x8_3).f0, (⟨(rd_T38 x4_1 x8_3).f1.f0, (rd_T38 x4_1 x8_3).f1.f1, (rd_T38 x4_1 x8_3).f1.f2, (rd_T38 x4_1 x8_3).f1.f3, (rd_T38 x4_1 x8_3).f1.f4⟩ : S36), (rd_T38 x4_1 x8_3).f2⟩ : S38)]) false (wrap64 (x8_3 + 1))) else (none)))) else (none)) else (none)) else (none)) = some (r1, r2) := by rw [if_neg (show ¬ (false = true) by decide)] at H; exact H
           clear H
           have H := H1
           clear H1
           by_cases c19 : 0 ≤ x5_1
           ·
            rw [if_pos c19] at H
            have c19b0 : decide (0 ≤ x5_1) = true := decide_eq_true c19
            clear c19
            by_cases c20 : x5_1 < (l0.length : Int)
            ·
             rw [if_pos c20] at H
             have c20b0 : decide (x5_1 < (l0.length : Int)) = true := decide_eq_true c20
             clear c20
             by_cases c21 : 0 ≤ x8_3
             ·
              rw [if_pos c21] at H
              have c21b0 : decide (0 ≤ x8_3) = true := decide_eq_true c21
              clear c21
              replace H := Option.bind_eq_some_iff.mp H
              obtain ⟨t133, A220, H⟩ := H
              replace H : (if t133 = true then (if x6_3.length < 1954687338268 then ((some (x6_3 ++ [(⟨(rd_T38 l0 x5_1).f0, (⟨(rd_T38 l0 x5_1).f1.f0, (rd_T38 l0 x5_1).f1.f1, (rd_T38 l0 x5_1).f1.f2, (rd_T38 l0 x5_1).f1.f3, (rd_T38 l0 x5_1).f1.f4⟩ : S36), (rd_T38 l0 x5_1).f2⟩ : S38)] : List (S38))).bind fun y135 => (if y135.length < 1954687338268 then (r8_Normal.l1 k3 l0 x4_1 x5_1 (y135 ++ [(⟨(rd_T38 x4_1 x8_3).f0, (⟨(rd_T38 x4_1 x8_3).f1.f0, (rd_T38 x4_1 x8_3).f1.f1, (rd_T38 x4_1 x8_3).f1.f2, (rd_T38 x4_1 x8_3).f1.f3, (rd_T38 x4_1 x8_3).f1.f4⟩ : S36), (rd_T38 x4_1 x8_3).f2⟩ : S38)]) true (wrap64 (x8_3 + 1))) else (none))) else (none)) else (if x6_3.length < 1954687338268 then (r8_Normal.l1 k3 l0 x4_1 x5_1 (x6_3 ++ [(⟨(rd_T38 x4_1 x8_3).f0, (⟨(rd_T38 x4_1 x8_3).f1.f0, (rd_T38 x4_1 x8_3).f1.f1, (rd_T38 x4_1 x8_3).f1.f2, (rd_T38 x4_1 x8_3).f1.f3, (rd_T38 x4_1 x8_3).f1.f4⟩ : S36), (rd_T38 x4_1 x8_3).f2⟩ : S38)]) false (wrap64 (x8_3 + 1))) else (none))) = some (r1, r2) := H
              have A22 := Aside0.mk A220
              clear A220
              by_cases c23 : t133 = true
              ·
               subst c23
               have H1 : (if x6_3.length < 1954687338268 then ((some (x6_3 ++ [(⟨(rd_T38 l0 x5_1).f0, (⟨(rd_T38 l0 x5_1).f1.f0, (rd_T38 l0 x5_1).f1.f1, (rd_T38 l0 x5_1).f1.f2, (rd_T38 l0 x5_1).f1.f3, (rd_T38 l0 x5_1).f1.f4⟩ : S36), (rd_T38 l0 x5_1).f2⟩ : S38)] : List (S38))).bind fun y135 => (if y135.length < 1954687338268 then (r8_Normal.l1 k3 l0 x4_1 x5_1 (y135 ++ [(⟨(rd_T38 x4_1 x8_3).f0, (⟨(rd_T38 x4_1 x8_3).f1.f0, (rd_T38 x4_1 x8_3).f1.f1, (rd_T38 x4_1 x8_3).f1.f2, (rd_T38 x4_1 x8_3).f1.f3, (rd_T38 x4_1 x8_3).f1.f4⟩ : S36), (rd_T38 x4_1 x8_3).f2⟩ : S38)]) true (wrap64 (x8_3 + 1))) else (none))) else (none)) = some (r1, r2) := by rw [if_pos rfl] at H; exact H
               clear H
               have H := H1
               clear H1
               by_cases c24 : x6_3.length < 1954687338268
               ·
                rw [if_pos c24] at H
                have LMc24 := Aside0.mk c24
                clear c24
                obtain ⟨y135, hy135⟩ : ∃ y_ : List (S38), y_ = (x6_3 ++ [(⟨(rd_T38 l0 x5_1).f0, (⟨(rd_T38 l0 x5_1).f1.f0, (rd_T38 l0 x5_1).f1.f1, (rd_T38 l0 x5_1).f1.f2, (rd_T38 l0 x5_1).f1.f3, (rd_T38 l0 x5_1).f1.f4⟩ : S36), (rd_T38 l0 x5_1).f2⟩ : S38)]) := ⟨_, rfl⟩
                replace H : (if y135.length < 1954687338268 then (r8_Normal.l1 k3 l0 x4_1 x5_1 (y135 ++ [(⟨(rd_T38 x4_1 x8_3).f0, (⟨(rd_T38 x4_1 x8_3).f1.f0, (rd_T38 x4_1 x8_3).f1.f1, (rd_T38 x4_1 x8_3).f1.f2, (rd_T38 x4_1 x8_3).f1.f3, (rd_T38 x4_1 x8_3).f1.f4⟩ : S36), (rd_T38 x4_1 x8_3).f2⟩ : S38)]) true (wrap64 (x8_3 + 1))) else (none)) = some (r1, r2) := by first | (rw [hy135]; with_reducible exact H) | (have H2_ := (Option.bind_some _ _).symm.trans H; rw [hy135]; with_reducible exact H2_) | (have H2_ := (Option.bind_some _ _).symm.trans H; with_reducible exact H2_) | with_reducible exact H | (rw [hy135]; exact H) | exact H
                have Ny135 := Aside0.mk hy135
                clear hy135
                by_cases c25 : y135.length < 1954687338268
                ·
                 rw [if_pos c25] at H
                 have LMc25 := Aside0.mk c25
                 clear c25
                 obtain ⟨y139, hy139⟩ : ∃ y_ : List (S38), y_ = (y135 ++ [(⟨(rd_T38 x4_1 x8_3).f0, (⟨(rd_T38 x4_1 x8_3).f1.f0, (rd_T38 x4_1 x8_3).f1.f1, (rd_T38 x4_1 x8_3).f1.f2, (rd_T38 x4_1 x8_3).f1.f3, (rd_T38 x4_1 x8_3).f1.f4⟩ : S36), (rd_T38 x4_1 x8_3).f2⟩ : S38)]) := ⟨_, rfl⟩
                 replace H : (r8_Normal.l1 k3 l0 x4_1 x5_1 y139 true (wrap64 (x8_3 + 1))) = some (r1, r2) := by first | (rw [hy139]; with_reducible exact H) | (have H2_ := (Option.bind_some _ _).symm.trans H; rw [hy139]; with_reducible exact H2_) | (have H2_ := (Option.bind_some _ _).symm.trans H; with_reducible exact H2_) | with_reducible exact H | (rw [hy139]; exact H) | exact H
                 have Ny139 := Aside0.mk hy139
                 clear hy139
                 have H' := Aside0.mk H
                 clear H
                 obtain ⟨Ao26, co26, eo26⟩ := Kd.R_slice HO_4.out
                 subst eo26
                 try go_wp2
                 have n0_ := Aside0.mk (Kd.R_drew HO_4.out)
                 have n1_ := Aside0.mk (Kd.R_drew HO_6.out)
                 have n2_ := Aside0.mk (below_drew1 HB.out)
                 clear HO_4; clear HO_6; clear HB
                 have HO_4 := n0_
                 have HO_6 := n1_
                 have HB := n2_
                 clear n0_ n1_ n2_
                 have p131 : 0 ≤ (x5_1 : Int) := of_decide_eq_true Z2
                 have q131 : x5_1 < (l0.length : Int) := of_decide_eq_true Z2
                 obtain ⟨ad131, e131, hx131_0, hx131_1, hx131_2, hx131_3, hx131_4, hx131_5, hx131_6⟩ := at_T38 HR0.out x5_1 p131 q131
                 have hw131_6 := hx131_6
                 have hw131_5 := hx131_5
                 have hw131_4 := hx131_4
                 have hw131_3 := hx131_3
                 have hw131_2 := hx131_2
                 have hw131_1 := hx131_1
                 have hw131_0 := hx131_0
                 cases e131
                 replace hx131_0 := (HB.out.cell (World.block_lt_of_cell? w _ hx131_0)).trans hx131_0
                 replace hx131_1 := (HB.out.cell (World.block_lt_of_cell? w _ hx131_1)).trans hx131_1
                 replace hx131_2 := (HB.out.cell (World.block_lt_of_cell? w _ hx131_2)).trans hx131_2
                 replace hx131_3 := (HB.out.cell (World.block_lt_of_cell? w _ hx131_3)).trans hx131_3
                 replace hx131_4 := (HB.out.cell (World.block_lt_of_cell? w _ hx131_4)).trans hx131_4
                 replace hx131_5 := (HB.out.cell (World.block_lt_of_cell? w _ hx131_5)).trans hx131_5
                 replace hx131_6 := (HB.out.cell (World.block_lt_of_cell? w _ hx131_6)).trans hx131_6
                 replace p131 := eq_true p131
                 replace q131 := eq_true q131
                 have p132 : 0 ≤ (x8_3 : Int) := of_decide_eq_true Z2
                 have q132 : x8_3 < (x4_1.length : Int) := of_decide_eq_true Z2
                 obtain ⟨ad132, e132, hx132_0, hx132_1, hx132_2, hx132_3, hx132_4, hx132_5, hx132_6⟩ := at_T38 (Kd.R_reads' HO_4.out).2.2 x8_3 p132 q132
                 cases e132
                 replace p132 := eq_true p132
                 replace q132 := eq_true q132
                 refine start_ (n := 15) (S := fun w' => w'.cell? (ad131.add ((x5_1).toNat * 7)) = some (.string ((rd_T38 l0 x5_1).f0)) ∧ w'.cell? ⟨(ad131.add ((x5_1).toNat * 7)).block, (ad131.add ((x5_1).toNat * 7)).off + 1, none⟩ = some (.int .i64 ((rd_T38 l0 x5_1).f1.f0)) ∧ w'.cell? ⟨(ad131.add ((x5_1).toNat * 7)).block, (ad131.add ((x5_1).toNat * 7)).off + 2, none⟩ = some (.int .i64 ((rd_T38 l0 x5_1).f1.f1)) ∧ w'.cell? ⟨(ad131.add ((x5_1).toNat * 7)).block, (ad131.add ((x5_1).toNat * 7)).off + 3, none⟩ = some (.int .i64 ((rd_T38 l0 x5_1).f1.f2)) ∧ w'.cell? ⟨(ad131.add ((x5_1).toNat * 7)).block, (ad131.add ((x5_1).toNat * 7)).off + 4, none⟩ = some (.int .i64 ((rd_T38 l0 x5_1).f1.f3)) ∧ w'.cell? ⟨(ad131.add ((x5_1).toNat * 7)).block, (ad131.add ((x5_1).toNat * 7)).off + 5, none⟩ = some (.int .i64 ((rd_T38 l0 x5_1).f1.f4)) ∧ w'.cell? ⟨(ad131.add ((x5_1).toNat * 7)).block, (ad131.add ((x5_1).toNat * 7)).off + 6, none⟩ = some (.string ((rd_T38 l0 x5_1).f2)) ∧ w'.cell? (ad132.add ((x8_3).toNat * 7)) = some (.string ((rd_T38 x4_1 x8_3).f0)) ∧ w'.cell? ⟨(ad132.add ((x8_3).toNat * 7)).block, (ad132.add ((x8_3).toNat * 7)).off + 1, none⟩ = some (.int .i64 ((rd_T38 x4_1 x8_3).f1.f0)) ∧ w'.cell? ⟨(ad132.add ((x8_3).toNat * 7)).block, (ad132.add ((x8_3).toNat * 7)).off + 2, none⟩ = some (.int .i64 ((rd_T38 x4_1 x8_3).f1.f1)) ∧ w'.cell? ⟨(ad132.add ((x8_3).toNat * 7)).block, (ad132.add ((x8_3).toNat * 7)).off + 3, none⟩ = some (.int .i64 ((rd_T38 x4_1 x8_3).f1.f2)) ∧ w'.cell? ⟨(ad132.add ((x8_3).toNat * 7)).block, (ad132.add ((x8_3).toNat * 7)).off + 4, none⟩ = some (.int .i64 ((rd_T38 x4_1 x8_3).f1.f3)) ∧ w'.cell? ⟨(ad132.add ((x8_3).toNat * 7)).block, (ad132.add ((x8_3).toNat * 7)).off + 5, none⟩ = some (.int .i64 ((rd_T38 x4_1 x8_3).f1.f4)) ∧ w'.cell? ⟨(ad132.add ((x8_3).toNat * 7)).block, (ad132.add ((x8_3).toNat * 7)).off + 6, none⟩ = some (.string ((rd_T38 x4_1 x8_3).f2))) (ds := []) #[false, false, false, false, false, false, false, false, false, false, false, false, false, false, false] Z13 rfl rfl ⟨((HB.out.cell (World.block_lt_of_cell? w _ hw131_0)).trans hw131_0), ((HB.out.cell (World.block_lt_of_cell? w _ hw131_1)).trans hw131_1), ((HB.out.cell (World.block_lt_of_cell? w _ hw131_2)).trans hw131_2), ((HB.out.cell (World.block_lt_of_cell? w _ hw131_3)).trans hw131_3), ((HB.out.cell (World.block_lt_of_cell? w _ hw131_4)).trans hw131_4), ((HB.out.cell (World.block_lt_of_cell? w _ hw131_5)).trans hw131_5), ((HB.out.cell (World.block_lt_of_cell? w _ hw131_6)).trans hw131_6), hx132_0, hx132_1, hx132_2, hx132_3, hx132_4, hx132_5, hx132_6⟩ (fun hHeld => ?_); refine with_tabW r8_Normal.tab12 r8_Normal.bits12 (fun HT_ HW_ => ?_)
                 generalize wr.drew = w27 at HO_4 HO_6 HB hx131_0 hx131_1 hx131_2 hx131_3 hx131_4 hx131_5 hx131_6 hx132_0 hx132_1 hx132_2 hx132_3 hx132_4 hx132_5 hx132_6 hHeld ⊢
                 refine pu 0 44 (bl 15 1) HT_ ?_
                 refine pu 1 45 (bl 15 3) HT_ ?_
                 refine pu 2 46 (bl 15 7) HT_ ?_
                 refine pu 3 47 (bl 15 15) HT_ ?_
                 refine pu 4 48 (bl 15 31) HT_ ?_
                 refine pu 5 49 (bl 15 63) HT_ ?_
                 refine pu 6 50 (bl 15 127) HT_ ?_
                 refine pu 8 52 (bl 15 383) HT_ ?_
                 refine pu 9 53 (bl 15 895) HT_ ?_
                 refine pu 10 54 (bl 15 1919) HT_ ?_
                 refine pu 11 55 (bl 15 3967) HT_ ?_
                 refine tk 7 51 (bl 15 4095) HT_ HW_ hHeld ?_ (hy := Z22)
                 refine tk 12 56 (bl 15 8191) HT_ HW_ hHeld ?_ (hy := Z22)
                 refine one_ (i := 13) (N := some 57) (bl 15 16383) rfl rfl (one_of HT_.out Z13) Z11 (fun K hK => ?_)
                 refine goes_ Tryz.func16 Z13 rfl #[.string ((rd_T38 l0 x5_1).f0), .string ((rd_T38 x4_1 x8_3).f0)] (by rfl) rfl rfl Z7 ?_
                 with_reducible refine (r8_Less.calls k3 ((rd_T38 l0 x5_1).f0) ((rd_T38 x4_1 x8_3).f0) true _ A22.out).mono ?_
                 rintro e w' ⟨rfl, ⟨nd, rfl⟩⟩
                 refine ⟨_, rfl, ?_⟩
                 refine hK.out _ _ ⟨((HB.out.cell (World.block_lt_of_cell? w _ hw131_0)).trans hw131_0), ((HB.out.cell (World.block_lt_of_cell? w _ hw131_1)).trans hw131_1), ((HB.out.cell (World.block_lt_of_cell? w _ hw131_2)).trans hw131_2), ((HB.out.cell (World.block_lt_of_cell? w _ hw131_3)).trans hw131_3), ((HB.out.cell (World.block_lt_of_cell? w _ hw131_4)).trans hw131_4), ((HB.out.cell (World.block_lt_of_cell? w _ hw131_5)).trans hw131_5), ((HB.out.cell (World.block_lt_of_cell? w _ hw131_6)).trans hw131_6), hHeld.2.2.2.2.2.2.2.1, hHeld.2.2.2.2.2.2.2.2.1, hHeld.2.2.2.2.2.2.2.2.2.1, hHeld.2.2.2.2.2.2.2.2.2.2.1, hHeld.2.2.2.2.2.2.2.2.2.2.2.1, hHeld.2.2.2.2.2.2.2.2.2.2.2.2.1, hHeld.2.2.2.2.2.2.2.2.2.2.2.2.2⟩ (fun hHeld => ?_)
                 clear hK K
                 refine norm_ (a' := ?_) ?_ ?_
                 rotate_left
                 ·
                  show Act.put _ (some 57) _ = _
                  simp only [Act.put, List.setIfInBounds_toArray, List.set_cons_zero, List.set_cons_succ, i64_w, i32_w]
                  rfl
                 refine pu 14 58 (bl 15 32767) HT_ ?_
                 refine done_ (done_of HT_.out Z13) ?_
                 have p134 : 0 ≤ (x5_1 : Int) := of_decide_eq_true Z2
                 have q134 : x5_1 < (l0.length : Int) := of_decide_eq_true Z2
                 obtain ⟨ad134, e134, hx134_0, hx134_1, hx134_2, hx134_3, hx134_4, hx134_5, hx134_6⟩ := at_T38 HR0.out x5_1 p134 q134
                 obtain rfl : ad131 = ad134 := (by injection e134)
                 replace hx134_0 := (HB.out.cell (World.block_lt_of_cell? w _ hx134_0)).trans hx134_0
                 replace hx134_1 := (HB.out.cell (World.block_lt_of_cell? w _ hx134_1)).trans hx134_1
                 replace hx134_2 := (HB.out.cell (World.block_lt_of_cell? w _ hx134_2)).trans hx134_2
                 replace hx134_3 := (HB.out.cell (World.block_lt_of_cell? w _ hx134_3)).trans hx134_3
                 replace hx134_4 := (HB.out.cell (World.block_lt_of_cell? w _ hx134_4)).trans hx134_4
                 replace hx134_5 := (HB.out.cell (World.block_lt_of_cell? w _ hx134_5)).trans hx134_5
                 replace hx134_6 := (HB.out.cell (World.block_lt_of_cell? w _ hx134_6)).trans hx134_6
                 replace p134 := eq_true p134
                 replace q134 := eq_true q134
                 try go_wp2_with (first | ((with_reducible refine gate_builtin (b := .append) (xs := #[.tmp 59, .tmp 64]) rfl ?_); at_builtin; refine Kd.R_append k38 (w0 := w) w.heap.size rfl (.tmp 59) (.tmp 64) 22 38 (.agg #[(.string ⟨#[]⟩), (.int .i64 0), (.int .i64 0), (.int .i64 0), (.int .i64 0), (.int .i64 0), (.string ⟨#[]⟩)]) 72 rfl Tryz.underlying22 info38 rfl Z11 Z3 u6 x6_3 (⟨(rd_T38 l0 x5_1).f0, (⟨(rd_T38 l0 x5_1).f1.f0, (rd_T38 l0 x5_1).f1.f1, (rd_T38 l0 x5_1).f1.f2, (rd_T38 l0 x5_1).f1.f3, (rd_T38 l0 x5_1).f1.f4⟩ : S36), (rd_T38 l0 x5_1).f2⟩ : S38) [.string ((rd_T38 l0 x5_1).f0), .int .i64 ((rd_T38 l0 x5_1).f1.f0), .int .i64 ((rd_T38 l0 x5_1).f1.f1), .int .i64 ((rd_T38 l0 x5_1).f1.f2), .int .i64 ((rd_T38 l0 x5_1).f1.f3), .int .i64 ((rd_T38 l0 x5_1).f1.f4), .string ((rd_T38 l0 x5_1).f2)] (fun k_ => some k_ ≠ (.slice (some ad132) x4_1.length co26 : Value).ownBlock) (fun _ => False) rfl rfl ?aP (fun _ hk => hk.elim) ?aF ?aO ?aB ?aS ?aL ?_; (case aP => exact k38_mkM _ _ _ (⟨(rd_T38 l0 x5_1).f0, (⟨(rd_T38 l0 x5_1).f1.f0, (rd_T38 l0 x5_1).f1.f1, (rd_T38 l0 x5_1).f1.f2, (rd_T38 l0 x5_1).f1.f3, (rd_T38 l0 x5_1).f1.f4⟩ : S36), (rd_T38 l0 x5_1).f2⟩ : S38)); (case aB => exact Z1); (case aF => exact (fun k_ hk => Kd.fresh' (Kd.R_lt Z10) k_ hk)); (case aO => exact Z36); (case aS => exact (below_size Z1)); (case aL => have := LMc24.out; omega); intro v136 w28 ho hb hg hat; rw [← Ny135.out] at ho; have n0_ := Aside0.mk (Kd.R_after (ok := (fun _ => True)) Z31 hg hat); have n1_ := Aside0.mk (hb); have n2_ := Aside0.mk (ho); clear HO_4; clear HB; clear HO_6; have HO_4 := n0_; have HB := n1_; have HO137 := n2_; clear n0_ n1_ n2_; clear ho hb hg hat; have p138 : 0 ≤ (x8_3 : Int) := of_decide_eq_true Z2; have q138 : x8_3 < (x4_1.length : Int) := of_decide_eq_true Z2; obtain ⟨ad138, e138, hx138_0, hx138_1, hx138_2, hx138_3, hx138_4, hx138_5, hx138_6⟩ := at_T38 (Kd.R_reads' HO_4.out).2.2 x8_3 p138 q138; obtain rfl : ad132 = ad138 := (by injection e138); replace p138 := eq_true p138; replace q138 := eq_true q138) | ((with_reducible refine gate_builtin (b := .append) (xs := #[.tmp 66, .tmp 71]) rfl ?_); at_builtin; refine Kd.R_append k38 (w0 := w) w.heap.size rfl (.tmp 66) (.tmp 71) 22 38 (.agg #[(.string ⟨#[]⟩), (.int .i64 0), (.int .i64 0), (.int .i64 0), (.int .i64 0), (.int .i64 0), (.string ⟨#[]⟩)]) 72 rfl Tryz.underlying22 info38 rfl Z11 Z3 v136 y135 (⟨(rd_T38 x4_1 x8_3).f0, (⟨(rd_T38 x4_1 x8_3).f1.f0, (rd_T38 x4_1 x8_3).f1.f1, (rd_T38 x4_1 x8_3).f1.f2, (rd_T38 x4_1 x8_3).f1.f3, (rd_T38 x4_1 x8_3).f1.f4⟩ : S36), (rd_T38 x4_1 x8_3).f2⟩ : S38) [.string ((rd_T38 x4_1 x8_3).f0), .int .i64 ((rd_T38 x4_1 x8_3).f1.f0), .int .i64 ((rd_T38 x4_1 x8_3).f1.f1), .int .i64 ((rd_T38 x4_1 x8_3).f1.f2), .int .i64 ((rd_T38 x4_1 x8_3).f1.f3), .int .i64 ((rd_T38 x4_1 x8_3).f1.f4), .string ((rd_T38 x4_1 x8_3).f2)] (fun k_ => some k_ ≠ (.slice (some ad132) x4_1.length co26 : Value).ownBlock) (fun _ => False) rfl rfl ?aP (fun _ hk => hk.elim) ?aF ?aO ?aB ?aS ?aL ?_; (case aP => exact k38_mkM _ _ _ (⟨(rd_T38 x4_1 x8_3).f0, (⟨(rd_T38 x4_1 x8_3).f1.f0, (rd_T38 x4_1 x8_3).f1.f1, (rd_T38 x4_1 x8_3).f1.f2, (rd_T38 x4_1 x8_3).f1.f3, (rd_T38 x4_1 x8_3).f1.f4⟩ : S36), (rd_T38 x4_1 x8_3).f2⟩ : S38)); (case aB => exact Z1); (case aF => exact (fun k_ hk => Kd.fresh' (Kd.R_lt Z10) k_ hk)); (case aO => exact (by (with_reducible repeat (first | apply Kd.R_alloc | apply Kd.R_drewN | apply Kd.R_drew)); exact HO137.out)); (case aS => exact (below_size Z1)); (case aL => have := LMc25.out; omega); intro v140 w29 ho hb hg hat; rw [← Ny139.out] at ho; have n0_ := Aside0.mk (Kd.R_after (ok := (fun _ => True)) Z10 hg hat); have n1_ := Aside0.mk (hb); have n2_ := Aside0.mk (ho); clear HO_4; clear HB; clear HO137; have HO_4 := n0_; have HB := n1_; have HO141 := n2_; clear n0_ n1_ n2_; clear ho hb hg hat))
                 go_roundg k3
                 case measure => have := HK1.out; have := HJ2.out; have := HK3.out; omega
                 case rel => exact ⟨(y139), (true), (wrap64 (x8_3 + 1)), Z4, Z4, H', ⟨Z45⟩, ⟨Z39⟩, ⟨by (with_reducible repeat (first | apply Kd.R_alloc | apply Kd.R_drewN | apply Kd.R_drew)); exact HO141.out⟩, ⟨Z1⟩⟩
                ·
                 rw [if_neg c25] at H
                 exact absurd H Z23
               ·
                rw [if_neg c24] at H
                exact absurd H Z23
              ·
               replace c23 := Bool.eq_false_iff.mpr c23
               subst c23
               have H1 : (if x6_3.length < 1954687338268 then (r8_Normal.l1 k3 l0 x4_1 x5_1 (x6_3 ++ [(⟨(rd_T38 x4_1 x8_3).f0, (⟨(rd_T38 x4_1 x8_3).f1.f0, (rd_T38 x4_1 x8_3).f1.f1, (rd_T38 x4_1 x8_3).f1.f2, (rd_T38 x4_1 x8_3).f1.f3, (rd_T38 x4_1 x8_3).f1.f4⟩ : S36), (rd_T38 x4_1 x8_3).f2⟩ : S38)]) false (wrap64 (x8_3 + 1))) else (none)) = some (r1, r2) := by rw [if_neg (show ¬ (false = true) by decide)] at H; exact H
               clear H
               have H := H1
               clear H1
               by_cases c30 : x6_3.length < 1954687338268
               ·
                rw [if_pos c30] at H
                have LMc30 := Aside0.mk c30
                clear c30
                obtain ⟨y143, hy143⟩ : ∃ y_ : List (S38), y_ = (x6_3 ++ [(⟨(rd_T38 x4_1 x8_3).f0, (⟨(rd_T38 x4_1 x8_3).f1.f0, (rd_T38 x4_1 x8_3).f1.f1, (rd_T38 x4_1 x8_3).f1.f2, (rd_T38 x4_1 x8_3).f1.f3, (rd_T38 x4_1 x8_3).f1.f4⟩ : S36), (rd_T38 x4_1 x8_3).f2⟩ : S38)]) := ⟨_, rfl⟩
                replace H : (r8_Normal.l1 k3 l0 x4_1 x5_1 y143 false (wrap64 (x8_3 + 1))) = some (r1, r2) := by first | (rw [hy143]; with_reducible exact H) | (have H2_ := (Option.bind_some _ _).symm.trans H; rw [hy143]; with_reducible exact H2_) | (have H2_ := (Option.bind_some _ _).symm.trans H; with_reducible exact H2_) | with_reducible exact H | (rw [hy143]; exact H) | exact H
                have Ny143 := Aside0.mk hy143
                clear hy143
                have H' := Aside0.mk H
                clear H
                obtain ⟨Ao31, co31, eo31⟩ := Kd.R_slice HO_4.out
                subst eo31
                try go_wp2
                have n0_ := Aside0.mk (Kd.R_drew HO_4.out)
                have n1_ := Aside0.mk (Kd.R_drew HO_6.out)
                have n2_ := Aside0.mk (below_drew1 HB.out)
                clear HO_4; clear HO_6; clear HB
                have HO_4 := n0_
                have HO_6 := n1_
                have HB := n2_
                clear n0_ n1_ n2_
                have p131 : 0 ≤ (x5_1 : Int) := of_decide_eq_true Z2
                have q131 : x5_1 < (l0.length : Int) := of_decide_eq_true Z2
                obtain ⟨ad131, e131, hx131_0, hx131_1, hx131_2, hx131_3, hx131_4, hx131_5, hx131_6⟩ := at_T38 HR0.out x5_1 p131 q131
                have hw131_6 := hx131_6
                have hw131_5 := hx131_5
                have hw131_4 := hx131_4
                have hw131_3 := hx131_3
                have hw131_2 := hx131_2
                have hw131_1 := hx131_1
                have hw131_0 := hx131_0
                cases e131
                replace hx131_0 := (HB.out.cell (World.block_lt_of_cell? w _ hx131_0)).trans hx131_0
                replace hx131_1 := (HB.out.cell (World.block_lt_of_cell? w _ hx131_1)).trans hx131_1
                replace hx131_2 := (HB.out.cell (World.block_lt_of_cell? w _ hx131_2)).trans hx131_2
                replace hx131_3 := (HB.out.cell (World.block_lt_of_cell? w _ hx131_3)).trans hx131_3
                replace hx131_4 := (HB.out.cell (World.block_lt_of_cell? w _ hx131_4)).trans hx131_4
                replace hx131_5 := (HB.out.cell (World.block_lt_of_cell? w _ hx131_5)).trans hx131_5
                replace hx131_6 := (HB.out.cell (World.block_lt_of_cell? w _ hx131_6)).trans hx131_6
                replace p131 := eq_true p131
                replace q131 := eq_true q131
                have p132 : 0 ≤ (x8_3 : Int) := of_decide_eq_true Z2
                have q132 : x8_3 < (x4_1.length : Int) := of_decide_eq_true Z2
                obtain ⟨ad132, e132, hx132_0, hx132_1, hx132_2, hx132_3, hx132_4, hx132_5, hx132_6⟩ := at_T38 (Kd.R_reads' HO_4.out).2.2 x8_3 p132 q132
                cases e132
                replace p132 := eq_true p132
                replace q132 := eq_true q132
                refine start_ (n := 15) (S := fun w' => w'.cell? (ad131.add ((x5_1).toNat * 7)) = some (.string ((rd_T38 l0 x5_1).f0)) ∧ w'.cell? ⟨(ad131.add ((x5_1).toNat * 7)).block, (ad131.add ((x5_1).toNat * 7)).off + 1, none⟩ = some (.int .i64 ((rd_T38 l0 x5_1).f1.f0)) ∧ w'.cell? ⟨(ad131.add ((x5_1).toNat * 7)).block, (ad131.add ((x5_1).toNat * 7)).off + 2, none⟩ = some (.int .i64 ((rd_T38 l0 x5_1).f1.f1)) ∧ w'.cell? ⟨(ad131.add ((x5_1).toNat * 7)).block, (ad131.add ((x5_1).toNat * 7)).off + 3, none⟩ = some (.int .i64 ((rd_T38 l0 x5_1).f1.f2)) ∧ w'.cell? ⟨(ad131.add ((x5_1).toNat * 7)).block, (ad131.add ((x5_1).toNat * 7)).off + 4, none⟩ = some (.int .i64 ((rd_T38 l0 x5_1).f1.f3)) ∧ w'.cell? ⟨(ad131.add ((x5_1).toNat * 7)).block, (ad131.add ((x5_1).toNat * 7)).off + 5, none⟩ = some (.int .i64 ((rd_T38 l0 x5_1).f1.f4)) ∧ w'.cell? ⟨(ad131.add ((x5_1).toNat * 7)).block, (ad131.add ((x5_1).toNat * 7)).off + 6, none⟩ = some (.string ((rd_T38 l0 x5_1).f2)) ∧ w'.cell? (ad132.add ((x8_3).toNat * 7)) = some (.string ((rd_T38 x4_1 x8_3).f0)) ∧ w'.cell? ⟨(ad132.add ((x8_3).toNat * 7)).block, (ad132.add ((x8_3).toNat * 7)).off + 1, none⟩ = some (.int .i64 ((rd_T38 x4_1 x8_3).f1.f0)) ∧ w'.cell? ⟨(ad132.add ((x8_3).toNat * 7)).block, (ad132.add ((x8_3).toNat * 7)).off + 2, none⟩ = some (.int .i64 ((rd_T38 x4_1 x8_3).f1.f1)) ∧ w'.cell? ⟨(ad132.add ((x8_3).toNat * 7)).block, (ad132.add ((x8_3).toNat * 7)).off + 3, none⟩ = some (.int .i64 ((rd_T38 x4_1 x8_3).f1.f2)) ∧ w'.cell? ⟨(ad132.add ((x8_3).toNat * 7)).block, (ad132.add ((x8_3).toNat * 7)).off + 4, none⟩ = some (.int .i64 ((rd_T38 x4_1 x8_3).f1.f3)) ∧ w'.cell? ⟨(ad132.add ((x8_3).toNat * 7)).block, (ad132.add ((x8_3).toNat * 7)).off + 5, none⟩ = some (.int .i64 ((rd_T38 x4_1 x8_3).f1.f4)) ∧ w'.cell? ⟨(ad132.add ((x8_3).toNat * 7)).block, (ad132.add ((x8_3).toNat * 7)).off + 6, none⟩ = some (.string ((rd_T38 x4_1 x8_3).f2))) (ds := []) #[false, false, false, false, false, false, false, false, false, false, false, false, false, false, false] Z13 rfl rfl ⟨((HB.out.cell (World.block_lt_of_cell? w _ hw131_0)).trans hw131_0), ((HB.out.cell (World.block_lt_of_cell? w _ hw131_1)).trans hw131_1), ((HB.out.cell (World.block_lt_of_cell? w _ hw131_2)).trans hw131_2), ((HB.out.cell (World.block_lt_of_cell? w _ hw131_3)).trans hw131_3), ((HB.out.cell (World.block_lt_of_cell? w _ hw131_4)).trans hw131_4), ((HB.out.cell (World.block_lt_of_cell? w _ hw131_5)).trans hw131_5), ((HB.out.cell (World.block_lt_of_cell? w _ hw131_6)).trans hw131_6), hx132_0, hx132_1, hx132_2, hx132_3, hx132_4, hx132_5, hx132_6⟩ (fun hHeld => ?_); refine with_tabW r8_Normal.tab12 r8_Normal.bits12 (fun HT_ HW_ => ?_)
                generalize wr.drew = w32 at HO_4 HO_6 HB hx131_0 hx131_1 hx131_2 hx131_3 hx131_4 hx131_5 hx131_6 hx132_0 hx132_1 hx132_2 hx132_3 hx132_4 hx132_5 hx132_6 hHeld ⊢
                refine pu 0 44 (bl 15 1) HT_ ?_
                refine pu 1 45 (bl 15 3) HT_ ?_
                refine pu 2 46 (bl 15 7) HT_ ?_
                refine pu 3 47 (bl 15 15) HT_ ?_
                refine pu 4 48 (bl 15 31) HT_ ?_
                refine pu 5 49 (bl 15 63) HT_ ?_
                refine pu 6 50 (bl 15 127) HT_ ?_
                refine pu 8 52 (bl 15 383) HT_ ?_
                refine pu 9 53 (bl 15 895) HT_ ?_
                refine pu 10 54 (bl 15 1919) HT_ ?_
                refine pu 11 55 (bl 15 3967) HT_ ?_
                refine tk 7 51 (bl 15 4095) HT_ HW_ hHeld ?_ (hy := Z22)
                refine tk 12 56 (bl 15 8191) HT_ HW_ hHeld ?_ (hy := Z22)
                refine one_ (i := 13) (N := some 57) (bl 15 16383) rfl rfl (one_of HT_.out Z13) Z11 (fun K hK => ?_)
                refine goes_ Tryz.func16 Z13 rfl #[.string ((rd_T38 l0 x5_1).f0), .string ((rd_T38 x4_1 x8_3).f0)] (by rfl) rfl rfl Z7 ?_
                with_reducible refine (r8_Less.calls k3 ((rd_T38 l0 x5_1).f0) ((rd_T38 x4_1 x8_3).f0) false _ A22.out).mono ?_
                rintro e w' ⟨rfl, ⟨nd, rfl⟩⟩
                refine ⟨_, rfl, ?_⟩
                refine hK.out _ _ ⟨((HB.out.cell (World.block_lt_of_cell? w _ hw131_0)).trans hw131_0), ((HB.out.cell (World.block_lt_of_cell? w _ hw131_1)).trans hw131_1), ((HB.out.cell (World.block_lt_of_cell? w _ hw131_2)).trans hw131_2), ((HB.out.cell (World.block_lt_of_cell? w _ hw131_3)).trans hw131_3), ((HB.out.cell (World.block_lt_of_cell? w _ hw131_4)).trans hw131_4), ((HB.out.cell (World.block_lt_of_cell? w _ hw131_5)).trans hw131_5), ((HB.out.cell (World.block_lt_of_cell? w _ hw131_6)).trans hw131_6), hHeld.2.2.2.2.2.2.2.1, hHeld.2.2.2.2.2.2.2.2.1, hHeld.2.2.2.2.2.2.2.2.2.1, hHeld.2.2.2.2.2.2.2.2.2.2.1, hHeld.2.2.2.2.2.2.2.2.2.2.2.1, hHeld.2.2.2.2.2.2.2.2.2.2.2.2.1, hHeld.2.2.2.2.2.2.2.2.2.2.2.2.2⟩ (fun hHeld => ?_)
                clear hK K
                refine norm_ (a' := ?_) ?_ ?_
                rotate_left
                ·
                 show Act.put _ (some 57) _ = _
                 simp only [Act.put, List.setIfInBounds_toArray, List.set_cons_zero, List.set_cons_succ, i64_w, i32_w]
                 rfl
                refine pu 14 58 (bl 15 32767) HT_ ?_
                refine done_ (done_of HT_.out Z13) ?_
                have p142 : 0 ≤ (x8_3 : Int) := of_decide_eq_true Z2
                have q142 : x8_3 < (x4_1.length : Int) := of_decide_eq_true Z2
                obtain ⟨ad142, e142, hx142_0, hx142_1, hx142_2, hx142_3, hx142_4, hx142_5, hx142_6⟩ := at_T38 (Kd.R_reads' HO_4.out).2.2 x8_3 p142 q142
                obtain rfl : ad132 = ad142 := (by injection e142)
                replace p142 := eq_true p142
                replace q142 := eq_true q142
                try go_wp2_with (first | ((with_reducible refine gate_builtin (b := .append) (xs := #[.tmp 66, .tmp 71]) rfl ?_); at_builtin; refine Kd.R_append k38 (w0 := w) w.heap.size rfl (.tmp 66) (.tmp 71) 22 38 (.agg #[(.string ⟨#[]⟩), (.int .i64 0), (.int .i64 0), (.int .i64 0), (.int .i64 0), (.int .i64 0), (.string ⟨#[]⟩)]) 72 rfl Tryz.underlying22 info38 rfl Z11 Z3 u6 x6_3 (⟨(rd_T38 x4_1 x8_3).f0, (⟨(rd_T38 x4_1 x8_3).f1.f0, (rd_T38 x4_1 x8_3).f1.f1, (rd_T38 x4_1 x8_3).f1.f2, (rd_T38 x4_1 x8_3).f1.f3, (rd_T38 x4_1 x8_3).f1.f4⟩ : S36), (rd_T38 x4_1 x8_3).f2⟩ : S38) [.string ((rd_T38 x4_1 x8_3).f0), .int .i64 ((rd_T38 x4_1 x8_3).f1.f0), .int .i64 ((rd_T38 x4_1 x8_3).f1.f1), .int .i64 ((rd_T38 x4_1 x8_3).f1.f2), .int .i64 ((rd_T38 x4_1 x8_3).f1.f3), .int .i64 ((rd_T38 x4_1 x8_3).f1.f4), .string ((rd_T38 x4_1 x8_3).f2)] (fun k_ => some k_ ≠ (.slice (some ad132) x4_1.length co31 : Value).ownBlock) (fun _ => False) rfl rfl ?aP (fun _ hk => hk.elim) ?aF ?aO ?aB ?aS ?aL ?_; (case aP => exact k38_mkM _ _ _ (⟨(rd_T38 x4_1 x8_3).f0, (⟨(rd_T38 x4_1 x8_3).f1.f0, (rd_T38 x4_1 x8_3).f1.f1, (rd_T38 x4_1 x8_3).f1.f2, (rd_T38 x4_1 x8_3).f1.f3, (rd_T38 x4_1 x8_3).f1.f4⟩ : S36), (rd_T38 x4_1 x8_3).f2⟩ : S38)); (case aB => exact Z1); (case aF => exact (fun k_ hk => Kd.fresh' (Kd.R_lt Z10) k_ hk)); (case aO => exact Z36); (case aS => exact (below_size Z1)); (case aL => have := LMc30.out; omega); intro v144 w33 ho hb hg hat; rw [← Ny143.out] at ho; have n0_ := Aside0.mk (Kd.R_after (ok := (fun _ => True)) Z31 hg hat); have n1_ := Aside0.mk (hb); have n2_ := Aside0.mk (ho); clear HO_4; clear HB; clear HO_6; have HO_4 := n0_; have HB := n1_; have HO145 := n2_; clear n0_ n1_ n2_; clear ho hb hg hat))
                go_roundg k3
                case measure => have := HK1.out; have := HJ2.out; have := HK3.out; omega
                case rel => exact ⟨(y143), (false), (wrap64 (x8_3 + 1)), Z4, Z4, H', ⟨Z45⟩, ⟨Z39⟩, ⟨by (with_reducible repeat (first | apply Kd.R_alloc | apply Kd.R_drewN | apply Kd.R_drew)); exact HO145.out⟩, ⟨Z1⟩⟩
               ·
                rw [if_neg c30] at H
                exact absurd H Z23
             ·
              rw [if_neg c21] at H
              exact absurd H Z23
            ·
             rw [if_neg c20] at H
             exact absurd H Z23
           ·
            rw [if_neg c19] at H
            exact absurd H Z23
         ·
          rw [if_neg c12] at H
          have c12b0 : decide (x8_3 < (x4_1.length : Int)) = false := decide_eq_false c12
          clear c12
          by_cases c34 : x7_3 = true
          ·
           subst c34
           have H1 : (r8_Normal.l0 k3 l0 x6_3 (wrap64 (x5_1 + 1))) = some (r1, r2) := by rw [if_pos rfl] at H; exact H
           clear H
           have H := H1
           clear H1
           have H' := Aside0.mk H
           clear H
           obtain ⟨Ao35, co35, eo35⟩ := Kd.R_slice HO_4.out
           subst eo35
           go_wp2
           go_roundg k3
           case measure => have := HK1.out; have := HJ2.out; have := HK3.out; omega
           case rel => exact ⟨(x6_3), (wrap64 (x5_1 + 1)), Z4, H', ⟨Z45⟩, ⟨by (with_reducible repeat (first | apply Kd.R_alloc | apply Kd.R_drewN | apply Kd.R_drew)); exact Kd.R_mono HO_6.out (fun _ hk => trivial)⟩, ⟨Z1⟩⟩
          ·
           replace c34 := Bool.eq_false_iff.mpr c34
           subst c34
           have H1 : (if 0 ≤ x5_1 then (if x5_1 < (l0.length : Int) then (if x6_3.length < 1954687338268 then (r8_Normal.l0 k3 l0 (x6_3 ++ [(⟨(rd_T38 l0 x5_1).f0, (⟨(rd_T38 l0 x5_1).f1.f0, (rd_T38 l0 x5_1).f1.f1, (rd_T38 l0 x5_1).f1.f2, (rd_T38 l0 x5_1).f1.f3, (rd_T38 l0 x5_1).f1.f4⟩ : S36), (rd_T38 l0 x5_1).f2⟩ : S38)]) (wrap64 (x5_1 + 1))) else (none)) else (none)) else (none)) = some (r1, r2) := by rw [if_neg (show ¬ (false = true) by decide)] at H; exact H
           clear H
           have H := H1
           clear H1
           by_cases c36 : 0 ≤ x5_1
           ·
            rw [if_pos c36] at H
            have c36b0 : decide (0 ≤ x5_1) = true := decide_eq_true c36
            clear c36
            by_cases c37 : x5_1 < (l0.length : Int)
            ·
             rw [if_pos c37] at H
             have c37b0 : decide (x5_1 < (l0.length : Int)) = true := decide_eq_true c37
             clear c37
             by_cases c38 : x6_3.length < 1954687338268
             ·
              rw [if_pos c38] at H
              have LMc38 := Aside0.mk c38
              clear c38
              obtain ⟨y147, hy147⟩ : ∃ y_ : List (S38), y_ = (x6_3 ++ [(⟨(rd_T38 l0 x5_1).f0, (⟨(rd_T38 l0 x5_1).f1.f0, (rd_T38 l0 x5_1).f1.f1, (rd_T38 l0 x5_1).f1.f2, (rd_T38 l0 x5_1).f1.f3, (rd_T38 l0 x5_1).f1.f4⟩ : S36), (rd_T38 l0 x5_1).f2⟩ : S38)]) := ⟨_, rfl⟩
              replace H : (r8_Normal.l0 k3 l0 y147 (wrap64 (x5_1 + 1))) = some (r1, r2) := by first | (rw [hy147]; with_reducible exact H) | (have H2_ := (Option.bind_some _ _).symm.trans H; rw [hy147]; with_reducible exact H2_) | (have H2_ := (Option.bind_some _ _).symm.trans H; with_reducible exact H2_) | with_reducible exact H | (rw [hy147]; exact H) | exact H
              have Ny147 := Aside0.mk hy147
              clear hy147
              have H' := Aside0.mk H
              clear H
              obtain ⟨Ao39, co39, eo39⟩ := Kd.R_slice HO_4.out
              subst eo39
              have p146 : 0 ≤ (x5_1 : Int) := of_decide_eq_true Z2
              have q146 : x5_1 < (l0.length : Int) := of_decide_eq_true Z2
              obtain ⟨ad146, e146, hx146_0, hx146_1, hx146_2, hx146_3, hx146_4, hx146_5, hx146_6⟩ := at_T38 HR0.out x5_1 p146 q146
              cases e146
              replace hx146_0 := (HB.out.cell (World.block_lt_of_cell? w _ hx146_0)).trans hx146_0
              replace hx146_1 := (HB.out.cell (World.block_lt_of_cell? w _ hx146_1)).trans hx146_1
              replace hx146_2 := (HB.out.cell (World.block_lt_of_cell? w _ hx146_2)).trans hx146_2
              replace hx146_3 := (HB.out.cell (World.block_lt_of_cell? w _ hx146_3)).trans hx146_3
              replace hx146_4 := (HB.out.cell (World.block_lt_of_cell? w _ hx146_4)).trans hx146_4
              replace hx146_5 := (HB.out.cell (World.block_lt_of_cell? w _ hx146_5)).trans hx146_5
              replace hx146_6 := (HB.out.cell (World.block_lt_of_cell? w _ hx146_6)).trans hx146_6
              replace p146 := eq_true p146
              replace q146 := eq_true q146
              go_wp2_with (first | ((with_reducible refine gate_builtin (b := .append) (xs := #[.tmp 75, .tmp 80]) rfl ?_); at_builtin; refine Kd.R_append k38 (w0 := w) w.heap.size rfl (.tmp 75) (.tmp 80) 22 38 (.agg #[(.string ⟨#[]⟩), (.int .i64 0), (.int .i64 0), (.int .i64 0), (.int .i64 0), (.int .i64 0), (.string ⟨#[]⟩)]) 72 rfl Tryz.underlying22 info38 rfl Z11 Z3 u6 x6_3 (⟨(rd_T38 l0 x5_1).f0, (⟨(rd_T38 l0 x5_1).f1.f0, (rd_T38 l0 x5_1).f1.f1, (rd_T38 l0 x5_1).f1.f2, (rd_T38 l0 x5_1).f1.f3, (rd_T38 l0 x5_1).f1.f4⟩ : S36), (rd_T38 l0 x5_1).f2⟩ : S38) [.string ((rd_T38 l0 x5_1).f0), .int .i64 ((rd_T38 l0 x5_1).f1.f0), .int .i64 ((rd_T38 l0 x5_1).f1.f1), .int .i64 ((rd_T38 l0 x5_1).f1.f2), .int .i64 ((rd_T38 l0 x5_1).f1.f3), .int .i64 ((rd_T38 l0 x5_1).f1.f4), .string ((rd_T38 l0 x5_1).f2)] (fun k_ => some k_ ≠ (.slice Ao39 x4_1.length co39 : Value).ownBlock) (fun _ => False) rfl rfl ?aP (fun _ hk => hk.elim) ?aF ?aO ?aB ?aS ?aL ?_; (case aP => exact k38_mkM _ _ _ (⟨(rd_T38 l0 x5_1).f0, (⟨(rd_T38 l0 x5_1).f1.f0, (rd_T38 l0 x5_1).f1.f1, (rd_T38 l0 x5_1).f1.f2, (rd_T38 l0 x5_1).f1.f3, (rd_T38 l0 x5_1).f1.f4⟩ : S36), (rd_T38 l0 x5_1).f2⟩ : S38)); (case aB => exact Z1); (case aF => exact (fun k_ hk => Kd.fresh' (Kd.R_lt Z10) k_ hk)); (case aO => exact Z36); (case aS => exact (below_size Z1)); (case aL => have := LMc38.out; omega); intro v148 w40 ho hb hg hat; rw [← Ny147.out] at ho; have n0_ := Aside0.mk (Kd.R_after (ok := (fun _ => True)) Z31 hg hat); have n1_ := Aside0.mk (hb); have n2_ := Aside0.mk (ho); clear HO_4; clear HB; clear HO_6; have HO_4 := n0_; have HB := n1_; have HO149 := n2_; clear n0_ n1_ n2_; clear ho hb hg hat))
              go_roundg k3
              case measure => have := HK1.out; have := HJ2.out; have := HK3.out; omega
              case rel => exact ⟨(y147), (wrap64 (x5_1 + 1)), Z4, H', ⟨Z45⟩, ⟨by (with_reducible repeat (first | apply Kd.R_alloc | apply Kd.R_drewN | apply Kd.R_drew)); exact Kd.R_mono HO149.out (fun _ hk => trivial)⟩, ⟨Z1⟩⟩
             ·
              rw [if_neg c38] at H
              exact absurd H Z23
            ·
             rw [if_neg c37] at H
             exact absurd H Z23
           ·
            rw [if_neg c36] at H
            exact absurd H Z23
   ·
    rw [if_neg c2] at H
    have c2b0 : decide (x5_1 < (l0.length : Int)) = false := decide_eq_false c2
    clear c2
    have HC41 := Aside0.mk H
    clear H
    go_upto_region 19 with (fail)
    go_cut [100] (fun v100 wc => ∃ (kq : Nat) (x100_40 : Bool), v100 = .bool x100_40 ∧ Aside0 (r8_Normal.j3 kq x4_1 x100_40 = some (r1, r2)) ∧ Aside0 (kq ≤ k1) ∧ Aside0 (Kd.R k38 38 wc w.heap.size (fun _ => True) u4 x4_1) ∧ Aside0 (Below w.heap.size w wc))
    case first =>
     have H := HC41.out
     clear HC41
     by_cases c42 : (x4_1.length : Int) = 0
     ·
      rw [if_pos c42] at H
      have c42b0 : ((x4_1.length : Int) == 0) = true := beq_iff_eq.mpr c42
      have c42b1 : ((x4_1.length : Int) != 0) = false := bne_eq_false_iff_eq.mpr c42
      clear c42
      (first | rw [c42b0] | (simp only [i64_w, i32_w]; rw [c42b0]) | skip)
      have H' := Aside0.mk H
      clear H
      obtain ⟨Ao43, co43, eo43⟩ := Kd.R_slice HO_4.out
      subst eo43
      go_wp2
      go_meet
      case rel => exact ⟨_, (true), Z4, H', ⟨Z30⟩, ⟨Z10⟩, ⟨Z1⟩⟩
     ·
      rw [if_neg c42] at H
      have c42b0 : ((x4_1.length : Int) == 0) = false := beq_eq_false_iff_ne.mpr c42
      have c42b1 : ((x4_1.length : Int) != 0) = true := bne_iff_ne.mpr c42
      have c42b2 : ¬ (x4_1 = []) := fun h_ => c42 (by rw [h_]; rfl)
      (first | rw [c42b0] | (simp only [i64_w, i32_w]; rw [c42b0]) | skip)
      by_cases c44 : 0 < (x4_1.length : Int)
      ·
       rw [if_pos c44] at H
       have c44b0 : decide (0 < (x4_1.length : Int)) = true := decide_eq_true c44
       have c44b1 : decide (0 < x4_1.length) = true := decide_eq_true Z3
       clear c44
       by_cases c45 : ((rd_T38 x4_1 0).f0).toList = ([47] : List UInt8)
       ·
        rw [if_pos c45] at H
        have c45b0 : (((rd_T38 x4_1 0).f0).toList == ([47] : List UInt8)) = true := beq_iff_eq.mpr c45
        have c45b1 : (((rd_T38 x4_1 0).f0).toList != ([47] : List UInt8)) = false := bne_eq_false_iff_eq.mpr c45
        clear c45
        have H' := Aside0.mk H
        clear H
        obtain ⟨Ao46, co46, eo46⟩ := Kd.R_slice HO_4.out
        subst eo46
        have p150 : 0 ≤ (0 : Int) := Z3
        have q150 : 0 < (x4_1.length : Int) := of_decide_eq_true Z2
        obtain ⟨ad150, e150, hx150_0, hx150_1, hx150_2, hx150_3, hx150_4, hx150_5, hx150_6⟩ := at_T38 (Kd.R_reads' HO_4.out).2.2 0 p150 q150
        cases e150
        have qi150 : (0 < x4_1.length) = True := eq_true Z3
        (try rw [show ((0 : Int)).toNat = 0 from rfl] at hx150_0)
        (try rw [show 0 * 7 = 0 from rfl] at hx150_0)
        (try rw [Addr.add_zero'] at hx150_0)
        (try rw [show ((0 : Int)).toNat = 0 from rfl] at hx150_1)
        (try rw [show 0 * 7 = 0 from rfl] at hx150_1)
        (try rw [Addr.add_zero'] at hx150_1)
        (try rw [show ((0 : Int)).toNat = 0 from rfl] at hx150_2)
        (try rw [show 0 * 7 = 0 from rfl] at hx150_2)
        (try rw [Addr.add_zero'] at hx150_2)
        (try rw [show ((0 : Int)).toNat = 0 from rfl] at hx150_3)
        (try rw [show 0 * 7 = 0 from rfl] at hx150_3)
        (try rw [Addr.add_zero'] at hx150_3)
        (try rw [show ((0 : Int)).toNat = 0 from rfl] at hx150_4)
        (try rw [show 0 * 7 = 0 from rfl] at hx150_4)
        (try rw [Addr.add_zero'] at hx150_4)
        (try rw [show ((0 : Int)).toNat = 0 from rfl] at hx150_5)
        (try rw [show 0 * 7 = 0 from rfl] at hx150_5)
        (try rw [Addr.add_zero'] at hx150_5)
        (try rw [show ((0 : Int)).toNat = 0 from rfl] at hx150_6)
        (try rw [show 0 * 7 = 0 from rfl] at hx150_6)
        (try rw [Addr.add_zero'] at hx150_6)
        replace p150 := eq_true p150
        replace q150 := eq_true q150
        have p151 : 0 ≤ (0 : Int) := Z3
        have q151 : 0 < (x4_1.length : Int) := of_decide_eq_true Z2
        obtain ⟨ad151, e151, hx151_0, hx151_1, hx151_2, hx151_3, hx151_4, hx151_5, hx151_6⟩ := at_T38 (Kd.R_reads' HO_4.out).2.2 0 p151 q151
        obtain rfl : ad150 = ad151 := (by injection e151)
        have qi151 : (0 < x4_1.length) = True := eq_true Z3
        (try rw [show ((0 : Int)).toNat = 0 from rfl] at hx151_0)
        (try rw [show 0 * 7 = 0 from rfl] at hx151_0)
        (try rw [Addr.add_zero'] at hx151_0)
        (try rw [show ((0 : Int)).toNat = 0 from rfl] at hx151_1)
        (try rw [show 0 * 7 = 0 from rfl] at hx151_1)
        (try rw [Addr.add_zero'] at hx151_1)
        (try rw [show ((0 : Int)).toNat = 0 from rfl] at hx151_2)
        (try rw [show 0 * 7 = 0 from rfl] at hx151_2)
        (try rw [Addr.add_zero'] at hx151_2)
        (try rw [show ((0 : Int)).toNat = 0 from rfl] at hx151_3)
        (try rw [show 0 * 7 = 0 from rfl] at hx151_3)
        (try rw [Addr.add_zero'] at hx151_3)
        (try rw [show ((0 : Int)).toNat = 0 from rfl] at hx151_4)
        (try rw [show 0 * 7 = 0 from rfl] at hx151_4)
        (try rw [Addr.add_zero'] at hx151_4)
        (try rw [show ((0 : Int)).toNat = 0 from rfl] at hx151_5)
        (try rw [show 0 * 7 = 0 from rfl] at hx151_5)
        (try rw [Addr.add_zero'] at hx151_5)
        (try rw [show ((0 : Int)).toNat = 0 from rfl] at hx151_6)
        (try rw [show 0 * 7 = 0 from rfl] at hx151_6)
        (try rw [Addr.add_zero'] at hx151_6)
        replace p151 := eq_true p151
        replace q151 := eq_true q151
        go_wp2
        go_meet
        case rel => exact ⟨_, ((((rd_T38 x4_1 0).f1.f2) != 2)), Z4, H', ⟨Z30⟩, ⟨Z10⟩, ⟨Z1⟩⟩
       ·
        rw [if_neg c45] at H
        have c45b0 : (((rd_T38 x4_1 0).f0).toList == ([47] : List UInt8)) = false := beq_eq_false_iff_ne.mpr c45
        have c45b1 : (((rd_T38 x4_1 0).f0).toList != ([47] : List UInt8)) = true := bne_iff_ne.mpr c45
        have H' := Aside0.mk H
        clear H
        obtain ⟨Ao47, co47, eo47⟩ := Kd.R_slice HO_4.out
        subst eo47
        have p150 : 0 ≤ (0 : Int) := Z3
        have q150 : 0 < (x4_1.length : Int) := of_decide_eq_true Z2
        obtain ⟨ad150, e150, hx150_0, hx150_1, hx150_2, hx150_3, hx150_4, hx150_5, hx150_6⟩ := at_T38 (Kd.R_reads' HO_4.out).2.2 0 p150 q150
        cases e150
        have qi150 : (0 < x4_1.length) = True := eq_true Z3
        (try rw [show ((0 : Int)).toNat = 0 from rfl] at hx150_0)
        (try rw [show 0 * 7 = 0 from rfl] at hx150_0)
        (try rw [Addr.add_zero'] at hx150_0)
        (try rw [show ((0 : Int)).toNat = 0 from rfl] at hx150_1)
        (try rw [show 0 * 7 = 0 from rfl] at hx150_1)
        (try rw [Addr.add_zero'] at hx150_1)
        (try rw [show ((0 : Int)).toNat = 0 from rfl] at hx150_2)
        (try rw [show 0 * 7 = 0 from rfl] at hx150_2)
        (try rw [Addr.add_zero'] at hx150_2)
        (try rw [show ((0 : Int)).toNat = 0 from rfl] at hx150_3)
        (try rw [show 0 * 7 = 0 from rfl] at hx150_3)
        (try rw [Addr.add_zero'] at hx150_3)
        (try rw [show ((0 : Int)).toNat = 0 from rfl] at hx150_4)
        (try rw [show 0 * 7 = 0 from rfl] at hx150_4)
        (try rw [Addr.add_zero'] at hx150_4)
        (try rw [show ((0 : Int)).toNat = 0 from rfl] at hx150_5)
        (try rw [show 0 * 7 = 0 from rfl] at hx150_5)
        (try rw [Addr.add_zero'] at hx150_5)
        (try rw [show ((0 : Int)).toNat = 0 from rfl] at hx150_6)
        (try rw [show 0 * 7 = 0 from rfl] at hx150_6)
        (try rw [Addr.add_zero'] at hx150_6)
        replace p150 := eq_true p150
        replace q150 := eq_true q150
        go_wp2
        go_meet
        case rel => exact ⟨_, (true), Z4, H', ⟨Z30⟩, ⟨Z10⟩, ⟨Z1⟩⟩
      ·
       rw [if_neg c44] at H
       exact absurd H Z23
    case rest =>
     clear HC41; try clear c1; try clear p1; try clear q1; try clear hx1; try clear qi1; try clear c2; try clear c2b0; try clear p2; try clear c3; try clear c4; try clear p6; try clear c12; try clear c12b0; try clear p13; try clear q13; try clear hx13; try clear p14; try clear q14; try clear hx14; try clear p15; try clear q15; try clear hx15; try clear qi15; try clear c16; try clear c19; try clear c20; try clear c21; try clear c23; try clear c24; try clear c25; try clear c30; try clear c34; try clear c36; try clear c36b0; try clear c37; try clear c37b0; try clear c38; try clear c42; try clear c42b0; try clear c42b1; try clear c42b2; try clear c44; try clear c44b0; try clear c44b1; try clear c45; try clear c45b0; try clear c45b1; try clear hx131_0; try clear hx131_1; try clear hx131_2; try clear hx131_3; try clear hx131_4; try clear hx131_5; try clear hx131_6; try clear hx132_0; try clear hx132_1; try clear hx132_2; try clear hx132_3; try clear hx132_4; try clear hx132_5; try clear hx132_6; try clear hx134_0; try clear hx134_1; try clear hx134_2; try clear hx134_3; try clear hx134_4; try clear hx134_5; try clear hx134_6; try clear hx138_0; try clear hx138_1; try clear hx138_2; try clear hx138_3; try clear hx138_4; try clear hx138_5; try clear hx138_6; try clear hx142_0; try clear hx142_1; try clear hx142_2; try clear hx142_3; try clear hx142_4; try clear hx142_5; try clear hx142_6; try clear hx146_0; try clear hx146_1; try clear hx146_2; try clear hx146_3; try clear hx146_4; try clear hx146_5; try clear hx146_6; try clear hx150_0; try clear hx150_1; try clear hx150_2; try clear hx150_3; try clear hx150_4; try clear hx150_5; try clear hx150_6; try clear hx151_0; try clear hx151_1; try clear hx151_2; try clear hx151_3; try clear hx151_4; try clear hx151_5; try clear hx151_6; try clear p131; try clear p132; try clear p134; try clear p138; try clear p142; try clear p146; try clear p150; try clear p151; try clear q131; try clear q132; try clear q134; try clear q138; try clear q142; try clear q146; try clear q150; try clear q151
     obtain ⟨kq, x100_40, rfl, HA, HJ40, HO_4, HB⟩ := hcut
     cases kq with
     | zero => exact absurd HA.out (by simp [r8_Normal.j3])
     | succ kj40 =>
      have H := HA.out
      clear HA
      simp only [r8_Normal.j3] at H
      by_cases c48 : x100_40 = true
      ·
       subst c48
       have H1 : (some (([] : List (S38)), 5)) = some (r1, r2) := by rw [if_pos rfl] at H; exact H
       clear H
       have H := H1
       clear H1
       simp only [Option.some.injEq, Prod.mk.injEq] at H
       obtain ⟨rfl, rfl⟩ := H
       go_wp2
       go_ret2
       exact ⟨_, Z12, Z17, Z1⟩
      ·
       replace c48 := Bool.eq_false_iff.mpr c48
       subst c48
       have H1 : Aside0 ((if 0 ≤ (x4_1.length : Int) then (if ((x4_1.length : Int) : Int).toNat ≤ 7036874417766 then (r8_Normal.l2 kj40 x4_1 (List.replicate ((x4_1.length : Int) : Int).toNat z36) 0) else (none)) else (none)) = some (r1, r2)) := ⟨by rw [if_neg (show ¬ (false = true) by decide)] at H; exact H⟩
       clear H
       rename_i Kr hKr Kc hKc
       refine hKc _ _ ?_
       clear hKc
       have HK2 := Aside0.mk hKr
       clear hKr
       go_wp2
       exact HK2.out _ _ (r8_Normal.half k k1 kj40 _ _ _ _ _ _ _ _ _ _ _ _ _ _ _ _ _ _ _ _ _ _ _ _ _ _ _ _ _ _ _ _ _ _ _ _ _ _ _ _ _ _ _ _ _ _ _ _ _ _ _ _ _ _ _ _ _ _ _ _ _ _ _ _ _ _ _ _ _ _ _ _ _ _ _ _ _ _ _ _ _ _ _ _ _ _ _ _ _ _ _ _ _ _ _ _ _ _ _ _ _ _ _ _ _ _ _ _ _ _ _ _ _ _ _ _ _ _ _ _ _ _ _ _ _ _ _ _ _ _ _ _ _ _ _ _ _ _ _ _ _ _ _ _ _ _ _ _ _ _ _ _ _ _ _ _ _ _ _ _ _ _ _ _ _ _ _ _ _ _ _ _ _ _ _ _ _ _ _ _ _ _ _ _ _ _ _ _ _ _ _ _ _ _ _ _ _ _ _ _ _ _ _ _ _ _ _ _ _ _ _ _ _ _ _ _ _ _ _ _ _ _ _ x4_1 r1 r2 w _ HK1 HJ40 HO_4 HB H1)
end Go.Proofs.YtkhblpmjmkhiiaaGreatDoor.PAll
