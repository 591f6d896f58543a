/- Printed by the kit's print.py, made shorter and regrouped by wip/tools/regroup.py. -/
import Derived.Test.YtkhblpmjmkhiiaaDoorQK2

namespace Go.Proofs.YtkhblpmjmkhiiaaDoor.PAll
open Go.RowKit Go.Proofs.YtkhblpmjmkhiiaaDoorW.PrintWords Go.Proofs.YtkhblpmjmkhiiaaDoorW.PrintLast Go.Proofs.YtkhblpmjmkhiiaaDoorW.PrintMore
attribute [local go_sem] max2_int min2_int max_two min_two max_three min_three max_four min_four
set_option linter.unusedVariables false
set_option linter.unusedSimpArgs false
set_option maxHeartbeats 8000000 in
set_option maxRecDepth 100000 in
theorem grapnelref18_Normal.calls (k : Nat) (A0 : Option Addr) (c0 : Nat) (l0 : List (S34)) (r1 : List (S34)) (r2 : Int) (w : World) (hr0 : Kd.C k34 w A0 l0.length l0) (hc0 : l0.length ≤ c0) (h : grapnelref18_Normal.f k l0 = some (r1, r2)) :
  Calls Tryd.prog 7 #[.slice A0 l0.length c0] w fun e w' => ∃ v0_ : Value, e = .returned (.tuple #[v0_, .int .i64 r2]) ∧ Kd.R k34 34 w' w.heap.size (fun _ => True) v0_ r1 ∧ Below w.heap.size w w' := by
 have hu34 := Tryd.underlying34
 have hu32 := Tryd.underlying32
 have HR0 := Aside0.mk hr0
 have HC0 := Aside0.mk hc0
 clear hr0 hc0
 have HB := Aside0.mk (Below.refl w.heap.size w)
 have H : (grapnelref18_Normal.l0 k l0 ([] : List (S34)) 0) = some (r1, r2) := h
 clear h
 have H' := Aside0.mk H
 clear H
 go_enter Tryd.func7, Tryd.ntmps7
 go_wp2
 go_loopg [4, 5] k (fun kq v4 v5 w' => ∃ (x4_1 : List (S34)) (x5_1 : Int), v5 = .int .i64 x5_1 ∧ Aside0 (grapnelref18_Normal.l0 kq l0 x4_1 x5_1 = some (r1, r2)) ∧ Aside0 (kq ≤ k) ∧ Aside0 (Kd.R k34 34 w' w.heap.size (fun _ => True) v4 x4_1) ∧ Aside0 (Below w.heap.size w w'))
 case atStart => exact ⟨(([] : List (S34))), (0), (by first | rfl | (simp; done) | (simp [*]; done)), H', ⟨Nat.le_refl _⟩, ⟨by first | exact Kd.R_nil _ _ _ _ _ | exact Kd.N_nil _ _ _ _ _ | exact Kd.V_nil _ _ _ _ _ | exact Kd.Q_nil _ _ _ _ _ | exact Kd.S_nil _ _ _ _ _⟩, ⟨by repeat (first | (with_reducible first | exact HB.out | apply below_alloc | apply pw_below_drewN | apply below_drew1) | exact HB.out)⟩⟩
 case round =>
  clear H'
  obtain ⟨x4_1, x5_1, rfl, HA, HK1, HO_4, HB⟩ := hrel
  cases gk with
  | zero => exact absurd HA.out (by simp [grapnelref18_Normal.l0])
  | succ k1 =>
   have H := HA.out
   clear HA
   simp only [grapnelref18_Normal.l0] at H
   by_cases c2 : x5_1 < (l0.length : Int)
   ·
    rw [if_pos c2] at H
    have c2b0 : decide (x5_1 < (l0.length : Int)) = true := decide_eq_true c2
    clear c2
    have HC3 := Aside0.mk H
    clear H
    go_upto_region 5 with (fail)
    go_cut [37] (fun v37 wc => ∃ (kq : Nat) (x37_2 : Bool), v37 = .bool x37_2 ∧ Aside0 (grapnelref18_Normal.j1 kq l0 x4_1 x5_1 x37_2 = some (r1, r2)) ∧ Aside0 (kq ≤ k1) ∧ Aside0 (Kd.R k34 34 wc w.heap.size (fun _ => True) u4 x4_1) ∧ Aside0 (Below w.heap.size w wc))
    case first =>
     have H := HC3.out
     clear HC3
     by_cases c4 : 0 ≤ x5_1
     ·
      rw [if_pos c4] at H
      have c4b0 : decide (0 ≤ x5_1) = true := decide_eq_true c4
      clear c4
      (first | rw [c4b0] | (simp only [i64_w, i32_w]; rw [c4b0]) | skip)
      replace H := Option.bind_eq_some_iff.mp H
      obtain ⟨t139, A50, H⟩ := H
      replace H : (if t139 = true then ((grapnelref18_Find.f k1 x4_1 ((rd_T34 l0 x5_1).f0)).bind fun t141 => (grapnelref18_Normal.j1 k1 l0 x4_1 x5_1 (decide (t141 ≥ 0)))) else (grapnelref18_Normal.j1 k1 l0 x4_1 x5_1 true)) = some (r1, r2) := H
      have A5 := Aside0.mk A50
      clear A50
      by_cases c6 : t139 = true
      ·
       subst c6
       have H1 : ((grapnelref18_Find.f k1 x4_1 ((rd_T34 l0 x5_1).f0)).bind fun t141 => (grapnelref18_Normal.j1 k1 l0 x4_1 x5_1 (decide (t141 ≥ 0)))) = some (r1, r2) := by rw [if_pos rfl] at H; exact H
       clear H
       have H := H1
       clear H1
       replace H := Option.bind_eq_some_iff.mp H
       obtain ⟨t141, A70, H⟩ := H
       replace H : (grapnelref18_Normal.j1 k1 l0 x4_1 x5_1 (decide (t141 ≥ 0))) = some (r1, r2) := H
       have A7 := Aside0.mk A70
       clear A70
       have H' := Aside0.mk H
       clear H
       have p138 : 0 ≤ (x5_1 : Int) := of_decide_eq_true (by first | (with_reducible assumption) | assumption)
       have q138 : x5_1 < (l0.length : Int) := of_decide_eq_true (by first | (with_reducible assumption) | assumption)
       obtain ⟨ad138, e138, hx138_0, hx138_1, hx138_2, hx138_3, hx138_4, hx138_5, hx138_6⟩ := at_T34 HR0.out x5_1 p138 q138
       cases e138
       replace hx138_0 := (HB.out.cell (World.block_lt_of_cell? w _ hx138_0)).trans hx138_0
       replace hx138_1 := (HB.out.cell (World.block_lt_of_cell? w _ hx138_1)).trans hx138_1
       replace hx138_2 := (HB.out.cell (World.block_lt_of_cell? w _ hx138_2)).trans hx138_2
       replace hx138_3 := (HB.out.cell (World.block_lt_of_cell? w _ hx138_3)).trans hx138_3
       replace hx138_4 := (HB.out.cell (World.block_lt_of_cell? w _ hx138_4)).trans hx138_4
       replace hx138_5 := (HB.out.cell (World.block_lt_of_cell? w _ hx138_5)).trans hx138_5
       replace hx138_6 := (HB.out.cell (World.block_lt_of_cell? w _ hx138_6)).trans hx138_6
       replace p138 := eq_true p138
       replace q138 := eq_true q138
       go_wp2_with (first | ((with_reducible refine gate_callee (f := 15) rfl ?_); refine goesL_ (some 26) rfl rfl Tryd.func15 (by kernel_rfl) rfl #[.agg #[.string ((rd_T34 l0 x5_1).f0), .int .i64 ((rd_T34 l0 x5_1).f1.f0), .int .i64 ((rd_T34 l0 x5_1).f1.f1), .int .i64 ((rd_T34 l0 x5_1).f1.f2), .int .i64 ((rd_T34 l0 x5_1).f1.f3), .int .i64 ((rd_T34 l0 x5_1).f1.f4), .string ((rd_T34 l0 x5_1).f2)]] rfl (by (try simp only [List.map_toArray, List.map_cons, List.map_nil]); first | done | rfl | (simp only [List.length_drop, List.length_take]; rfl)) ?_; (with_reducible refine (grapnelref18_may.calls k1 ((rd_T34 l0 x5_1).f0) ((rd_T34 l0 x5_1).f1.f0) ((rd_T34 l0 x5_1).f1.f1) ((rd_T34 l0 x5_1).f1.f2) ((rd_T34 l0 x5_1).f1.f3) ((rd_T34 l0 x5_1).f1.f4) ((rd_T34 l0 x5_1).f2) true _ A5.out).mono ?_); rintro e w8 ⟨rfl, hb⟩; refine ⟨_, rfl, ?_⟩; have n0_ := Aside0.mk (Kd.R_below (by (with_reducible repeat (first | apply Kd.R_alloc | apply Kd.R_drewN | apply Kd.R_drew)); exact HO_4.out) hb); have n1_ := Aside0.mk (below_step (by repeat (first | (with_reducible first | exact HB.out | apply below_alloc | apply pw_below_drewN | apply below_drew1) | exact HB.out)) hb); clear HO_4; clear HB; have HO_4 := n0_; have HB := n1_; clear n0_ n1_; (try clear hb); (try clear hb2); (try clear hk); (try clear hi); have p140 : 0 ≤ (x5_1 : Int) := of_decide_eq_true (by first | (with_reducible assumption) | assumption); have q140 : x5_1 < (l0.length : Int) := of_decide_eq_true (by first | (with_reducible assumption) | assumption); obtain ⟨ad140, e140, hx140_0, hx140_1, hx140_2, hx140_3, hx140_4, hx140_5, hx140_6⟩ := at_T34 HR0.out x5_1 p140 q140; obtain rfl : ad138 = ad140 := (by injection e140); replace hx140_0 := (HB.out.cell (World.block_lt_of_cell? w _ hx140_0)).trans hx140_0; replace hx140_1 := (HB.out.cell (World.block_lt_of_cell? w _ hx140_1)).trans hx140_1; replace hx140_2 := (HB.out.cell (World.block_lt_of_cell? w _ hx140_2)).trans hx140_2; replace hx140_3 := (HB.out.cell (World.block_lt_of_cell? w _ hx140_3)).trans hx140_3; replace hx140_4 := (HB.out.cell (World.block_lt_of_cell? w _ hx140_4)).trans hx140_4; replace hx140_5 := (HB.out.cell (World.block_lt_of_cell? w _ hx140_5)).trans hx140_5; replace hx140_6 := (HB.out.cell (World.block_lt_of_cell? w _ hx140_6)).trans hx140_6; replace p140 := eq_true p140; replace q140 := eq_true q140; obtain ⟨Ao9, co9, eo9⟩ := Kd.R_slice HO_4.out; subst eo9) | (go_at_call 16; (with_reducible refine (grapnelref18_Find.calls k1 _ _ x4_1 ((rd_T34 l0 x5_1).f0) t141 _ ?side1 ?side2 A7.out).mono ?_); (case side1 => repeat (first | exact (Kd.R_reads' HO_4.out).2.2 | (with_reducible refine Kd.C_alloc ?_ _) | (with_reducible refine Kd.C_drewN ?_ _) | (with_reducible refine Kd.C_drew ?_))); (case side2 => exact (Kd.R_reads' HO_4.out).2.1); rintro e w' ⟨rfl, ⟨nd, rfl⟩⟩))
       go_meet
       case rel => exact ⟨_, (decide (t141 ≥ 0)), (by first | rfl | (simp; done) | (simp [*]; done)), H', ⟨by have := HK1.out; first | omega | exact Nat.le_refl _⟩, ⟨by (with_reducible repeat (first | apply Kd.R_alloc | apply Kd.R_drewN | apply Kd.R_drew)); exact HO_4.out⟩, ⟨by repeat (first | (with_reducible first | exact HB.out | apply below_alloc | apply pw_below_drewN | apply below_drew1) | exact HB.out)⟩⟩
      ·
       replace c6 := Bool.eq_false_iff.mpr c6
       subst c6
       have H1 : (grapnelref18_Normal.j1 k1 l0 x4_1 x5_1 true) = some (r1, r2) := by rw [if_neg (show ¬ (false = true) by decide)] at H; exact H
       clear H
       have H := H1
       clear H1
       have H' := Aside0.mk H
       clear H
       have p138 : 0 ≤ (x5_1 : Int) := of_decide_eq_true (by first | (with_reducible assumption) | assumption)
       have q138 : x5_1 < (l0.length : Int) := of_decide_eq_true (by first | (with_reducible assumption) | assumption)
       obtain ⟨ad138, e138, hx138_0, hx138_1, hx138_2, hx138_3, hx138_4, hx138_5, hx138_6⟩ := at_T34 HR0.out x5_1 p138 q138
       cases e138
       replace hx138_0 := (HB.out.cell (World.block_lt_of_cell? w _ hx138_0)).trans hx138_0
       replace hx138_1 := (HB.out.cell (World.block_lt_of_cell? w _ hx138_1)).trans hx138_1
       replace hx138_2 := (HB.out.cell (World.block_lt_of_cell? w _ hx138_2)).trans hx138_2
       replace hx138_3 := (HB.out.cell (World.block_lt_of_cell? w _ hx138_3)).trans hx138_3
       replace hx138_4 := (HB.out.cell (World.block_lt_of_cell? w _ hx138_4)).trans hx138_4
       replace hx138_5 := (HB.out.cell (World.block_lt_of_cell? w _ hx138_5)).trans hx138_5
       replace hx138_6 := (HB.out.cell (World.block_lt_of_cell? w _ hx138_6)).trans hx138_6
       replace p138 := eq_true p138
       replace q138 := eq_true q138
       go_wp2_with (first | ((with_reducible refine gate_callee (f := 15) rfl ?_); refine goesL_ (some 26) rfl rfl Tryd.func15 (by kernel_rfl) rfl #[.agg #[.string ((rd_T34 l0 x5_1).f0), .int .i64 ((rd_T34 l0 x5_1).f1.f0), .int .i64 ((rd_T34 l0 x5_1).f1.f1), .int .i64 ((rd_T34 l0 x5_1).f1.f2), .int .i64 ((rd_T34 l0 x5_1).f1.f3), .int .i64 ((rd_T34 l0 x5_1).f1.f4), .string ((rd_T34 l0 x5_1).f2)]] rfl (by (try simp only [List.map_toArray, List.map_cons, List.map_nil]); first | done | rfl | (simp only [List.length_drop, List.length_take]; rfl)) ?_; (with_reducible refine (grapnelref18_may.calls k1 ((rd_T34 l0 x5_1).f0) ((rd_T34 l0 x5_1).f1.f0) ((rd_T34 l0 x5_1).f1.f1) ((rd_T34 l0 x5_1).f1.f2) ((rd_T34 l0 x5_1).f1.f3) ((rd_T34 l0 x5_1).f1.f4) ((rd_T34 l0 x5_1).f2) false _ A5.out).mono ?_); rintro e w10 ⟨rfl, hb⟩; refine ⟨_, rfl, ?_⟩; have n0_ := Aside0.mk (Kd.R_below (by (with_reducible repeat (first | apply Kd.R_alloc | apply Kd.R_drewN | apply Kd.R_drew)); exact HO_4.out) hb); have n1_ := Aside0.mk (below_step (by repeat (first | (with_reducible first | exact HB.out | apply below_alloc | apply pw_below_drewN | apply below_drew1) | exact HB.out)) hb); clear HO_4; clear HB; have HO_4 := n0_; have HB := n1_; clear n0_ n1_; (try clear hb); (try clear hb2); (try clear hk); (try clear hi)))
       go_meet
       case rel => exact ⟨_, (true), (by first | rfl | (simp; done) | (simp [*]; done)), H', ⟨by have := HK1.out; first | omega | exact Nat.le_refl _⟩, ⟨by (with_reducible repeat (first | apply Kd.R_alloc | apply Kd.R_drewN | apply Kd.R_drew)); exact HO_4.out⟩, ⟨by repeat (first | (with_reducible first | exact HB.out | apply below_alloc | apply pw_below_drewN | apply below_drew1) | exact HB.out)⟩⟩
     ·
      rw [if_neg c4] at H
      exact absurd H (by simp)
    case rest =>
     clear HC3; try clear c1; try clear p1; try clear q1; try clear hx1; try clear c2; try clear c2b0; try clear p2; try clear c4; try clear c4b0; try clear c6; try clear c7; try clear hx138_0; try clear hx138_1; try clear hx138_2; try clear hx138_3; try clear hx138_4; try clear hx138_5; try clear hx138_6; try clear hx140_0; try clear hx140_1; try clear hx140_2; try clear hx140_3; try clear hx140_4; try clear hx140_5; try clear hx140_6; try clear p138; try clear p140; try clear q138; try clear q140
     obtain ⟨kq, x37_2, rfl, HA, HJ2, HO_4, HB⟩ := hcut
     cases kq with
     | zero => exact absurd HA.out (by simp [grapnelref18_Normal.j1])
     | succ kj2 =>
      have H := HA.out
      clear HA
      simp only [grapnelref18_Normal.j1] at H
      by_cases c11 : x37_2 = true
      ·
       subst c11
       have H1 : (some (([] : List (S34)), 5)) = some (r1, r2) := by rw [if_pos rfl] at H; exact H
       clear H
       have H := H1
       clear H1
       simp only [Option.some.injEq, Prod.mk.injEq] at H
       obtain ⟨rfl, rfl⟩ := H
       go_wp2
       go_ret2
       exact ⟨_, by first | rfl | (simp [errW_none, errW_some] <;> rfl) | (simp [*, errW_none, errW_some] <;> rfl), by first | exact Kd.R_nil _ _ _ _ _ | exact Kd.N_nil _ _ _ _ _ | exact Kd.V_nil _ _ _ _ _ | exact Kd.Q_nil _ _ _ _ _ | exact Kd.S_nil _ _ _ _ _, by repeat (first | (with_reducible first | exact HB.out | apply below_alloc | apply pw_below_drewN | apply below_drew1) | exact HB.out)⟩
      ·
       replace c11 := Bool.eq_false_iff.mpr c11
       subst c11
       have H1 : (grapnelref18_Normal.l1 kj2 l0 x4_1 x5_1 ([] : List (S34)) false 0) = some (r1, r2) := by rw [if_neg (show ¬ (false = true) by decide)] at H; exact H
       clear H
       have H := H1
       clear H1
       have H' := Aside0.mk H
       clear H
       go_wp2
       go_loopg [6, 7, 8] kj2 (fun kq v6 v7 v8 w' => ∃ (x6_3 : List (S34)) (x7_3 : Bool) (x8_3 : Int), v7 = .bool x7_3 ∧ v8 = .int .i64 x8_3 ∧ Aside0 (grapnelref18_Normal.l1 kq l0 x4_1 x5_1 x6_3 x7_3 x8_3 = some (r1, r2)) ∧ Aside0 (kq ≤ kj2) ∧ Aside0 (Kd.R k34 34 w' w.heap.size (fun k_ => some k_ ≠ (v6 : Value).ownBlock) u4 x4_1) ∧ Aside0 (Kd.R k34 34 w' w.heap.size (fun k_ => some k_ ≠ (u4 : Value).ownBlock) v6 x6_3) ∧ Aside0 (Below w.heap.size w w'))
       case atStart => exact ⟨(([] : List (S34))), (false), (0), (by first | rfl | (simp; done) | (simp [*]; done)), (by first | rfl | (simp; done) | (simp [*]; done)), H', ⟨Nat.le_refl _⟩, ⟨by (with_reducible repeat (first | apply Kd.R_alloc | apply Kd.R_drewN | apply Kd.R_drew)); exact Kd.R_mono HO_4.out (fun _ hk => (by simp [Value.ownBlock]))⟩, ⟨by first | exact Kd.R_nil _ _ _ _ _ | exact Kd.N_nil _ _ _ _ _ | exact Kd.V_nil _ _ _ _ _ | exact Kd.Q_nil _ _ _ _ _ | exact Kd.S_nil _ _ _ _ _⟩, ⟨by repeat (first | (with_reducible first | exact HB.out | apply below_alloc | apply pw_below_drewN | apply below_drew1) | exact HB.out)⟩⟩
       case round =>
        clear H'
        try clear c1; try clear p1; try clear q1; try clear hx1; try clear c2; try clear c2b0; try clear p2; try clear c4; try clear c4b0; try clear c6; try clear c7; try clear c11; try clear hx138_0; try clear hx138_1; try clear hx138_2; try clear hx138_3; try clear hx138_4; try clear hx138_5; try clear hx138_6; try clear hx140_0; try clear hx140_1; try clear hx140_2; try clear hx140_3; try clear hx140_4; try clear hx140_5; try clear hx140_6; try clear p1; try clear p138; try clear p140; try clear p2; try clear q1; try clear q138; try clear q140
        obtain ⟨x6_3, x7_3, x8_3, rfl, rfl, HA, HK3, HO_4, HO_6, HB⟩ := hrel
        cases gk with
        | zero => exact absurd HA.out (by simp [grapnelref18_Normal.l1])
        | succ k3 =>
         have H := HA.out
         clear HA
         simp only [grapnelref18_Normal.l1] at H
         by_cases c12 : x8_3 < (x4_1.length : Int)
         ·
          rw [if_pos c12] at H
          have c12b0 : decide (x8_3 < (x4_1.length : Int)) = true := decide_eq_true c12
          clear c12
          by_cases c13 : x7_3 = true
          ·
           subst c13
           have H1 : (if 0 ≤ x8_3 then (if x6_3.length < 1954687338268 then (grapnelref18_Normal.l1 k3 l0 x4_1 x5_1 (x6_3 ++ [(⟨(rd_T34 x4_1 x8_3).f0, (⟨(rd_T34 x4_1 x8_3).f1.f0, (rd_T34 x4_1 x8_3).f1.f1, (rd_T34 x4_1 x8_3).f1.f2, (rd_T34 x4_1 x8_3).f1.f3, (rd_T34 x4_1 x8_3).f1.f4⟩ : S32), (rd_T34 x4_1 x8_3).f2⟩ : S34)]) true (wrap64 (x8_3 + 1))) else (none)) else (none)) = some (r1, r2) := by rw [if_pos rfl] at H; exact H
           clear H
           have H := H1
           clear H1
           by_cases c14 : 0 ≤ x8_3
           ·
            rw [if_pos c14] at H
            have c14b0 : decide (0 ≤ x8_3) = true := decide_eq_true c14
            clear c14
            by_cases c15 : x6_3.length < 1954687338268
            ·
             rw [if_pos c15] at H
             have LMc15 := Aside0.mk c15
             clear c15
             obtain ⟨y143, hy143⟩ : ∃ y_ : List (S34), y_ = (x6_3 ++ [(⟨(rd_T34 x4_1 x8_3).f0, (⟨(rd_T34 x4_1 x8_3).f1.f0, (rd_T34 x4_1 x8_3).f1.f1, (rd_T34 x4_1 x8_3).f1.f2, (rd_T34 x4_1 x8_3).f1.f3, (rd_T34 x4_1 x8_3).f1.f4⟩ : S32), (rd_T34 x4_1 x8_3).f2⟩ : S34)]) := ⟨_, rfl⟩
             replace H : (grapnelref18_Normal.l1 k3 l0 x4_1 x5_1 y143 true (wrap64 (x8_3 + 1))) = some (r1, r2) := by first | (rw [hy143]; with_reducible exact H) | (have H2_ := (Option.bind_some _ _).symm.trans H; rw [hy143]; with_reducible exact H2_) | (have H2_ := (Option.bind_some _ _).symm.trans H; with_reducible exact H2_) | with_reducible exact H | (rw [hy143]; exact H) | exact H
             have Ny143 := Aside0.mk hy143
             clear hy143
             have H' := Aside0.mk H
             clear H
             obtain ⟨Ao16, co16, eo16⟩ := Kd.R_slice HO_4.out
             subst eo16
             try go_wp2
             have n0_ := Aside0.mk (Kd.R_drew HO_4.out)
             have n1_ := Aside0.mk (Kd.R_drew HO_6.out)
             have n2_ := Aside0.mk (below_drew1 HB.out)
             clear HO_4; clear HO_6; clear HB
             have HO_4 := n0_
             have HO_6 := n1_
             have HB := n2_
             clear n0_ n1_ n2_
             refine start_ (n := 15) (S := fun w' => True) (ds := []) #[false, false, false, false, false, false, false, false, false, false, false, false, false, false, false] (by kernel_rfl) rfl rfl trivial (fun hHeld => ?_); refine with_tabW grapnelref18_Normal.tab12 grapnelref18_Normal.bits12 (fun HT_ HW_ => ?_)
             generalize wr.drew = w17 at HO_4 HO_6 HB hHeld ⊢
             refine pure_ (i := 0) (N := some 44) (v := ?_) (a' := ?_) #[true, false, false, false, false, false, false, false, false, false, false, false, false, false, false] rfl rfl (any_of HT_.out (by kernel_rfl)) (fun _ _ _ h => h) (Or.inl ⟨by rfl, ?_⟩) ?_ ?_
             rotate_left; · intro w'; go_simp; with_reducible rfl
             rotate_left; · simp only [Act.put, List.setIfInBounds_toArray, List.set_cons_zero, List.set_cons_succ, i64_w, i32_w]; rfl
             refine pure_ (i := 1) (N := some 45) (v := ?_) (a' := ?_) #[true, true, false, false, false, false, false, false, false, false, false, false, false, false, false] rfl rfl (any_of HT_.out (by kernel_rfl)) (fun _ _ _ h => h) (Or.inl ⟨by rfl, ?_⟩) ?_ ?_
             rotate_left; · intro w'; go_simp; with_reducible rfl
             rotate_left; · simp only [Act.put, List.setIfInBounds_toArray, List.set_cons_zero, List.set_cons_succ, i64_w, i32_w]; rfl
             refine pure_ (i := 2) (N := some 46) (v := ?_) (a' := ?_) #[true, true, true, false, false, false, false, false, false, false, false, false, false, false, false] rfl rfl (any_of HT_.out (by kernel_rfl)) (fun _ _ _ h => h) (Or.inl ⟨by rfl, ?_⟩) ?_ ?_
             rotate_left; · intro w'; go_simp; with_reducible rfl
             rotate_left; · simp only [Act.put, List.setIfInBounds_toArray, List.set_cons_zero, List.set_cons_succ, i64_w, i32_w]; rfl
             refine pure_ (i := 3) (N := some 47) (v := undef) (a' := ?_) #[true, true, true, true, false, false, false, false, false, false, false, false, false, false, false] rfl rfl (any_of HT_.out (by kernel_rfl)) (fun _ _ _ h => h) (Or.inr ⟨by rfl, rfl⟩) ?_ ?_
             rotate_left; · simp only [Act.put, List.setIfInBounds_toArray, List.set_cons_zero, List.set_cons_succ, i64_w, i32_w]; rfl
             refine pure_ (i := 4) (N := some 48) (v := undef) (a' := ?_) #[true, true, true, true, true, false, false, false, false, false, false, false, false, false, false] rfl rfl (any_of HT_.out (by kernel_rfl)) (fun _ _ _ h => h) (Or.inr ⟨by rfl, rfl⟩) ?_ ?_
             rotate_left; · simp only [Act.put, List.setIfInBounds_toArray, List.set_cons_zero, List.set_cons_succ, i64_w, i32_w]; rfl
             refine pure_ (i := 5) (N := some 49) (v := undef) (a' := ?_) #[true, true, true, true, true, true, false, false, false, false, false, false, false, false, false] rfl rfl (any_of HT_.out (by kernel_rfl)) (fun _ _ _ h => h) (Or.inr ⟨by rfl, rfl⟩) ?_ ?_
             rotate_left; · simp only [Act.put, List.setIfInBounds_toArray, List.set_cons_zero, List.set_cons_succ, i64_w, i32_w]; rfl
             refine pure_ (i := 6) (N := some 50) (v := undef) (a' := ?_) #[true, true, true, true, true, true, true, false, false, false, false, false, false, false, false] rfl rfl (any_of HT_.out (by kernel_rfl)) (fun _ _ _ h => h) (Or.inr ⟨by rfl, rfl⟩) ?_ ?_
             rotate_left; · simp only [Act.put, List.setIfInBounds_toArray, List.set_cons_zero, List.set_cons_succ, i64_w, i32_w]; rfl
             refine pure_ (i := 7) (N := some 51) (v := undef) (a' := ?_) #[true, true, true, true, true, true, true, true, false, false, false, false, false, false, false] rfl rfl (any_of HT_.out (by kernel_rfl)) (fun _ _ _ h => h) (Or.inr ⟨by rfl, rfl⟩) ?_ ?_
             rotate_left; · simp only [Act.put, List.setIfInBounds_toArray, List.set_cons_zero, List.set_cons_succ, i64_w, i32_w]; rfl
             refine pure_ (i := 8) (N := some 52) (v := undef) (a' := ?_) #[true, true, true, true, true, true, true, true, true, false, false, false, false, false, false] rfl rfl (any_of HT_.out (by kernel_rfl)) (fun _ _ _ h => h) (Or.inr ⟨by rfl, rfl⟩) ?_ ?_
             rotate_left; · simp only [Act.put, List.setIfInBounds_toArray, List.set_cons_zero, List.set_cons_succ, i64_w, i32_w]; rfl
             refine pure_ (i := 9) (N := some 53) (v := undef) (a' := ?_) #[true, true, true, true, true, true, true, true, true, true, false, false, false, false, false] rfl rfl (any_of HT_.out (by kernel_rfl)) (fun _ _ _ h => h) (Or.inr ⟨by rfl, rfl⟩) ?_ ?_
             rotate_left; · simp only [Act.put, List.setIfInBounds_toArray, List.set_cons_zero, List.set_cons_succ, i64_w, i32_w]; rfl
             refine pure_ (i := 10) (N := some 54) (v := undef) (a' := ?_) #[true, true, true, true, true, true, true, true, true, true, true, false, false, false, false] rfl rfl (any_of HT_.out (by kernel_rfl)) (fun _ _ _ h => h) (Or.inr ⟨by rfl, rfl⟩) ?_ ?_
             rotate_left; · simp only [Act.put, List.setIfInBounds_toArray, List.set_cons_zero, List.set_cons_succ, i64_w, i32_w]; rfl
             refine pure_ (i := 11) (N := some 55) (v := undef) (a' := ?_) #[true, true, true, true, true, true, true, true, true, true, true, true, false, false, false] rfl rfl (any_of HT_.out (by kernel_rfl)) (fun _ _ _ h => h) (Or.inr ⟨by rfl, rfl⟩) ?_ ?_
             rotate_left; · simp only [Act.put, List.setIfInBounds_toArray, List.set_cons_zero, List.set_cons_succ, i64_w, i32_w]; rfl
             refine pure_ (i := 12) (N := some 56) (v := undef) (a' := ?_) #[true, true, true, true, true, true, true, true, true, true, true, true, true, false, false] rfl rfl (any_of HT_.out (by kernel_rfl)) (fun _ _ _ h => h) (Or.inr ⟨by rfl, rfl⟩) ?_ ?_
             rotate_left; · simp only [Act.put, List.setIfInBounds_toArray, List.set_cons_zero, List.set_cons_succ, i64_w, i32_w]; rfl
             refine pure_ (i := 13) (N := some 57) (v := undef) (a' := ?_) #[true, true, true, true, true, true, true, true, true, true, true, true, true, true, false] rfl rfl (any_of HT_.out (by kernel_rfl)) (fun _ _ _ h => h) (Or.inr ⟨by rfl, rfl⟩) ?_ ?_
             rotate_left; · simp only [Act.put, List.setIfInBounds_toArray, List.set_cons_zero, List.set_cons_succ, i64_w, i32_w]; rfl
             refine pure_ (i := 14) (N := some 58) (v := ?_) (a' := ?_) #[true, true, true, true, true, true, true, true, true, true, true, true, true, true, true] rfl rfl (any_of HT_.out (by kernel_rfl)) (fun _ _ _ h => h) (Or.inl ⟨by rfl, ?_⟩) ?_ ?_
             rotate_left; · intro w'; go_simp; with_reducible rfl
             rotate_left; · simp only [Act.put, List.setIfInBounds_toArray, List.set_cons_zero, List.set_cons_succ, i64_w, i32_w]; rfl
             refine done_ (done_of HT_.out (by kernel_rfl)) ?_
             have p142 : 0 ≤ (x8_3 : Int) := of_decide_eq_true (by first | (with_reducible assumption) | assumption)
             have q142 : x8_3 < (x4_1.length : Int) := of_decide_eq_true (by first | (with_reducible assumption) | assumption)
             obtain ⟨ad142, e142, hx142_0, hx142_1, hx142_2, hx142_3, hx142_4, hx142_5, hx142_6⟩ := at_T34 (Kd.R_reads' HO_4.out).2.2 x8_3 p142 q142
             cases e142
             replace p142 := eq_true p142
             replace q142 := eq_true q142
             try go_wp2_with (first | ((with_reducible refine gate_builtin (b := .append) (xs := #[.tmp 66, .tmp 71]) rfl ?_); at_builtin; refine Kd.R_append k34 (w0 := w) w.heap.size rfl (.tmp 66) (.tmp 71) 22 34 (.agg #[(.string ⟨#[]⟩), (.int .i64 0), (.int .i64 0), (.int .i64 0), (.int .i64 0), (.int .i64 0), (.string ⟨#[]⟩)]) 72 rfl Tryd.underlying22 info34 rfl (by decide) (by omega) u6 x6_3 (⟨(rd_T34 x4_1 x8_3).f0, (⟨(rd_T34 x4_1 x8_3).f1.f0, (rd_T34 x4_1 x8_3).f1.f1, (rd_T34 x4_1 x8_3).f1.f2, (rd_T34 x4_1 x8_3).f1.f3, (rd_T34 x4_1 x8_3).f1.f4⟩ : S32), (rd_T34 x4_1 x8_3).f2⟩ : S34) [.string ((rd_T34 x4_1 x8_3).f0), .int .i64 ((rd_T34 x4_1 x8_3).f1.f0), .int .i64 ((rd_T34 x4_1 x8_3).f1.f1), .int .i64 ((rd_T34 x4_1 x8_3).f1.f2), .int .i64 ((rd_T34 x4_1 x8_3).f1.f3), .int .i64 ((rd_T34 x4_1 x8_3).f1.f4), .string ((rd_T34 x4_1 x8_3).f2)] (fun k_ => some k_ ≠ (.slice (some ad142) x4_1.length co16 : Value).ownBlock) (fun _ => False) rfl rfl ?aP (fun _ hk => hk.elim) ?aF ?aO ?aB ?aS ?aL ?_; (case aP => exact k34_mkM _ _ _ (⟨(rd_T34 x4_1 x8_3).f0, (⟨(rd_T34 x4_1 x8_3).f1.f0, (rd_T34 x4_1 x8_3).f1.f1, (rd_T34 x4_1 x8_3).f1.f2, (rd_T34 x4_1 x8_3).f1.f3, (rd_T34 x4_1 x8_3).f1.f4⟩ : S32), (rd_T34 x4_1 x8_3).f2⟩ : S34)); (case aB => exact (by repeat (first | (with_reducible first | exact HB.out | apply below_alloc | apply pw_below_drewN | apply below_drew1) | exact HB.out))); (case aF => exact (fun k_ hk => Kd.fresh' (Kd.R_lt (by (with_reducible repeat (first | apply Kd.R_alloc | apply Kd.R_drewN | apply Kd.R_drew)); exact HO_4.out)) k_ hk)); (case aO => exact (by (with_reducible repeat (first | apply Kd.R_alloc | apply Kd.R_drewN | apply Kd.R_drew)); exact HO_6.out)); (case aS => exact (below_size (by repeat (first | (with_reducible first | exact HB.out | apply below_alloc | apply pw_below_drewN | apply below_drew1) | exact HB.out)))); (case aL => have := LMc15.out; omega); intro v144 w18 ho hb hg hat; rw [← Ny143.out] at ho; have n0_ := Aside0.mk (Kd.R_after (ok := (fun _ => True)) (by (with_reducible repeat (first | apply Kd.R_alloc | apply Kd.R_drewN | apply Kd.R_drew)); exact Kd.R_mono HO_4.out (fun _ hk => ⟨trivial, hk⟩)) hg hat); have n1_ := Aside0.mk (hb); have n2_ := Aside0.mk (ho); clear HO_4; clear HB; clear HO_6; have HO_4 := n0_; have HB := n1_; have HO145 := n2_; clear n0_ n1_ n2_; clear ho hb hg hat))
             go_roundg k3
             case measure => have := HK1.out; have := HJ2.out; have := HK3.out; omega
             case rel => exact ⟨(y143), (true), (wrap64 (x8_3 + 1)), (by first | rfl | (simp; done) | (simp [*]; done)), (by first | rfl | (simp; done) | (simp [*]; done)), H', ⟨by have := HK1.out; have := HJ2.out; have := HK3.out; omega⟩, ⟨by (with_reducible repeat (first | apply Kd.R_alloc | apply Kd.R_drewN | apply Kd.R_drew)); exact Kd.R_mono HO_4.out (fun _ hk => hk.2)⟩, ⟨by (with_reducible repeat (first | apply Kd.R_alloc | apply Kd.R_drewN | apply Kd.R_drew)); exact HO145.out⟩, ⟨by repeat (first | (with_reducible first | exact HB.out | apply below_alloc | apply pw_below_drewN | apply below_drew1) | exact HB.out)⟩⟩
            ·
             rw [if_neg c15] at H
             exact absurd H (by simp)
           ·
            rw [if_neg c14] at H
            exact absurd H (by simp)
          ·
           replace c13 := Bool.eq_false_iff.mpr c13
           subst c13
           have H1 : (if 0 ≤ x5_1 then (if x5_1 < (l0.length : Int) then (if 0 ≤ x8_3 then ((grapnelref18_Less.f k3 ((rd_T34 l0 x5_1).f0) ((rd_T34 x4_1 x8_3).f0)).bind fun t148 => (if t148 = true then (if x6_3.length < 1954687338268 then ((some (x6_3 ++ [(⟨(rd_T34 l0 x5_1).f0, (⟨(rd_T34 l0 x5_1).f1.f0, (rd_T34 l0 x5_1).f1.f1, (rd_T34 l0 x5_1).f1.f2, (rd_T34 l0 x5_1).f1.f3, (rd_T34 l0 x5_1).f1.f4⟩ : S32), (rd_T34 l0 x5_1).f2⟩ : S34)] : List (S34))).bind fun y150 => (if y150.length < 1954687338268 then (grapnelref18_Normal.l1 k3 l0 x4_1 x5_1 (y150 ++ [(⟨(rd_T34 x4_1 x8_3).f0, (⟨(rd_T34 x4_1 x8_3).f1.f0, (rd_T34 x4_1 x8_3).f1.f1, (rd_T34 x4_1 x8_3).f1.f2, (rd_T34 x4_1 x8_3).f1.f3, (rd_T34 x4_1 x8_3).f1.f4⟩ : S32), (rd_T34 x4_1 x8_3).f2⟩ : S34)]) true (wrap64 (x8_3 + 1))) else (none))) else (none)) else (if x6_3.length < 1954687338268 then (grapnelref18_Normal.l1 k3 l0 x4_1 x5_1 (x6_3 ++ [(⟨(rd_T34 x4_1 x8_3).f0, (⟨(rd_T34 x4_1 x8_3).f1.f0, (rd_T34 x4_1 x8_3).f1.f1, (rd_T34 x4_1 x8_3).f1.f2, (rd_T34 x4_1 x8_3).f1.f3, (rd_T34 x4_1 x8_3).f1.f4⟩ : S32), (rd_T34 x4_1 x8_3).f2⟩ : S34)]) false (wrap64 (x8_3 + 1))) else (none)))) else (none)) else (none)) else (none)) = some (r1, r2) := by rw [if_neg (show ¬ (false = true) by decide)] at H; exact H
           clear H
           have H := H1
           clear H1
           by_cases c19 : 0 ≤ x5_1
           ·
            rw [if_pos c19] at H
            have c19b0 : decide (0 ≤ x5_1) = true := decide_eq_true c19
            clear c19
            by_cases c20 : x5_1 < (l0.length : Int)
            ·
             rw [if_pos c20] at H
             have c20b0 : decide (x5_1 < (l0.length : Int)) = true := decide_eq_true c20
             clear c20
             by_cases c21 : 0 ≤ x8_3
             ·
              rw [if_pos c21] at H
              have c21b0 : decide (0 ≤ x8_3) = true := decide_eq_true c21
              clear c21
              replace H := Option.bind_eq_some_iff.mp H
              obtain ⟨t148, A220, H⟩ := H
              replace H : (if t148 = true then (if x6_3.length < 1954687338268 then ((some (x6_3 ++ [(⟨(rd_T34 l0 x5_1).f0, (⟨(rd_T34 l0 x5_1).f1.f0, (rd_T34 l0 x5_1).f1.f1, (rd_T34 l0 x5_1).f1.f2, (rd_T34 l0 x5_1).f1.f3, (rd_T34 l0 x5_1).f1.f4⟩ : S32), (rd_T34 l0 x5_1).f2⟩ : S34)] : List (S34))).bind fun y150 => (if y150.length < 1954687338268 then (grapnelref18_Normal.l1 k3 l0 x4_1 x5_1 (y150 ++ [(⟨(rd_T34 x4_1 x8_3).f0, (⟨(rd_T34 x4_1 x8_3).f1.f0, (rd_T34 x4_1 x8_3).f1.f1, (rd_T34 x4_1 x8_3).f1.f2, (rd_T34 x4_1 x8_3).f1.f3, (rd_T34 x4_1 x8_3).f1.f4⟩ : S32), (rd_T34 x4_1 x8_3).f2⟩ : S34)]) true (wrap64 (x8_3 + 1))) else (none))) else (none)) else (if x6_3.length < 1954687338268 then (grapnelref18_Normal.l1 k3 l0 x4_1 x5_1 (x6_3 ++ [(⟨(rd_T34 x4_1 x8_3).f0, (⟨(rd_T34 x4_1 x8_3).f1.f0, (rd_T34 x4_1 x8_3).f1.f1, (rd_T34 x4_1 x8_3).f1.f2, (rd_T34 x4_1 x8_3).f1.f3, (rd_T34 x4_1 x8_3).f1.f4⟩ : S32), (rd_T34 x4_1 x8_3).f2⟩ : S34)]) false (wrap64 (x8_3 + 1))) else (none))) = some (r1, r2) := H
              have A22 := Aside0.mk A220
              clear A220
              by_cases c23 : t148 = true
              ·
               subst c23
               have H1 : (if x6_3.length < 1954687338268 then ((some (x6_3 ++ [(⟨(rd_T34 l0 x5_1).f0, (⟨(rd_T34 l0 x5_1).f1.f0, (rd_T34 l0 x5_1).f1.f1, (rd_T34 l0 x5_1).f1.f2, (rd_T34 l0 x5_1).f1.f3, (rd_T34 l0 x5_1).f1.f4⟩ : S32), (rd_T34 l0 x5_1).f2⟩ : S34)] : List (S34))).bind fun y150 => (if y150.length < 1954687338268 then (grapnelref18_Normal.l1 k3 l0 x4_1 x5_1 (y150 ++ [(⟨(rd_T34 x4_1 x8_3).f0, (⟨(rd_T34 x4_1 x8_3).f1.f0, (rd_T34 x4_1 x8_3).f1.f1, (rd_T34 x4_1 x8_3).f1.f2, (rd_T34 x4_1 x8_3).f1.f3, (rd_T34 x4_1 x8_3).f1.f4⟩ : S32), (rd_T34 x4_1 x8_3).f2⟩ : S34)]) true (wrap64 (x8_3 + 1))) else (none))) else (none)) = some (r1, r2) := by rw [if_pos rfl] at H; exact H
               clear H
               have H := H1
               clear H1
               by_cases c24 : x6_3.length < 1954687338268
               ·
                rw [if_pos c24] at H
                have LMc24 := Aside0.mk c24
                clear c24
                obtain ⟨y150, hy150⟩ : ∃ y_ : List (S34), y_ = (x6_3 ++ [(⟨(rd_T34 l0 x5_1).f0, (⟨(rd_T34 l0 x5_1).f1.f0, (rd_T34 l0 x5_1).f1.f1, (rd_T34 l0 x5_1).f1.f2, (rd_T34 l0 x5_1).f1.f3, (rd_T34 l0 x5_1).f1.f4⟩ : S32), (rd_T34 l0 x5_1).f2⟩ : S34)]) := ⟨_, rfl⟩
                replace H : (if y150.length < 1954687338268 then (grapnelref18_Normal.l1 k3 l0 x4_1 x5_1 (y150 ++ [(⟨(rd_T34 x4_1 x8_3).f0, (⟨(rd_T34 x4_1 x8_3).f1.f0, (rd_T34 x4_1 x8_3).f1.f1, (rd_T34 x4_1 x8_3).f1.f2, (rd_T34 x4_1 x8_3).f1.f3, (rd_T34 x4_1 x8_3).f1.f4⟩ : S32), (rd_T34 x4_1 x8_3).f2⟩ : S34)]) true (wrap64 (x8_3 + 1))) else (none)) = some (r1, r2) := by first | (rw [hy150]; with_reducible exact H) | (have H2_ := (Option.bind_some _ _).symm.trans H; rw [hy150]; with_reducible exact H2_) | (have H2_ := (Option.bind_some _ _).symm.trans H; with_reducible exact H2_) | with_reducible exact H | (rw [hy150]; exact H) | exact H
                have Ny150 := Aside0.mk hy150
                clear hy150
                by_cases c25 : y150.length < 1954687338268
                ·
                 rw [if_pos c25] at H
                 have LMc25 := Aside0.mk c25
                 clear c25
                 obtain ⟨y154, hy154⟩ : ∃ y_ : List (S34), y_ = (y150 ++ [(⟨(rd_T34 x4_1 x8_3).f0, (⟨(rd_T34 x4_1 x8_3).f1.f0, (rd_T34 x4_1 x8_3).f1.f1, (rd_T34 x4_1 x8_3).f1.f2, (rd_T34 x4_1 x8_3).f1.f3, (rd_T34 x4_1 x8_3).f1.f4⟩ : S32), (rd_T34 x4_1 x8_3).f2⟩ : S34)]) := ⟨_, rfl⟩
                 replace H : (grapnelref18_Normal.l1 k3 l0 x4_1 x5_1 y154 true (wrap64 (x8_3 + 1))) = some (r1, r2) := by first | (rw [hy154]; with_reducible exact H) | (have H2_ := (Option.bind_some _ _).symm.trans H; rw [hy154]; with_reducible exact H2_) | (have H2_ := (Option.bind_some _ _).symm.trans H; with_reducible exact H2_) | with_reducible exact H | (rw [hy154]; exact H) | exact H
                 have Ny154 := Aside0.mk hy154
                 clear hy154
                 have H' := Aside0.mk H
                 clear H
                 obtain ⟨Ao26, co26, eo26⟩ := Kd.R_slice HO_4.out
                 subst eo26
                 try go_wp2
                 have n0_ := Aside0.mk (Kd.R_drew HO_4.out)
                 have n1_ := Aside0.mk (Kd.R_drew HO_6.out)
                 have n2_ := Aside0.mk (below_drew1 HB.out)
                 clear HO_4; clear HO_6; clear HB
                 have HO_4 := n0_
                 have HO_6 := n1_
                 have HB := n2_
                 clear n0_ n1_ n2_
                 have p146 : 0 ≤ (x5_1 : Int) := of_decide_eq_true (by first | (with_reducible assumption) | assumption)
                 have q146 : x5_1 < (l0.length : Int) := of_decide_eq_true (by first | (with_reducible assumption) | assumption)
                 obtain ⟨ad146, e146, hx146_0, hx146_1, hx146_2, hx146_3, hx146_4, hx146_5, hx146_6⟩ := at_T34 HR0.out x5_1 p146 q146
                 have hw146_6 := hx146_6
                 have hw146_5 := hx146_5
                 have hw146_4 := hx146_4
                 have hw146_3 := hx146_3
                 have hw146_2 := hx146_2
                 have hw146_1 := hx146_1
                 have hw146_0 := hx146_0
                 cases e146
                 replace hx146_0 := (HB.out.cell (World.block_lt_of_cell? w _ hx146_0)).trans hx146_0
                 replace hx146_1 := (HB.out.cell (World.block_lt_of_cell? w _ hx146_1)).trans hx146_1
                 replace hx146_2 := (HB.out.cell (World.block_lt_of_cell? w _ hx146_2)).trans hx146_2
                 replace hx146_3 := (HB.out.cell (World.block_lt_of_cell? w _ hx146_3)).trans hx146_3
                 replace hx146_4 := (HB.out.cell (World.block_lt_of_cell? w _ hx146_4)).trans hx146_4
                 replace hx146_5 := (HB.out.cell (World.block_lt_of_cell? w _ hx146_5)).trans hx146_5
                 replace hx146_6 := (HB.out.cell (World.block_lt_of_cell? w _ hx146_6)).trans hx146_6
                 replace p146 := eq_true p146
                 replace q146 := eq_true q146
                 have p147 : 0 ≤ (x8_3 : Int) := of_decide_eq_true (by first | (with_reducible assumption) | assumption)
                 have q147 : x8_3 < (x4_1.length : Int) := of_decide_eq_true (by first | (with_reducible assumption) | assumption)
                 obtain ⟨ad147, e147, hx147_0, hx147_1, hx147_2, hx147_3, hx147_4, hx147_5, hx147_6⟩ := at_T34 (Kd.R_reads' HO_4.out).2.2 x8_3 p147 q147
                 cases e147
                 replace p147 := eq_true p147
                 replace q147 := eq_true q147
                 refine start_ (n := 15) (S := fun w' => w'.cell? (ad146.add ((x5_1).toNat * 7)) = some (.string ((rd_T34 l0 x5_1).f0)) ∧ w'.cell? ⟨(ad146.add ((x5_1).toNat * 7)).block, (ad146.add ((x5_1).toNat * 7)).off + 1, none⟩ = some (.int .i64 ((rd_T34 l0 x5_1).f1.f0)) ∧ w'.cell? ⟨(ad146.add ((x5_1).toNat * 7)).block, (ad146.add ((x5_1).toNat * 7)).off + 2, none⟩ = some (.int .i64 ((rd_T34 l0 x5_1).f1.f1)) ∧ w'.cell? ⟨(ad146.add ((x5_1).toNat * 7)).block, (ad146.add ((x5_1).toNat * 7)).off + 3, none⟩ = some (.int .i64 ((rd_T34 l0 x5_1).f1.f2)) ∧ w'.cell? ⟨(ad146.add ((x5_1).toNat * 7)).block, (ad146.add ((x5_1).toNat * 7)).off + 4, none⟩ = some (.int .i64 ((rd_T34 l0 x5_1).f1.f3)) ∧ w'.cell? ⟨(ad146.add ((x5_1).toNat * 7)).block, (ad146.add ((x5_1).toNat * 7)).off + 5, none⟩ = some (.int .i64 ((rd_T34 l0 x5_1).f1.f4)) ∧ w'.cell? ⟨(ad146.add ((x5_1).toNat * 7)).block, (ad146.add ((x5_1).toNat * 7)).off + 6, none⟩ = some (.string ((rd_T34 l0 x5_1).f2)) ∧ w'.cell? (ad147.add ((x8_3).toNat * 7)) = some (.string ((rd_T34 x4_1 x8_3).f0)) ∧ w'.cell? ⟨(ad147.add ((x8_3).toNat * 7)).block, (ad147.add ((x8_3).toNat * 7)).off + 1, none⟩ = some (.int .i64 ((rd_T34 x4_1 x8_3).f1.f0)) ∧ w'.cell? ⟨(ad147.add ((x8_3).toNat * 7)).block, (ad147.add ((x8_3).toNat * 7)).off + 2, none⟩ = some (.int .i64 ((rd_T34 x4_1 x8_3).f1.f1)) ∧ w'.cell? ⟨(ad147.add ((x8_3).toNat * 7)).block, (ad147.add ((x8_3).toNat * 7)).off + 3, none⟩ = some (.int .i64 ((rd_T34 x4_1 x8_3).f1.f2)) ∧ w'.cell? ⟨(ad147.add ((x8_3).toNat * 7)).block, (ad147.add ((x8_3).toNat * 7)).off + 4, none⟩ = some (.int .i64 ((rd_T34 x4_1 x8_3).f1.f3)) ∧ w'.cell? ⟨(ad147.add ((x8_3).toNat * 7)).block, (ad147.add ((x8_3).toNat * 7)).off + 5, none⟩ = some (.int .i64 ((rd_T34 x4_1 x8_3).f1.f4)) ∧ w'.cell? ⟨(ad147.add ((x8_3).toNat * 7)).block, (ad147.add ((x8_3).toNat * 7)).off + 6, none⟩ = some (.string ((rd_T34 x4_1 x8_3).f2))) (ds := []) #[false, false, false, false, false, false, false, false, false, false, false, false, false, false, false] (by kernel_rfl) rfl rfl ⟨((HB.out.cell (World.block_lt_of_cell? w _ hw146_0)).trans hw146_0), ((HB.out.cell (World.block_lt_of_cell? w _ hw146_1)).trans hw146_1), ((HB.out.cell (World.block_lt_of_cell? w _ hw146_2)).trans hw146_2), ((HB.out.cell (World.block_lt_of_cell? w _ hw146_3)).trans hw146_3), ((HB.out.cell (World.block_lt_of_cell? w _ hw146_4)).trans hw146_4), ((HB.out.cell (World.block_lt_of_cell? w _ hw146_5)).trans hw146_5), ((HB.out.cell (World.block_lt_of_cell? w _ hw146_6)).trans hw146_6), hx147_0, hx147_1, hx147_2, hx147_3, hx147_4, hx147_5, hx147_6⟩ (fun hHeld => ?_); refine with_tabW grapnelref18_Normal.tab12 grapnelref18_Normal.bits12 (fun HT_ HW_ => ?_)
                 generalize wr.drew = w27 at HO_4 HO_6 HB hx146_0 hx146_1 hx146_2 hx146_3 hx146_4 hx146_5 hx146_6 hx147_0 hx147_1 hx147_2 hx147_3 hx147_4 hx147_5 hx147_6 hHeld ⊢
                 refine pure_ (i := 0) (N := some 44) (v := ?_) (a' := ?_) #[true, false, false, false, false, false, false, false, false, false, false, false, false, false, false] rfl rfl (any_of HT_.out (by kernel_rfl)) (fun _ _ _ h => h) (Or.inl ⟨by rfl, ?_⟩) ?_ ?_
                 rotate_left; · intro w'; go_simp; with_reducible rfl
                 rotate_left; · simp only [Act.put, List.setIfInBounds_toArray, List.set_cons_zero, List.set_cons_succ, i64_w, i32_w]; rfl
                 refine pure_ (i := 1) (N := some 45) (v := ?_) (a' := ?_) #[true, true, false, false, false, false, false, false, false, false, false, false, false, false, false] rfl rfl (any_of HT_.out (by kernel_rfl)) (fun _ _ _ h => h) (Or.inl ⟨by rfl, ?_⟩) ?_ ?_
                 rotate_left; · intro w'; go_simp; with_reducible rfl
                 rotate_left; · simp only [Act.put, List.setIfInBounds_toArray, List.set_cons_zero, List.set_cons_succ, i64_w, i32_w]; rfl
                 refine pure_ (i := 2) (N := some 46) (v := ?_) (a' := ?_) #[true, true, true, false, false, false, false, false, false, false, false, false, false, false, false] rfl rfl (any_of HT_.out (by kernel_rfl)) (fun _ _ _ h => h) (Or.inl ⟨by rfl, ?_⟩) ?_ ?_
                 rotate_left; · intro w'; go_simp; with_reducible rfl
                 rotate_left; · simp only [Act.put, List.setIfInBounds_toArray, List.set_cons_zero, List.set_cons_succ, i64_w, i32_w]; rfl
                 refine pure_ (i := 3) (N := some 47) (v := ?_) (a' := ?_) #[true, true, true, true, false, false, false, false, false, false, false, false, false, false, false] rfl rfl (any_of HT_.out (by kernel_rfl)) (fun _ _ _ h => h) (Or.inl ⟨by rfl, ?_⟩) ?_ ?_
                 rotate_left; · intro w'; go_simp; with_reducible rfl
                 rotate_left; · simp only [Act.put, List.setIfInBounds_toArray, List.set_cons_zero, List.set_cons_succ, i64_w, i32_w]; rfl
                 refine pure_ (i := 4) (N := some 48) (v := ?_) (a' := ?_) #[true, true, true, true, true, false, false, false, false, false, false, false, false, false, false] rfl rfl (any_of HT_.out (by kernel_rfl)) (fun _ _ _ h => h) (Or.inl ⟨by rfl, ?_⟩) ?_ ?_
                 rotate_left; · intro w'; go_simp; with_reducible rfl
                 rotate_left; · simp only [Act.put, List.setIfInBounds_toArray, List.set_cons_zero, List.set_cons_succ, i64_w, i32_w]; rfl
                 refine pure_ (i := 5) (N := some 49) (v := ?_) (a' := ?_) #[true, true, true, true, true, true, false, false, false, false, false, false, false, false, false] rfl rfl (any_of HT_.out (by kernel_rfl)) (fun _ _ _ h => h) (Or.inl ⟨by rfl, ?_⟩) ?_ ?_
                 rotate_left; · intro w'; go_simp; with_reducible rfl
                 rotate_left; · simp only [Act.put, List.setIfInBounds_toArray, List.set_cons_zero, List.set_cons_succ, i64_w, i32_w]; rfl
                 refine pure_ (i := 6) (N := some 50) (v := ?_) (a' := ?_) #[true, true, true, true, true, true, true, false, false, false, false, false, false, false, false] rfl rfl (any_of HT_.out (by kernel_rfl)) (fun _ _ _ h => h) (Or.inl ⟨by rfl, ?_⟩) ?_ ?_
                 rotate_left; · intro w'; go_simp; with_reducible rfl
                 rotate_left; · simp only [Act.put, List.setIfInBounds_toArray, List.set_cons_zero, List.set_cons_succ, i64_w, i32_w]; rfl
                 refine pure_ (i := 8) (N := some 52) (v := ?_) (a' := ?_) #[true, true, true, true, true, true, true, false, true, false, false, false, false, false, false] rfl rfl (any_of HT_.out (by kernel_rfl)) (fun _ _ _ h => h) (Or.inl ⟨by rfl, ?_⟩) ?_ ?_
                 rotate_left; · intro w'; go_simp; with_reducible rfl
                 rotate_left; · simp only [Act.put, List.setIfInBounds_toArray, List.set_cons_zero, List.set_cons_succ, i64_w, i32_w]; rfl
                 refine pure_ (i := 9) (N := some 53) (v := ?_) (a' := ?_) #[true, true, true, true, true, true, true, false, true, true, false, false, false, false, false] rfl rfl (any_of HT_.out (by kernel_rfl)) (fun _ _ _ h => h) (Or.inl ⟨by rfl, ?_⟩) ?_ ?_
                 rotate_left; · intro w'; go_simp; with_reducible rfl
                 rotate_left; · simp only [Act.put, List.setIfInBounds_toArray, List.set_cons_zero, List.set_cons_succ, i64_w, i32_w]; rfl
                 refine pure_ (i := 10) (N := some 54) (v := ?_) (a' := ?_) #[true, true, true, true, true, true, true, false, true, true, true, false, false, false, false] rfl rfl (any_of HT_.out (by kernel_rfl)) (fun _ _ _ h => h) (Or.inl ⟨by rfl, ?_⟩) ?_ ?_
                 rotate_left; · intro w'; go_simp; with_reducible rfl
                 rotate_left; · simp only [Act.put, List.setIfInBounds_toArray, List.set_cons_zero, List.set_cons_succ, i64_w, i32_w]; rfl
                 refine pure_ (i := 11) (N := some 55) (v := ?_) (a' := ?_) #[true, true, true, true, true, true, true, false, true, true, true, true, false, false, false] rfl rfl (any_of HT_.out (by kernel_rfl)) (fun _ _ _ h => h) (Or.inl ⟨by rfl, ?_⟩) ?_ ?_
                 rotate_left; · intro w'; go_simp; with_reducible rfl
                 rotate_left; · simp only [Act.put, List.setIfInBounds_toArray, List.set_cons_zero, List.set_cons_succ, i64_w, i32_w]; rfl
                 refine take_ (i := 7) (N := some 51) (v := ?_) (a' := ?_) #[true, true, true, true, true, true, true, true, true, true, true, true, false, false, false] rfl rfl (take_ofW HT_.out HW_.out (by kernel_rfl)) (fun _ _ _ h => h) (Or.inl ⟨by rfl, ?_⟩) hHeld ?_ ?_
                 rotate_left
                 ·
                  rintro w' ⟨s0, s1, s2, s3, s4, s5, s6, s7, s8, s9, s10, s11, s12, s13⟩
                  go_simp
                  with_reducible rfl
                 rotate_left; · simp only [Act.put, List.setIfInBounds_toArray, List.set_cons_zero, List.set_cons_succ, i64_w, i32_w]; rfl
                 refine take_ (i := 12) (N := some 56) (v := ?_) (a' := ?_) #[true, true, true, true, true, true, true, true, true, true, true, true, true, false, false] rfl rfl (take_ofW HT_.out HW_.out (by kernel_rfl)) (fun _ _ _ h => h) (Or.inl ⟨by rfl, ?_⟩) hHeld ?_ ?_
                 rotate_left
                 ·
                  rintro w' ⟨s0, s1, s2, s3, s4, s5, s6, s7, s8, s9, s10, s11, s12, s13⟩
                  go_simp
                  with_reducible rfl
                 rotate_left; · simp only [Act.put, List.setIfInBounds_toArray, List.set_cons_zero, List.set_cons_succ, i64_w, i32_w]; rfl
                 refine one_ (i := 13) (N := some 57) #[true, true, true, true, true, true, true, true, true, true, true, true, true, true, false] rfl rfl (one_of HT_.out (by kernel_rfl)) (by decide) (fun K hK => ?_)
                 refine goes_ Tryd.func17 (by kernel_rfl) rfl #[.string ((rd_T34 l0 x5_1).f0), .string ((rd_T34 x4_1 x8_3).f0)] (by rfl) rfl rfl (by (try simp only [List.map_toArray, List.map_cons, List.map_nil]); first | done | rfl | (simp only [List.length_drop, List.length_take]; rfl)) ?_
                 with_reducible refine (grapnelref18_Less.calls k3 ((rd_T34 l0 x5_1).f0) ((rd_T34 x4_1 x8_3).f0) true _ A22.out).mono ?_
                 rintro e w' ⟨rfl, ⟨nd, rfl⟩⟩
                 refine ⟨_, rfl, ?_⟩
                 refine hK.out _ _ ⟨((HB.out.cell (World.block_lt_of_cell? w _ hw146_0)).trans hw146_0), ((HB.out.cell (World.block_lt_of_cell? w _ hw146_1)).trans hw146_1), ((HB.out.cell (World.block_lt_of_cell? w _ hw146_2)).trans hw146_2), ((HB.out.cell (World.block_lt_of_cell? w _ hw146_3)).trans hw146_3), ((HB.out.cell (World.block_lt_of_cell? w _ hw146_4)).trans hw146_4), ((HB.out.cell (World.block_lt_of_cell? w _ hw146_5)).trans hw146_5), ((HB.out.cell (World.block_lt_of_cell? w _ hw146_6)).trans hw146_6), hHeld.2.2.2.2.2.2.2.1, hHeld.2.2.2.2.2.2.2.2.1, hHeld.2.2.2.2.2.2.2.2.2.1, hHeld.2.2.2.2.2.2.2.2.2.2.1, hHeld.2.2.2.2.2.2.2.2.2.2.2.1, hHeld.2.2.2.2.2.2.2.2.2.2.2.2.1, hHeld.2.2.2.2.2.2.2.2.2.2.2.2.2⟩ (fun hHeld => ?_)
                 clear hK K
                 refine norm_ (a' := ?_) ?_ ?_
                 rotate_left
                 ·
                  show Act.put _ (some 57) _ = _
                  simp only [Act.put, List.setIfInBounds_toArray, List.set_cons_zero, List.set_cons_succ, i64_w, i32_w]
                  rfl
                 refine pure_ (i := 14) (N := some 58) (v := ?_) (a' := ?_) #[true, true, true, true, true, true, true, true, true, true, true, true, true, true, true] rfl rfl (any_of HT_.out (by kernel_rfl)) (fun _ _ _ h => h) (Or.inl ⟨by rfl, ?_⟩) ?_ ?_
                 rotate_left; · intro w'; go_simp; with_reducible rfl
                 rotate_left; · simp only [Act.put, List.setIfInBounds_toArray, List.set_cons_zero, List.set_cons_succ, i64_w, i32_w]; rfl
                 refine done_ (done_of HT_.out (by kernel_rfl)) ?_
                 have p149 : 0 ≤ (x5_1 : Int) := of_decide_eq_true (by first | (with_reducible assumption) | assumption)
                 have q149 : x5_1 < (l0.length : Int) := of_decide_eq_true (by first | (with_reducible assumption) | assumption)
                 obtain ⟨ad149, e149, hx149_0, hx149_1, hx149_2, hx149_3, hx149_4, hx149_5, hx149_6⟩ := at_T34 HR0.out x5_1 p149 q149
                 obtain rfl : ad146 = ad149 := (by injection e149)
                 replace hx149_0 := (HB.out.cell (World.block_lt_of_cell? w _ hx149_0)).trans hx149_0
                 replace hx149_1 := (HB.out.cell (World.block_lt_of_cell? w _ hx149_1)).trans hx149_1
                 replace hx149_2 := (HB.out.cell (World.block_lt_of_cell? w _ hx149_2)).trans hx149_2
                 replace hx149_3 := (HB.out.cell (World.block_lt_of_cell? w _ hx149_3)).trans hx149_3
                 replace hx149_4 := (HB.out.cell (World.block_lt_of_cell? w _ hx149_4)).trans hx149_4
                 replace hx149_5 := (HB.out.cell (World.block_lt_of_cell? w _ hx149_5)).trans hx149_5
                 replace hx149_6 := (HB.out.cell (World.block_lt_of_cell? w _ hx149_6)).trans hx149_6
                 replace p149 := eq_true p149
                 replace q149 := eq_true q149
                 try go_wp2_with (first | ((with_reducible refine gate_builtin (b := .append) (xs := #[.tmp 59, .tmp 64]) rfl ?_); at_builtin; refine Kd.R_append k34 (w0 := w) w.heap.size rfl (.tmp 59) (.tmp 64) 22 34 (.agg #[(.string ⟨#[]⟩), (.int .i64 0), (.int .i64 0), (.int .i64 0), (.int .i64 0), (.int .i64 0), (.string ⟨#[]⟩)]) 72 rfl Tryd.underlying22 info34 rfl (by decide) (by omega) u6 x6_3 (⟨(rd_T34 l0 x5_1).f0, (⟨(rd_T34 l0 x5_1).f1.f0, (rd_T34 l0 x5_1).f1.f1, (rd_T34 l0 x5_1).f1.f2, (rd_T34 l0 x5_1).f1.f3, (rd_T34 l0 x5_1).f1.f4⟩ : S32), (rd_T34 l0 x5_1).f2⟩ : S34) [.string ((rd_T34 l0 x5_1).f0), .int .i64 ((rd_T34 l0 x5_1).f1.f0), .int .i64 ((rd_T34 l0 x5_1).f1.f1), .int .i64 ((rd_T34 l0 x5_1).f1.f2), .int .i64 ((rd_T34 l0 x5_1).f1.f3), .int .i64 ((rd_T34 l0 x5_1).f1.f4), .string ((rd_T34 l0 x5_1).f2)] (fun k_ => some k_ ≠ (.slice (some ad147) x4_1.length co26 : Value).ownBlock) (fun _ => False) rfl rfl ?aP (fun _ hk => hk.elim) ?aF ?aO ?aB ?aS ?aL ?_; (case aP => exact k34_mkM _ _ _ (⟨(rd_T34 l0 x5_1).f0, (⟨(rd_T34 l0 x5_1).f1.f0, (rd_T34 l0 x5_1).f1.f1, (rd_T34 l0 x5_1).f1.f2, (rd_T34 l0 x5_1).f1.f3, (rd_T34 l0 x5_1).f1.f4⟩ : S32), (rd_T34 l0 x5_1).f2⟩ : S34)); (case aB => exact (by repeat (first | (with_reducible first | exact HB.out | apply below_alloc | apply pw_below_drewN | apply below_drew1) | exact HB.out))); (case aF => exact (fun k_ hk => Kd.fresh' (Kd.R_lt (by (with_reducible repeat (first | apply Kd.R_alloc | apply Kd.R_drewN | apply Kd.R_drew)); exact HO_4.out)) k_ hk)); (case aO => exact (by (with_reducible repeat (first | apply Kd.R_alloc | apply Kd.R_drewN | apply Kd.R_drew)); exact HO_6.out)); (case aS => exact (below_size (by repeat (first | (with_reducible first | exact HB.out | apply below_alloc | apply pw_below_drewN | apply below_drew1) | exact HB.out)))); (case aL => have := LMc24.out; omega); intro v151 w28 ho hb hg hat; rw [← Ny150.out] at ho; have n0_ := Aside0.mk (Kd.R_after (ok := (fun _ => True)) (by (with_reducible repeat (first | apply Kd.R_alloc | apply Kd.R_drewN | apply Kd.R_drew)); exact Kd.R_mono HO_4.out (fun _ hk => ⟨trivial, hk⟩)) hg hat); have n1_ := Aside0.mk (hb); have n2_ := Aside0.mk (ho); clear HO_4; clear HB; clear HO_6; have HO_4 := n0_; have HB := n1_; have HO152 := n2_; clear n0_ n1_ n2_; clear ho hb hg hat; have p153 : 0 ≤ (x8_3 : Int) := of_decide_eq_true (by first | (with_reducible assumption) | assumption); have q153 : x8_3 < (x4_1.length : Int) := of_decide_eq_true (by first | (with_reducible assumption) | assumption); obtain ⟨ad153, e153, hx153_0, hx153_1, hx153_2, hx153_3, hx153_4, hx153_5, hx153_6⟩ := at_T34 (Kd.R_reads' HO_4.out).2.2 x8_3 p153 q153; obtain rfl : ad147 = ad153 := (by injection e153); replace p153 := eq_true p153; replace q153 := eq_true q153) | ((with_reducible refine gate_builtin (b := .append) (xs := #[.tmp 66, .tmp 71]) rfl ?_); at_builtin; refine Kd.R_append k34 (w0 := w) w.heap.size rfl (.tmp 66) (.tmp 71) 22 34 (.agg #[(.string ⟨#[]⟩), (.int .i64 0), (.int .i64 0), (.int .i64 0), (.int .i64 0), (.int .i64 0), (.string ⟨#[]⟩)]) 72 rfl Tryd.underlying22 info34 rfl (by decide) (by omega) v151 y150 (⟨(rd_T34 x4_1 x8_3).f0, (⟨(rd_T34 x4_1 x8_3).f1.f0, (rd_T34 x4_1 x8_3).f1.f1, (rd_T34 x4_1 x8_3).f1.f2, (rd_T34 x4_1 x8_3).f1.f3, (rd_T34 x4_1 x8_3).f1.f4⟩ : S32), (rd_T34 x4_1 x8_3).f2⟩ : S34) [.string ((rd_T34 x4_1 x8_3).f0), .int .i64 ((rd_T34 x4_1 x8_3).f1.f0), .int .i64 ((rd_T34 x4_1 x8_3).f1.f1), .int .i64 ((rd_T34 x4_1 x8_3).f1.f2), .int .i64 ((rd_T34 x4_1 x8_3).f1.f3), .int .i64 ((rd_T34 x4_1 x8_3).f1.f4), .string ((rd_T34 x4_1 x8_3).f2)] (fun k_ => some k_ ≠ (.slice (some ad147) x4_1.length co26 : Value).ownBlock) (fun _ => False) rfl rfl ?aP (fun _ hk => hk.elim) ?aF ?aO ?aB ?aS ?aL ?_; (case aP => exact k34_mkM _ _ _ (⟨(rd_T34 x4_1 x8_3).f0, (⟨(rd_T34 x4_1 x8_3).f1.f0, (rd_T34 x4_1 x8_3).f1.f1, (rd_T34 x4_1 x8_3).f1.f2, (rd_T34 x4_1 x8_3).f1.f3, (rd_T34 x4_1 x8_3).f1.f4⟩ : S32), (rd_T34 x4_1 x8_3).f2⟩ : S34)); (case aB => exact (by repeat (first | (with_reducible first | exact HB.out | apply below_alloc | apply pw_below_drewN | apply below_drew1) | exact HB.out))); (case aF => exact (fun k_ hk => Kd.fresh' (Kd.R_lt (by (with_reducible repeat (first | apply Kd.R_alloc | apply Kd.R_drewN | apply Kd.R_drew)); exact HO_4.out)) k_ hk)); (case aO => exact (by (with_reducible repeat (first | apply Kd.R_alloc | apply Kd.R_drewN | apply Kd.R_drew)); exact HO152.out)); (case aS => exact (below_size (by repeat (first | (with_reducible first | exact HB.out | apply below_alloc | apply pw_below_drewN | apply below_drew1) | exact HB.out)))); (case aL => have := LMc25.out; omega); intro v155 w29 ho hb hg hat; rw [← Ny154.out] at ho; have n0_ := Aside0.mk (Kd.R_after (ok := (fun _ => True)) (by (with_reducible repeat (first | apply Kd.R_alloc | apply Kd.R_drewN | apply Kd.R_drew)); exact HO_4.out) hg hat); have n1_ := Aside0.mk (hb); have n2_ := Aside0.mk (ho); clear HO_4; clear HB; clear HO152; have HO_4 := n0_; have HB := n1_; have HO156 := n2_; clear n0_ n1_ n2_; clear ho hb hg hat))
                 go_roundg k3
                 case measure => have := HK1.out; have := HJ2.out; have := HK3.out; omega
                 case rel => exact ⟨(y154), (true), (wrap64 (x8_3 + 1)), (by first | rfl | (simp; done) | (simp [*]; done)), (by first | rfl | (simp; done) | (simp [*]; done)), H', ⟨by have := HK1.out; have := HJ2.out; have := HK3.out; omega⟩, ⟨by (with_reducible repeat (first | apply Kd.R_alloc | apply Kd.R_drewN | apply Kd.R_drew)); exact Kd.R_mono HO_4.out (fun _ hk => hk.2)⟩, ⟨by (with_reducible repeat (first | apply Kd.R_alloc | apply Kd.R_drewN | apply Kd.R_drew)); exact HO156.out⟩, ⟨by repeat (first | (with_reducible first | exact HB.out | apply below_alloc | apply pw_below_drewN | apply below_drew1) | exact HB.out)⟩⟩
                ·
                 rw [if_neg c25] at H
                 exact absurd H (by simp)
               ·
                rw [if_neg c24] at H
                exact absurd H (by simp)
              ·
               replace c23 := Bool.eq_false_iff.mpr c23
               subst c23
               have H1 : (if x6_3.length < 1954687338268 then (grapnelref18_Normal.l1 k3 l0 x4_1 x5_1 (x6_3 ++ [(⟨(rd_T34 x4_1 x8_3).f0, (⟨(rd_T34 x4_1 x8_3).f1.f0, (rd_T34 x4_1 x8_3).f1.f1, (rd_T34 x4_1 x8_3).f1.f2, (rd_T34 x4_1 x8_3).f1.f3, (rd_T34 x4_1 x8_3).f1.f4⟩ : S32), (rd_T34 x4_1 x8_3).f2⟩ : S34)]) false (wrap64 (x8_3 + 1))) else (none)) = some (r1, r2) := by rw [if_neg (show ¬ (false = true) by decide)] at H; exact H
               clear H
               have H := H1
               clear H1
               by_cases c30 : x6_3.length < 1954687338268
               ·
                rw [if_pos c30] at H
                have LMc30 := Aside0.mk c30
                clear c30
                obtain ⟨y158, hy158⟩ : ∃ y_ : List (S34), y_ = (x6_3 ++ [(⟨(rd_T34 x4_1 x8_3).f0, (⟨(rd_T34 x4_1 x8_3).f1.f0, (rd_T34 x4_1 x8_3).f1.f1, (rd_T34 x4_1 x8_3).f1.f2, (rd_T34 x4_1 x8_3).f1.f3, (rd_T34 x4_1 x8_3).f1.f4⟩ : S32), (rd_T34 x4_1 x8_3).f2⟩ : S34)]) := ⟨_, rfl⟩
                replace H : (grapnelref18_Normal.l1 k3 l0 x4_1 x5_1 y158 false (wrap64 (x8_3 + 1))) = some (r1, r2) := by first | (rw [hy158]; with_reducible exact H) | (have H2_ := (Option.bind_some _ _).symm.trans H; rw [hy158]; with_reducible exact H2_) | (have H2_ := (Option.bind_some _ _).symm.trans H; with_reducible exact H2_) | with_reducible exact H | (rw [hy158]; exact H) | exact H
                have Ny158 := Aside0.mk hy158
                clear hy158
                have H' := Aside0.mk H
                clear H
                obtain ⟨Ao31, co31, eo31⟩ := Kd.R_slice HO_4.out
                subst eo31
                try go_wp2
                have n0_ := Aside0.mk (Kd.R_drew HO_4.out)
                have n1_ := Aside0.mk (Kd.R_drew HO_6.out)
                have n2_ := Aside0.mk (below_drew1 HB.out)
                clear HO_4; clear HO_6; clear HB
                have HO_4 := n0_
                have HO_6 := n1_
                have HB := n2_
                clear n0_ n1_ n2_
                have p146 : 0 ≤ (x5_1 : Int) := of_decide_eq_true (by first | (with_reducible assumption) | assumption)
                have q146 : x5_1 < (l0.length : Int) := of_decide_eq_true (by first | (with_reducible assumption) | assumption)
                obtain ⟨ad146, e146, hx146_0, hx146_1, hx146_2, hx146_3, hx146_4, hx146_5, hx146_6⟩ := at_T34 HR0.out x5_1 p146 q146
                have hw146_6 := hx146_6
                have hw146_5 := hx146_5
                have hw146_4 := hx146_4
                have hw146_3 := hx146_3
                have hw146_2 := hx146_2
                have hw146_1 := hx146_1
                have hw146_0 := hx146_0
                cases e146
                replace hx146_0 := (HB.out.cell (World.block_lt_of_cell? w _ hx146_0)).trans hx146_0
                replace hx146_1 := (HB.out.cell (World.block_lt_of_cell? w _ hx146_1)).trans hx146_1
                replace hx146_2 := (HB.out.cell (World.block_lt_of_cell? w _ hx146_2)).trans hx146_2
                replace hx146_3 := (HB.out.cell (World.block_lt_of_cell? w _ hx146_3)).trans hx146_3
                replace hx146_4 := (HB.out.cell (World.block_lt_of_cell? w _ hx146_4)).trans hx146_4
                replace hx146_5 := (HB.out.cell (World.block_lt_of_cell? w _ hx146_5)).trans hx146_5
                replace hx146_6 := (HB.out.cell (World.block_lt_of_cell? w _ hx146_6)).trans hx146_6
                replace p146 := eq_true p146
                replace q146 := eq_true q146
                have p147 : 0 ≤ (x8_3 : Int) := of_decide_eq_true (by first | (with_reducible assumption) | assumption)
                have q147 : x8_3 < (x4_1.length : Int) := of_decide_eq_true (by first | (with_reducible assumption) | assumption)
                obtain ⟨ad147, e147, hx147_0, hx147_1, hx147_2, hx147_3, hx147_4, hx147_5, hx147_6⟩ := at_T34 (Kd.R_reads' HO_4.out).2.2 x8_3 p147 q147
                cases e147
                replace p147 := eq_true p147
                replace q147 := eq_true q147
                refine start_ (n := 15) (S := fun w' => w'.cell? (ad146.add ((x5_1).toNat * 7)) = some (.string ((rd_T34 l0 x5_1).f0)) ∧ w'.cell? ⟨(ad146.add ((x5_1).toNat * 7)).block, (ad146.add ((x5_1).toNat * 7)).off + 1, none⟩ = some (.int .i64 ((rd_T34 l0 x5_1).f1.f0)) ∧ w'.cell? ⟨(ad146.add ((x5_1).toNat * 7)).block, (ad146.add ((x5_1).toNat * 7)).off + 2, none⟩ = some (.int .i64 ((rd_T34 l0 x5_1).f1.f1)) ∧ w'.cell? ⟨(ad146.add ((x5_1).toNat * 7)).block, (ad146.add ((x5_1).toNat * 7)).off + 3, none⟩ = some (.int .i64 ((rd_T34 l0 x5_1).f1.f2)) ∧ w'.cell? ⟨(ad146.add ((x5_1).toNat * 7)).block, (ad146.add ((x5_1).toNat * 7)).off + 4, none⟩ = some (.int .i64 ((rd_T34 l0 x5_1).f1.f3)) ∧ w'.cell? ⟨(ad146.add ((x5_1).toNat * 7)).block, (ad146.add ((x5_1).toNat * 7)).off + 5, none⟩ = some (.int .i64 ((rd_T34 l0 x5_1).f1.f4)) ∧ w'.cell? ⟨(ad146.add ((x5_1).toNat * 7)).block, (ad146.add ((x5_1).toNat * 7)).off + 6, none⟩ = some (.string ((rd_T34 l0 x5_1).f2)) ∧ w'.cell? (ad147.add ((x8_3).toNat * 7)) = some (.string ((rd_T34 x4_1 x8_3).f0)) ∧ w'.cell? ⟨(ad147.add ((x8_3).toNat * 7)).block, (ad147.add ((x8_3).toNat * 7)).off + 1, none⟩ = some (.int .i64 ((rd_T34 x4_1 x8_3).f1.f0)) ∧ w'.cell? ⟨(ad147.add ((x8_3).toNat * 7)).block, (ad147.add ((x8_3).toNat * 7)).off + 2, none⟩ = some (.int .i64 ((rd_T34 x4_1 x8_3).f1.f1)) ∧ w'.cell? ⟨(ad147.add ((x8_3).toNat * 7)).block, (ad147.add ((x8_3).toNat * 7)).off + 3, none⟩ = some (.int .i64 ((rd_T34 x4_1 x8_3).f1.f2)) ∧ w'.cell? ⟨(ad147.add ((x8_3).toNat * 7)).block, (ad147.add ((x8_3).toNat * 7)).off + 4, none⟩ = some (.int .i64 ((rd_T34 x4_1 x8_3).f1.f3)) ∧ w'.cell? ⟨(ad147.add ((x8_3).toNat * 7)).block, (ad147.add ((x8_3).toNat * 7)).off + 5, none⟩ = some (.int .i64 ((rd_T34 x4_1 x8_3).f1.f4)) ∧ w'.cell? ⟨(ad147.add ((x8_3).toNat * 7)).block, (ad147.add ((x8_3).toNat * 7)).off + 6, none⟩ = some (.string ((rd_T34 x4_1 x8_3).f2))) (ds := []) #[false, false, false, false, false, false, false, false, false, false, false, false, false, false, false] (by kernel_rfl) rfl rfl ⟨((HB.out.cell (World.block_lt_of_cell? w _ hw146_0)).trans hw146_0), ((HB.out.cell (World.block_lt_of_cell? w _ hw146_1)).trans hw146_1), ((HB.out.cell (World.block_lt_of_cell? w _ hw146_2)).trans hw146_2), ((HB.out.cell (World.block_lt_of_cell? w _ hw146_3)).trans hw146_3), ((HB.out.cell (World.block_lt_of_cell? w _ hw146_4)).trans hw146_4), ((HB.out.cell (World.block_lt_of_cell? w _ hw146_5)).trans hw146_5), ((HB.out.cell (World.block_lt_of_cell? w _ hw146_6)).trans hw146_6), hx147_0, hx147_1, hx147_2, hx147_3, hx147_4, hx147_5, hx147_6⟩ (fun hHeld => ?_); refine with_tabW grapnelref18_Normal.tab12 grapnelref18_Normal.bits12 (fun HT_ HW_ => ?_)
                generalize wr.drew = w32 at HO_4 HO_6 HB hx146_0 hx146_1 hx146_2 hx146_3 hx146_4 hx146_5 hx146_6 hx147_0 hx147_1 hx147_2 hx147_3 hx147_4 hx147_5 hx147_6 hHeld ⊢
                refine pure_ (i := 0) (N := some 44) (v := ?_) (a' := ?_) #[true, false, false, false, false, false, false, false, false, false, false, false, false, false, false] rfl rfl (any_of HT_.out (by kernel_rfl)) (fun _ _ _ h => h) (Or.inl ⟨by rfl, ?_⟩) ?_ ?_
                rotate_left; · intro w'; go_simp; with_reducible rfl
                rotate_left; · simp only [Act.put, List.setIfInBounds_toArray, List.set_cons_zero, List.set_cons_succ, i64_w, i32_w]; rfl
                refine pure_ (i := 1) (N := some 45) (v := ?_) (a' := ?_) #[true, true, false, false, false, false, false, false, false, false, false, false, false, false, false] rfl rfl (any_of HT_.out (by kernel_rfl)) (fun _ _ _ h => h) (Or.inl ⟨by rfl, ?_⟩) ?_ ?_
                rotate_left; · intro w'; go_simp; with_reducible rfl
                rotate_left; · simp only [Act.put, List.setIfInBounds_toArray, List.set_cons_zero, List.set_cons_succ, i64_w, i32_w]; rfl
                refine pure_ (i := 2) (N := some 46) (v := ?_) (a' := ?_) #[true, true, true, false, false, false, false, false, false, false, false, false, false, false, false] rfl rfl (any_of HT_.out (by kernel_rfl)) (fun _ _ _ h => h) (Or.inl ⟨by rfl, ?_⟩) ?_ ?_
                rotate_left; · intro w'; go_simp; with_reducible rfl
                rotate_left; · simp only [Act.put, List.setIfInBounds_toArray, List.set_cons_zero, List.set_cons_succ, i64_w, i32_w]; rfl
                refine pure_ (i := 3) (N := some 47) (v := ?_) (a' := ?_) #[true, true, true, true, false, false, false, false, false, false, false, false, false, false, false] rfl rfl (any_of HT_.out (by kernel_rfl)) (fun _ _ _ h => h) (Or.inl ⟨by rfl, ?_⟩) ?_ ?_
                rotate_left; · intro w'; go_simp; with_reducible rfl
                rotate_left; · simp only [Act.put, List.setIfInBounds_toArray, List.set_cons_zero, List.set_cons_succ, i64_w, i32_w]; rfl
                refine pure_ (i := 4) (N := some 48) (v := ?_) (a' := ?_) #[true, true, true, true, true, false, false, false, false, false, false, false, false, false, false] rfl rfl (any_of HT_.out (by kernel_rfl)) (fun _ _ _ h => h) (Or.inl ⟨by rfl, ?_⟩) ?_ ?_
                rotate_left; · intro w'; go_simp; with_reducible rfl
                rotate_left; · simp only [Act.put, List.setIfInBounds_toArray, List.set_cons_zero, List.set_cons_succ, i64_w, i32_w]; rfl
                refine pure_ (i := 5) (N := some 49) (v := ?_) (a' := ?_) #[true, true, true, true, true, true, false, false, false, false, false, false, false, false, false] rfl rfl (any_of HT_.out (by kernel_rfl)) (fun _ _ _ h => h) (Or.inl ⟨by rfl, ?_⟩) ?_ ?_
                rotate_left; · intro w'; go_simp; with_reducible rfl
                rotate_left; · simp only [Act.put, List.setIfInBounds_toArray, List.set_cons_zero, List.set_cons_succ, i64_w, i32_w]; rfl
                refine pure_ (i := 6) (N := some 50) (v := ?_) (a' := ?_) #[true, true, true, true, true, true, true, false, false, false, false, false, false, false, false] rfl rfl (any_of HT_.out (by kernel_rfl)) (fun _ _ _ h => h) (Or.inl ⟨by rfl, ?_⟩) ?_ ?_
                rotate_left; · intro w'; go_simp; with_reducible rfl
                rotate_left; · simp only [Act.put, List.setIfInBounds_toArray, List.set_cons_zero, List.set_cons_succ, i64_w, i32_w]; rfl
                refine pure_ (i := 8) (N := some 52) (v := ?_) (a' := ?_) #[true, true, true, true, true, true, true, false, true, false, false, false, false, false, false] rfl rfl (any_of HT_.out (by kernel_rfl)) (fun _ _ _ h => h) (Or.inl ⟨by rfl, ?_⟩) ?_ ?_
                rotate_left; · intro w'; go_simp; with_reducible rfl
                rotate_left; · simp only [Act.put, List.setIfInBounds_toArray, List.set_cons_zero, List.set_cons_succ, i64_w, i32_w]; rfl
                refine pure_ (i := 9) (N := some 53) (v := ?_) (a' := ?_) #[true, true, true, true, true, true, true, false, true, true, false, false, false, false, false] rfl rfl (any_of HT_.out (by kernel_rfl)) (fun _ _ _ h => h) (Or.inl ⟨by rfl, ?_⟩) ?_ ?_
                rotate_left; · intro w'; go_simp; with_reducible rfl
                rotate_left; · simp only [Act.put, List.setIfInBounds_toArray, List.set_cons_zero, List.set_cons_succ, i64_w, i32_w]; rfl
                refine pure_ (i := 10) (N := some 54) (v := ?_) (a' := ?_) #[true, true, true, true, true, true, true, false, true, true, true, false, false, false, false] rfl rfl (any_of HT_.out (by kernel_rfl)) (fun _ _ _ h => h) (Or.inl ⟨by rfl, ?_⟩) ?_ ?_
                rotate_left; · intro w'; go_simp; with_reducible rfl
                rotate_left; · simp only [Act.put, List.setIfInBounds_toArray, List.set_cons_zero, List.set_cons_succ, i64_w, i32_w]; rfl
                refine pure_ (i := 11) (N := some 55) (v := ?_) (a' := ?_) #[true, true, true, true, true, true, true, false, true, true, true, true, false, false, false] rfl rfl (any_of HT_.out (by kernel_rfl)) (fun _ _ _ h => h) (Or.inl ⟨by rfl, ?_⟩) ?_ ?_
                rotate_left; · intro w'; go_simp; with_reducible rfl
                rotate_left; · simp only [Act.put, List.setIfInBounds_toArray, List.set_cons_zero, List.set_cons_succ, i64_w, i32_w]; rfl
                refine take_ (i := 7) (N := some 51) (v := ?_) (a' := ?_) #[true, true, true, true, true, true, true, true, true, true, true, true, false, false, false] rfl rfl (take_ofW HT_.out HW_.out (by kernel_rfl)) (fun _ _ _ h => h) (Or.inl ⟨by rfl, ?_⟩) hHeld ?_ ?_
                rotate_left
                ·
                 rintro w' ⟨s0, s1, s2, s3, s4, s5, s6, s7, s8, s9, s10, s11, s12, s13⟩
                 go_simp
                 with_reducible rfl
                rotate_left; · simp only [Act.put, List.setIfInBounds_toArray, List.set_cons_zero, List.set_cons_succ, i64_w, i32_w]; rfl
                refine take_ (i := 12) (N := some 56) (v := ?_) (a' := ?_) #[true, true, true, true, true, true, true, true, true, true, true, true, true, false, false] rfl rfl (take_ofW HT_.out HW_.out (by kernel_rfl)) (fun _ _ _ h => h) (Or.inl ⟨by rfl, ?_⟩) hHeld ?_ ?_
                rotate_left
                ·
                 rintro w' ⟨s0, s1, s2, s3, s4, s5, s6, s7, s8, s9, s10, s11, s12, s13⟩
                 go_simp
                 with_reducible rfl
                rotate_left; · simp only [Act.put, List.setIfInBounds_toArray, List.set_cons_zero, List.set_cons_succ, i64_w, i32_w]; rfl
                refine one_ (i := 13) (N := some 57) #[true, true, true, true, true, true, true, true, true, true, true, true, true, true, false] rfl rfl (one_of HT_.out (by kernel_rfl)) (by decide) (fun K hK => ?_)
                refine goes_ Tryd.func17 (by kernel_rfl) rfl #[.string ((rd_T34 l0 x5_1).f0), .string ((rd_T34 x4_1 x8_3).f0)] (by rfl) rfl rfl (by (try simp only [List.map_toArray, List.map_cons, List.map_nil]); first | done | rfl | (simp only [List.length_drop, List.length_take]; rfl)) ?_
                with_reducible refine (grapnelref18_Less.calls k3 ((rd_T34 l0 x5_1).f0) ((rd_T34 x4_1 x8_3).f0) false _ A22.out).mono ?_
                rintro e w' ⟨rfl, ⟨nd, rfl⟩⟩
                refine ⟨_, rfl, ?_⟩
                refine hK.out _ _ ⟨((HB.out.cell (World.block_lt_of_cell? w _ hw146_0)).trans hw146_0), ((HB.out.cell (World.block_lt_of_cell? w _ hw146_1)).trans hw146_1), ((HB.out.cell (World.block_lt_of_cell? w _ hw146_2)).trans hw146_2), ((HB.out.cell (World.block_lt_of_cell? w _ hw146_3)).trans hw146_3), ((HB.out.cell (World.block_lt_of_cell? w _ hw146_4)).trans hw146_4), ((HB.out.cell (World.block_lt_of_cell? w _ hw146_5)).trans hw146_5), ((HB.out.cell (World.block_lt_of_cell? w _ hw146_6)).trans hw146_6), hHeld.2.2.2.2.2.2.2.1, hHeld.2.2.2.2.2.2.2.2.1, hHeld.2.2.2.2.2.2.2.2.2.1, hHeld.2.2.2.2.2.2.2.2.2.2.1, hHeld.2.2.2.2.2.2.2.2.2.2.2.1, hHeld.2.2.2.2.2.2.2.2.2.2.2.2.1, hHeld.2.2.2.2.2.2.2.2.2.2.2.2.2⟩ (fun hHeld => ?_)
                clear hK K
                refine norm_ (a' := ?_) ?_ ?_
                rotate_left
                ·
                 show Act.put _ (some 57) _ = _
                 simp only [Act.put, List.setIfInBounds_toArray, List.set_cons_zero, List.set_cons_succ, i64_w, i32_w]
                 rfl
                refine pure_ (i := 14) (N := some 58) (v := ?_) (a' := ?_) #[true, true, true, true, true, true, true, true, true, true, true, true, true, true, true] rfl rfl (any_of HT_.out (by kernel_rfl)) (fun _ _ _ h => h) (Or.inl ⟨by rfl, ?_⟩) ?_ ?_
                rotate_left; · intro w'; go_simp; with_reducible rfl
                rotate_left; · simp only [Act.put, List.setIfInBounds_toArray, List.set_cons_zero, List.set_cons_succ, i64_w, i32_w]; rfl
                refine done_ (done_of HT_.out (by kernel_rfl)) ?_
                have p157 : 0 ≤ (x8_3 : Int) := of_decide_eq_true (by first | (with_reducible assumption) | assumption)
                have q157 : x8_3 < (x4_1.length : Int) := of_decide_eq_true (by first | (with_reducible assumption) | assumption)
                obtain ⟨ad157, e157, hx157_0, hx157_1, hx157_2, hx157_3, hx157_4, hx157_5, hx157_6⟩ := at_T34 (Kd.R_reads' HO_4.out).2.2 x8_3 p157 q157
                obtain rfl : ad147 = ad157 := (by injection e157)
                replace p157 := eq_true p157
                replace q157 := eq_true q157
                try go_wp2_with (first | ((with_reducible refine gate_builtin (b := .append) (xs := #[.tmp 66, .tmp 71]) rfl ?_); at_builtin; refine Kd.R_append k34 (w0 := w) w.heap.size rfl (.tmp 66) (.tmp 71) 22 34 (.agg #[(.string ⟨#[]⟩), (.int .i64 0), (.int .i64 0), (.int .i64 0), (.int .i64 0), (.int .i64 0), (.string ⟨#[]⟩)]) 72 rfl Tryd.underlying22 info34 rfl (by decide) (by omega) u6 x6_3 (⟨(rd_T34 x4_1 x8_3).f0, (⟨(rd_T34 x4_1 x8_3).f1.f0, (rd_T34 x4_1 x8_3).f1.f1, (rd_T34 x4_1 x8_3).f1.f2, (rd_T34 x4_1 x8_3).f1.f3, (rd_T34 x4_1 x8_3).f1.f4⟩ : S32), (rd_T34 x4_1 x8_3).f2⟩ : S34) [.string ((rd_T34 x4_1 x8_3).f0), .int .i64 ((rd_T34 x4_1 x8_3).f1.f0), .int .i64 ((rd_T34 x4_1 x8_3).f1.f1), .int .i64 ((rd_T34 x4_1 x8_3).f1.f2), .int .i64 ((rd_T34 x4_1 x8_3).f1.f3), .int .i64 ((rd_T34 x4_1 x8_3).f1.f4), .string ((rd_T34 x4_1 x8_3).f2)] (fun k_ => some k_ ≠ (.slice (some ad147) x4_1.length co31 : Value).ownBlock) (fun _ => False) rfl rfl ?aP (fun _ hk => hk.elim) ?aF ?aO ?aB ?aS ?aL ?_; (case aP => exact k34_mkM _ _ _ (⟨(rd_T34 x4_1 x8_3).f0, (⟨(rd_T34 x4_1 x8_3).f1.f0, (rd_T34 x4_1 x8_3).f1.f1, (rd_T34 x4_1 x8_3).f1.f2, (rd_T34 x4_1 x8_3).f1.f3, (rd_T34 x4_1 x8_3).f1.f4⟩ : S32), (rd_T34 x4_1 x8_3).f2⟩ : S34)); (case aB => exact (by repeat (first | (with_reducible first | exact HB.out | apply below_alloc | apply pw_below_drewN | apply below_drew1) | exact HB.out))); (case aF => exact (fun k_ hk => Kd.fresh' (Kd.R_lt (by (with_reducible repeat (first | apply Kd.R_alloc | apply Kd.R_drewN | apply Kd.R_drew)); exact HO_4.out)) k_ hk)); (case aO => exact (by (with_reducible repeat (first | apply Kd.R_alloc | apply Kd.R_drewN | apply Kd.R_drew)); exact HO_6.out)); (case aS => exact (below_size (by repeat (first | (with_reducible first | exact HB.out | apply below_alloc | apply pw_below_drewN | apply below_drew1) | exact HB.out)))); (case aL => have := LMc30.out; omega); intro v159 w33 ho hb hg hat; rw [← Ny158.out] at ho; have n0_ := Aside0.mk (Kd.R_after (ok := (fun _ => True)) (by (with_reducible repeat (first | apply Kd.R_alloc | apply Kd.R_drewN | apply Kd.R_drew)); exact Kd.R_mono HO_4.out (fun _ hk => ⟨trivial, hk⟩)) hg hat); have n1_ := Aside0.mk (hb); have n2_ := Aside0.mk (ho); clear HO_4; clear HB; clear HO_6; have HO_4 := n0_; have HB := n1_; have HO160 := n2_; clear n0_ n1_ n2_; clear ho hb hg hat))
                go_roundg k3
                case measure => have := HK1.out; have := HJ2.out; have := HK3.out; omega
                case rel => exact ⟨(y158), (false), (wrap64 (x8_3 + 1)), (by first | rfl | (simp; done) | (simp [*]; done)), (by first | rfl | (simp; done) | (simp [*]; done)), H', ⟨by have := HK1.out; have := HJ2.out; have := HK3.out; omega⟩, ⟨by (with_reducible repeat (first | apply Kd.R_alloc | apply Kd.R_drewN | apply Kd.R_drew)); exact Kd.R_mono HO_4.out (fun _ hk => hk.2)⟩, ⟨by (with_reducible repeat (first | apply Kd.R_alloc | apply Kd.R_drewN | apply Kd.R_drew)); exact HO160.out⟩, ⟨by repeat (first | (with_reducible first | exact HB.out | apply below_alloc | apply pw_below_drewN | apply below_drew1) | exact HB.out)⟩⟩
               ·
                rw [if_neg c30] at H
                exact absurd H (by simp)
             ·
              rw [if_neg c21] at H
              exact absurd H (by simp)
            ·
             rw [if_neg c20] at H
             exact absurd H (by simp)
           ·
            rw [if_neg c19] at H
            exact absurd H (by simp)
         ·
          rw [if_neg c12] at H
          have c12b0 : decide (x8_3 < (x4_1.length : Int)) = false := decide_eq_false c12
          clear c12
          by_cases c34 : x7_3 = true
          ·
           subst c34
           have H1 : (grapnelref18_Normal.l0 k3 l0 x6_3 (wrap64 (x5_1 + 1))) = some (r1, r2) := by rw [if_pos rfl] at H; exact H
           clear H
           have H := H1
           clear H1
           have H' := Aside0.mk H
           clear H
           obtain ⟨Ao35, co35, eo35⟩ := Kd.R_slice HO_4.out
           subst eo35
           go_wp2
           go_roundg k3
           case measure => have := HK1.out; have := HJ2.out; have := HK3.out; omega
           case rel => exact ⟨(x6_3), (wrap64 (x5_1 + 1)), (by first | rfl | (simp; done) | (simp [*]; done)), H', ⟨by have := HK1.out; have := HJ2.out; have := HK3.out; omega⟩, ⟨by (with_reducible repeat (first | apply Kd.R_alloc | apply Kd.R_drewN | apply Kd.R_drew)); exact Kd.R_mono HO_6.out (fun _ hk => trivial)⟩, ⟨by repeat (first | (with_reducible first | exact HB.out | apply below_alloc | apply pw_below_drewN | apply below_drew1) | exact HB.out)⟩⟩
          ·
           replace c34 := Bool.eq_false_iff.mpr c34
           subst c34
           have H1 : (if 0 ≤ x5_1 then (if x5_1 < (l0.length : Int) then (if x6_3.length < 1954687338268 then (grapnelref18_Normal.l0 k3 l0 (x6_3 ++ [(⟨(rd_T34 l0 x5_1).f0, (⟨(rd_T34 l0 x5_1).f1.f0, (rd_T34 l0 x5_1).f1.f1, (rd_T34 l0 x5_1).f1.f2, (rd_T34 l0 x5_1).f1.f3, (rd_T34 l0 x5_1).f1.f4⟩ : S32), (rd_T34 l0 x5_1).f2⟩ : S34)]) (wrap64 (x5_1 + 1))) else (none)) else (none)) else (none)) = some (r1, r2) := by rw [if_neg (show ¬ (false = true) by decide)] at H; exact H
           clear H
           have H := H1
           clear H1
           by_cases c36 : 0 ≤ x5_1
           ·
            rw [if_pos c36] at H
            have c36b0 : decide (0 ≤ x5_1) = true := decide_eq_true c36
            clear c36
            by_cases c37 : x5_1 < (l0.length : Int)
            ·
             rw [if_pos c37] at H
             have c37b0 : decide (x5_1 < (l0.length : Int)) = true := decide_eq_true c37
             clear c37
             by_cases c38 : x6_3.length < 1954687338268
             ·
              rw [if_pos c38] at H
              have LMc38 := Aside0.mk c38
              clear c38
              obtain ⟨y162, hy162⟩ : ∃ y_ : List (S34), y_ = (x6_3 ++ [(⟨(rd_T34 l0 x5_1).f0, (⟨(rd_T34 l0 x5_1).f1.f0, (rd_T34 l0 x5_1).f1.f1, (rd_T34 l0 x5_1).f1.f2, (rd_T34 l0 x5_1).f1.f3, (rd_T34 l0 x5_1).f1.f4⟩ : S32), (rd_T34 l0 x5_1).f2⟩ : S34)]) := ⟨_, rfl⟩
              replace H : (grapnelref18_Normal.l0 k3 l0 y162 (wrap64 (x5_1 + 1))) = some (r1, r2) := by first | (rw [hy162]; with_reducible exact H) | (have H2_ := (Option.bind_some _ _).symm.trans H; rw [hy162]; with_reducible exact H2_) | (have H2_ := (Option.bind_some _ _).symm.trans H; with_reducible exact H2_) | with_reducible exact H | (rw [hy162]; exact H) | exact H
              have Ny162 := Aside0.mk hy162
              clear hy162
              have H' := Aside0.mk H
              clear H
              obtain ⟨Ao39, co39, eo39⟩ := Kd.R_slice HO_4.out
              subst eo39
              have p161 : 0 ≤ (x5_1 : Int) := of_decide_eq_true (by first | (with_reducible assumption) | assumption)
              have q161 : x5_1 < (l0.length : Int) := of_decide_eq_true (by first | (with_reducible assumption) | assumption)
              obtain ⟨ad161, e161, hx161_0, hx161_1, hx161_2, hx161_3, hx161_4, hx161_5, hx161_6⟩ := at_T34 HR0.out x5_1 p161 q161
              cases e161
              replace hx161_0 := (HB.out.cell (World.block_lt_of_cell? w _ hx161_0)).trans hx161_0
              replace hx161_1 := (HB.out.cell (World.block_lt_of_cell? w _ hx161_1)).trans hx161_1
              replace hx161_2 := (HB.out.cell (World.block_lt_of_cell? w _ hx161_2)).trans hx161_2
              replace hx161_3 := (HB.out.cell (World.block_lt_of_cell? w _ hx161_3)).trans hx161_3
              replace hx161_4 := (HB.out.cell (World.block_lt_of_cell? w _ hx161_4)).trans hx161_4
              replace hx161_5 := (HB.out.cell (World.block_lt_of_cell? w _ hx161_5)).trans hx161_5
              replace hx161_6 := (HB.out.cell (World.block_lt_of_cell? w _ hx161_6)).trans hx161_6
              replace p161 := eq_true p161
              replace q161 := eq_true q161
              go_wp2_with (first | ((with_reducible refine gate_builtin (b := .append) (xs := #[.tmp 75, .tmp 80]) rfl ?_); at_builtin; refine Kd.R_append k34 (w0 := w) w.heap.size rfl (.tmp 75) (.tmp 80) 22 34 (.agg #[(.string ⟨#[]⟩), (.int .i64 0), (.int .i64 0), (.int .i64 0), (.int .i64 0), (.int .i64 0), (.string ⟨#[]⟩)]) 72 rfl Tryd.underlying22 info34 rfl (by decide) (by omega) u6 x6_3 (⟨(rd_T34 l0 x5_1).f0, (⟨(rd_T34 l0 x5_1).f1.f0, (rd_T34 l0 x5_1).f1.f1, (rd_T34 l0 x5_1).f1.f2, (rd_T34 l0 x5_1).f1.f3, (rd_T34 l0 x5_1).f1.f4⟩ : S32), (rd_T34 l0 x5_1).f2⟩ : S34) [.string ((rd_T34 l0 x5_1).f0), .int .i64 ((rd_T34 l0 x5_1).f1.f0), .int .i64 ((rd_T34 l0 x5_1).f1.f1), .int .i64 ((rd_T34 l0 x5_1).f1.f2), .int .i64 ((rd_T34 l0 x5_1).f1.f3), .int .i64 ((rd_T34 l0 x5_1).f1.f4), .string ((rd_T34 l0 x5_1).f2)] (fun k_ => some k_ ≠ (.slice Ao39 x4_1.length co39 : Value).ownBlock) (fun _ => False) rfl rfl ?aP (fun _ hk => hk.elim) ?aF ?aO ?aB ?aS ?aL ?_; (case aP => exact k34_mkM _ _ _ (⟨(rd_T34 l0 x5_1).f0, (⟨(rd_T34 l0 x5_1).f1.f0, (rd_T34 l0 x5_1).f1.f1, (rd_T34 l0 x5_1).f1.f2, (rd_T34 l0 x5_1).f1.f3, (rd_T34 l0 x5_1).f1.f4⟩ : S32), (rd_T34 l0 x5_1).f2⟩ : S34)); (case aB => exact (by repeat (first | (with_reducible first | exact HB.out | apply below_alloc | apply pw_below_drewN | apply below_drew1) | exact HB.out))); (case aF => exact (fun k_ hk => Kd.fresh' (Kd.R_lt (by (with_reducible repeat (first | apply Kd.R_alloc | apply Kd.R_drewN | apply Kd.R_drew)); exact HO_4.out)) k_ hk)); (case aO => exact (by (with_reducible repeat (first | apply Kd.R_alloc | apply Kd.R_drewN | apply Kd.R_drew)); exact HO_6.out)); (case aS => exact (below_size (by repeat (first | (with_reducible first | exact HB.out | apply below_alloc | apply pw_below_drewN | apply below_drew1) | exact HB.out)))); (case aL => have := LMc38.out; omega); intro v163 w40 ho hb hg hat; rw [← Ny162.out] at ho; have n0_ := Aside0.mk (Kd.R_after (ok := (fun _ => True)) (by (with_reducible repeat (first | apply Kd.R_alloc | apply Kd.R_drewN | apply Kd.R_drew)); exact Kd.R_mono HO_4.out (fun _ hk => ⟨trivial, hk⟩)) hg hat); have n1_ := Aside0.mk (hb); have n2_ := Aside0.mk (ho); clear HO_4; clear HB; clear HO_6; have HO_4 := n0_; have HB := n1_; have HO164 := n2_; clear n0_ n1_ n2_; clear ho hb hg hat))
              go_roundg k3
              case measure => have := HK1.out; have := HJ2.out; have := HK3.out; omega
              case rel => exact ⟨(y162), (wrap64 (x5_1 + 1)), (by first | rfl | (simp; done) | (simp [*]; done)), H', ⟨by have := HK1.out; have := HJ2.out; have := HK3.out; omega⟩, ⟨by (with_reducible repeat (first | apply Kd.R_alloc | apply Kd.R_drewN | apply Kd.R_drew)); exact Kd.R_mono HO164.out (fun _ hk => trivial)⟩, ⟨by repeat (first | (with_reducible first | exact HB.out | apply below_alloc | apply pw_below_drewN | apply below_drew1) | exact HB.out)⟩⟩
             ·
              rw [if_neg c38] at H
              exact absurd H (by simp)
            ·
             rw [if_neg c37] at H
             exact absurd H (by simp)
           ·
            rw [if_neg c36] at H
            exact absurd H (by simp)
   ·
    rw [if_neg c2] at H
    have c2b0 : decide (x5_1 < (l0.length : Int)) = false := decide_eq_false c2
    clear c2
    have HC41 := Aside0.mk H
    clear H
    go_upto_region 19 with (fail)
    go_cut [100] (fun v100 wc => ∃ (kq : Nat) (x100_40 : Bool), v100 = .bool x100_40 ∧ Aside0 (grapnelref18_Normal.j3 kq x4_1 x100_40 = some (r1, r2)) ∧ Aside0 (kq ≤ k1) ∧ Aside0 (Kd.R k34 34 wc w.heap.size (fun _ => True) u4 x4_1) ∧ Aside0 (Below w.heap.size w wc))
    case first =>
     have H := HC41.out
     clear HC41
     by_cases c42 : (x4_1.length : Int) = 0
     ·
      rw [if_pos c42] at H
      have c42b0 : ((x4_1.length : Int) == 0) = true := beq_iff_eq.mpr c42
      have c42b1 : ((x4_1.length : Int) != 0) = false := bne_eq_false_iff_eq.mpr c42
      clear c42
      (first | rw [c42b0] | (simp only [i64_w, i32_w]; rw [c42b0]) | skip)
      have H' := Aside0.mk H
      clear H
      obtain ⟨Ao43, co43, eo43⟩ := Kd.R_slice HO_4.out
      subst eo43
      go_wp2
      go_meet
      case rel => exact ⟨_, (true), (by first | rfl | (simp; done) | (simp [*]; done)), H', ⟨by have := HK1.out; first | omega | exact Nat.le_refl _⟩, ⟨by (with_reducible repeat (first | apply Kd.R_alloc | apply Kd.R_drewN | apply Kd.R_drew)); exact HO_4.out⟩, ⟨by repeat (first | (with_reducible first | exact HB.out | apply below_alloc | apply pw_below_drewN | apply below_drew1) | exact HB.out)⟩⟩
     ·
      rw [if_neg c42] at H
      have c42b0 : ((x4_1.length : Int) == 0) = false := beq_eq_false_iff_ne.mpr c42
      have c42b1 : ((x4_1.length : Int) != 0) = true := bne_iff_ne.mpr c42
      have c42b2 : ¬ (x4_1 = []) := fun h_ => c42 (by rw [h_]; rfl)
      (first | rw [c42b0] | (simp only [i64_w, i32_w]; rw [c42b0]) | skip)
      by_cases c44 : 0 < (x4_1.length : Int)
      ·
       rw [if_pos c44] at H
       have c44b0 : decide (0 < (x4_1.length : Int)) = true := decide_eq_true c44
       have c44b1 : decide (0 < x4_1.length) = true := decide_eq_true (by omega)
       clear c44
       by_cases c45 : ((rd_T34 x4_1 0).f0).toList = ([47] : List UInt8)
       ·
        rw [if_pos c45] at H
        have c45b0 : (((rd_T34 x4_1 0).f0).toList == ([47] : List UInt8)) = true := beq_iff_eq.mpr c45
        have c45b1 : (((rd_T34 x4_1 0).f0).toList != ([47] : List UInt8)) = false := bne_eq_false_iff_eq.mpr c45
        clear c45
        have H' := Aside0.mk H
        clear H
        obtain ⟨Ao46, co46, eo46⟩ := Kd.R_slice HO_4.out
        subst eo46
        have p165 : 0 ≤ (0 : Int) := (by omega)
        have q165 : 0 < (x4_1.length : Int) := of_decide_eq_true (by first | (with_reducible assumption) | assumption)
        obtain ⟨ad165, e165, hx165_0, hx165_1, hx165_2, hx165_3, hx165_4, hx165_5, hx165_6⟩ := at_T34 (Kd.R_reads' HO_4.out).2.2 0 p165 q165
        cases e165
        have qi165 : (0 < x4_1.length) = True := eq_true (by omega)
        (try rw [show ((0 : Int)).toNat = 0 from rfl] at hx165_0)
        (try rw [show 0 * 7 = 0 from rfl] at hx165_0)
        (try rw [Addr.add_zero'] at hx165_0)
        (try rw [show ((0 : Int)).toNat = 0 from rfl] at hx165_1)
        (try rw [show 0 * 7 = 0 from rfl] at hx165_1)
        (try rw [Addr.add_zero'] at hx165_1)
        (try rw [show ((0 : Int)).toNat = 0 from rfl] at hx165_2)
        (try rw [show 0 * 7 = 0 from rfl] at hx165_2)
        (try rw [Addr.add_zero'] at hx165_2)
        (try rw [show ((0 : Int)).toNat = 0 from rfl] at hx165_3)
        (try rw [show 0 * 7 = 0 from rfl] at hx165_3)
        (try rw [Addr.add_zero'] at hx165_3)
        (try rw [show ((0 : Int)).toNat = 0 from rfl] at hx165_4)
        (try rw [show 0 * 7 = 0 from rfl] at hx165_4)
        (try rw [Addr.add_zero'] at hx165_4)
        (try rw [show ((0 : Int)).toNat = 0 from rfl] at hx165_5)
        (try rw [show 0 * 7 = 0 from rfl] at hx165_5)
        (try rw [Addr.add_zero'] at hx165_5)
        (try rw [show ((0 : Int)).toNat = 0 from rfl] at hx165_6)
        (try rw [show 0 * 7 = 0 from rfl] at hx165_6)
        (try rw [Addr.add_zero'] at hx165_6)
        replace p165 := eq_true p165
        replace q165 := eq_true q165
        have p166 : 0 ≤ (0 : Int) := (by omega)
        have q166 : 0 < (x4_1.length : Int) := of_decide_eq_true (by first | (with_reducible assumption) | assumption)
        obtain ⟨ad166, e166, hx166_0, hx166_1, hx166_2, hx166_3, hx166_4, hx166_5, hx166_6⟩ := at_T34 (Kd.R_reads' HO_4.out).2.2 0 p166 q166
        obtain rfl : ad165 = ad166 := (by injection e166)
        have qi166 : (0 < x4_1.length) = True := eq_true (by omega)
        (try rw [show ((0 : Int)).toNat = 0 from rfl] at hx166_0)
        (try rw [show 0 * 7 = 0 from rfl] at hx166_0)
        (try rw [Addr.add_zero'] at hx166_0)
        (try rw [show ((0 : Int)).toNat = 0 from rfl] at hx166_1)
        (try rw [show 0 * 7 = 0 from rfl] at hx166_1)
        (try rw [Addr.add_zero'] at hx166_1)
        (try rw [show ((0 : Int)).toNat = 0 from rfl] at hx166_2)
        (try rw [show 0 * 7 = 0 from rfl] at hx166_2)
        (try rw [Addr.add_zero'] at hx166_2)
        (try rw [show ((0 : Int)).toNat = 0 from rfl] at hx166_3)
        (try rw [show 0 * 7 = 0 from rfl] at hx166_3)
        (try rw [Addr.add_zero'] at hx166_3)
        (try rw [show ((0 : Int)).toNat = 0 from rfl] at hx166_4)
        (try rw [show 0 * 7 = 0 from rfl] at hx166_4)
        (try rw [Addr.add_zero'] at hx166_4)
        (try rw [show ((0 : Int)).toNat = 0 from rfl] at hx166_5)
        (try rw [show 0 * 7 = 0 from rfl] at hx166_5)
        (try rw [Addr.add_zero'] at hx166_5)
        (try rw [show ((0 : Int)).toNat = 0 from rfl] at hx166_6)
        (try rw [show 0 * 7 = 0 from rfl] at hx166_6)
        (try rw [Addr.add_zero'] at hx166_6)
        replace p166 := eq_true p166
        replace q166 := eq_true q166
        go_wp2
        go_meet
        case rel => exact ⟨_, ((((rd_T34 x4_1 0).f1.f2) != 2)), (by first | rfl | (simp; done) | (simp [*]; done)), H', ⟨by have := HK1.out; first | omega | exact Nat.le_refl _⟩, ⟨by (with_reducible repeat (first | apply Kd.R_alloc | apply Kd.R_drewN | apply Kd.R_drew)); exact HO_4.out⟩, ⟨by repeat (first | (with_reducible first | exact HB.out | apply below_alloc | apply pw_below_drewN | apply below_drew1) | exact HB.out)⟩⟩
       ·
        rw [if_neg c45] at H
        have c45b0 : (((rd_T34 x4_1 0).f0).toList == ([47] : List UInt8)) = false := beq_eq_false_iff_ne.mpr c45
        have c45b1 : (((rd_T34 x4_1 0).f0).toList != ([47] : List UInt8)) = true := bne_iff_ne.mpr c45
        have H' := Aside0.mk H
        clear H
        obtain ⟨Ao47, co47, eo47⟩ := Kd.R_slice HO_4.out
        subst eo47
        have p165 : 0 ≤ (0 : Int) := (by omega)
        have q165 : 0 < (x4_1.length : Int) := of_decide_eq_true (by first | (with_reducible assumption) | assumption)
        obtain ⟨ad165, e165, hx165_0, hx165_1, hx165_2, hx165_3, hx165_4, hx165_5, hx165_6⟩ := at_T34 (Kd.R_reads' HO_4.out).2.2 0 p165 q165
        cases e165
        have qi165 : (0 < x4_1.length) = True := eq_true (by omega)
        (try rw [show ((0 : Int)).toNat = 0 from rfl] at hx165_0)
        (try rw [show 0 * 7 = 0 from rfl] at hx165_0)
        (try rw [Addr.add_zero'] at hx165_0)
        (try rw [show ((0 : Int)).toNat = 0 from rfl] at hx165_1)
        (try rw [show 0 * 7 = 0 from rfl] at hx165_1)
        (try rw [Addr.add_zero'] at hx165_1)
        (try rw [show ((0 : Int)).toNat = 0 from rfl] at hx165_2)
        (try rw [show 0 * 7 = 0 from rfl] at hx165_2)
        (try rw [Addr.add_zero'] at hx165_2)
        (try rw [show ((0 : Int)).toNat = 0 from rfl] at hx165_3)
        (try rw [show 0 * 7 = 0 from rfl] at hx165_3)
        (try rw [Addr.add_zero'] at hx165_3)
        (try rw [show ((0 : Int)).toNat = 0 from rfl] at hx165_4)
        (try rw [show 0 * 7 = 0 from rfl] at hx165_4)
        (try rw [Addr.add_zero'] at hx165_4)
        (try rw [show ((0 : Int)).toNat = 0 from rfl] at hx165_5)
        (try rw [show 0 * 7 = 0 from rfl] at hx165_5)
        (try rw [Addr.add_zero'] at hx165_5)
        (try rw [show ((0 : Int)).toNat = 0 from rfl] at hx165_6)
        (try rw [show 0 * 7 = 0 from rfl] at hx165_6)
        (try rw [Addr.add_zero'] at hx165_6)
        replace p165 := eq_true p165
        replace q165 := eq_true q165
        go_wp2
        go_meet
        case rel => exact ⟨_, (true), (by first | rfl | (simp; done) | (simp [*]; done)), H', ⟨by have := HK1.out; first | omega | exact Nat.le_refl _⟩, ⟨by (with_reducible repeat (first | apply Kd.R_alloc | apply Kd.R_drewN | apply Kd.R_drew)); exact HO_4.out⟩, ⟨by repeat (first | (with_reducible first | exact HB.out | apply below_alloc | apply pw_below_drewN | apply below_drew1) | exact HB.out)⟩⟩
      ·
       rw [if_neg c44] at H
       exact absurd H (by simp)
    case rest =>
     clear HC41; try clear c1; try clear p1; try clear q1; try clear hx1; try clear qi1; try clear c2; try clear c2b0; try clear p2; try clear c3; try clear c4; try clear p6; try clear c12; try clear c12b0; try clear p14; try clear q14; try clear hx14; try clear p15; try clear q15; try clear hx15; try clear p16; try clear q16; try clear hx16; try clear qi16; try clear c17; try clear c19; try clear c20; try clear c21; try clear c23; try clear c24; try clear c25; try clear c30; try clear c34; try clear c36; try clear c36b0; try clear c37; try clear c37b0; try clear c38; try clear c42; try clear c42b0; try clear c42b1; try clear c42b2; try clear c44; try clear c44b0; try clear c44b1; try clear c45; try clear c45b0; try clear c45b1; try clear hx146_0; try clear hx146_1; try clear hx146_2; try clear hx146_3; try clear hx146_4; try clear hx146_5; try clear hx146_6; try clear hx147_0; try clear hx147_1; try clear hx147_2; try clear hx147_3; try clear hx147_4; try clear hx147_5; try clear hx147_6; try clear hx149_0; try clear hx149_1; try clear hx149_2; try clear hx149_3; try clear hx149_4; try clear hx149_5; try clear hx149_6; try clear hx153_0; try clear hx153_1; try clear hx153_2; try clear hx153_3; try clear hx153_4; try clear hx153_5; try clear hx153_6; try clear hx157_0; try clear hx157_1; try clear hx157_2; try clear hx157_3; try clear hx157_4; try clear hx157_5; try clear hx157_6; try clear hx161_0; try clear hx161_1; try clear hx161_2; try clear hx161_3; try clear hx161_4; try clear hx161_5; try clear hx161_6; try clear hx165_0; try clear hx165_1; try clear hx165_2; try clear hx165_3; try clear hx165_4; try clear hx165_5; try clear hx165_6; try clear hx166_0; try clear hx166_1; try clear hx166_2; try clear hx166_3; try clear hx166_4; try clear hx166_5; try clear hx166_6; try clear p146; try clear p147; try clear p149; try clear p153; try clear p157; try clear p161; try clear p165; try clear p166; try clear q146; try clear q147; try clear q149; try clear q153; try clear q157; try clear q161; try clear q165; try clear q166
     obtain ⟨kq, x100_40, rfl, HA, HJ40, HO_4, HB⟩ := hcut
     cases kq with
     | zero => exact absurd HA.out (by simp [grapnelref18_Normal.j3])
     | succ kj40 =>
      have H := HA.out
      clear HA
      simp only [grapnelref18_Normal.j3] at H
      by_cases c48 : x100_40 = true
      ·
       subst c48
       have H1 : (some (([] : List (S34)), 5)) = some (r1, r2) := by rw [if_pos rfl] at H; exact H
       clear H
       have H := H1
       clear H1
       simp only [Option.some.injEq, Prod.mk.injEq] at H
       obtain ⟨rfl, rfl⟩ := H
       go_wp2
       go_ret2
       exact ⟨_, by first | rfl | (simp [errW_none, errW_some] <;> rfl) | (simp [*, errW_none, errW_some] <;> rfl), by first | exact Kd.R_nil _ _ _ _ _ | exact Kd.N_nil _ _ _ _ _ | exact Kd.V_nil _ _ _ _ _ | exact Kd.Q_nil _ _ _ _ _ | exact Kd.S_nil _ _ _ _ _, by repeat (first | (with_reducible first | exact HB.out | apply below_alloc | apply pw_below_drewN | apply below_drew1) | exact HB.out)⟩
      ·
       replace c48 := Bool.eq_false_iff.mpr c48
       subst c48
       have H1 : Aside0 ((if 0 ≤ (x4_1.length : Int) then (if ((x4_1.length : Int) : Int).toNat ≤ 7036874417766 then (grapnelref18_Normal.l2 kj40 x4_1 (List.replicate ((x4_1.length : Int) : Int).toNat z32) 0) else (none)) else (none)) = some (r1, r2)) := ⟨by rw [if_neg (show ¬ (false = true) by decide)] at H; exact H⟩
       clear H
       rename_i Kr hKr Kc hKc
       refine hKc _ _ ?_
       clear hKc
       have HK2 := Aside0.mk hKr
       clear hKr
       go_wp2
       exact HK2.out _ _ (grapnelref18_Normal.half k k1 kj40 _ _ _ _ _ _ _ _ _ _ _ _ _ _ _ _ _ _ _ _ _ _ _ _ _ _ _ _ _ _ _ _ _ _ _ _ _ _ _ _ _ _ _ _ _ _ _ _ _ _ _ _ _ _ _ _ _ _ _ _ _ _ _ _ _ _ _ _ _ _ _ _ _ _ _ _ _ _ _ _ _ _ _ _ _ _ _ _ _ _ _ _ _ _ _ _ _ _ _ _ _ _ _ _ _ _ _ _ _ _ _ _ _ _ _ _ _ _ _ _ _ _ _ _ _ _ _ _ _ _ _ _ _ _ _ _ _ _ _ _ _ _ _ _ _ _ _ _ _ _ _ _ _ _ _ _ _ _ _ _ _ _ _ _ _ _ _ _ _ _ _ _ _ _ _ _ _ _ _ _ _ _ _ _ _ _ _ _ _ _ _ _ _ _ _ _ _ _ _ _ _ _ _ _ _ _ _ _ _ _ _ _ _ _ _ _ _ _ _ _ _ _ _ x4_1 r1 r2 w _ HK1 HJ40 HO_4 HB H1)
end Go.Proofs.YtkhblpmjmkhiiaaDoor.PAll
