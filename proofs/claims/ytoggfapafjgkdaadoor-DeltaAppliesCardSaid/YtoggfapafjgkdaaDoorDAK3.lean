/- Printed by the kit's print.py, made shorter and regrouped by wip/tools/regroup.py. -/
import Derived.Test.YtoggfapafjgkdaaDoorDAK2
import Derived.Test.YtoggfapafjgkdaaDoorDAK1

namespace Go.Proofs.YtoggfapafjgkdaaDoor.PAll
open Go.RowKit Go.Proofs.YtoggfapafjgkdaaDoorW.PrintWords Go.Proofs.YtoggfapafjgkdaaDoorW.PrintLast Go.Proofs.YtoggfapafjgkdaaDoorW.PrintMore
attribute [local go_sem] max2_int min2_int max_two min_two max_three min_three max_four min_four
set_option linter.unusedVariables false
set_option linter.unusedSimpArgs false
set_option maxHeartbeats 8000000 in
set_option maxRecDepth 100000 in
theorem grapnelref18_Normal.calls (k : Nat) (A0 : Option Addr) (c0 : Nat) (l0 : List (S46)) (r1 : List (S46)) (r2 : Int) (w : World) (hr0 : Kd.C k46 w A0 l0.length l0) (hc0 : l0.length ≤ c0) (h : grapnelref18_Normal.f k l0 = some (r1, r2)) :
  Calls Tryd.prog 23 #[.slice A0 l0.length c0] w fun e w' => ∃ v0_ : Value, e = .returned (.tuple #[v0_, .int .i64 r2]) ∧ Kd.R k46 46 w' w.heap.size (fun _ => True) v0_ r1 ∧ Below w.heap.size w w' := by
 have hu46 := Tryd.underlying46
 have hu44 := Tryd.underlying44
 have HR0 := Aside0.mk hr0
 have HC0 := Aside0.mk hc0
 clear hr0 hc0
 have HB := Aside0.mk (Below.refl w.heap.size w)
 have H : (grapnelref18_Normal.l0 k l0 ([] : List (S46)) 0) = some (r1, r2) := h
 clear h
 have H' := Aside0.mk H
 clear H
 go_enter Tryd.func23, Tryd.ntmps23
 go_wp2
 go_loopg [4, 5] k (fun kq v4 v5 w' => ∃ (x4_1 : List (S46)) (x5_1 : Int), v5 = .int .i64 x5_1 ∧ Aside0 (grapnelref18_Normal.l0 kq l0 x4_1 x5_1 = some (r1, r2)) ∧ Aside0 (kq ≤ k) ∧ Aside0 (Kd.R k46 46 w' w.heap.size (fun _ => True) v4 x4_1) ∧ Aside0 (Below w.heap.size w w'))
 case atStart => exact ⟨(([] : List (S46))), (0), (by first | rfl | (simp; done) | (simp [*]; done)), H', ⟨Nat.le_refl _⟩, ⟨by first | exact Kd.R_nil _ _ _ _ _ | exact Kd.N_nil _ _ _ _ _ | exact Kd.V_nil _ _ _ _ _ | exact Kd.Q_nil _ _ _ _ _ | exact Kd.S_nil _ _ _ _ _⟩, ⟨by repeat (first | (with_reducible first | exact HB.out | apply below_alloc | apply pw_below_drewN | apply below_drew1) | exact HB.out)⟩⟩
 case round =>
  clear H'
  obtain ⟨x4_1, x5_1, rfl, HA, HK1, HO_4, HB⟩ := hrel
  cases gk with
  | zero => exact absurd HA.out (by simp [grapnelref18_Normal.l0])
  | succ k1 =>
   have H := HA.out
   clear HA
   simp only [grapnelref18_Normal.l0] at H
   by_cases c2 : x5_1 < (l0.length : Int)
   ·
    rw [if_pos c2] at H
    have c2b0 : decide (x5_1 < (l0.length : Int)) = true := decide_eq_true c2
    clear c2
    have HC3 := Aside0.mk H
    clear H
    go_upto_region 5 with (fail)
    go_cut [37] (fun v37 wc => ∃ (kq : Nat) (x37_2 : Bool), v37 = .bool x37_2 ∧ Aside0 (grapnelref18_Normal.j1 kq l0 x4_1 x5_1 x37_2 = some (r1, r2)) ∧ Aside0 (kq ≤ k1) ∧ Aside0 (Kd.R k46 46 wc w.heap.size (fun _ => True) u4 x4_1) ∧ Aside0 (Below w.heap.size w wc))
    case first =>
     have H := HC3.out
     clear HC3
     by_cases c4 : 0 ≤ x5_1
     ·
      rw [if_pos c4] at H
      have c4b0 : decide (0 ≤ x5_1) = true := decide_eq_true c4
      clear c4
      (first | rw [c4b0] | (simp only [i64_w, i32_w]; rw [c4b0]) | skip)
      replace H := Option.bind_eq_some_iff.mp H
      obtain ⟨t141, A50, H⟩ := H
      replace H : (if t141 = true then ((grapnelref18_Find.f k1 x4_1 ((rd_T46 l0 x5_1).f0)).bind fun t143 => (grapnelref18_Normal.j1 k1 l0 x4_1 x5_1 (decide (t143 ≥ 0)))) else (grapnelref18_Normal.j1 k1 l0 x4_1 x5_1 true)) = some (r1, r2) := H
      have A5 := Aside0.mk A50
      clear A50
      by_cases c6 : t141 = true
      ·
       subst c6
       have H1 : ((grapnelref18_Find.f k1 x4_1 ((rd_T46 l0 x5_1).f0)).bind fun t143 => (grapnelref18_Normal.j1 k1 l0 x4_1 x5_1 (decide (t143 ≥ 0)))) = some (r1, r2) := by rw [if_pos rfl] at H; exact H
       clear H
       have H := H1
       clear H1
       replace H := Option.bind_eq_some_iff.mp H
       obtain ⟨t143, A70, H⟩ := H
       replace H : (grapnelref18_Normal.j1 k1 l0 x4_1 x5_1 (decide (t143 ≥ 0))) = some (r1, r2) := H
       have A7 := Aside0.mk A70
       clear A70
       have H' := Aside0.mk H
       clear H
       have p140 : 0 ≤ (x5_1 : Int) := of_decide_eq_true (by first | (with_reducible assumption) | assumption)
       have q140 : x5_1 < (l0.length : Int) := of_decide_eq_true (by first | (with_reducible assumption) | assumption)
       obtain ⟨ad140, e140, hx140_0, hx140_1, hx140_2, hx140_3, hx140_4, hx140_5, hx140_6⟩ := at_T46 HR0.out x5_1 p140 q140
       cases e140
       replace hx140_0 := (HB.out.cell (World.block_lt_of_cell? w _ hx140_0)).trans hx140_0
       replace hx140_1 := (HB.out.cell (World.block_lt_of_cell? w _ hx140_1)).trans hx140_1
       replace hx140_2 := (HB.out.cell (World.block_lt_of_cell? w _ hx140_2)).trans hx140_2
       replace hx140_3 := (HB.out.cell (World.block_lt_of_cell? w _ hx140_3)).trans hx140_3
       replace hx140_4 := (HB.out.cell (World.block_lt_of_cell? w _ hx140_4)).trans hx140_4
       replace hx140_5 := (HB.out.cell (World.block_lt_of_cell? w _ hx140_5)).trans hx140_5
       replace hx140_6 := (HB.out.cell (World.block_lt_of_cell? w _ hx140_6)).trans hx140_6
       replace p140 := eq_true p140
       replace q140 := eq_true q140
       go_wp2_with (first | ((with_reducible refine gate_callee (f := 39) rfl ?_); refine goesL_ (some 26) rfl rfl Tryd.func39 (by kernel_rfl) rfl #[.agg #[.string ((rd_T46 l0 x5_1).f0), .int .i64 ((rd_T46 l0 x5_1).f1.f0), .int .i64 ((rd_T46 l0 x5_1).f1.f1), .int .i64 ((rd_T46 l0 x5_1).f1.f2), .int .i64 ((rd_T46 l0 x5_1).f1.f3), .int .i64 ((rd_T46 l0 x5_1).f1.f4), .string ((rd_T46 l0 x5_1).f2)]] rfl (by (try simp only [List.map_toArray, List.map_cons, List.map_nil]); first | done | rfl | (simp only [List.length_drop, List.length_take]; rfl)) ?_; (with_reducible refine (grapnelref18_may.calls k1 ((rd_T46 l0 x5_1).f0) ((rd_T46 l0 x5_1).f1.f0) ((rd_T46 l0 x5_1).f1.f1) ((rd_T46 l0 x5_1).f1.f2) ((rd_T46 l0 x5_1).f1.f3) ((rd_T46 l0 x5_1).f1.f4) ((rd_T46 l0 x5_1).f2) true _ A5.out).mono ?_); rintro e w8 ⟨rfl, hb⟩; refine ⟨_, rfl, ?_⟩; have n0_ := Aside0.mk (Kd.R_below (by (with_reducible repeat (first | apply Kd.R_alloc | apply Kd.R_drewN | apply Kd.R_drew)); exact HO_4.out) hb); have n1_ := Aside0.mk (below_step (by repeat (first | (with_reducible first | exact HB.out | apply below_alloc | apply pw_below_drewN | apply below_drew1) | exact HB.out)) hb); clear HO_4; clear HB; have HO_4 := n0_; have HB := n1_; clear n0_ n1_; (try clear hb); (try clear hb2); (try clear hk); (try clear hi); have p142 : 0 ≤ (x5_1 : Int) := of_decide_eq_true (by first | (with_reducible assumption) | assumption); have q142 : x5_1 < (l0.length : Int) := of_decide_eq_true (by first | (with_reducible assumption) | assumption); obtain ⟨ad142, e142, hx142_0, hx142_1, hx142_2, hx142_3, hx142_4, hx142_5, hx142_6⟩ := at_T46 HR0.out x5_1 p142 q142; obtain rfl : ad140 = ad142 := (by injection e142); replace hx142_0 := (HB.out.cell (World.block_lt_of_cell? w _ hx142_0)).trans hx142_0; replace hx142_1 := (HB.out.cell (World.block_lt_of_cell? w _ hx142_1)).trans hx142_1; replace hx142_2 := (HB.out.cell (World.block_lt_of_cell? w _ hx142_2)).trans hx142_2; replace hx142_3 := (HB.out.cell (World.block_lt_of_cell? w _ hx142_3)).trans hx142_3; replace hx142_4 := (HB.out.cell (World.block_lt_of_cell? w _ hx142_4)).trans hx142_4; replace hx142_5 := (HB.out.cell (World.block_lt_of_cell? w _ hx142_5)).trans hx142_5; replace hx142_6 := (HB.out.cell (World.block_lt_of_cell? w _ hx142_6)).trans hx142_6; replace p142 := eq_true p142; replace q142 := eq_true q142; obtain ⟨Ao9, co9, eo9⟩ := Kd.R_slice HO_4.out; subst eo9) | (go_at_call 31; (with_reducible refine (grapnelref18_Find.calls k1 _ _ x4_1 ((rd_T46 l0 x5_1).f0) t143 _ ?side1 ?side2 A7.out).mono ?_); (case side1 => repeat (first | exact (Kd.R_reads' HO_4.out).2.2 | (with_reducible refine Kd.C_alloc ?_ _) | (with_reducible refine Kd.C_drewN ?_ _) | (with_reducible refine Kd.C_drew ?_))); (case side2 => exact (Kd.R_reads' HO_4.out).2.1); rintro e w' ⟨rfl, ⟨nd, rfl⟩⟩))
       go_meet
       case rel => exact ⟨_, (decide (t143 ≥ 0)), (by first | rfl | (simp; done) | (simp [*]; done)), H', ⟨by have := HK1.out; first | omega | exact Nat.le_refl _⟩, ⟨by (with_reducible repeat (first | apply Kd.R_alloc | apply Kd.R_drewN | apply Kd.R_drew)); exact HO_4.out⟩, ⟨by repeat (first | (with_reducible first | exact HB.out | apply below_alloc | apply pw_below_drewN | apply below_drew1) | exact HB.out)⟩⟩
      ·
       replace c6 := Bool.eq_false_iff.mpr c6
       subst c6
       have H1 : (grapnelref18_Normal.j1 k1 l0 x4_1 x5_1 true) = some (r1, r2) := by rw [if_neg (show ¬ (false = true) by decide)] at H; exact H
       clear H
       have H := H1
       clear H1
       have H' := Aside0.mk H
       clear H
       have p140 : 0 ≤ (x5_1 : Int) := of_decide_eq_true (by first | (with_reducible assumption) | assumption)
       have q140 : x5_1 < (l0.length : Int) := of_decide_eq_true (by first | (with_reducible assumption) | assumption)
       obtain ⟨ad140, e140, hx140_0, hx140_1, hx140_2, hx140_3, hx140_4, hx140_5, hx140_6⟩ := at_T46 HR0.out x5_1 p140 q140
       cases e140
       replace hx140_0 := (HB.out.cell (World.block_lt_of_cell? w _ hx140_0)).trans hx140_0
       replace hx140_1 := (HB.out.cell (World.block_lt_of_cell? w _ hx140_1)).trans hx140_1
       replace hx140_2 := (HB.out.cell (World.block_lt_of_cell? w _ hx140_2)).trans hx140_2
       replace hx140_3 := (HB.out.cell (World.block_lt_of_cell? w _ hx140_3)).trans hx140_3
       replace hx140_4 := (HB.out.cell (World.block_lt_of_cell? w _ hx140_4)).trans hx140_4
       replace hx140_5 := (HB.out.cell (World.block_lt_of_cell? w _ hx140_5)).trans hx140_5
       replace hx140_6 := (HB.out.cell (World.block_lt_of_cell? w _ hx140_6)).trans hx140_6
       replace p140 := eq_true p140
       replace q140 := eq_true q140
       go_wp2_with (first | ((with_reducible refine gate_callee (f := 39) rfl ?_); refine goesL_ (some 26) rfl rfl Tryd.func39 (by kernel_rfl) rfl #[.agg #[.string ((rd_T46 l0 x5_1).f0), .int .i64 ((rd_T46 l0 x5_1).f1.f0), .int .i64 ((rd_T46 l0 x5_1).f1.f1), .int .i64 ((rd_T46 l0 x5_1).f1.f2), .int .i64 ((rd_T46 l0 x5_1).f1.f3), .int .i64 ((rd_T46 l0 x5_1).f1.f4), .string ((rd_T46 l0 x5_1).f2)]] rfl (by (try simp only [List.map_toArray, List.map_cons, List.map_nil]); first | done | rfl | (simp only [List.length_drop, List.length_take]; rfl)) ?_; (with_reducible refine (grapnelref18_may.calls k1 ((rd_T46 l0 x5_1).f0) ((rd_T46 l0 x5_1).f1.f0) ((rd_T46 l0 x5_1).f1.f1) ((rd_T46 l0 x5_1).f1.f2) ((rd_T46 l0 x5_1).f1.f3) ((rd_T46 l0 x5_1).f1.f4) ((rd_T46 l0 x5_1).f2) false _ A5.out).mono ?_); rintro e w10 ⟨rfl, hb⟩; refine ⟨_, rfl, ?_⟩; have n0_ := Aside0.mk (Kd.R_below (by (with_reducible repeat (first | apply Kd.R_alloc | apply Kd.R_drewN | apply Kd.R_drew)); exact HO_4.out) hb); have n1_ := Aside0.mk (below_step (by repeat (first | (with_reducible first | exact HB.out | apply below_alloc | apply pw_below_drewN | apply below_drew1) | exact HB.out)) hb); clear HO_4; clear HB; have HO_4 := n0_; have HB := n1_; clear n0_ n1_; (try clear hb); (try clear hb2); (try clear hk); (try clear hi)))
       go_meet
       case rel => exact ⟨_, (true), (by first | rfl | (simp; done) | (simp [*]; done)), H', ⟨by have := HK1.out; first | omega | exact Nat.le_refl _⟩, ⟨by (with_reducible repeat (first | apply Kd.R_alloc | apply Kd.R_drewN | apply Kd.R_drew)); exact HO_4.out⟩, ⟨by repeat (first | (with_reducible first | exact HB.out | apply below_alloc | apply pw_below_drewN | apply below_drew1) | exact HB.out)⟩⟩
     ·
      rw [if_neg c4] at H
      exact absurd H (by simp)
    case rest =>
     clear HC3; try clear p1; try clear q1; try clear hx1; try clear c2; try clear c2b0; try clear p2; try clear c3; try clear c4; try clear c4b0; try clear c6; try clear hx140_0; try clear hx140_1; try clear hx140_2; try clear hx140_3; try clear hx140_4; try clear hx140_5; try clear hx140_6; try clear hx142_0; try clear hx142_1; try clear hx142_2; try clear hx142_3; try clear hx142_4; try clear hx142_5; try clear hx142_6; try clear p140; try clear p142; try clear q140; try clear q142
     obtain ⟨kq, x37_2, rfl, HA, HJ2, HO_4, HB⟩ := hcut
     cases kq with
     | zero => exact absurd HA.out (by simp [grapnelref18_Normal.j1])
     | succ kj2 =>
      have H := HA.out
      clear HA
      simp only [grapnelref18_Normal.j1] at H
      by_cases c11 : x37_2 = true
      ·
       subst c11
       have H1 : (some (([] : List (S46)), 5)) = some (r1, r2) := by rw [if_pos rfl] at H; exact H
       clear H
       have H := H1
       clear H1
       simp only [Option.some.injEq, Prod.mk.injEq] at H
       obtain ⟨rfl, rfl⟩ := H
       go_wp2
       go_ret2
       exact ⟨_, by first | rfl | (simp [errW_none, errW_some] <;> rfl) | (simp [*, errW_none, errW_some] <;> rfl), by first | exact Kd.R_nil _ _ _ _ _ | exact Kd.N_nil _ _ _ _ _ | exact Kd.V_nil _ _ _ _ _ | exact Kd.Q_nil _ _ _ _ _ | exact Kd.S_nil _ _ _ _ _, by repeat (first | (with_reducible first | exact HB.out | apply below_alloc | apply pw_below_drewN | apply below_drew1) | exact HB.out)⟩
      ·
       replace c11 := Bool.eq_false_iff.mpr c11
       subst c11
       have H1 : (grapnelref18_Normal.l1 kj2 l0 x4_1 x5_1 ([] : List (S46)) false 0) = some (r1, r2) := by rw [if_neg (show ¬ (false = true) by decide)] at H; exact H
       clear H
       have H := H1
       clear H1
       have H' := Aside0.mk H
       clear H
       go_wp2
       go_loopg [6, 7, 8] kj2 (fun kq v6 v7 v8 w' => ∃ (x6_3 : List (S46)) (x7_3 : Bool) (x8_3 : Int), v7 = .bool x7_3 ∧ v8 = .int .i64 x8_3 ∧ Aside0 (grapnelref18_Normal.l1 kq l0 x4_1 x5_1 x6_3 x7_3 x8_3 = some (r1, r2)) ∧ Aside0 (kq ≤ kj2) ∧ Aside0 (Kd.R k46 46 w' w.heap.size (fun k_ => some k_ ≠ (v6 : Value).ownBlock) u4 x4_1) ∧ Aside0 (Kd.R k46 46 w' w.heap.size (fun k_ => some k_ ≠ (u4 : Value).ownBlock) v6 x6_3) ∧ Aside0 (Below w.heap.size w w'))
       case atStart => exact ⟨(([] : List (S46))), (false), (0), (by first | rfl | (simp; done) | (simp [*]; done)), (by first | rfl | (simp; done) | (simp [*]; done)), H', ⟨Nat.le_refl _⟩, ⟨by (with_reducible repeat (first | apply Kd.R_alloc | apply Kd.R_drewN | apply Kd.R_drew)); exact Kd.R_mono HO_4.out (fun _ hk => (by simp [Value.ownBlock]))⟩, ⟨by first | exact Kd.R_nil _ _ _ _ _ | exact Kd.N_nil _ _ _ _ _ | exact Kd.V_nil _ _ _ _ _ | exact Kd.Q_nil _ _ _ _ _ | exact Kd.S_nil _ _ _ _ _⟩, ⟨by repeat (first | (with_reducible first | exact HB.out | apply below_alloc | apply pw_below_drewN | apply below_drew1) | exact HB.out)⟩⟩
       case round =>
        clear H'
        try clear c1; try clear p1; try clear q1; try clear hx1; try clear c2; try clear c2b0; try clear p2; try clear c3; try clear c4; try clear c4b0; try clear c6; try clear c11; try clear hx140_0; try clear hx140_1; try clear hx140_2; try clear hx140_3; try clear hx140_4; try clear hx140_5; try clear hx140_6; try clear hx142_0; try clear hx142_1; try clear hx142_2; try clear hx142_3; try clear hx142_4; try clear hx142_5; try clear hx142_6; try clear p1; try clear p140; try clear p142; try clear p2; try clear q1; try clear q140; try clear q142
        obtain ⟨x6_3, x7_3, x8_3, rfl, rfl, HA, HK3, HO_4, HO_6, HB⟩ := hrel
        cases gk with
        | zero => exact absurd HA.out (by simp [grapnelref18_Normal.l1])
        | succ k3 =>
         have H := HA.out
         clear HA
         simp only [grapnelref18_Normal.l1] at H
         by_cases c12 : x8_3 < (x4_1.length : Int)
         ·
          rw [if_pos c12] at H
          have c12b0 : decide (x8_3 < (x4_1.length : Int)) = true := decide_eq_true c12
          clear c12
          by_cases c13 : x7_3 = true
          ·
           subst c13
           have H1 : (if 0 ≤ x8_3 then (if x6_3.length < 1954687338268 then (grapnelref18_Normal.l1 k3 l0 x4_1 x5_1 (x6_3 ++ [(⟨(rd_T46 x4_1 x8_3).f0, (⟨(rd_T46 x4_1 x8_3).f1.f0, (rd_T46 x4_1 x8_3).f1.f1, (rd_T46 x4_1 x8_3).f1.f2, (rd_T46 x4_1 x8_3).f1.f3, (rd_T46 x4_1 x8_3).f1.f4⟩ : S44), (rd_T46 x4_1 x8_3).f2⟩ : S46)]) true (wrap64 (x8_3 + 1))) else (none)) else (none)) = some (r1, r2) := by rw [if_pos rfl] at H; exact H
           clear H
           have H := H1
           clear H1
           by_cases c14 : 0 ≤ x8_3
           ·
            rw [if_pos c14] at H
            have c14b0 : decide (0 ≤ x8_3) = true := decide_eq_true c14
            clear c14
            by_cases c15 : x6_3.length < 1954687338268
            ·
             rw [if_pos c15] at H
             have LMc15 := Aside0.mk c15
             clear c15
             obtain ⟨y145, hy145⟩ : ∃ y_ : List (S46), y_ = (x6_3 ++ [(⟨(rd_T46 x4_1 x8_3).f0, (⟨(rd_T46 x4_1 x8_3).f1.f0, (rd_T46 x4_1 x8_3).f1.f1, (rd_T46 x4_1 x8_3).f1.f2, (rd_T46 x4_1 x8_3).f1.f3, (rd_T46 x4_1 x8_3).f1.f4⟩ : S44), (rd_T46 x4_1 x8_3).f2⟩ : S46)]) := ⟨_, rfl⟩
             replace H : (grapnelref18_Normal.l1 k3 l0 x4_1 x5_1 y145 true (wrap64 (x8_3 + 1))) = some (r1, r2) := by first | (rw [hy145]; with_reducible exact H) | (have H2_ := (Option.bind_some _ _).symm.trans H; rw [hy145]; with_reducible exact H2_) | (have H2_ := (Option.bind_some _ _).symm.trans H; with_reducible exact H2_) | with_reducible exact H | (rw [hy145]; exact H) | exact H
             have Ny145 := Aside0.mk hy145
             clear hy145
             have H' := Aside0.mk H
             clear H
             obtain ⟨Ao16, co16, eo16⟩ := Kd.R_slice HO_4.out
             subst eo16
             try go_wp2
             have n0_ := Aside0.mk (Kd.R_drew HO_4.out)
             have n1_ := Aside0.mk (Kd.R_drew HO_6.out)
             have n2_ := Aside0.mk (below_drew1 HB.out)
             clear HO_4; clear HO_6; clear HB
             have HO_4 := n0_
             have HO_6 := n1_
             have HB := n2_
             clear n0_ n1_ n2_
             refine start_ (n := 15) (S := fun w' => True) (ds := []) #[false, false, false, false, false, false, false, false, false, false, false, false, false, false, false] (by kernel_rfl) rfl rfl trivial (fun hHeld => ?_); refine with_tabW grapnelref18_Normal.tab12 grapnelref18_Normal.bits12 (fun HT_ HW_ => ?_)
             generalize wr.drew = w17 at HO_4 HO_6 HB hHeld ⊢
             refine pure_ (i := 0) (N := some 44) (v := ?_) (a' := ?_) #[true, false, false, false, false, false, false, false, false, false, false, false, false, false, false] rfl rfl (any_of HT_.out (by kernel_rfl)) (fun _ _ _ h => h) (Or.inl ⟨by rfl, ?_⟩) ?_ ?_
             rotate_left; · intro w'; go_simp; with_reducible rfl
             rotate_left; · simp only [Act.put, List.setIfInBounds_toArray, List.set_cons_zero, List.set_cons_succ, i64_w, i32_w]; rfl
             refine pure_ (i := 1) (N := some 45) (v := ?_) (a' := ?_) #[true, true, false, false, false, false, false, false, false, false, false, false, false, false, false] rfl rfl (any_of HT_.out (by kernel_rfl)) (fun _ _ _ h => h) (Or.inl ⟨by rfl, ?_⟩) ?_ ?_
             rotate_left; · intro w'; go_simp; with_reducible rfl
             rotate_left; · simp only [Act.put, List.setIfInBounds_toArray, List.set_cons_zero, List.set_cons_succ, i64_w, i32_w]; rfl
             refine pure_ (i := 2) (N := some 46) (v := ?_) (a' := ?_) #[true, true, true, false, false, false, false, false, false, false, false, false, false, false, false] rfl rfl (any_of HT_.out (by kernel_rfl)) (fun _ _ _ h => h) (Or.inl ⟨by rfl, ?_⟩) ?_ ?_
             rotate_left; · intro w'; go_simp; with_reducible rfl
             rotate_left; · simp only [Act.put, List.setIfInBounds_toArray, List.set_cons_zero, List.set_cons_succ, i64_w, i32_w]; rfl
             refine pure_ (i := 3) (N := some 47) (v := undef) (a' := ?_) #[true, true, true, true, false, false, false, false, false, false, false, false, false, false, false] rfl rfl (any_of HT_.out (by kernel_rfl)) (fun _ _ _ h => h) (Or.inr ⟨by rfl, rfl⟩) ?_ ?_
             rotate_left; · simp only [Act.put, List.setIfInBounds_toArray, List.set_cons_zero, List.set_cons_succ, i64_w, i32_w]; rfl
             refine pure_ (i := 4) (N := some 48) (v := undef) (a' := ?_) #[true, true, true, true, true, false, false, false, false, false, false, false, false, false, false] rfl rfl (any_of HT_.out (by kernel_rfl)) (fun _ _ _ h => h) (Or.inr ⟨by rfl, rfl⟩) ?_ ?_
             rotate_left; · simp only [Act.put, List.setIfInBounds_toArray, List.set_cons_zero, List.set_cons_succ, i64_w, i32_w]; rfl
             refine pure_ (i := 5) (N := some 49) (v := undef) (a' := ?_) #[true, true, true, true, true, true, false, false, false, false, false, false, false, false, false] rfl rfl (any_of HT_.out (by kernel_rfl)) (fun _ _ _ h => h) (Or.inr ⟨by rfl, rfl⟩) ?_ ?_
             rotate_left; · simp only [Act.put, List.setIfInBounds_toArray, List.set_cons_zero, List.set_cons_succ, i64_w, i32_w]; rfl
             refine pure_ (i := 6) (N := some 50) (v := undef) (a' := ?_) #[true, true, true, true, true, true, true, false, false, false, false, false, false, false, false] rfl rfl (any_of HT_.out (by kernel_rfl)) (fun _ _ _ h => h) (Or.inr ⟨by rfl, rfl⟩) ?_ ?_
             rotate_left; · simp only [Act.put, List.setIfInBounds_toArray, List.set_cons_zero, List.set_cons_succ, i64_w, i32_w]; rfl
             refine pure_ (i := 7) (N := some 51) (v := undef) (a' := ?_) #[true, true, true, true, true, true, true, true, false, false, false, false, false, false, false] rfl rfl (any_of HT_.out (by kernel_rfl)) (fun _ _ _ h => h) (Or.inr ⟨by rfl, rfl⟩) ?_ ?_
             rotate_left; · simp only [Act.put, List.setIfInBounds_toArray, List.set_cons_zero, List.set_cons_succ, i64_w, i32_w]; rfl
             refine pure_ (i := 8) (N := some 52) (v := undef) (a' := ?_) #[true, true, true, true, true, true, true, true, true, false, false, false, false, false, false] rfl rfl (any_of HT_.out (by kernel_rfl)) (fun _ _ _ h => h) (Or.inr ⟨by rfl, rfl⟩) ?_ ?_
             rotate_left; · simp only [Act.put, List.setIfInBounds_toArray, List.set_cons_zero, List.set_cons_succ, i64_w, i32_w]; rfl
             refine pure_ (i := 9) (N := some 53) (v := undef) (a' := ?_) #[true, true, true, true, true, true, true, true, true, true, false, false, false, false, false] rfl rfl (any_of HT_.out (by kernel_rfl)) (fun _ _ _ h => h) (Or.inr ⟨by rfl, rfl⟩) ?_ ?_
             rotate_left; · simp only [Act.put, List.setIfInBounds_toArray, List.set_cons_zero, List.set_cons_succ, i64_w, i32_w]; rfl
             refine pure_ (i := 10) (N := some 54) (v := undef) (a' := ?_) #[true, true, true, true, true, true, true, true, true, true, true, false, false, false, false] rfl rfl (any_of HT_.out (by kernel_rfl)) (fun _ _ _ h => h) (Or.inr ⟨by rfl, rfl⟩) ?_ ?_
             rotate_left; · simp only [Act.put, List.setIfInBounds_toArray, List.set_cons_zero, List.set_cons_succ, i64_w, i32_w]; rfl
             refine pure_ (i := 11) (N := some 55) (v := undef) (a' := ?_) #[true, true, true, true, true, true, true, true, true, true, true, true, false, false, false] rfl rfl (any_of HT_.out (by kernel_rfl)) (fun _ _ _ h => h) (Or.inr ⟨by rfl, rfl⟩) ?_ ?_
             rotate_left; · simp only [Act.put, List.setIfInBounds_toArray, List.set_cons_zero, List.set_cons_succ, i64_w, i32_w]; rfl
             refine pure_ (i := 12) (N := some 56) (v := undef) (a' := ?_) #[true, true, true, true, true, true, true, true, true, true, true, true, true, false, false] rfl rfl (any_of HT_.out (by kernel_rfl)) (fun _ _ _ h => h) (Or.inr ⟨by rfl, rfl⟩) ?_ ?_
             rotate_left; · simp only [Act.put, List.setIfInBounds_toArray, List.set_cons_zero, List.set_cons_succ, i64_w, i32_w]; rfl
             refine pure_ (i := 13) (N := some 57) (v := undef) (a' := ?_) #[true, true, true, true, true, true, true, true, true, true, true, true, true, true, false] rfl rfl (any_of HT_.out (by kernel_rfl)) (fun _ _ _ h => h) (Or.inr ⟨by rfl, rfl⟩) ?_ ?_
             rotate_left; · simp only [Act.put, List.setIfInBounds_toArray, List.set_cons_zero, List.set_cons_succ, i64_w, i32_w]; rfl
             refine pure_ (i := 14) (N := some 58) (v := ?_) (a' := ?_) #[true, true, true, true, true, true, true, true, true, true, true, true, true, true, true] rfl rfl (any_of HT_.out (by kernel_rfl)) (fun _ _ _ h => h) (Or.inl ⟨by rfl, ?_⟩) ?_ ?_
             rotate_left; · intro w'; go_simp; with_reducible rfl
             rotate_left; · simp only [Act.put, List.setIfInBounds_toArray, List.set_cons_zero, List.set_cons_succ, i64_w, i32_w]; rfl
             refine done_ (done_of HT_.out (by kernel_rfl)) ?_
             have p144 : 0 ≤ (x8_3 : Int) := of_decide_eq_true (by first | (with_reducible assumption) | assumption)
             have q144 : x8_3 < (x4_1.length : Int) := of_decide_eq_true (by first | (with_reducible assumption) | assumption)
             obtain ⟨ad144, e144, hx144_0, hx144_1, hx144_2, hx144_3, hx144_4, hx144_5, hx144_6⟩ := at_T46 (Kd.R_reads' HO_4.out).2.2 x8_3 p144 q144
             cases e144
             replace p144 := eq_true p144
             replace q144 := eq_true q144
             try go_wp2_with (first | ((with_reducible refine gate_builtin (b := .append) (xs := #[.tmp 66, .tmp 71]) rfl ?_); at_builtin; refine Kd.R_append k46 (w0 := w) w.heap.size rfl (.tmp 66) (.tmp 71) 22 46 (.agg #[(.string ⟨#[]⟩), (.int .i64 0), (.int .i64 0), (.int .i64 0), (.int .i64 0), (.int .i64 0), (.string ⟨#[]⟩)]) 72 rfl Tryd.underlying22 info46 rfl (by decide) (by omega) u6 x6_3 (⟨(rd_T46 x4_1 x8_3).f0, (⟨(rd_T46 x4_1 x8_3).f1.f0, (rd_T46 x4_1 x8_3).f1.f1, (rd_T46 x4_1 x8_3).f1.f2, (rd_T46 x4_1 x8_3).f1.f3, (rd_T46 x4_1 x8_3).f1.f4⟩ : S44), (rd_T46 x4_1 x8_3).f2⟩ : S46) [.string ((rd_T46 x4_1 x8_3).f0), .int .i64 ((rd_T46 x4_1 x8_3).f1.f0), .int .i64 ((rd_T46 x4_1 x8_3).f1.f1), .int .i64 ((rd_T46 x4_1 x8_3).f1.f2), .int .i64 ((rd_T46 x4_1 x8_3).f1.f3), .int .i64 ((rd_T46 x4_1 x8_3).f1.f4), .string ((rd_T46 x4_1 x8_3).f2)] (fun k_ => some k_ ≠ (.slice (some ad144) x4_1.length co16 : Value).ownBlock) (fun _ => False) rfl rfl ?aP (fun _ hk => hk.elim) ?aF ?aO ?aB ?aS ?aL ?_; (case aP => exact k46_mkM _ _ _ (⟨(rd_T46 x4_1 x8_3).f0, (⟨(rd_T46 x4_1 x8_3).f1.f0, (rd_T46 x4_1 x8_3).f1.f1, (rd_T46 x4_1 x8_3).f1.f2, (rd_T46 x4_1 x8_3).f1.f3, (rd_T46 x4_1 x8_3).f1.f4⟩ : S44), (rd_T46 x4_1 x8_3).f2⟩ : S46)); (case aB => exact (by repeat (first | (with_reducible first | exact HB.out | apply below_alloc | apply pw_below_drewN | apply below_drew1) | exact HB.out))); (case aF => exact (fun k_ hk => Kd.fresh' (Kd.R_lt (by (with_reducible repeat (first | apply Kd.R_alloc | apply Kd.R_drewN | apply Kd.R_drew)); exact HO_4.out)) k_ hk)); (case aO => exact (by (with_reducible repeat (first | apply Kd.R_alloc | apply Kd.R_drewN | apply Kd.R_drew)); exact HO_6.out)); (case aS => exact (below_size (by repeat (first | (with_reducible first | exact HB.out | apply below_alloc | apply pw_below_drewN | apply below_drew1) | exact HB.out)))); (case aL => have := LMc15.out; omega); intro v146 w18 ho hb hg hat; rw [← Ny145.out] at ho; have n0_ := Aside0.mk (Kd.R_after (ok := (fun _ => True)) (by (with_reducible repeat (first | apply Kd.R_alloc | apply Kd.R_drewN | apply Kd.R_drew)); exact Kd.R_mono HO_4.out (fun _ hk => ⟨trivial, hk⟩)) hg hat); have n1_ := Aside0.mk (hb); have n2_ := Aside0.mk (ho); clear HO_4; clear HB; clear HO_6; have HO_4 := n0_; have HB := n1_; have HO147 := n2_; clear n0_ n1_ n2_; clear ho hb hg hat))
             go_roundg k3
             case measure => have := HK1.out; have := HJ2.out; have := HK3.out; omega
             case rel => exact ⟨(y145), (true), (wrap64 (x8_3 + 1)), (by first | rfl | (simp; done) | (simp [*]; done)), (by first | rfl | (simp; done) | (simp [*]; done)), H', ⟨by have := HK1.out; have := HJ2.out; have := HK3.out; omega⟩, ⟨by (with_reducible repeat (first | apply Kd.R_alloc | apply Kd.R_drewN | apply Kd.R_drew)); exact Kd.R_mono HO_4.out (fun _ hk => hk.2)⟩, ⟨by (with_reducible repeat (first | apply Kd.R_alloc | apply Kd.R_drewN | apply Kd.R_drew)); exact HO147.out⟩, ⟨by repeat (first | (with_reducible first | exact HB.out | apply below_alloc | apply pw_below_drewN | apply below_drew1) | exact HB.out)⟩⟩
            ·
             rw [if_neg c15] at H
             exact absurd H (by simp)
           ·
            rw [if_neg c14] at H
            exact absurd H (by simp)
          ·
           replace c13 := Bool.eq_false_iff.mpr c13
           subst c13
           have H1 : (if 0 ≤ x5_1 then (if x5_1 < (l0.length : Int) then (if 0 ≤ x8_3 then ((grapnelref18_Less.f k3 ((rd_T46 l0 x5_1).f0) ((rd_T46 x4_1 x8_3).f0)).bind fun t150 => (if t150 = true then (if x6_3.length < 1954687338268 then ((some (x6_3 ++ [(⟨(rd_T46 l0 x5_1).f0, (⟨(rd_T46 l0 x5_1).f1.f0, (rd_T46 l0 x5_1).f1.f1, (rd_T46 l0 x5_1).f1.f2, (rd_T46 l0 x5_1).f1.f3, (rd_T46 l0 x5_1).f1.f4⟩ : S44), (rd_T46 l0 x5_1).f2⟩ : S46)] : List (S46))).bind fun y152 => (if y152.length < 1954687338268 then (grapnelref18_Normal.l1 k3 l0 x4_1 x5_1 (y152 ++ [(⟨(rd_T46 x4_1 x8_3).f0, (⟨(rd_T46 x4_1 x8_3).f1.f0, (rd_T46 x4_1 x8_3).f1.f1, (rd_T46 x4_1 x8_3).f1.f2, (rd_T46 x4_1 x8_3).f1.f3, (rd_T46 x4_1 x8_3).f1.f4⟩ : S44), (rd_T46 x4_1 x8_3).f2⟩ : S46)]) true (wrap64 (x8_3 + 1))) else (none))) else (none)) else (if x6_3.length < 1954687338268 then (grapnelref18_Normal.l1 k3 l0 x4_1 x5_1 (x6_3 ++ [(⟨(rd_T46 x4_1 x8_3).f0, (⟨(rd_T46 x4_1 x8_3).f1.f0, (rd_T46 x4_1 x8_3).f1.f1, (rd_T46 x4_1 x8_3).f1.f2, (rd_T46 x4_1 x8_3).f1.f3, (rd_T46 x4_1 x8_3).f1.f4⟩ : S44), (rd_T46 x4_1 x8_3).f2⟩ : S46)]) false (wrap64 (x8_3 + 1))) else (none)))) else (none)) else (none)) else (none)) = some (r1, r2) := by rw [if_neg (show ¬ (false = true) by decide)] at H; exact H
           clear H
           have H := H1
           clear H1
           by_cases c19 : 0 ≤ x5_1
           ·
            rw [if_pos c19] at H
            have c19b0 : decide (0 ≤ x5_1) = true := decide_eq_true c19
            clear c19
            by_cases c20 : x5_1 < (l0.length : Int)
            ·
             rw [if_pos c20] at H
             have c20b0 : decide (x5_1 < (l0.length : Int)) = true := decide_eq_true c20
             clear c20
             by_cases c21 : 0 ≤ x8_3
             ·
              rw [if_pos c21] at H
              have c21b0 : decide (0 ≤ x8_3) = true := decide_eq_true c21
              clear c21
              replace H := Option.bind_eq_some_iff.mp H
              obtain ⟨t150, A220, H⟩ := H
              replace H : (if t150 = true then (if x6_3.length < 1954687338268 then ((some (x6_3 ++ [(⟨(rd_T46 l0 x5_1).f0, (⟨(rd_T46 l0 x5_1).f1.f0, (rd_T46 l0 x5_1).f1.f1, (rd_T46 l0 x5_1).f1.f2, (rd_T46 l0 x5_1).f1.f3, (rd_T46 l0 x5_1).f1.f4⟩ : S44), (rd_T46 l0 x5_1).f2⟩ : S46)] : List (S46))).bind fun y152 => (if y152.length < 1954687338268 then (grapnelref18_Normal.l1 k3 l0 x4_1 x5_1 (y152 ++ [(⟨(rd_T46 x4_1 x8_3).f0, (⟨(rd_T46 x4_1 x8_3).f1.f0, (rd_T46 x4_1 x8_3).f1.f1, (rd_T46 x4_1 x8_3).f1.f2, (rd_T46 x4_1 x8_3).f1.f3, (rd_T46 x4_1 x8_3).f1.f4⟩ : S44), (rd_T46 x4_1 x8_3).f2⟩ : S46)]) true (wrap64 (x8_3 + 1))) else (none))) else (none)) else (if x6_3.length < 1954687338268 then (grapnelref18_Normal.l1 k3 l0 x4_1 x5_1 (x6_3 ++ [(⟨(rd_T46 x4_1 x8_3).f0, (⟨(rd_T46 x4_1 x8_3).f1.f0, (rd_T46 x4_1 x8_3).f1.f1, (rd_T46 x4_1 x8_3).f1.f2, (rd_T46 x4_1 x8_3).f1.f3, (rd_T46 x4_1 x8_3).f1.f4⟩ : S44), (rd_T46 x4_1 x8_3).f2⟩ : S46)]) false (wrap64 (x8_3 + 1))) else (none))) = some (r1, r2) := H
              have A22 := Aside0.mk A220
              clear A220
              by_cases c23 : t150 = true
              ·
               subst c23
               have H1 : (if x6_3.length < 1954687338268 then ((some (x6_3 ++ [(⟨(rd_T46 l0 x5_1).f0, (⟨(rd_T46 l0 x5_1).f1.f0, (rd_T46 l0 x5_1).f1.f1, (rd_T46 l0 x5_1).f1.f2, (rd_T46 l0 x5_1).f1.f3, (rd_T46 l0 x5_1).f1.f4⟩ : S44), (rd_T46 l0 x5_1).f2⟩ : S46)] : List (S46))).bind fun y152 => (if y152.length < 1954687338268 then (grapnelref18_Normal.l1 k3 l0 x4_1 x5_1 (y152 ++ [(⟨(rd_T46 x4_1 x8_3).f0, (⟨(rd_T46 x4_1 x8_3).f1.f0, (rd_T46 x4_1 x8_3).f1.f1, (rd_T46 x4_1 x8_3).f1.f2, (rd_T46 x4_1 x8_3).f1.f3, (rd_T46 x4_1 x8_3).f1.f4⟩ : S44), (rd_T46 x4_1 x8_3).f2⟩ : S46)]) true (wrap64 (x8_3 + 1))) else (none))) else (none)) = some (r1, r2) := by rw [if_pos rfl] at H; exact H
               clear H
               have H := H1
               clear H1
               by_cases c24 : x6_3.length < 1954687338268
               ·
                rw [if_pos c24] at H
                have LMc24 := Aside0.mk c24
                clear c24
                obtain ⟨y152, hy152⟩ : ∃ y_ : List (S46), y_ = (x6_3 ++ [(⟨(rd_T46 l0 x5_1).f0, (⟨(rd_T46 l0 x5_1).f1.f0, (rd_T46 l0 x5_1).f1.f1, (rd_T46 l0 x5_1).f1.f2, (rd_T46 l0 x5_1).f1.f3, (rd_T46 l0 x5_1).f1.f4⟩ : S44), (rd_T46 l0 x5_1).f2⟩ : S46)]) := ⟨_, rfl⟩
                replace H : (if y152.length < 1954687338268 then (grapnelref18_Normal.l1 k3 l0 x4_1 x5_1 (y152 ++ [(⟨(rd_T46 x4_1 x8_3).f0, (⟨(rd_T46 x4_1 x8_3).f1.f0, (rd_T46 x4_1 x8_3).f1.f1, (rd_T46 x4_1 x8_3).f1.f2, (rd_T46 x4_1 x8_3).f1.f3, (rd_T46 x4_1 x8_3).f1.f4⟩ : S44), (rd_T46 x4_1 x8_3).f2⟩ : S46)]) true (wrap64 (x8_3 + 1))) else (none)) = some (r1, r2) := by first | (rw [hy152]; with_reducible exact H) | (have H2_ := (Option.bind_some _ _).symm.trans H; rw [hy152]; with_reducible exact H2_) | (have H2_ := (Option.bind_some _ _).symm.trans H; with_reducible exact H2_) | with_reducible exact H | (rw [hy152]; exact H) | exact H
                have Ny152 := Aside0.mk hy152
                clear hy152
                by_cases c25 : y152.length < 1954687338268
                ·
                 rw [if_pos c25] at H
                 have LMc25 := Aside0.mk c25
                 clear c25
                 obtain ⟨y156, hy156⟩ : ∃ y_ : List (S46), y_ = (y152 ++ [(⟨(rd_T46 x4_1 x8_3).f0, (⟨(rd_T46 x4_1 x8_3).f1.f0, (rd_T46 x4_1 x8_3).f1.f1, (rd_T46 x4_1 x8_3).f1.f2, (rd_T46 x4_1 x8_3).f1.f3, (rd_T46 x4_1 x8_3).f1.f4⟩ : S44), (rd_T46 x4_1 x8_3).f2⟩ : S46)]) := ⟨_, rfl⟩
                 replace H : (grapnelref18_Normal.l1 k3 l0 x4_1 x5_1 y156 true (wrap64 (x8_3 + 1))) = some (r1, r2) := by first | (rw [hy156]; with_reducible exact H) | (have H2_ := (Option.bind_some _ _).symm.trans H; rw [hy156]; with_reducible exact H2_) | (have H2_ := (Option.bind_some _ _).symm.trans H; with_reducible exact H2_) | with_reducible exact H | (rw [hy156]; exact H) | exact H
                 have Ny156 := Aside0.mk hy156
                 clear hy156
                 have H' := Aside0.mk H
                 clear H
                 obtain ⟨Ao26, co26, eo26⟩ := Kd.R_slice HO_4.out
                 subst eo26
                 try go_wp2
                 have n0_ := Aside0.mk (Kd.R_drew HO_4.out)
                 have n1_ := Aside0.mk (Kd.R_drew HO_6.out)
                 have n2_ := Aside0.mk (below_drew1 HB.out)
                 clear HO_4; clear HO_6; clear HB
                 have HO_4 := n0_
                 have HO_6 := n1_
                 have HB := n2_
                 clear n0_ n1_ n2_
                 have p148 : 0 ≤ (x5_1 : Int) := of_decide_eq_true (by first | (with_reducible assumption) | assumption)
                 have q148 : x5_1 < (l0.length : Int) := of_decide_eq_true (by first | (with_reducible assumption) | assumption)
                 obtain ⟨ad148, e148, hx148_0, hx148_1, hx148_2, hx148_3, hx148_4, hx148_5, hx148_6⟩ := at_T46 HR0.out x5_1 p148 q148
                 have hw148_6 := hx148_6
                 have hw148_5 := hx148_5
                 have hw148_4 := hx148_4
                 have hw148_3 := hx148_3
                 have hw148_2 := hx148_2
                 have hw148_1 := hx148_1
                 have hw148_0 := hx148_0
                 cases e148
                 replace hx148_0 := (HB.out.cell (World.block_lt_of_cell? w _ hx148_0)).trans hx148_0
                 replace hx148_1 := (HB.out.cell (World.block_lt_of_cell? w _ hx148_1)).trans hx148_1
                 replace hx148_2 := (HB.out.cell (World.block_lt_of_cell? w _ hx148_2)).trans hx148_2
                 replace hx148_3 := (HB.out.cell (World.block_lt_of_cell? w _ hx148_3)).trans hx148_3
                 replace hx148_4 := (HB.out.cell (World.block_lt_of_cell? w _ hx148_4)).trans hx148_4
                 replace hx148_5 := (HB.out.cell (World.block_lt_of_cell? w _ hx148_5)).trans hx148_5
                 replace hx148_6 := (HB.out.cell (World.block_lt_of_cell? w _ hx148_6)).trans hx148_6
                 replace p148 := eq_true p148
                 replace q148 := eq_true q148
                 have p149 : 0 ≤ (x8_3 : Int) := of_decide_eq_true (by first | (with_reducible assumption) | assumption)
                 have q149 : x8_3 < (x4_1.length : Int) := of_decide_eq_true (by first | (with_reducible assumption) | assumption)
                 obtain ⟨ad149, e149, hx149_0, hx149_1, hx149_2, hx149_3, hx149_4, hx149_5, hx149_6⟩ := at_T46 (Kd.R_reads' HO_4.out).2.2 x8_3 p149 q149
                 cases e149
                 replace p149 := eq_true p149
                 replace q149 := eq_true q149
                 refine start_ (n := 15) (S := fun w' => w'.cell? (ad148.add ((x5_1).toNat * 7)) = some (.string ((rd_T46 l0 x5_1).f0)) ∧ w'.cell? ⟨(ad148.add ((x5_1).toNat * 7)).block, (ad148.add ((x5_1).toNat * 7)).off + 1, none⟩ = some (.int .i64 ((rd_T46 l0 x5_1).f1.f0)) ∧ w'.cell? ⟨(ad148.add ((x5_1).toNat * 7)).block, (ad148.add ((x5_1).toNat * 7)).off + 2, none⟩ = some (.int .i64 ((rd_T46 l0 x5_1).f1.f1)) ∧ w'.cell? ⟨(ad148.add ((x5_1).toNat * 7)).block, (ad148.add ((x5_1).toNat * 7)).off + 3, none⟩ = some (.int .i64 ((rd_T46 l0 x5_1).f1.f2)) ∧ w'.cell? ⟨(ad148.add ((x5_1).toNat * 7)).block, (ad148.add ((x5_1).toNat * 7)).off + 4, none⟩ = some (.int .i64 ((rd_T46 l0 x5_1).f1.f3)) ∧ w'.cell? ⟨(ad148.add ((x5_1).toNat * 7)).block, (ad148.add ((x5_1).toNat * 7)).off + 5, none⟩ = some (.int .i64 ((rd_T46 l0 x5_1).f1.f4)) ∧ w'.cell? ⟨(ad148.add ((x5_1).toNat * 7)).block, (ad148.add ((x5_1).toNat * 7)).off + 6, none⟩ = some (.string ((rd_T46 l0 x5_1).f2)) ∧ w'.cell? (ad149.add ((x8_3).toNat * 7)) = some (.string ((rd_T46 x4_1 x8_3).f0)) ∧ w'.cell? ⟨(ad149.add ((x8_3).toNat * 7)).block, (ad149.add ((x8_3).toNat * 7)).off + 1, none⟩ = some (.int .i64 ((rd_T46 x4_1 x8_3).f1.f0)) ∧ w'.cell? ⟨(ad149.add ((x8_3).toNat * 7)).block, (ad149.add ((x8_3).toNat * 7)).off + 2, none⟩ = some (.int .i64 ((rd_T46 x4_1 x8_3).f1.f1)) ∧ w'.cell? ⟨(ad149.add ((x8_3).toNat * 7)).block, (ad149.add ((x8_3).toNat * 7)).off + 3, none⟩ = some (.int .i64 ((rd_T46 x4_1 x8_3).f1.f2)) ∧ w'.cell? ⟨(ad149.add ((x8_3).toNat * 7)).block, (ad149.add ((x8_3).toNat * 7)).off + 4, none⟩ = some (.int .i64 ((rd_T46 x4_1 x8_3).f1.f3)) ∧ w'.cell? ⟨(ad149.add ((x8_3).toNat * 7)).block, (ad149.add ((x8_3).toNat * 7)).off + 5, none⟩ = some (.int .i64 ((rd_T46 x4_1 x8_3).f1.f4)) ∧ w'.cell? ⟨(ad149.add ((x8_3).toNat * 7)).block, (ad149.add ((x8_3).toNat * 7)).off + 6, none⟩ = some (.string ((rd_T46 x4_1 x8_3).f2))) (ds := []) #[false, false, false, false, false, false, false, false, false, false, false, false, false, false, false] (by kernel_rfl) rfl rfl ⟨((HB.out.cell (World.block_lt_of_cell? w _ hw148_0)).trans hw148_0), ((HB.out.cell (World.block_lt_of_cell? w _ hw148_1)).trans hw148_1), ((HB.out.cell (World.block_lt_of_cell? w _ hw148_2)).trans hw148_2), ((HB.out.cell (World.block_lt_of_cell? w _ hw148_3)).trans hw148_3), ((HB.out.cell (World.block_lt_of_cell? w _ hw148_4)).trans hw148_4), ((HB.out.cell (World.block_lt_of_cell? w _ hw148_5)).trans hw148_5), ((HB.out.cell (World.block_lt_of_cell? w _ hw148_6)).trans hw148_6), hx149_0, hx149_1, hx149_2, hx149_3, hx149_4, hx149_5, hx149_6⟩ (fun hHeld => ?_); refine with_tabW grapnelref18_Normal.tab12 grapnelref18_Normal.bits12 (fun HT_ HW_ => ?_)
                 generalize wr.drew = w27 at HO_4 HO_6 HB hx148_0 hx148_1 hx148_2 hx148_3 hx148_4 hx148_5 hx148_6 hx149_0 hx149_1 hx149_2 hx149_3 hx149_4 hx149_5 hx149_6 hHeld ⊢
                 refine pure_ (i := 0) (N := some 44) (v := ?_) (a' := ?_) #[true, false, false, false, false, false, false, false, false, false, false, false, false, false, false] rfl rfl (any_of HT_.out (by kernel_rfl)) (fun _ _ _ h => h) (Or.inl ⟨by rfl, ?_⟩) ?_ ?_
                 rotate_left; · intro w'; go_simp; with_reducible rfl
                 rotate_left; · simp only [Act.put, List.setIfInBounds_toArray, List.set_cons_zero, List.set_cons_succ, i64_w, i32_w]; rfl
                 refine pure_ (i := 1) (N := some 45) (v := ?_) (a' := ?_) #[true, true, false, false, false, false, false, false, false, false, false, false, false, false, false] rfl rfl (any_of HT_.out (by kernel_rfl)) (fun _ _ _ h => h) (Or.inl ⟨by rfl, ?_⟩) ?_ ?_
                 rotate_left; · intro w'; go_simp; with_reducible rfl
                 rotate_left; · simp only [Act.put, List.setIfInBounds_toArray, List.set_cons_zero, List.set_cons_succ, i64_w, i32_w]; rfl
                 refine pure_ (i := 2) (N := some 46) (v := ?_) (a' := ?_) #[true, true, true, false, false, false, false, false, false, false, false, false, false, false, false] rfl rfl (any_of HT_.out (by kernel_rfl)) (fun _ _ _ h => h) (Or.inl ⟨by rfl, ?_⟩) ?_ ?_
                 rotate_left; · intro w'; go_simp; with_reducible rfl
                 rotate_left; · simp only [Act.put, List.setIfInBounds_toArray, List.set_cons_zero, List.set_cons_succ, i64_w, i32_w]; rfl
                 refine pure_ (i := 3) (N := some 47) (v := ?_) (a' := ?_) #[true, true, true, true, false, false, false, false, false, false, false, false, false, false, false] rfl rfl (any_of HT_.out (by kernel_rfl)) (fun _ _ _ h => h) (Or.inl ⟨by rfl, ?_⟩) ?_ ?_
                 rotate_left; · intro w'; go_simp; with_reducible rfl
                 rotate_left; · simp only [Act.put, List.setIfInBounds_toArray, List.set_cons_zero, List.set_cons_succ, i64_w, i32_w]; rfl
                 refine pure_ (i := 4) (N := some 48) (v := ?_) (a' := ?_) #[true, true, true, true, true, false, false, false, false, false, false, false, false, false, false] rfl rfl (any_of HT_.out (by kernel_rfl)) (fun _ _ _ h => h) (Or.inl ⟨by rfl, ?_⟩) ?_ ?_
                 rotate_left; · intro w'; go_simp; with_reducible rfl
                 rotate_left; · simp only [Act.put, List.setIfInBounds_toArray, List.set_cons_zero, List.set_cons_succ, i64_w, i32_w]; rfl
                 refine pure_ (i := 5) (N := some 49) (v := ?_) (a' := ?_) #[true, true, true, true, true, true, false, false, false, false, false, false, false, false, false] rfl rfl (any_of HT_.out (by kernel_rfl)) (fun _ _ _ h => h) (Or.inl ⟨by rfl, ?_⟩) ?_ ?_
                 rotate_left; · intro w'; go_simp; with_reducible rfl
                 rotate_left; · simp only [Act.put, List.setIfInBounds_toArray, List.set_cons_zero, List.set_cons_succ, i64_w, i32_w]; rfl
                 refine pure_ (i := 6) (N := some 50) (v := ?_) (a' := ?_) #[true, true, true, true, true, true, true, false, false, false, false, false, false, false, false] rfl rfl (any_of HT_.out (by kernel_rfl)) (fun _ _ _ h => h) (Or.inl ⟨by rfl, ?_⟩) ?_ ?_
                 rotate_left; · intro w'; go_simp; with_reducible rfl
                 rotate_left; · simp only [Act.put, List.setIfInBounds_toArray, List.set_cons_zero, List.set_cons_succ, i64_w, i32_w]; rfl
                 refine pure_ (i := 8) (N := some 52) (v := ?_) (a' := ?_) #[true, true, true, true, true, true, true, false, true, false, false, false, false, false, false] rfl rfl (any_of HT_.out (by kernel_rfl)) (fun _ _ _ h => h) (Or.inl ⟨by rfl, ?_⟩) ?_ ?_
                 rotate_left; · intro w'; go_simp; with_reducible rfl
                 rotate_left; · simp only [Act.put, List.setIfInBounds_toArray, List.set_cons_zero, List.set_cons_succ, i64_w, i32_w]; rfl
                 refine pure_ (i := 9) (N := some 53) (v := ?_) (a' := ?_) #[true, true, true, true, true, true, true, false, true, true, false, false, false, false, false] rfl rfl (any_of HT_.out (by kernel_rfl)) (fun _ _ _ h => h) (Or.inl ⟨by rfl, ?_⟩) ?_ ?_
                 rotate_left; · intro w'; go_simp; with_reducible rfl
                 rotate_left; · simp only [Act.put, List.setIfInBounds_toArray, List.set_cons_zero, List.set_cons_succ, i64_w, i32_w]; rfl
                 refine pure_ (i := 10) (N := some 54) (v := ?_) (a' := ?_) #[true, true, true, true, true, true, true, false, true, true, true, false, false, false, false] rfl rfl (any_of HT_.out (by kernel_rfl)) (fun _ _ _ h => h) (Or.inl ⟨by rfl, ?_⟩) ?_ ?_
                 rotate_left; · intro w'; go_simp; with_reducible rfl
                 rotate_left; · simp only [Act.put, List.setIfInBounds_toArray, List.set_cons_zero, List.set_cons_succ, i64_w, i32_w]; rfl
                 refine pure_ (i := 11) (N := some 55) (v := ?_) (a' := ?_) #[true, true, true, true, true, true, true, false, true, true, true, true, false, false, false] rfl rfl (any_of HT_.out (by kernel_rfl)) (fun _ _ _ h => h) (Or.inl ⟨by rfl, ?_⟩) ?_ ?_
                 rotate_left; · intro w'; go_simp; with_reducible rfl
                 rotate_left; · simp only [Act.put, List.setIfInBounds_toArray, List.set_cons_zero, List.set_cons_succ, i64_w, i32_w]; rfl
                 refine take_ (i := 7) (N := some 51) (v := ?_) (a' := ?_) #[true, true, true, true, true, true, true, true, true, true, true, true, false, false, false] rfl rfl (take_ofW HT_.out HW_.out (by kernel_rfl)) (fun _ _ _ h => h) (Or.inl ⟨by rfl, ?_⟩) hHeld ?_ ?_
                 rotate_left
                 ·
                  rintro w' ⟨s0, s1, s2, s3, s4, s5, s6, s7, s8, s9, s10, s11, s12, s13⟩
                  go_simp
                  with_reducible rfl
                 rotate_left; · simp only [Act.put, List.setIfInBounds_toArray, List.set_cons_zero, List.set_cons_succ, i64_w, i32_w]; rfl
                 refine take_ (i := 12) (N := some 56) (v := ?_) (a' := ?_) #[true, true, true, true, true, true, true, true, true, true, true, true, true, false, false] rfl rfl (take_ofW HT_.out HW_.out (by kernel_rfl)) (fun _ _ _ h => h) (Or.inl ⟨by rfl, ?_⟩) hHeld ?_ ?_
                 rotate_left
                 ·
                  rintro w' ⟨s0, s1, s2, s3, s4, s5, s6, s7, s8, s9, s10, s11, s12, s13⟩
                  go_simp
                  with_reducible rfl
                 rotate_left; · simp only [Act.put, List.setIfInBounds_toArray, List.set_cons_zero, List.set_cons_succ, i64_w, i32_w]; rfl
                 refine one_ (i := 13) (N := some 57) #[true, true, true, true, true, true, true, true, true, true, true, true, true, true, false] rfl rfl (one_of HT_.out (by kernel_rfl)) (by decide) (fun K hK => ?_)
                 refine goes_ Tryd.func40 (by kernel_rfl) rfl #[.string ((rd_T46 l0 x5_1).f0), .string ((rd_T46 x4_1 x8_3).f0)] (by rfl) rfl rfl (by (try simp only [List.map_toArray, List.map_cons, List.map_nil]); first | done | rfl | (simp only [List.length_drop, List.length_take]; rfl)) ?_
                 with_reducible refine (grapnelref18_Less.calls k3 ((rd_T46 l0 x5_1).f0) ((rd_T46 x4_1 x8_3).f0) true _ A22.out).mono ?_
                 rintro e w' ⟨rfl, ⟨nd, rfl⟩⟩
                 refine ⟨_, rfl, ?_⟩
                 refine hK.out _ _ ⟨((HB.out.cell (World.block_lt_of_cell? w _ hw148_0)).trans hw148_0), ((HB.out.cell (World.block_lt_of_cell? w _ hw148_1)).trans hw148_1), ((HB.out.cell (World.block_lt_of_cell? w _ hw148_2)).trans hw148_2), ((HB.out.cell (World.block_lt_of_cell? w _ hw148_3)).trans hw148_3), ((HB.out.cell (World.block_lt_of_cell? w _ hw148_4)).trans hw148_4), ((HB.out.cell (World.block_lt_of_cell? w _ hw148_5)).trans hw148_5), ((HB.out.cell (World.block_lt_of_cell? w _ hw148_6)).trans hw148_6), hHeld.2.2.2.2.2.2.2.1, hHeld.2.2.2.2.2.2.2.2.1, hHeld.2.2.2.2.2.2.2.2.2.1, hHeld.2.2.2.2.2.2.2.2.2.2.1, hHeld.2.2.2.2.2.2.2.2.2.2.2.1, hHeld.2.2.2.2.2.2.2.2.2.2.2.2.1, hHeld.2.2.2.2.2.2.2.2.2.2.2.2.2⟩ (fun hHeld => ?_)
                 clear hK K
                 refine norm_ (a' := ?_) ?_ ?_
                 rotate_left
                 ·
                  show Act.put _ (some 57) _ = _
                  simp only [Act.put, List.setIfInBounds_toArray, List.set_cons_zero, List.set_cons_succ, i64_w, i32_w]
                  rfl
                 refine pure_ (i := 14) (N := some 58) (v := ?_) (a' := ?_) #[true, true, true, true, true, true, true, true, true, true, true, true, true, true, true] rfl rfl (any_of HT_.out (by kernel_rfl)) (fun _ _ _ h => h) (Or.inl ⟨by rfl, ?_⟩) ?_ ?_
                 rotate_left; · intro w'; go_simp; with_reducible rfl
                 rotate_left; · simp only [Act.put, List.setIfInBounds_toArray, List.set_cons_zero, List.set_cons_succ, i64_w, i32_w]; rfl
                 refine done_ (done_of HT_.out (by kernel_rfl)) ?_
                 have p151 : 0 ≤ (x5_1 : Int) := of_decide_eq_true (by first | (with_reducible assumption) | assumption)
                 have q151 : x5_1 < (l0.length : Int) := of_decide_eq_true (by first | (with_reducible assumption) | assumption)
                 obtain ⟨ad151, e151, hx151_0, hx151_1, hx151_2, hx151_3, hx151_4, hx151_5, hx151_6⟩ := at_T46 HR0.out x5_1 p151 q151
                 obtain rfl : ad148 = ad151 := (by injection e151)
                 replace hx151_0 := (HB.out.cell (World.block_lt_of_cell? w _ hx151_0)).trans hx151_0
                 replace hx151_1 := (HB.out.cell (World.block_lt_of_cell? w _ hx151_1)).trans hx151_1
                 replace hx151_2 := (HB.out.cell (World.block_lt_of_cell? w _ hx151_2)).trans hx151_2
                 replace hx151_3 := (HB.out.cell (World.block_lt_of_cell? w _ hx151_3)).trans hx151_3
                 replace hx151_4 := (HB.out.cell (World.block_lt_of_cell? w _ hx151_4)).trans hx151_4
                 replace hx151_5 := (HB.out.cell (World.block_lt_of_cell? w _ hx151_5)).trans hx151_5
                 replace hx151_6 := (HB.out.cell (World.block_lt_of_cell? w _ hx151_6)).trans hx151_6
                 replace p151 := eq_true p151
                 replace q151 := eq_true q151
                 try go_wp2_with (first | ((with_reducible refine gate_builtin (b := .append) (xs := #[.tmp 59, .tmp 64]) rfl ?_); at_builtin; refine Kd.R_append k46 (w0 := w) w.heap.size rfl (.tmp 59) (.tmp 64) 22 46 (.agg #[(.string ⟨#[]⟩), (.int .i64 0), (.int .i64 0), (.int .i64 0), (.int .i64 0), (.int .i64 0), (.string ⟨#[]⟩)]) 72 rfl Tryd.underlying22 info46 rfl (by decide) (by omega) u6 x6_3 (⟨(rd_T46 l0 x5_1).f0, (⟨(rd_T46 l0 x5_1).f1.f0, (rd_T46 l0 x5_1).f1.f1, (rd_T46 l0 x5_1).f1.f2, (rd_T46 l0 x5_1).f1.f3, (rd_T46 l0 x5_1).f1.f4⟩ : S44), (rd_T46 l0 x5_1).f2⟩ : S46) [.string ((rd_T46 l0 x5_1).f0), .int .i64 ((rd_T46 l0 x5_1).f1.f0), .int .i64 ((rd_T46 l0 x5_1).f1.f1), .int .i64 ((rd_T46 l0 x5_1).f1.f2), .int .i64 ((rd_T46 l0 x5_1).f1.f3), .int .i64 ((rd_T46 l0 x5_1).f1.f4), .string ((rd_T46 l0 x5_1).f2)] (fun k_ => some k_ ≠ (.slice (some ad149) x4_1.length co26 : Value).ownBlock) (fun _ => False) rfl rfl ?aP (fun _ hk => hk.elim) ?aF ?aO ?aB ?aS ?aL ?_; (case aP => exact k46_mkM _ _ _ (⟨(rd_T46 l0 x5_1).f0, (⟨(rd_T46 l0 x5_1).f1.f0, (rd_T46 l0 x5_1).f1.f1, (rd_T46 l0 x5_1).f1.f2, (rd_T46 l0 x5_1).f1.f3, (rd_T46 l0 x5_1).f1.f4⟩ : S44), (rd_T46 l0 x5_1).f2⟩ : S46)); (case aB => exact (by repeat (first | (with_reducible first | exact HB.out | apply below_alloc | apply pw_below_drewN | apply below_drew1) | exact HB.out))); (case aF => exact (fun k_ hk => Kd.fresh' (Kd.R_lt (by (with_reducible repeat (first | apply Kd.R_alloc | apply Kd.R_drewN | apply Kd.R_drew)); exact HO_4.out)) k_ hk)); (case aO => exact (by (with_reducible repeat (first | apply Kd.R_alloc | apply Kd.R_drewN | apply Kd.R_drew)); exact HO_6.out)); (case aS => exact (below_size (by repeat (first | (with_reducible first | exact HB.out | apply below_alloc | apply pw_below_drewN | apply below_drew1) | exact HB.out)))); (case aL => have := LMc24.out; omega); intro v153 w28 ho hb hg hat; rw [← Ny152.out] at ho; have n0_ := Aside0.mk (Kd.R_after (ok := (fun _ => True)) (by (with_reducible repeat (first | apply Kd.R_alloc | apply Kd.R_drewN | apply Kd.R_drew)); exact Kd.R_mono HO_4.out (fun _ hk => ⟨trivial, hk⟩)) hg hat); have n1_ := Aside0.mk (hb); have n2_ := Aside0.mk (ho); clear HO_4; clear HB; clear HO_6; have HO_4 := n0_; have HB := n1_; have HO154 := n2_; clear n0_ n1_ n2_; clear ho hb hg hat; have p155 : 0 ≤ (x8_3 : Int) := of_decide_eq_true (by first | (with_reducible assumption) | assumption); have q155 : x8_3 < (x4_1.length : Int) := of_decide_eq_true (by first | (with_reducible assumption) | assumption); obtain ⟨ad155, e155, hx155_0, hx155_1, hx155_2, hx155_3, hx155_4, hx155_5, hx155_6⟩ := at_T46 (Kd.R_reads' HO_4.out).2.2 x8_3 p155 q155; obtain rfl : ad149 = ad155 := (by injection e155); replace p155 := eq_true p155; replace q155 := eq_true q155) | ((with_reducible refine gate_builtin (b := .append) (xs := #[.tmp 66, .tmp 71]) rfl ?_); at_builtin; refine Kd.R_append k46 (w0 := w) w.heap.size rfl (.tmp 66) (.tmp 71) 22 46 (.agg #[(.string ⟨#[]⟩), (.int .i64 0), (.int .i64 0), (.int .i64 0), (.int .i64 0), (.int .i64 0), (.string ⟨#[]⟩)]) 72 rfl Tryd.underlying22 info46 rfl (by decide) (by omega) v153 y152 (⟨(rd_T46 x4_1 x8_3).f0, (⟨(rd_T46 x4_1 x8_3).f1.f0, (rd_T46 x4_1 x8_3).f1.f1, (rd_T46 x4_1 x8_3).f1.f2, (rd_T46 x4_1 x8_3).f1.f3, (rd_T46 x4_1 x8_3).f1.f4⟩ : S44), (rd_T46 x4_1 x8_3).f2⟩ : S46) [.string ((rd_T46 x4_1 x8_3).f0), .int .i64 ((rd_T46 x4_1 x8_3).f1.f0), .int .i64 ((rd_T46 x4_1 x8_3).f1.f1), .int .i64 ((rd_T46 x4_1 x8_3).f1.f2), .int .i64 ((rd_T46 x4_1 x8_3).f1.f3), .int .i64 ((rd_T46 x4_1 x8_3).f1.f4), .string ((rd_T46 x4_1 x8_3).f2)] (fun k_ => some k_ ≠ (.slice (some ad149) x4_1.length co26 : Value).ownBlock) (fun _ => False) rfl rfl ?aP (fun _ hk => hk.elim) ?aF ?aO ?aB ?aS ?aL ?_; (case aP => exact k46_mkM _ _ _ (⟨(rd_T46 x4_1 x8_3).f0, (⟨(rd_T46 x4_1 x8_3).f1.f0, (rd_T46 x4_1 x8_3).f1.f1, (rd_T46 x4_1 x8_3).f1.f2, (rd_T46 x4_1 x8_3).f1.f3, (rd_T46 x4_1 x8_3).f1.f4⟩ : S44), (rd_T46 x4_1 x8_3).f2⟩ : S46)); (case aB => exact (by repeat (first | (with_reducible first | exact HB.out | apply below_alloc | apply pw_below_drewN | apply below_drew1) | exact HB.out))); (case aF => exact (fun k_ hk => Kd.fresh' (Kd.R_lt (by (with_reducible repeat (first | apply Kd.R_alloc | apply Kd.R_drewN | apply Kd.R_drew)); exact HO_4.out)) k_ hk)); (case aO => exact (by (with_reducible repeat (first | apply Kd.R_alloc | apply Kd.R_drewN | apply Kd.R_drew)); exact HO154.out)); (case aS => exact (below_size (by repeat (first | (with_reducible first | exact HB.out | apply below_alloc | apply pw_below_drewN | apply below_drew1) | exact HB.out)))); (case aL => have := LMc25.out; omega); intro v157 w29 ho hb hg hat; rw [← Ny156.out] at ho; have n0_ := Aside0.mk (Kd.R_after (ok := (fun _ => True)) (by (with_reducible repeat (first | apply Kd.R_alloc | apply Kd.R_drewN | apply Kd.R_drew)); exact HO_4.out) hg hat); have n1_ := Aside0.mk (hb); have n2_ := Aside0.mk (ho); clear HO_4; clear HB; clear HO154; have HO_4 := n0_; have HB := n1_; have HO158 := n2_; clear n0_ n1_ n2_; clear ho hb hg hat))
                 go_roundg k3
                 case measure => have := HK1.out; have := HJ2.out; have := HK3.out; omega
                 case rel => exact ⟨(y156), (true), (wrap64 (x8_3 + 1)), (by first | rfl | (simp; done) | (simp [*]; done)), (by first | rfl | (simp; done) | (simp [*]; done)), H', ⟨by have := HK1.out; have := HJ2.out; have := HK3.out; omega⟩, ⟨by (with_reducible repeat (first | apply Kd.R_alloc | apply Kd.R_drewN | apply Kd.R_drew)); exact Kd.R_mono HO_4.out (fun _ hk => hk.2)⟩, ⟨by (with_reducible repeat (first | apply Kd.R_alloc | apply Kd.R_drewN | apply Kd.R_drew)); exact HO158.out⟩, ⟨by repeat (first | (with_reducible first | exact HB.out | apply below_alloc | apply pw_below_drewN | apply below_drew1) | exact HB.out)⟩⟩
                ·
                 rw [if_neg c25] at H
                 exact absurd H (by simp)
               ·
                rw [if_neg c24] at H
                exact absurd H (by simp)
              ·
               replace c23 := Bool.eq_false_iff.mpr c23
               subst c23
               have H1 : (if x6_3.length < 1954687338268 then (grapnelref18_Normal.l1 k3 l0 x4_1 x5_1 (x6_3 ++ [(⟨(rd_T46 x4_1 x8_3).f0, (⟨(rd_T46 x4_1 x8_3).f1.f0, (rd_T46 x4_1 x8_3).f1.f1, (rd_T46 x4_1 x8_3).f1.f2, (rd_T46 x4_1 x8_3).f1.f3, (rd_T46 x4_1 x8_3).f1.f4⟩ : S44), (rd_T46 x4_1 x8_3).f2⟩ : S46)]) false (wrap64 (x8_3 + 1))) else (none)) = some (r1, r2) := by rw [if_neg (show ¬ (false = true) by decide)] at H; exact H
               clear H
               have H := H1
               clear H1
               by_cases c30 : x6_3.length < 1954687338268
               ·
                rw [if_pos c30] at H
                have LMc30 := Aside0.mk c30
                clear c30
                obtain ⟨y160, hy160⟩ : ∃ y_ : List (S46), y_ = (x6_3 ++ [(⟨(rd_T46 x4_1 x8_3).f0, (⟨(rd_T46 x4_1 x8_3).f1.f0, (rd_T46 x4_1 x8_3).f1.f1, (rd_T46 x4_1 x8_3).f1.f2, (rd_T46 x4_1 x8_3).f1.f3, (rd_T46 x4_1 x8_3).f1.f4⟩ : S44), (rd_T46 x4_1 x8_3).f2⟩ : S46)]) := ⟨_, rfl⟩
                replace H : (grapnelref18_Normal.l1 k3 l0 x4_1 x5_1 y160 false (wrap64 (x8_3 + 1))) = some (r1, r2) := by first | (rw [hy160]; with_reducible exact H) | (have H2_ := (Option.bind_some _ _).symm.trans H; rw [hy160]; with_reducible exact H2_) | (have H2_ := (Option.bind_some _ _).symm.trans H; with_reducible exact H2_) | with_reducible exact H | (rw [hy160]; exact H) | exact H
                have Ny160 := Aside0.mk hy160
                clear hy160
                have H' := Aside0.mk H
                clear H
                obtain ⟨Ao31, co31, eo31⟩ := Kd.R_slice HO_4.out
                subst eo31
                try go_wp2
                have n0_ := Aside0.mk (Kd.R_drew HO_4.out)
                have n1_ := Aside0.mk (Kd.R_drew HO_6.out)
                have n2_ := Aside0.mk (below_drew1 HB.out)
                clear HO_4; clear HO_6; clear HB
                have HO_4 := n0_
                have HO_6 := n1_
                have HB := n2_
                clear n0_ n1_ n2_
                have p148 : 0 ≤ (x5_1 : Int) := of_decide_eq_true (by first | (with_reducible assumption) | assumption)
                have q148 : x5_1 < (l0.length : Int) := of_decide_eq_true (by first | (with_reducible assumption) | assumption)
                obtain ⟨ad148, e148, hx148_0, hx148_1, hx148_2, hx148_3, hx148_4, hx148_5, hx148_6⟩ := at_T46 HR0.out x5_1 p148 q148
                have hw148_6 := hx148_6
                have hw148_5 := hx148_5
                have hw148_4 := hx148_4
                have hw148_3 := hx148_3
                have hw148_2 := hx148_2
                have hw148_1 := hx148_1
                have hw148_0 := hx148_0
                cases e148
                replace hx148_0 := (HB.out.cell (World.block_lt_of_cell? w _ hx148_0)).trans hx148_0
                replace hx148_1 := (HB.out.cell (World.block_lt_of_cell? w _ hx148_1)).trans hx148_1
                replace hx148_2 := (HB.out.cell (World.block_lt_of_cell? w _ hx148_2)).trans hx148_2
                replace hx148_3 := (HB.out.cell (World.block_lt_of_cell? w _ hx148_3)).trans hx148_3
                replace hx148_4 := (HB.out.cell (World.block_lt_of_cell? w _ hx148_4)).trans hx148_4
                replace hx148_5 := (HB.out.cell (World.block_lt_of_cell? w _ hx148_5)).trans hx148_5
                replace hx148_6 := (HB.out.cell (World.block_lt_of_cell? w _ hx148_6)).trans hx148_6
                replace p148 := eq_true p148
                replace q148 := eq_true q148
                have p149 : 0 ≤ (x8_3 : Int) := of_decide_eq_true (by first | (with_reducible assumption) | assumption)
                have q149 : x8_3 < (x4_1.length : Int) := of_decide_eq_true (by first | (with_reducible assumption) | assumption)
                obtain ⟨ad149, e149, hx149_0, hx149_1, hx149_2, hx149_3, hx149_4, hx149_5, hx149_6⟩ := at_T46 (Kd.R_reads' HO_4.out).2.2 x8_3 p149 q149
                cases e149
                replace p149 := eq_true p149
                replace q149 := eq_true q149
                refine start_ (n := 15) (S := fun w' => w'.cell? (ad148.add ((x5_1).toNat * 7)) = some (.string ((rd_T46 l0 x5_1).f0)) ∧ w'.cell? ⟨(ad148.add ((x5_1).toNat * 7)).block, (ad148.add ((x5_1).toNat * 7)).off + 1, none⟩ = some (.int .i64 ((rd_T46 l0 x5_1).f1.f0)) ∧ w'.cell? ⟨(ad148.add ((x5_1).toNat * 7)).block, (ad148.add ((x5_1).toNat * 7)).off + 2, none⟩ = some (.int .i64 ((rd_T46 l0 x5_1).f1.f1)) ∧ w'.cell? ⟨(ad148.add ((x5_1).toNat * 7)).block, (ad148.add ((x5_1).toNat * 7)).off + 3, none⟩ = some (.int .i64 ((rd_T46 l0 x5_1).f1.f2)) ∧ w'.cell? ⟨(ad148.add ((x5_1).toNat * 7)).block, (ad148.add ((x5_1).toNat * 7)).off + 4, none⟩ = some (.int .i64 ((rd_T46 l0 x5_1).f1.f3)) ∧ w'.cell? ⟨(ad148.add ((x5_1).toNat * 7)).block, (ad148.add ((x5_1).toNat * 7)).off + 5, none⟩ = some (.int .i64 ((rd_T46 l0 x5_1).f1.f4)) ∧ w'.cell? ⟨(ad148.add ((x5_1).toNat * 7)).block, (ad148.add ((x5_1).toNat * 7)).off + 6, none⟩ = some (.string ((rd_T46 l0 x5_1).f2)) ∧ w'.cell? (ad149.add ((x8_3).toNat * 7)) = some (.string ((rd_T46 x4_1 x8_3).f0)) ∧ w'.cell? ⟨(ad149.add ((x8_3).toNat * 7)).block, (ad149.add ((x8_3).toNat * 7)).off + 1, none⟩ = some (.int .i64 ((rd_T46 x4_1 x8_3).f1.f0)) ∧ w'.cell? ⟨(ad149.add ((x8_3).toNat * 7)).block, (ad149.add ((x8_3).toNat * 7)).off + 2, none⟩ = some (.int .i64 ((rd_T46 x4_1 x8_3).f1.f1)) ∧ w'.cell? ⟨(ad149.add ((x8_3).toNat * 7)).block, (ad149.add ((x8_3).toNat * 7)).off + 3, none⟩ = some (.int .i64 ((rd_T46 x4_1 x8_3).f1.f2)) ∧ w'.cell? ⟨(ad149.add ((x8_3).toNat * 7)).block, (ad149.add ((x8_3).toNat * 7)).off + 4, none⟩ = some (.int .i64 ((rd_T46 x4_1 x8_3).f1.f3)) ∧ w'.cell? ⟨(ad149.add ((x8_3).toNat * 7)).block, (ad149.add ((x8_3).toNat * 7)).off + 5, none⟩ = some (.int .i64 ((rd_T46 x4_1 x8_3).f1.f4)) ∧ w'.cell? ⟨(ad149.add ((x8_3).toNat * 7)).block, (ad149.add ((x8_3).toNat * 7)).off + 6, none⟩ = some (.string ((rd_T46 x4_1 x8_3).f2))) (ds := []) #[false, false, false, false, false, false, false, false, false, false, false, false, false, false, false] (by kernel_rfl) rfl rfl ⟨((HB.out.cell (World.block_lt_of_cell? w _ hw148_0)).trans hw148_0), ((HB.out.cell (World.block_lt_of_cell? w _ hw148_1)).trans hw148_1), ((HB.out.cell (World.block_lt_of_cell? w _ hw148_2)).trans hw148_2), ((HB.out.cell (World.block_lt_of_cell? w _ hw148_3)).trans hw148_3), ((HB.out.cell (World.block_lt_of_cell? w _ hw148_4)).trans hw148_4), ((HB.out.cell (World.block_lt_of_cell? w _ hw148_5)).trans hw148_5), ((HB.out.cell (World.block_lt_of_cell? w _ hw148_6)).trans hw148_6), hx149_0, hx149_1, hx149_2, hx149_3, hx149_4, hx149_5, hx149_6⟩ (fun hHeld => ?_); refine with_tabW grapnelref18_Normal.tab12 grapnelref18_Normal.bits12 (fun HT_ HW_ => ?_)
                generalize wr.drew = w32 at HO_4 HO_6 HB hx148_0 hx148_1 hx148_2 hx148_3 hx148_4 hx148_5 hx148_6 hx149_0 hx149_1 hx149_2 hx149_3 hx149_4 hx149_5 hx149_6 hHeld ⊢
                refine pure_ (i := 0) (N := some 44) (v := ?_) (a' := ?_) #[true, false, false, false, false, false, false, false, false, false, false, false, false, false, false] rfl rfl (any_of HT_.out (by kernel_rfl)) (fun _ _ _ h => h) (Or.inl ⟨by rfl, ?_⟩) ?_ ?_
                rotate_left; · intro w'; go_simp; with_reducible rfl
                rotate_left; · simp only [Act.put, List.setIfInBounds_toArray, List.set_cons_zero, List.set_cons_succ, i64_w, i32_w]; rfl
                refine pure_ (i := 1) (N := some 45) (v := ?_) (a' := ?_) #[true, true, false, false, false, false, false, false, false, false, false, false, false, false, false] rfl rfl (any_of HT_.out (by kernel_rfl)) (fun _ _ _ h => h) (Or.inl ⟨by rfl, ?_⟩) ?_ ?_
                rotate_left; · intro w'; go_simp; with_reducible rfl
                rotate_left; · simp only [Act.put, List.setIfInBounds_toArray, List.set_cons_zero, List.set_cons_succ, i64_w, i32_w]; rfl
                refine pure_ (i := 2) (N := some 46) (v := ?_) (a' := ?_) #[true, true, true, false, false, false, false, false, false, false, false, false, false, false, false] rfl rfl (any_of HT_.out (by kernel_rfl)) (fun _ _ _ h => h) (Or.inl ⟨by rfl, ?_⟩) ?_ ?_
                rotate_left; · intro w'; go_simp; with_reducible rfl
                rotate_left; · simp only [Act.put, List.setIfInBounds_toArray, List.set_cons_zero, List.set_cons_succ, i64_w, i32_w]; rfl
                refine pure_ (i := 3) (N := some 47) (v := ?_) (a' := ?_) #[true, true, true, true, false, false, false, false, false, false, false, false, false, false, false] rfl rfl (any_of HT_.out (by kernel_rfl)) (fun _ _ _ h => h) (Or.inl ⟨by rfl, ?_⟩) ?_ ?_
                rotate_left; · intro w'; go_simp; with_reducible rfl
                rotate_left; · simp only [Act.put, List.setIfInBounds_toArray, List.set_cons_zero, List.set_cons_succ, i64_w, i32_w]; rfl
                refine pure_ (i := 4) (N := some 48) (v := ?_) (a' := ?_) #[true, true, true, true, true, false, false, false, false, false, false, false, false, false, false] rfl rfl (any_of HT_.out (by kernel_rfl)) (fun _ _ _ h => h) (Or.inl ⟨by rfl, ?_⟩) ?_ ?_
                rotate_left; · intro w'; go_simp; with_reducible rfl
                rotate_left; · simp only [Act.put, List.setIfInBounds_toArray, List.set_cons_zero, List.set_cons_succ, i64_w, i32_w]; rfl
                refine pure_ (i := 5) (N := some 49) (v := ?_) (a' := ?_) #[true, true, true, true, true, true, false, false, false, false, false, false, false, false, false] rfl rfl (any_of HT_.out (by kernel_rfl)) (fun _ _ _ h => h) (Or.inl ⟨by rfl, ?_⟩) ?_ ?_
                rotate_left; · intro w'; go_simp; with_reducible rfl
                rotate_left; · simp only [Act.put, List.setIfInBounds_toArray, List.set_cons_zero, List.set_cons_succ, i64_w, i32_w]; rfl
                refine pure_ (i := 6) (N := some 50) (v := ?_) (a' := ?_) #[true, true, true, true, true, true, true, false, false, false, false, false, false, false, false] rfl rfl (any_of HT_.out (by kernel_rfl)) (fun _ _ _ h => h) (Or.inl ⟨by rfl, ?_⟩) ?_ ?_
                rotate_left; · intro w'; go_simp; with_reducible rfl
                rotate_left; · simp only [Act.put, List.setIfInBounds_toArray, List.set_cons_zero, List.set_cons_succ, i64_w, i32_w]; rfl
                refine pure_ (i := 8) (N := some 52) (v := ?_) (a' := ?_) #[true, true, true, true, true, true, true, false, true, false, false, false, false, false, false] rfl rfl (any_of HT_.out (by kernel_rfl)) (fun _ _ _ h => h) (Or.inl ⟨by rfl, ?_⟩) ?_ ?_
                rotate_left; · intro w'; go_simp; with_reducible rfl
                rotate_left; · simp only [Act.put, List.setIfInBounds_toArray, List.set_cons_zero, List.set_cons_succ, i64_w, i32_w]; rfl
                refine pure_ (i := 9) (N := some 53) (v := ?_) (a' := ?_) #[true, true, true, true, true, true, true, false, true, true, false, false, false, false, false] rfl rfl (any_of HT_.out (by kernel_rfl)) (fun _ _ _ h => h) (Or.inl ⟨by rfl, ?_⟩) ?_ ?_
                rotate_left; · intro w'; go_simp; with_reducible rfl
                rotate_left; · simp only [Act.put, List.setIfInBounds_toArray, List.set_cons_zero, List.set_cons_succ, i64_w, i32_w]; rfl
                refine pure_ (i := 10) (N := some 54) (v := ?_) (a' := ?_) #[true, true, true, true, true, true, true, false, true, true, true, false, false, false, false] rfl rfl (any_of HT_.out (by kernel_rfl)) (fun _ _ _ h => h) (Or.inl ⟨by rfl, ?_⟩) ?_ ?_
                rotate_left; · intro w'; go_simp; with_reducible rfl
                rotate_left; · simp only [Act.put, List.setIfInBounds_toArray, List.set_cons_zero, List.set_cons_succ, i64_w, i32_w]; rfl
                refine pure_ (i := 11) (N := some 55) (v := ?_) (a' := ?_) #[true, true, true, true, true, true, true, false, true, true, true, true, false, false, false] rfl rfl (any_of HT_.out (by kernel_rfl)) (fun _ _ _ h => h) (Or.inl ⟨by rfl, ?_⟩) ?_ ?_
                rotate_left; · intro w'; go_simp; with_reducible rfl
                rotate_left; · simp only [Act.put, List.setIfInBounds_toArray, List.set_cons_zero, List.set_cons_succ, i64_w, i32_w]; rfl
                refine take_ (i := 7) (N := some 51) (v := ?_) (a' := ?_) #[true, true, true, true, true, true, true, true, true, true, true, true, false, false, false] rfl rfl (take_ofW HT_.out HW_.out (by kernel_rfl)) (fun _ _ _ h => h) (Or.inl ⟨by rfl, ?_⟩) hHeld ?_ ?_
                rotate_left
                ·
                 rintro w' ⟨s0, s1, s2, s3, s4, s5, s6, s7, s8, s9, s10, s11, s12, s13⟩
                 go_simp
                 with_reducible rfl
                rotate_left; · simp only [Act.put, List.setIfInBounds_toArray, List.set_cons_zero, List.set_cons_succ, i64_w, i32_w]; rfl
                refine take_ (i := 12) (N := some 56) (v := ?_) (a' := ?_) #[true, true, true, true, true, true, true, true, true, true, true, true, true, false, false] rfl rfl (take_ofW HT_.out HW_.out (by kernel_rfl)) (fun _ _ _ h => h) (Or.inl ⟨by rfl, ?_⟩) hHeld ?_ ?_
                rotate_left
                ·
                 rintro w' ⟨s0, s1, s2, s3, s4, s5, s6, s7, s8, s9, s10, s11, s12, s13⟩
                 go_simp
                 with_reducible rfl
                rotate_left; · simp only [Act.put, List.setIfInBounds_toArray, List.set_cons_zero, List.set_cons_succ, i64_w, i32_w]; rfl
                refine one_ (i := 13) (N := some 57) #[true, true, true, true, true, true, true, true, true, true, true, true, true, true, false] rfl rfl (one_of HT_.out (by kernel_rfl)) (by decide) (fun K hK => ?_)
                refine goes_ Tryd.func40 (by kernel_rfl) rfl #[.string ((rd_T46 l0 x5_1).f0), .string ((rd_T46 x4_1 x8_3).f0)] (by rfl) rfl rfl (by (try simp only [List.map_toArray, List.map_cons, List.map_nil]); first | done | rfl | (simp only [List.length_drop, List.length_take]; rfl)) ?_
                with_reducible refine (grapnelref18_Less.calls k3 ((rd_T46 l0 x5_1).f0) ((rd_T46 x4_1 x8_3).f0) false _ A22.out).mono ?_
                rintro e w' ⟨rfl, ⟨nd, rfl⟩⟩
                refine ⟨_, rfl, ?_⟩
                refine hK.out _ _ ⟨((HB.out.cell (World.block_lt_of_cell? w _ hw148_0)).trans hw148_0), ((HB.out.cell (World.block_lt_of_cell? w _ hw148_1)).trans hw148_1), ((HB.out.cell (World.block_lt_of_cell? w _ hw148_2)).trans hw148_2), ((HB.out.cell (World.block_lt_of_cell? w _ hw148_3)).trans hw148_3), ((HB.out.cell (World.block_lt_of_cell? w _ hw148_4)).trans hw148_4), ((HB.out.cell (World.block_lt_of_cell? w _ hw148_5)).trans hw148_5), ((HB.out.cell (World.block_lt_of_cell? w _ hw148_6)).trans hw148_6), hHeld.2.2.2.2.2.2.2.1, hHeld.2.2.2.2.2.2.2.2.1, hHeld.2.2.2.2.2.2.2.2.2.1, hHeld.2.2.2.2.2.2.2.2.2.2.1, hHeld.2.2.2.2.2.2.2.2.2.2.2.1, hHeld.2.2.2.2.2.2.2.2.2.2.2.2.1, hHeld.2.2.2.2.2.2.2.2.2.2.2.2.2⟩ (fun hHeld => ?_)
                clear hK K
                refine norm_ (a' := ?_) ?_ ?_
                rotate_left
                ·
                 show Act.put _ (some 57) _ = _
                 simp only [Act.put, List.setIfInBounds_toArray, List.set_cons_zero, List.set_cons_succ, i64_w, i32_w]
                 rfl
                refine pure_ (i := 14) (N := some 58) (v := ?_) (a' := ?_) #[true, true, true, true, true, true, true, true, true, true, true, true, true, true, true] rfl rfl (any_of HT_.out (by kernel_rfl)) (fun _ _ _ h => h) (Or.inl ⟨by rfl, ?_⟩) ?_ ?_
                rotate_left; · intro w'; go_simp; with_reducible rfl
                rotate_left; · simp only [Act.put, List.setIfInBounds_toArray, List.set_cons_zero, List.set_cons_succ, i64_w, i32_w]; rfl
                refine done_ (done_of HT_.out (by kernel_rfl)) ?_
                have p159 : 0 ≤ (x8_3 : Int) := of_decide_eq_true (by first | (with_reducible assumption) | assumption)
                have q159 : x8_3 < (x4_1.length : Int) := of_decide_eq_true (by first | (with_reducible assumption) | assumption)
                obtain ⟨ad159, e159, hx159_0, hx159_1, hx159_2, hx159_3, hx159_4, hx159_5, hx159_6⟩ := at_T46 (Kd.R_reads' HO_4.out).2.2 x8_3 p159 q159
                obtain rfl : ad149 = ad159 := (by injection e159)
                replace p159 := eq_true p159
                replace q159 := eq_true q159
                try go_wp2_with (first | ((with_reducible refine gate_builtin (b := .append) (xs := #[.tmp 66, .tmp 71]) rfl ?_); at_builtin; refine Kd.R_append k46 (w0 := w) w.heap.size rfl (.tmp 66) (.tmp 71) 22 46 (.agg #[(.string ⟨#[]⟩), (.int .i64 0), (.int .i64 0), (.int .i64 0), (.int .i64 0), (.int .i64 0), (.string ⟨#[]⟩)]) 72 rfl Tryd.underlying22 info46 rfl (by decide) (by omega) u6 x6_3 (⟨(rd_T46 x4_1 x8_3).f0, (⟨(rd_T46 x4_1 x8_3).f1.f0, (rd_T46 x4_1 x8_3).f1.f1, (rd_T46 x4_1 x8_3).f1.f2, (rd_T46 x4_1 x8_3).f1.f3, (rd_T46 x4_1 x8_3).f1.f4⟩ : S44), (rd_T46 x4_1 x8_3).f2⟩ : S46) [.string ((rd_T46 x4_1 x8_3).f0), .int .i64 ((rd_T46 x4_1 x8_3).f1.f0), .int .i64 ((rd_T46 x4_1 x8_3).f1.f1), .int .i64 ((rd_T46 x4_1 x8_3).f1.f2), .int .i64 ((rd_T46 x4_1 x8_3).f1.f3), .int .i64 ((rd_T46 x4_1 x8_3).f1.f4), .string ((rd_T46 x4_1 x8_3).f2)] (fun k_ => some k_ ≠ (.slice (some ad149) x4_1.length co31 : Value).ownBlock) (fun _ => False) rfl rfl ?aP (fun _ hk => hk.elim) ?aF ?aO ?aB ?aS ?aL ?_; (case aP => exact k46_mkM _ _ _ (⟨(rd_T46 x4_1 x8_3).f0, (⟨(rd_T46 x4_1 x8_3).f1.f0, (rd_T46 x4_1 x8_3).f1.f1, (rd_T46 x4_1 x8_3).f1.f2, (rd_T46 x4_1 x8_3).f1.f3, (rd_T46 x4_1 x8_3).f1.f4⟩ : S44), (rd_T46 x4_1 x8_3).f2⟩ : S46)); (case aB => exact (by repeat (first | (with_reducible first | exact HB.out | apply below_alloc | apply pw_below_drewN | apply below_drew1) | exact HB.out))); (case aF => exact (fun k_ hk => Kd.fresh' (Kd.R_lt (by (with_reducible repeat (first | apply Kd.R_alloc | apply Kd.R_drewN | apply Kd.R_drew)); exact HO_4.out)) k_ hk)); (case aO => exact (by (with_reducible repeat (first | apply Kd.R_alloc | apply Kd.R_drewN | apply Kd.R_drew)); exact HO_6.out)); (case aS => exact (below_size (by repeat (first | (with_reducible first | exact HB.out | apply below_alloc | apply pw_below_drewN | apply below_drew1) | exact HB.out)))); (case aL => have := LMc30.out; omega); intro v161 w33 ho hb hg hat; rw [← Ny160.out] at ho; have n0_ := Aside0.mk (Kd.R_after (ok := (fun _ => True)) (by (with_reducible repeat (first | apply Kd.R_alloc | apply Kd.R_drewN | apply Kd.R_drew)); exact Kd.R_mono HO_4.out (fun _ hk => ⟨trivial, hk⟩)) hg hat); have n1_ := Aside0.mk (hb); have n2_ := Aside0.mk (ho); clear HO_4; clear HB; clear HO_6; have HO_4 := n0_; have HB := n1_; have HO162 := n2_; clear n0_ n1_ n2_; clear ho hb hg hat))
                go_roundg k3
                case measure => have := HK1.out; have := HJ2.out; have := HK3.out; omega
                case rel => exact ⟨(y160), (false), (wrap64 (x8_3 + 1)), (by first | rfl | (simp; done) | (simp [*]; done)), (by first | rfl | (simp; done) | (simp [*]; done)), H', ⟨by have := HK1.out; have := HJ2.out; have := HK3.out; omega⟩, ⟨by (with_reducible repeat (first | apply Kd.R_alloc | apply Kd.R_drewN | apply Kd.R_drew)); exact Kd.R_mono HO_4.out (fun _ hk => hk.2)⟩, ⟨by (with_reducible repeat (first | apply Kd.R_alloc | apply Kd.R_drewN | apply Kd.R_drew)); exact HO162.out⟩, ⟨by repeat (first | (with_reducible first | exact HB.out | apply below_alloc | apply pw_below_drewN | apply below_drew1) | exact HB.out)⟩⟩
               ·
                rw [if_neg c30] at H
                exact absurd H (by simp)
             ·
              rw [if_neg c21] at H
              exact absurd H (by simp)
            ·
             rw [if_neg c20] at H
             exact absurd H (by simp)
           ·
            rw [if_neg c19] at H
            exact absurd H (by simp)
         ·
          rw [if_neg c12] at H
          have c12b0 : decide (x8_3 < (x4_1.length : Int)) = false := decide_eq_false c12
          clear c12
          by_cases c34 : x7_3 = true
          ·
           subst c34
           have H1 : (grapnelref18_Normal.l0 k3 l0 x6_3 (wrap64 (x5_1 + 1))) = some (r1, r2) := by rw [if_pos rfl] at H; exact H
           clear H
           have H := H1
           clear H1
           have H' := Aside0.mk H
           clear H
           obtain ⟨Ao35, co35, eo35⟩ := Kd.R_slice HO_4.out
           subst eo35
           go_wp2
           go_roundg k3
           case measure => have := HK1.out; have := HJ2.out; have := HK3.out; omega
           case rel => exact ⟨(x6_3), (wrap64 (x5_1 + 1)), (by first | rfl | (simp; done) | (simp [*]; done)), H', ⟨by have := HK1.out; have := HJ2.out; have := HK3.out; omega⟩, ⟨by (with_reducible repeat (first | apply Kd.R_alloc | apply Kd.R_drewN | apply Kd.R_drew)); exact Kd.R_mono HO_6.out (fun _ hk => trivial)⟩, ⟨by repeat (first | (with_reducible first | exact HB.out | apply below_alloc | apply pw_below_drewN | apply below_drew1) | exact HB.out)⟩⟩
          ·
           replace c34 := Bool.eq_false_iff.mpr c34
           subst c34
           have H1 : (if 0 ≤ x5_1 then (if x5_1 < (l0.length : Int) then (if x6_3.length < 1954687338268 then (grapnelref18_Normal.l0 k3 l0 (x6_3 ++ [(⟨(rd_T46 l0 x5_1).f0, (⟨(rd_T46 l0 x5_1).f1.f0, (rd_T46 l0 x5_1).f1.f1, (rd_T46 l0 x5_1).f1.f2, (rd_T46 l0 x5_1).f1.f3, (rd_T46 l0 x5_1).f1.f4⟩ : S44), (rd_T46 l0 x5_1).f2⟩ : S46)]) (wrap64 (x5_1 + 1))) else (none)) else (none)) else (none)) = some (r1, r2) := by rw [if_neg (show ¬ (false = true) by decide)] at H; exact H
           clear H
           have H := H1
           clear H1
           by_cases c36 : 0 ≤ x5_1
           ·
            rw [if_pos c36] at H
            have c36b0 : decide (0 ≤ x5_1) = true := decide_eq_true c36
            clear c36
            by_cases c37 : x5_1 < (l0.length : Int)
            ·
             rw [if_pos c37] at H
             have c37b0 : decide (x5_1 < (l0.length : Int)) = true := decide_eq_true c37
             clear c37
             by_cases c38 : x6_3.length < 1954687338268
             ·
              rw [if_pos c38] at H
              have LMc38 := Aside0.mk c38
              clear c38
              obtain ⟨y164, hy164⟩ : ∃ y_ : List (S46), y_ = (x6_3 ++ [(⟨(rd_T46 l0 x5_1).f0, (⟨(rd_T46 l0 x5_1).f1.f0, (rd_T46 l0 x5_1).f1.f1, (rd_T46 l0 x5_1).f1.f2, (rd_T46 l0 x5_1).f1.f3, (rd_T46 l0 x5_1).f1.f4⟩ : S44), (rd_T46 l0 x5_1).f2⟩ : S46)]) := ⟨_, rfl⟩
              replace H : (grapnelref18_Normal.l0 k3 l0 y164 (wrap64 (x5_1 + 1))) = some (r1, r2) := by first | (rw [hy164]; with_reducible exact H) | (have H2_ := (Option.bind_some _ _).symm.trans H; rw [hy164]; with_reducible exact H2_) | (have H2_ := (Option.bind_some _ _).symm.trans H; with_reducible exact H2_) | with_reducible exact H | (rw [hy164]; exact H) | exact H
              have Ny164 := Aside0.mk hy164
              clear hy164
              have H' := Aside0.mk H
              clear H
              obtain ⟨Ao39, co39, eo39⟩ := Kd.R_slice HO_4.out
              subst eo39
              have p163 : 0 ≤ (x5_1 : Int) := of_decide_eq_true (by first | (with_reducible assumption) | assumption)
              have q163 : x5_1 < (l0.length : Int) := of_decide_eq_true (by first | (with_reducible assumption) | assumption)
              obtain ⟨ad163, e163, hx163_0, hx163_1, hx163_2, hx163_3, hx163_4, hx163_5, hx163_6⟩ := at_T46 HR0.out x5_1 p163 q163
              cases e163
              replace hx163_0 := (HB.out.cell (World.block_lt_of_cell? w _ hx163_0)).trans hx163_0
              replace hx163_1 := (HB.out.cell (World.block_lt_of_cell? w _ hx163_1)).trans hx163_1
              replace hx163_2 := (HB.out.cell (World.block_lt_of_cell? w _ hx163_2)).trans hx163_2
              replace hx163_3 := (HB.out.cell (World.block_lt_of_cell? w _ hx163_3)).trans hx163_3
              replace hx163_4 := (HB.out.cell (World.block_lt_of_cell? w _ hx163_4)).trans hx163_4
              replace hx163_5 := (HB.out.cell (World.block_lt_of_cell? w _ hx163_5)).trans hx163_5
              replace hx163_6 := (HB.out.cell (World.block_lt_of_cell? w _ hx163_6)).trans hx163_6
              replace p163 := eq_true p163
              replace q163 := eq_true q163
              go_wp2_with (first | ((with_reducible refine gate_builtin (b := .append) (xs := #[.tmp 75, .tmp 80]) rfl ?_); at_builtin; refine Kd.R_append k46 (w0 := w) w.heap.size rfl (.tmp 75) (.tmp 80) 22 46 (.agg #[(.string ⟨#[]⟩), (.int .i64 0), (.int .i64 0), (.int .i64 0), (.int .i64 0), (.int .i64 0), (.string ⟨#[]⟩)]) 72 rfl Tryd.underlying22 info46 rfl (by decide) (by omega) u6 x6_3 (⟨(rd_T46 l0 x5_1).f0, (⟨(rd_T46 l0 x5_1).f1.f0, (rd_T46 l0 x5_1).f1.f1, (rd_T46 l0 x5_1).f1.f2, (rd_T46 l0 x5_1).f1.f3, (rd_T46 l0 x5_1).f1.f4⟩ : S44), (rd_T46 l0 x5_1).f2⟩ : S46) [.string ((rd_T46 l0 x5_1).f0), .int .i64 ((rd_T46 l0 x5_1).f1.f0), .int .i64 ((rd_T46 l0 x5_1).f1.f1), .int .i64 ((rd_T46 l0 x5_1).f1.f2), .int .i64 ((rd_T46 l0 x5_1).f1.f3), .int .i64 ((rd_T46 l0 x5_1).f1.f4), .string ((rd_T46 l0 x5_1).f2)] (fun k_ => some k_ ≠ (.slice Ao39 x4_1.length co39 : Value).ownBlock) (fun _ => False) rfl rfl ?aP (fun _ hk => hk.elim) ?aF ?aO ?aB ?aS ?aL ?_; (case aP => exact k46_mkM _ _ _ (⟨(rd_T46 l0 x5_1).f0, (⟨(rd_T46 l0 x5_1).f1.f0, (rd_T46 l0 x5_1).f1.f1, (rd_T46 l0 x5_1).f1.f2, (rd_T46 l0 x5_1).f1.f3, (rd_T46 l0 x5_1).f1.f4⟩ : S44), (rd_T46 l0 x5_1).f2⟩ : S46)); (case aB => exact (by repeat (first | (with_reducible first | exact HB.out | apply below_alloc | apply pw_below_drewN | apply below_drew1) | exact HB.out))); (case aF => exact (fun k_ hk => Kd.fresh' (Kd.R_lt (by (with_reducible repeat (first | apply Kd.R_alloc | apply Kd.R_drewN | apply Kd.R_drew)); exact HO_4.out)) k_ hk)); (case aO => exact (by (with_reducible repeat (first | apply Kd.R_alloc | apply Kd.R_drewN | apply Kd.R_drew)); exact HO_6.out)); (case aS => exact (below_size (by repeat (first | (with_reducible first | exact HB.out | apply below_alloc | apply pw_below_drewN | apply below_drew1) | exact HB.out)))); (case aL => have := LMc38.out; omega); intro v165 w40 ho hb hg hat; rw [← Ny164.out] at ho; have n0_ := Aside0.mk (Kd.R_after (ok := (fun _ => True)) (by (with_reducible repeat (first | apply Kd.R_alloc | apply Kd.R_drewN | apply Kd.R_drew)); exact Kd.R_mono HO_4.out (fun _ hk => ⟨trivial, hk⟩)) hg hat); have n1_ := Aside0.mk (hb); have n2_ := Aside0.mk (ho); clear HO_4; clear HB; clear HO_6; have HO_4 := n0_; have HB := n1_; have HO166 := n2_; clear n0_ n1_ n2_; clear ho hb hg hat))
              go_roundg k3
              case measure => have := HK1.out; have := HJ2.out; have := HK3.out; omega
              case rel => exact ⟨(y164), (wrap64 (x5_1 + 1)), (by first | rfl | (simp; done) | (simp [*]; done)), H', ⟨by have := HK1.out; have := HJ2.out; have := HK3.out; omega⟩, ⟨by (with_reducible repeat (first | apply Kd.R_alloc | apply Kd.R_drewN | apply Kd.R_drew)); exact Kd.R_mono HO166.out (fun _ hk => trivial)⟩, ⟨by repeat (first | (with_reducible first | exact HB.out | apply below_alloc | apply pw_below_drewN | apply below_drew1) | exact HB.out)⟩⟩
             ·
              rw [if_neg c38] at H
              exact absurd H (by simp)
            ·
             rw [if_neg c37] at H
             exact absurd H (by simp)
           ·
            rw [if_neg c36] at H
            exact absurd H (by simp)
   ·
    rw [if_neg c2] at H
    have c2b0 : decide (x5_1 < (l0.length : Int)) = false := decide_eq_false c2
    clear c2
    have HC41 := Aside0.mk H
    clear H
    go_upto_region 19 with (fail)
    go_cut [100] (fun v100 wc => ∃ (kq : Nat) (x100_40 : Bool), v100 = .bool x100_40 ∧ Aside0 (grapnelref18_Normal.j3 kq x4_1 x100_40 = some (r1, r2)) ∧ Aside0 (kq ≤ k1) ∧ Aside0 (Kd.R k46 46 wc w.heap.size (fun _ => True) u4 x4_1) ∧ Aside0 (Below w.heap.size w wc))
    case first =>
     have H := HC41.out
     clear HC41
     by_cases c42 : (x4_1.length : Int) = 0
     ·
      rw [if_pos c42] at H
      have c42b0 : ((x4_1.length : Int) == 0) = true := beq_iff_eq.mpr c42
      have c42b1 : ((x4_1.length : Int) != 0) = false := bne_eq_false_iff_eq.mpr c42
      clear c42
      (first | rw [c42b0] | (simp only [i64_w, i32_w]; rw [c42b0]) | skip)
      have H' := Aside0.mk H
      clear H
      obtain ⟨Ao43, co43, eo43⟩ := Kd.R_slice HO_4.out
      subst eo43
      go_wp2
      go_meet
      case rel => exact ⟨_, (true), (by first | rfl | (simp; done) | (simp [*]; done)), H', ⟨by have := HK1.out; first | omega | exact Nat.le_refl _⟩, ⟨by (with_reducible repeat (first | apply Kd.R_alloc | apply Kd.R_drewN | apply Kd.R_drew)); exact HO_4.out⟩, ⟨by repeat (first | (with_reducible first | exact HB.out | apply below_alloc | apply pw_below_drewN | apply below_drew1) | exact HB.out)⟩⟩
     ·
      rw [if_neg c42] at H
      have c42b0 : ((x4_1.length : Int) == 0) = false := beq_eq_false_iff_ne.mpr c42
      have c42b1 : ((x4_1.length : Int) != 0) = true := bne_iff_ne.mpr c42
      have c42b2 : ¬ (x4_1 = []) := fun h_ => c42 (by rw [h_]; rfl)
      (first | rw [c42b0] | (simp only [i64_w, i32_w]; rw [c42b0]) | skip)
      by_cases c44 : 0 < (x4_1.length : Int)
      ·
       rw [if_pos c44] at H
       have c44b0 : decide (0 < (x4_1.length : Int)) = true := decide_eq_true c44
       have c44b1 : decide (0 < x4_1.length) = true := decide_eq_true (by omega)
       clear c44
       by_cases c45 : ((rd_T46 x4_1 0).f0).toList = ([47] : List UInt8)
       ·
        rw [if_pos c45] at H
        have c45b0 : (((rd_T46 x4_1 0).f0).toList == ([47] : List UInt8)) = true := beq_iff_eq.mpr c45
        have c45b1 : (((rd_T46 x4_1 0).f0).toList != ([47] : List UInt8)) = false := bne_eq_false_iff_eq.mpr c45
        clear c45
        have H' := Aside0.mk H
        clear H
        obtain ⟨Ao46, co46, eo46⟩ := Kd.R_slice HO_4.out
        subst eo46
        have p167 : 0 ≤ (0 : Int) := (by omega)
        have q167 : 0 < (x4_1.length : Int) := of_decide_eq_true (by first | (with_reducible assumption) | assumption)
        obtain ⟨ad167, e167, hx167_0, hx167_1, hx167_2, hx167_3, hx167_4, hx167_5, hx167_6⟩ := at_T46 (Kd.R_reads' HO_4.out).2.2 0 p167 q167
        cases e167
        have qi167 : (0 < x4_1.length) = True := eq_true (by omega)
        (try rw [show ((0 : Int)).toNat = 0 from rfl] at hx167_0)
        (try rw [show 0 * 7 = 0 from rfl] at hx167_0)
        (try rw [Addr.add_zero'] at hx167_0)
        (try rw [show ((0 : Int)).toNat = 0 from rfl] at hx167_1)
        (try rw [show 0 * 7 = 0 from rfl] at hx167_1)
        (try rw [Addr.add_zero'] at hx167_1)
        (try rw [show ((0 : Int)).toNat = 0 from rfl] at hx167_2)
        (try rw [show 0 * 7 = 0 from rfl] at hx167_2)
        (try rw [Addr.add_zero'] at hx167_2)
        (try rw [show ((0 : Int)).toNat = 0 from rfl] at hx167_3)
        (try rw [show 0 * 7 = 0 from rfl] at hx167_3)
        (try rw [Addr.add_zero'] at hx167_3)
        (try rw [show ((0 : Int)).toNat = 0 from rfl] at hx167_4)
        (try rw [show 0 * 7 = 0 from rfl] at hx167_4)
        (try rw [Addr.add_zero'] at hx167_4)
        (try rw [show ((0 : Int)).toNat = 0 from rfl] at hx167_5)
        (try rw [show 0 * 7 = 0 from rfl] at hx167_5)
        (try rw [Addr.add_zero'] at hx167_5)
        (try rw [show ((0 : Int)).toNat = 0 from rfl] at hx167_6)
        (try rw [show 0 * 7 = 0 from rfl] at hx167_6)
        (try rw [Addr.add_zero'] at hx167_6)
        replace p167 := eq_true p167
        replace q167 := eq_true q167
        have p168 : 0 ≤ (0 : Int) := (by omega)
        have q168 : 0 < (x4_1.length : Int) := of_decide_eq_true (by first | (with_reducible assumption) | assumption)
        obtain ⟨ad168, e168, hx168_0, hx168_1, hx168_2, hx168_3, hx168_4, hx168_5, hx168_6⟩ := at_T46 (Kd.R_reads' HO_4.out).2.2 0 p168 q168
        obtain rfl : ad167 = ad168 := (by injection e168)
        have qi168 : (0 < x4_1.length) = True := eq_true (by omega)
        (try rw [show ((0 : Int)).toNat = 0 from rfl] at hx168_0)
        (try rw [show 0 * 7 = 0 from rfl] at hx168_0)
        (try rw [Addr.add_zero'] at hx168_0)
        (try rw [show ((0 : Int)).toNat = 0 from rfl] at hx168_1)
        (try rw [show 0 * 7 = 0 from rfl] at hx168_1)
        (try rw [Addr.add_zero'] at hx168_1)
        (try rw [show ((0 : Int)).toNat = 0 from rfl] at hx168_2)
        (try rw [show 0 * 7 = 0 from rfl] at hx168_2)
        (try rw [Addr.add_zero'] at hx168_2)
        (try rw [show ((0 : Int)).toNat = 0 from rfl] at hx168_3)
        (try rw [show 0 * 7 = 0 from rfl] at hx168_3)
        (try rw [Addr.add_zero'] at hx168_3)
        (try rw [show ((0 : Int)).toNat = 0 from rfl] at hx168_4)
        (try rw [show 0 * 7 = 0 from rfl] at hx168_4)
        (try rw [Addr.add_zero'] at hx168_4)
        (try rw [show ((0 : Int)).toNat = 0 from rfl] at hx168_5)
        (try rw [show 0 * 7 = 0 from rfl] at hx168_5)
        (try rw [Addr.add_zero'] at hx168_5)
        (try rw [show ((0 : Int)).toNat = 0 from rfl] at hx168_6)
        (try rw [show 0 * 7 = 0 from rfl] at hx168_6)
        (try rw [Addr.add_zero'] at hx168_6)
        replace p168 := eq_true p168
        replace q168 := eq_true q168
        go_wp2
        go_meet
        case rel => exact ⟨_, ((((rd_T46 x4_1 0).f1.f2) != 2)), (by first | rfl | (simp; done) | (simp [*]; done)), H', ⟨by have := HK1.out; first | omega | exact Nat.le_refl _⟩, ⟨by (with_reducible repeat (first | apply Kd.R_alloc | apply Kd.R_drewN | apply Kd.R_drew)); exact HO_4.out⟩, ⟨by repeat (first | (with_reducible first | exact HB.out | apply below_alloc | apply pw_below_drewN | apply below_drew1) | exact HB.out)⟩⟩
       ·
        rw [if_neg c45] at H
        have c45b0 : (((rd_T46 x4_1 0).f0).toList == ([47] : List UInt8)) = false := beq_eq_false_iff_ne.mpr c45
        have c45b1 : (((rd_T46 x4_1 0).f0).toList != ([47] : List UInt8)) = true := bne_iff_ne.mpr c45
        have H' := Aside0.mk H
        clear H
        obtain ⟨Ao47, co47, eo47⟩ := Kd.R_slice HO_4.out
        subst eo47
        have p167 : 0 ≤ (0 : Int) := (by omega)
        have q167 : 0 < (x4_1.length : Int) := of_decide_eq_true (by first | (with_reducible assumption) | assumption)
        obtain ⟨ad167, e167, hx167_0, hx167_1, hx167_2, hx167_3, hx167_4, hx167_5, hx167_6⟩ := at_T46 (Kd.R_reads' HO_4.out).2.2 0 p167 q167
        cases e167
        have qi167 : (0 < x4_1.length) = True := eq_true (by omega)
        (try rw [show ((0 : Int)).toNat = 0 from rfl] at hx167_0)
        (try rw [show 0 * 7 = 0 from rfl] at hx167_0)
        (try rw [Addr.add_zero'] at hx167_0)
        (try rw [show ((0 : Int)).toNat = 0 from rfl] at hx167_1)
        (try rw [show 0 * 7 = 0 from rfl] at hx167_1)
        (try rw [Addr.add_zero'] at hx167_1)
        (try rw [show ((0 : Int)).toNat = 0 from rfl] at hx167_2)
        (try rw [show 0 * 7 = 0 from rfl] at hx167_2)
        (try rw [Addr.add_zero'] at hx167_2)
        (try rw [show ((0 : Int)).toNat = 0 from rfl] at hx167_3)
        (try rw [show 0 * 7 = 0 from rfl] at hx167_3)
        (try rw [Addr.add_zero'] at hx167_3)
        (try rw [show ((0 : Int)).toNat = 0 from rfl] at hx167_4)
        (try rw [show 0 * 7 = 0 from rfl] at hx167_4)
        (try rw [Addr.add_zero'] at hx167_4)
        (try rw [show ((0 : Int)).toNat = 0 from rfl] at hx167_5)
        (try rw [show 0 * 7 = 0 from rfl] at hx167_5)
        (try rw [Addr.add_zero'] at hx167_5)
        (try rw [show ((0 : Int)).toNat = 0 from rfl] at hx167_6)
        (try rw [show 0 * 7 = 0 from rfl] at hx167_6)
        (try rw [Addr.add_zero'] at hx167_6)
        replace p167 := eq_true p167
        replace q167 := eq_true q167
        go_wp2
        go_meet
        case rel => exact ⟨_, (true), (by first | rfl | (simp; done) | (simp [*]; done)), H', ⟨by have := HK1.out; first | omega | exact Nat.le_refl _⟩, ⟨by (with_reducible repeat (first | apply Kd.R_alloc | apply Kd.R_drewN | apply Kd.R_drew)); exact HO_4.out⟩, ⟨by repeat (first | (with_reducible first | exact HB.out | apply below_alloc | apply pw_below_drewN | apply below_drew1) | exact HB.out)⟩⟩
      ·
       rw [if_neg c44] at H
       exact absurd H (by simp)
    case rest =>
     clear HC41; try clear c1; try clear p1; try clear q1; try clear hx1; try clear qi1; try clear c2; try clear c2b0; try clear p2; try clear c3; try clear c4; try clear p6; try clear c12; try clear c12b0; try clear p14; try clear q14; try clear hx14; try clear p15; try clear q15; try clear hx15; try clear p16; try clear q16; try clear hx16; try clear qi16; try clear c19; try clear c20; try clear c21; try clear c23; try clear c24; try clear c25; try clear c30; try clear c34; try clear c36; try clear c36b0; try clear c37; try clear c37b0; try clear c38; try clear c40; try clear c42; try clear c42b0; try clear c42b1; try clear c42b2; try clear c44; try clear c44b0; try clear c44b1; try clear c45; try clear c45b0; try clear c45b1; try clear hx148_0; try clear hx148_1; try clear hx148_2; try clear hx148_3; try clear hx148_4; try clear hx148_5; try clear hx148_6; try clear hx149_0; try clear hx149_1; try clear hx149_2; try clear hx149_3; try clear hx149_4; try clear hx149_5; try clear hx149_6; try clear hx151_0; try clear hx151_1; try clear hx151_2; try clear hx151_3; try clear hx151_4; try clear hx151_5; try clear hx151_6; try clear hx155_0; try clear hx155_1; try clear hx155_2; try clear hx155_3; try clear hx155_4; try clear hx155_5; try clear hx155_6; try clear hx159_0; try clear hx159_1; try clear hx159_2; try clear hx159_3; try clear hx159_4; try clear hx159_5; try clear hx159_6; try clear hx163_0; try clear hx163_1; try clear hx163_2; try clear hx163_3; try clear hx163_4; try clear hx163_5; try clear hx163_6; try clear hx167_0; try clear hx167_1; try clear hx167_2; try clear hx167_3; try clear hx167_4; try clear hx167_5; try clear hx167_6; try clear hx168_0; try clear hx168_1; try clear hx168_2; try clear hx168_3; try clear hx168_4; try clear hx168_5; try clear hx168_6; try clear p148; try clear p149; try clear p151; try clear p155; try clear p159; try clear p163; try clear p167; try clear p168; try clear q148; try clear q149; try clear q151; try clear q155; try clear q159; try clear q163; try clear q167; try clear q168
     obtain ⟨kq, x100_40, rfl, HA, HJ40, HO_4, HB⟩ := hcut
     cases kq with
     | zero => exact absurd HA.out (by simp [grapnelref18_Normal.j3])
     | succ kj40 =>
      have H := HA.out
      clear HA
      simp only [grapnelref18_Normal.j3] at H
      by_cases c48 : x100_40 = true
      ·
       subst c48
       have H1 : (some (([] : List (S46)), 5)) = some (r1, r2) := by rw [if_pos rfl] at H; exact H
       clear H
       have H := H1
       clear H1
       simp only [Option.some.injEq, Prod.mk.injEq] at H
       obtain ⟨rfl, rfl⟩ := H
       go_wp2
       go_ret2
       exact ⟨_, by first | rfl | (simp [errW_none, errW_some] <;> rfl) | (simp [*, errW_none, errW_some] <;> rfl), by first | exact Kd.R_nil _ _ _ _ _ | exact Kd.N_nil _ _ _ _ _ | exact Kd.V_nil _ _ _ _ _ | exact Kd.Q_nil _ _ _ _ _ | exact Kd.S_nil _ _ _ _ _, by repeat (first | (with_reducible first | exact HB.out | apply below_alloc | apply pw_below_drewN | apply below_drew1) | exact HB.out)⟩
      ·
       replace c48 := Bool.eq_false_iff.mpr c48
       subst c48
       have H1 : Aside0 ((if 0 ≤ (x4_1.length : Int) then (if ((x4_1.length : Int) : Int).toNat ≤ 7036874417766 then (grapnelref18_Normal.l2 kj40 x4_1 (List.replicate ((x4_1.length : Int) : Int).toNat z44) 0) else (none)) else (none)) = some (r1, r2)) := ⟨by rw [if_neg (show ¬ (false = true) by decide)] at H; exact H⟩
       clear H
       rename_i Kr hKr Kc hKc
       refine hKc _ _ ?_
       clear hKc
       have HK2 := Aside0.mk hKr
       clear hKr
       go_wp2
       exact HK2.out _ _ (grapnelref18_Normal.half k k1 kj40 _ _ _ _ _ _ _ _ _ _ _ _ _ _ _ _ _ _ _ _ _ _ _ _ _ _ _ _ _ _ _ _ _ _ _ _ _ _ _ _ _ _ _ _ _ _ _ _ _ _ _ _ _ _ _ _ _ _ _ _ _ _ _ _ _ _ _ _ _ _ _ _ _ _ _ _ _ _ _ _ _ _ _ _ _ _ _ _ _ _ _ _ _ _ _ _ _ _ _ _ _ _ _ _ _ _ _ _ _ _ _ _ _ _ _ _ _ _ _ _ _ _ _ _ _ _ _ _ _ _ _ _ _ _ _ _ _ _ _ _ _ _ _ _ _ _ _ _ _ _ _ _ _ _ _ _ _ _ _ _ _ _ _ _ _ _ _ _ _ _ _ _ _ _ _ _ _ _ _ _ _ _ _ _ _ _ _ _ _ _ _ _ _ _ _ _ _ _ _ _ _ _ _ _ _ _ _ _ _ _ _ _ _ _ _ _ _ _ _ _ _ _ _ x4_1 r1 r2 w _ HK1 HJ40 HO_4 HB H1)
end Go.Proofs.YtoggfapafjgkdaaDoor.PAll
namespace Go.Proofs.YtoggfapafjgkdaaDoor.PAll
open Go.RowKit Go.Proofs.YtoggfapafjgkdaaDoorW.PrintWords Go.Proofs.YtoggfapafjgkdaaDoorW.PrintLast Go.Proofs.YtoggfapafjgkdaaDoorW.PrintMore
attribute [local go_sem] max2_int min2_int max_two min_two max_three min_three max_four min_four
set_option linter.unusedVariables false
set_option linter.unusedSimpArgs false
attribute [local go_sem high] eqA46
set_option maxHeartbeats 8000000 in
set_option maxRecDepth 100000 in
theorem grapnelref19_formed.calls (k : Nat) (A0 : Option Addr) (c0 : Nat) (l0 : List (S46)) (r : Bool) (w : World) (hr0 : Kd.C k46 w A0 l0.length l0) (hc0 : l0.length ≤ c0) (h : grapnelref19_formed.f k l0 = some r) :
  Calls Tryd.prog 30 #[.slice A0 l0.length c0] w fun e w' => e = .returned (.bool r) ∧ Below w.heap.size w w' := by
 have HR0 := Aside0.mk hr0
 have HC0 := Aside0.mk hc0
 clear hr0 hc0
 have HB := Aside0.mk (Below.refl w.heap.size w)
 have H : ((grapnelref18_Normal.f k l0).bind fun bt227 => (if bt227.2 = 0 then ((grapnelref18_Same.f k bt227.1 l0).bind fun t231 => (some t231)) else (some false))) = some r := h
 clear h
 replace H := Option.bind_eq_some_iff.mp H
 obtain ⟨⟨t227, t228⟩, A20, H⟩ := H
 replace H : (if t228 = 0 then ((grapnelref18_Same.f k t227 l0).bind fun t231 => (some t231)) else (some false)) = some r := H
 have A2 := Aside0.mk A20
 clear A20
 by_cases c3 : t228 = 0
 ·
  rw [if_pos c3] at H
  have c3b0 : (t228 == 0) = true := beq_iff_eq.mpr c3
  have c3b1 : (t228 != 0) = false := bne_eq_false_iff_eq.mpr c3
  clear c3
  replace H := Option.bind_eq_some_iff.mp H
  obtain ⟨t231, A40, H⟩ := H
  replace H : (some t231) = some r := H
  have A4 := Aside0.mk A40
  clear A40
  obtain rfl := Option.some.inj H
  go_enter Tryd.func30, Tryd.ntmps30
  go_wp2_with (first | ((with_reducible refine gate_callee (f := 23) rfl ?_); refine goesL_ (some 7) rfl rfl Tryd.func23 (by kernel_rfl) rfl #[.slice A0 l0.length c0] rfl (by (try simp only [List.map_toArray, List.map_cons, List.map_nil]); first | done | rfl | (simp only [List.length_drop, List.length_take]; rfl)) ?_; (with_reducible refine (grapnelref18_Normal.calls k _ _ l0 t227 t228 _ ?side1 ?side2 A2.out).mono ?_); (case side1 => repeat (first | exact HR0.out | (with_reducible refine Kd.C_alloc ?_ _) | (with_reducible refine Kd.C_drewN ?_ _) | (with_reducible refine Kd.C_drew ?_))); (case side2 => exact HC0.out); rintro e w5 ⟨v229, rfl, ho0, hb⟩; refine ⟨_, rfl, ?_⟩; have n0_ := Aside0.mk (Kd.R_lower ho0 (below_size (by repeat (first | (with_reducible first | exact HB.out | apply below_alloc | apply pw_below_drewN | apply below_drew1) | exact HB.out)))); have n1_ := Aside0.mk (below_step (by repeat (first | (with_reducible first | exact HB.out | apply below_alloc | apply pw_below_drewN | apply below_drew1) | exact HB.out)) hb); clear HB; have HO230 := n0_; have HB := n1_; clear n0_ n1_; (try clear hb); (try clear hb2); (try clear hk); (try clear hi); (try clear ho0); obtain ⟨Ao6, co6, eo6⟩ := Kd.R_slice HO230.out; subst eo6) | (go_at_call 20; (with_reducible refine (grapnelref18_Same.calls k _ _ t227 _ _ l0 t231 _ ?side1 ?side2 ?side3 ?side4 A4.out).mono ?_); (case side1 => repeat (first | exact (Kd.R_reads' HO230.out).2.2 | (with_reducible refine Kd.C_alloc ?_ _) | (with_reducible refine Kd.C_drewN ?_ _) | (with_reducible refine Kd.C_drew ?_))); (case side2 => exact (Kd.R_reads' HO230.out).2.1); (case side3 => repeat (first | exact (Kd.C_below HR0.out HB.out) | (with_reducible refine Kd.C_alloc ?_ _) | (with_reducible refine Kd.C_drewN ?_ _) | (with_reducible refine Kd.C_drew ?_))); (case side4 => exact HC0.out); rintro e w' ⟨rfl, ⟨nd, rfl⟩⟩))
  go_ret
  exact ⟨by first | rfl | (simp [errW_none, errW_some] <;> rfl) | (simp [*, errW_none, errW_some] <;> rfl), by repeat (first | (with_reducible first | exact HB.out | apply below_alloc | apply pw_below_drewN | apply below_drew1) | exact HB.out)⟩
 ·
  rw [if_neg c3] at H
  have c3b0 : (t228 == 0) = false := beq_eq_false_iff_ne.mpr c3
  have c3b1 : (t228 != 0) = true := bne_iff_ne.mpr c3
  obtain rfl := Option.some.inj H
  go_enter Tryd.func30, Tryd.ntmps30
  go_wp2_with (first | ((with_reducible refine gate_callee (f := 23) rfl ?_); refine goesL_ (some 7) rfl rfl Tryd.func23 (by kernel_rfl) rfl #[.slice A0 l0.length c0] rfl (by (try simp only [List.map_toArray, List.map_cons, List.map_nil]); first | done | rfl | (simp only [List.length_drop, List.length_take]; rfl)) ?_; (with_reducible refine (grapnelref18_Normal.calls k _ _ l0 t227 t228 _ ?side1 ?side2 A2.out).mono ?_); (case side1 => repeat (first | exact HR0.out | (with_reducible refine Kd.C_alloc ?_ _) | (with_reducible refine Kd.C_drewN ?_ _) | (with_reducible refine Kd.C_drew ?_))); (case side2 => exact HC0.out); rintro e w7 ⟨v229, rfl, ho0, hb⟩; refine ⟨_, rfl, ?_⟩; have n0_ := Aside0.mk (Kd.R_lower ho0 (below_size (by repeat (first | (with_reducible first | exact HB.out | apply below_alloc | apply pw_below_drewN | apply below_drew1) | exact HB.out)))); have n1_ := Aside0.mk (below_step (by repeat (first | (with_reducible first | exact HB.out | apply below_alloc | apply pw_below_drewN | apply below_drew1) | exact HB.out)) hb); clear HB; have HO230 := n0_; have HB := n1_; clear n0_ n1_; (try clear hb); (try clear hb2); (try clear hk); (try clear hi); (try clear ho0)))
  go_ret
  exact ⟨by first | rfl | (simp [errW_none, errW_some] <;> rfl) | (simp [*, errW_none, errW_some] <;> rfl), by repeat (first | (with_reducible first | exact HB.out | apply below_alloc | apply pw_below_drewN | apply below_drew1) | exact HB.out)⟩
end Go.Proofs.YtoggfapafjgkdaaDoor.PAll
