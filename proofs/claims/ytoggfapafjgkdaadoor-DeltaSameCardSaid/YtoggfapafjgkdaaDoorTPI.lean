/- Printed by the kit's print.py, made shorter and regrouped by wip/tools/regroup.py. -/
import Derived.Test.YtoggfapafjgkdaaDoorTPNe
import Derived.Test.YtoggfapafjgkdaaDoorTPB
namespace Go.Proofs.YtoggfapafjgkdaaDoor.PAll
open Go.RowKit Go.Proofs.YtoggfapafjgkdaaDoorW.PrintWords Go.Proofs.YtoggfapafjgkdaaDoorW.PrintLast Go.Proofs.YtoggfapafjgkdaaDoorW.PrintMore
attribute [local go_sem] max2_int min2_int max_two min_two max_three min_three max_four min_four
set_option linter.unusedVariables false
set_option linter.unusedSimpArgs false
attribute [local go_sem high] eqA46

theorem grapnelref19_formed.mono : ∀ a0 k, LeO (grapnelref19_formed.f k a0) (grapnelref19_formed.f (k + 1) a0) := by
 intro a0 k
 unfold grapnelref19_formed.f
 repeat' first
   | (with_reducible exact grapnelref18_Normal.mono _ _)
   | (with_reducible exact grapnelref18_Same.mono _ _ _)
   | (with_reducible exact LeO.refl _)
   | (with_reducible exact LeO.none _)
   | (with_reducible refine LeO.ite ?_ ?_)
   | (with_reducible refine LeO.bind ?_ (fun _ => ?_))
   | exact grapnelref18_Normal.mono _ _
   | exact grapnelref18_Same.mono _ _ _
   | exact LeO.none _
   | refine LeO.ite ?_ ?_
   | refine LeO.bind ?_ (fun _ => ?_)
set_option maxHeartbeats 8000000 in
set_option maxRecDepth 100000 in
theorem grapnelref19_formed.calls (k : Nat) (A0 : Option Addr) (c0 : Nat) (l0 : List (S46)) (r : Bool) (w : World) (hr0 : Kd.C k46 w A0 l0.length l0) (hc0 : l0.length ≤ c0) (h : grapnelref19_formed.f k l0 = some r) :
  Calls Tryd.prog 30 #[.slice A0 l0.length c0] w fun e w' => e = .returned (.bool r) ∧ Below w.heap.size w w' := by
 have HR0 := Aside0.mk hr0
 have HC0 := Aside0.mk hc0
 clear hr0 hc0
 have HB := Aside0.mk (Below.refl w.heap.size w)
 have H : ((grapnelref18_Normal.f k l0).bind fun bt227 => (if bt227.2 = 0 then ((grapnelref18_Same.f k bt227.1 l0).bind fun t231 => (some t231)) else (some false))) = some r := h
 clear h
 replace H := Option.bind_eq_some_iff.mp H
 obtain ⟨⟨t227, t228⟩, A20, H⟩ := H
 replace H : (if t228 = 0 then ((grapnelref18_Same.f k t227 l0).bind fun t231 => (some t231)) else (some false)) = some r := H
 have A2 := Aside0.mk A20
 clear A20
 by_cases c3 : t228 = 0
 ·
  rw [if_pos c3] at H
  have c3b0 : (t228 == 0) = true := beq_iff_eq.mpr c3
  have c3b1 : (t228 != 0) = false := bne_eq_false_iff_eq.mpr c3
  clear c3
  replace H := Option.bind_eq_some_iff.mp H
  obtain ⟨t231, A40, H⟩ := H
  replace H : (some t231) = some r := H
  have A4 := Aside0.mk A40
  clear A40
  obtain rfl := Option.some.inj H
  go_enter Tryd.func30, Tryd.ntmps30
  go_wp2_with (first | ((with_reducible refine gate_callee (f := 23) rfl ?_); refine goesL_ (some 7) rfl rfl Tryd.func23 (by kernel_rfl) rfl #[.slice A0 l0.length c0] rfl (by (try simp only [List.map_toArray, List.map_cons, List.map_nil]); first | done | rfl | (simp only [List.length_drop, List.length_take]; rfl)) ?_; (with_reducible refine (grapnelref18_Normal.calls k _ _ l0 t227 t228 _ ?side1 ?side2 A2.out).mono ?_); (case side1 => repeat (first | exact HR0.out | (with_reducible refine Kd.C_alloc ?_ _) | (with_reducible refine Kd.C_drewN ?_ _) | (with_reducible refine Kd.C_drew ?_))); (case side2 => exact HC0.out); rintro e w5 ⟨v229, rfl, ho0, hb⟩; refine ⟨_, rfl, ?_⟩; have n0_ := Aside0.mk (Kd.R_lower ho0 (below_size (by repeat (first | (with_reducible first | exact HB.out | apply below_alloc | apply pw_below_drewN | apply below_drew1) | exact HB.out)))); have n1_ := Aside0.mk (below_step (by repeat (first | (with_reducible first | exact HB.out | apply below_alloc | apply pw_below_drewN | apply below_drew1) | exact HB.out)) hb); clear HB; have HO230 := n0_; have HB := n1_; clear n0_ n1_; (try clear hb); (try clear hb2); (try clear hk); (try clear hi); (try clear ho0); obtain ⟨Ao6, co6, eo6⟩ := Kd.R_slice HO230.out; subst eo6) | (go_at_call 20; (with_reducible refine (grapnelref18_Same.calls k _ _ t227 _ _ l0 t231 _ ?side1 ?side2 ?side3 ?side4 A4.out).mono ?_); (case side1 => repeat (first | exact (Kd.R_reads' HO230.out).2.2 | (with_reducible refine Kd.C_alloc ?_ _) | (with_reducible refine Kd.C_drewN ?_ _) | (with_reducible refine Kd.C_drew ?_))); (case side2 => exact (Kd.R_reads' HO230.out).2.1); (case side3 => repeat (first | exact (Kd.C_below HR0.out HB.out) | (with_reducible refine Kd.C_alloc ?_ _) | (with_reducible refine Kd.C_drewN ?_ _) | (with_reducible refine Kd.C_drew ?_))); (case side4 => exact HC0.out); rintro e w' ⟨rfl, ⟨nd, rfl⟩⟩))
  go_ret
  exact ⟨by first | rfl | (simp [errW_none, errW_some] <;> rfl) | (simp [*, errW_none, errW_some] <;> rfl), by repeat (first | (with_reducible first | exact HB.out | apply below_alloc | apply pw_below_drewN | apply below_drew1) | exact HB.out)⟩
 ·
  rw [if_neg c3] at H
  have c3b0 : (t228 == 0) = false := beq_eq_false_iff_ne.mpr c3
  have c3b1 : (t228 != 0) = true := bne_iff_ne.mpr c3
  obtain rfl := Option.some.inj H
  go_enter Tryd.func30, Tryd.ntmps30
  go_wp2_with (first | ((with_reducible refine gate_callee (f := 23) rfl ?_); refine goesL_ (some 7) rfl rfl Tryd.func23 (by kernel_rfl) rfl #[.slice A0 l0.length c0] rfl (by (try simp only [List.map_toArray, List.map_cons, List.map_nil]); first | done | rfl | (simp only [List.length_drop, List.length_take]; rfl)) ?_; (with_reducible refine (grapnelref18_Normal.calls k _ _ l0 t227 t228 _ ?side1 ?side2 A2.out).mono ?_); (case side1 => repeat (first | exact HR0.out | (with_reducible refine Kd.C_alloc ?_ _) | (with_reducible refine Kd.C_drewN ?_ _) | (with_reducible refine Kd.C_drew ?_))); (case side2 => exact HC0.out); rintro e w7 ⟨v229, rfl, ho0, hb⟩; refine ⟨_, rfl, ?_⟩; have n0_ := Aside0.mk (Kd.R_lower ho0 (below_size (by repeat (first | (with_reducible first | exact HB.out | apply below_alloc | apply pw_below_drewN | apply below_drew1) | exact HB.out)))); have n1_ := Aside0.mk (below_step (by repeat (first | (with_reducible first | exact HB.out | apply below_alloc | apply pw_below_drewN | apply below_drew1) | exact HB.out)) hb); clear HB; have HO230 := n0_; have HB := n1_; clear n0_ n1_; (try clear hb); (try clear hb2); (try clear hk); (try clear hi); (try clear ho0)))
  go_ret
  exact ⟨by first | rfl | (simp [errW_none, errW_some] <;> rfl) | (simp [*, errW_none, errW_some] <;> rfl), by repeat (first | (with_reducible first | exact HB.out | apply below_alloc | apply pw_below_drewN | apply below_drew1) | exact HB.out)⟩


theorem grapnelref19_Stays.mono_l : ∀ k, (∀ y0 y1 y2 y3 y4, LeO (grapnelref19_Stays.j0 k y0 y1 y2 y3 y4) (grapnelref19_Stays.j0 (k + 1) y0 y1 y2 y3 y4))
 | 0 => fun _ _ _ _ _ r h => by simp [grapnelref19_Stays.j0] at h
 | k + 1 => by
  have ih0 := grapnelref19_Stays.mono_l k
  ·
   intro y0 y1 y2 y3 y4
   unfold grapnelref19_Stays.j0
   repeat' first
   | (with_reducible exact ih0 _ _ _ _ _)
   | (with_reducible exact grapnelref18_Find.mono _ _ _)
   | (with_reducible exact LeO.refl _)
   | (with_reducible exact LeO.none _)
   | (with_reducible refine LeO.ite ?_ ?_)
   | (with_reducible refine LeO.bind ?_ (fun _ => ?_))
   | exact ih0 _ _ _ _ _
   | exact grapnelref18_Find.mono _ _ _
   | exact LeO.none _
   | refine LeO.ite ?_ ?_
   | refine LeO.bind ?_ (fun _ => ?_)
theorem grapnelref19_Stays.mono : ∀ a0 a1 a2 k, LeO (grapnelref19_Stays.f k a0 a1 a2) (grapnelref19_Stays.f (k + 1) a0 a1 a2) := by
 intro a0 a1 a2 k
 have ih0 := grapnelref19_Stays.mono_l k
 unfold grapnelref19_Stays.f
 repeat' first
   | (with_reducible exact ih0 _ _ _ _ _)
   | (with_reducible exact grapnelref18_Find.mono _ _ _)
   | (with_reducible exact LeO.refl _)
   | (with_reducible exact LeO.none _)
   | (with_reducible refine LeO.ite ?_ ?_)
   | (with_reducible refine LeO.bind ?_ (fun _ => ?_))
   | exact ih0 _ _ _ _ _
   | exact grapnelref18_Find.mono _ _ _
   | exact LeO.none _
   | refine LeO.ite ?_ ?_
   | refine LeO.bind ?_ (fun _ => ?_)
set_option maxHeartbeats 8000000 in
set_option maxRecDepth 100000 in
theorem grapnelref19_Stays.calls (k : Nat) (A0 : Option Addr) (c0 : Nat) (l0 : List (S46)) (A1 : Option Addr) (c1 : Nat) (l1 : List (S46)) (a2 : ByteArray) (r : Bool) (w : World) (hr0 : Kd.C k46 w A0 l0.length l0) (hc0 : l0.length ≤ c0) (hr1 : Kd.C k46 w A1 l1.length l1) (hc1 : l1.length ≤ c1) (h : grapnelref19_Stays.f k l0 l1 a2 = some r) :
  Calls Tryd.prog 17 #[.slice A0 l0.length c0, .slice A1 l1.length c1, .string a2] w fun e w' => e = .returned (.bool r) ∧ Drawn0 w w' := by
 have HR0 := Aside0.mk hr0
 have HC0 := Aside0.mk hc0
 clear hr0 hc0
 have HR1 := Aside0.mk hr1
 have HC1 := Aside0.mk hc1
 clear hr1 hc1
 have H : ((grapnelref18_Find.f k l0 a2).bind fun t366 => ((grapnelref18_Find.f k l1 a2).bind fun t367 => (if t366 < 0 then (grapnelref19_Stays.j0 k l0 l1 t366 t367 true) else (if t367 < 0 then (grapnelref19_Stays.j0 k l0 l1 t366 t367 true) else (if 0 ≤ t366 then (if t366 < (l0.length : Int) then (if 0 ≤ t367 then (if t367 < (l1.length : Int) then (grapnelref19_Stays.j0 k l0 l1 t366 t367 (((rd_T46 l0 t366).f1.f2) != ((rd_T46 l1 t367).f1.f2))) else (none)) else (none)) else (none)) else (none)))))) = some r := h
 clear h
 replace H := Option.bind_eq_some_iff.mp H
 obtain ⟨t366, A40, H⟩ := H
 replace H : ((grapnelref18_Find.f k l1 a2).bind fun t367 => (if t366 < 0 then (grapnelref19_Stays.j0 k l0 l1 t366 t367 true) else (if t367 < 0 then (grapnelref19_Stays.j0 k l0 l1 t366 t367 true) else (if 0 ≤ t366 then (if t366 < (l0.length : Int) then (if 0 ≤ t367 then (if t367 < (l1.length : Int) then (grapnelref19_Stays.j0 k l0 l1 t366 t367 (((rd_T46 l0 t366).f1.f2) != ((rd_T46 l1 t367).f1.f2))) else (none)) else (none)) else (none)) else (none))))) = some r := H
 have A4 := Aside0.mk A40
 clear A40
 replace H := Option.bind_eq_some_iff.mp H
 obtain ⟨t367, A50, H⟩ := H
 replace H : (if t366 < 0 then (grapnelref19_Stays.j0 k l0 l1 t366 t367 true) else (if t367 < 0 then (grapnelref19_Stays.j0 k l0 l1 t366 t367 true) else (if 0 ≤ t366 then (if t366 < (l0.length : Int) then (if 0 ≤ t367 then (if t367 < (l1.length : Int) then (grapnelref19_Stays.j0 k l0 l1 t366 t367 (((rd_T46 l0 t366).f1.f2) != ((rd_T46 l1 t367).f1.f2))) else (none)) else (none)) else (none)) else (none)))) = some r := H
 have A5 := Aside0.mk A50
 clear A50
 have HC6 := Aside0.mk H
 clear H
 go_enter Tryd.func17, Tryd.ntmps17
 go_upto_region 3 with (first | (go_at_call 31; (with_reducible refine (grapnelref18_Find.calls k _ _ l0 a2 t366 _ ?side1 ?side2 A4.out).mono ?_); (case side1 => repeat (first | exact HR0.out | (with_reducible refine Kd.C_alloc ?_ _) | (with_reducible refine Kd.C_drewN ?_ _) | (with_reducible refine Kd.C_drew ?_))); (case side2 => exact HC0.out); rintro e w' ⟨rfl, ⟨nd, rfl⟩⟩; (try first | exact ⟨rfl, _, World.drewN_drewN _ _ _⟩ | exact ⟨rfl, _, Eq.trans (World.drewN_drewN _ _ _) (congrArg (World.drewN _) (Nat.add_assoc _ _ _))⟩)) | (go_at_call 31; (with_reducible refine (grapnelref18_Find.calls k _ _ l1 a2 t367 _ ?side1 ?side2 A5.out).mono ?_); (case side1 => repeat (first | exact HR1.out | (with_reducible refine Kd.C_alloc ?_ _) | (with_reducible refine Kd.C_drewN ?_ _) | (with_reducible refine Kd.C_drew ?_))); (case side2 => exact HC1.out); rintro e w' ⟨rfl, ⟨nd, rfl⟩⟩; (try first | exact ⟨rfl, _, World.drewN_drewN _ _ _⟩ | exact ⟨rfl, _, Eq.trans (World.drewN_drewN _ _ _) (congrArg (World.drewN _) (Nat.add_assoc _ _ _))⟩)))
 repeat (go_quiet (first | (go_at_call 31; (with_reducible refine (grapnelref18_Find.calls k _ _ l0 a2 t366 _ ?side1 ?side2 A4.out).mono ?_); (case side1 => repeat (first | exact HR0.out | (with_reducible refine Kd.C_alloc ?_ _) | (with_reducible refine Kd.C_drewN ?_ _) | (with_reducible refine Kd.C_drew ?_))); (case side2 => exact HC0.out); rintro e w' ⟨rfl, ⟨nd, rfl⟩⟩; (try first | exact ⟨rfl, _, World.drewN_drewN _ _ _⟩ | exact ⟨rfl, _, Eq.trans (World.drewN_drewN _ _ _) (congrArg (World.drewN _) (Nat.add_assoc _ _ _))⟩)) | (go_at_call 31; (with_reducible refine (grapnelref18_Find.calls k _ _ l1 a2 t367 _ ?side1 ?side2 A5.out).mono ?_); (case side1 => repeat (first | exact HR1.out | (with_reducible refine Kd.C_alloc ?_ _) | (with_reducible refine Kd.C_drewN ?_ _) | (with_reducible refine Kd.C_drew ?_))); (case side2 => exact HC1.out); rintro e w' ⟨rfl, ⟨nd, rfl⟩⟩; (try first | exact ⟨rfl, _, World.drewN_drewN _ _ _⟩ | exact ⟨rfl, _, Eq.trans (World.drewN_drewN _ _ _) (congrArg (World.drewN _) (Nat.add_assoc _ _ _))⟩))); go_upto_region 3 with (first | (go_at_call 31; (with_reducible refine (grapnelref18_Find.calls k _ _ l0 a2 t366 _ ?side1 ?side2 A4.out).mono ?_); (case side1 => repeat (first | exact HR0.out | (with_reducible refine Kd.C_alloc ?_ _) | (with_reducible refine Kd.C_drewN ?_ _) | (with_reducible refine Kd.C_drew ?_))); (case side2 => exact HC0.out); rintro e w' ⟨rfl, ⟨nd, rfl⟩⟩; (try first | exact ⟨rfl, _, World.drewN_drewN _ _ _⟩ | exact ⟨rfl, _, Eq.trans (World.drewN_drewN _ _ _) (congrArg (World.drewN _) (Nat.add_assoc _ _ _))⟩)) | (go_at_call 31; (with_reducible refine (grapnelref18_Find.calls k _ _ l1 a2 t367 _ ?side1 ?side2 A5.out).mono ?_); (case side1 => repeat (first | exact HR1.out | (with_reducible refine Kd.C_alloc ?_ _) | (with_reducible refine Kd.C_drewN ?_ _) | (with_reducible refine Kd.C_drew ?_))); (case side2 => exact HC1.out); rintro e w' ⟨rfl, ⟨nd, rfl⟩⟩; (try first | exact ⟨rfl, _, World.drewN_drewN _ _ _⟩ | exact ⟨rfl, _, Eq.trans (World.drewN_drewN _ _ _) (congrArg (World.drewN _) (Nat.add_assoc _ _ _))⟩))))
 (try simp only [Act.put, List.setIfInBounds_toArray, List.set_cons_zero, List.set_cons_succ])
 go_cut [35] (fun v35 wc => ∃ (kq : Nat) (x35_5 : Bool), v35 = .bool x35_5 ∧ Aside0 (grapnelref19_Stays.j0 kq l0 l1 t366 t367 x35_5 = some r) ∧ Aside0 (kq ≤ k) ∧ Drawn0 w wc)
 case first =>
  have H := HC6.out
  clear HC6
  by_cases c7 : t366 < 0
  ·
   rw [if_pos c7] at H
   have c7b0 : decide (t366 < 0) = true := decide_eq_true c7
   clear c7
   (first | rw [c7b0] | (simp only [i64_w, i32_w]; rw [c7b0]) | skip)
   have H' := Aside0.mk H
   clear H
   go_wp2
   repeat (go_quiet (fail); try go_wp2)
   go_meet
   case rel => exact ⟨_, (true), (by first | rfl | (simp; done) | (simp [*]; done)), H', ⟨by first | omega | exact Nat.le_refl _⟩, by repeat (first | exact Drawn0.refl _ | apply Drawn0.step)⟩
  ·
   rw [if_neg c7] at H
   have c7b0 : decide (t366 < 0) = false := decide_eq_false c7
   clear c7
   (first | rw [c7b0] | (simp only [i64_w, i32_w]; rw [c7b0]) | skip)
   by_cases c8 : t367 < 0
   ·
    rw [if_pos c8] at H
    have c8b0 : decide (t367 < 0) = true := decide_eq_true c8
    clear c8
    have H' := Aside0.mk H
    clear H
    go_wp2
    repeat (go_quiet (fail); try go_wp2)
    go_meet
    case rel => exact ⟨_, (true), (by first | rfl | (simp; done) | (simp [*]; done)), H', ⟨by first | omega | exact Nat.le_refl _⟩, by repeat (first | exact Drawn0.refl _ | apply Drawn0.step)⟩
   ·
    rw [if_neg c8] at H
    have c8b0 : decide (t367 < 0) = false := decide_eq_false c8
    clear c8
    by_cases c9 : 0 ≤ t366
    ·
     rw [if_pos c9] at H
     have c9b0 : decide (0 ≤ t366) = true := decide_eq_true c9
     clear c9
     by_cases c10 : t366 < (l0.length : Int)
     ·
      rw [if_pos c10] at H
      have c10b0 : decide (t366 < (l0.length : Int)) = true := decide_eq_true c10
      clear c10
      by_cases c11 : 0 ≤ t367
      ·
       rw [if_pos c11] at H
       have c11b0 : decide (0 ≤ t367) = true := decide_eq_true c11
       clear c11
       by_cases c12 : t367 < (l1.length : Int)
       ·
        rw [if_pos c12] at H
        have c12b0 : decide (t367 < (l1.length : Int)) = true := decide_eq_true c12
        clear c12
        have H' := Aside0.mk H
        clear H
        have p368 : 0 ≤ (t366 : Int) := of_decide_eq_true (by first | (with_reducible assumption) | assumption)
        have q368 : t366 < (l0.length : Int) := of_decide_eq_true (by first | (with_reducible assumption) | assumption)
        obtain ⟨ad368, e368, hx368_0, hx368_1, hx368_2, hx368_3, hx368_4, hx368_5, hx368_6⟩ := at_T46 HR0.out t366 p368 q368
        cases e368
        replace p368 := eq_true p368
        replace q368 := eq_true q368
        have p369 : 0 ≤ (t367 : Int) := of_decide_eq_true (by first | (with_reducible assumption) | assumption)
        have q369 : t367 < (l1.length : Int) := of_decide_eq_true (by first | (with_reducible assumption) | assumption)
        obtain ⟨ad369, e369, hx369_0, hx369_1, hx369_2, hx369_3, hx369_4, hx369_5, hx369_6⟩ := at_T46 HR1.out t367 p369 q369
        cases e369
        replace p369 := eq_true p369
        replace q369 := eq_true q369
        go_wp2
        repeat (go_quiet (fail); try go_wp2)
        go_meet
        case rel => exact ⟨_, ((((rd_T46 l0 t366).f1.f2) != ((rd_T46 l1 t367).f1.f2))), (by first | rfl | (simp; done) | (simp [*]; done)), H', ⟨by first | omega | exact Nat.le_refl _⟩, by repeat (first | exact Drawn0.refl _ | apply Drawn0.step)⟩
       ·
        rw [if_neg c12] at H
        exact absurd H (by simp)
      ·
       rw [if_neg c11] at H
       exact absurd H (by simp)
     ·
      rw [if_neg c10] at H
      exact absurd H (by simp)
    ·
     rw [if_neg c9] at H
     exact absurd H (by simp)
 case rest =>
  clear HC6; try clear c1; try clear p2; try clear p3; try clear q3; try clear hx3; try clear c7; try clear c7b0; try clear c8; try clear c8b0; try clear c9; try clear c9b0; try clear c10; try clear c10b0; try clear c11; try clear c11b0; try clear c12; try clear c12b0; try clear hx368_0; try clear hx368_1; try clear hx368_2; try clear hx368_3; try clear hx368_4; try clear hx368_5; try clear hx368_6; try clear hx369_0; try clear hx369_1; try clear hx369_2; try clear hx369_3; try clear hx369_4; try clear hx369_5; try clear hx369_6; try clear p368; try clear p369; try clear q368; try clear q369
  obtain ⟨kq, x35_5, rfl, HA, HJ5, ⟨mc5, rfl⟩⟩ := hcut
  cases kq with
  | zero => exact absurd HA.out (by simp [grapnelref19_Stays.j0])
  | succ kj5 =>
   have H := HA.out
   clear HA
   simp only [grapnelref19_Stays.j0] at H
   by_cases c13 : x35_5 = true
   ·
    subst c13
    have H1 : (some false) = some r := by rw [if_pos rfl] at H; exact H
    clear H
    have H := H1
    clear H1
    obtain rfl := Option.some.inj H
    go_wp2
    repeat (go_quiet (fail); try go_wp2)
    go_ret
    exact ⟨by first | rfl | (simp; done) | (simp [*]; done), by repeat (first | exact Drawn0.refl _ | apply Drawn0.step)⟩
   ·
    replace c13 := Bool.eq_false_iff.mpr c13
    subst c13
    have H1 : (if 0 ≤ t366 then (if t366 < (l0.length : Int) then (if ((rd_T46 l0 t366).f1.f2) = 3 then (if 0 ≤ t367 then (if t367 < (l1.length : Int) then (some (((rd_T46 l0 t366).f2).toList == ((rd_T46 l1 t367).f2).toList)) else (none)) else (none)) else (if ((rd_T46 l0 t366).f1.f2) = 1 then (if 0 ≤ (wrap64 (((rd_T46 l0 t366).f1.f0) - 1)) then (if (wrap64 (((rd_T46 l0 t366).f1.f0) - 1)) < (l0.length : Int) then (if 0 ≤ t367 then (if t367 < (l1.length : Int) then (if 0 ≤ (wrap64 (((rd_T46 l1 t367).f1.f0) - 1)) then (if (wrap64 (((rd_T46 l1 t367).f1.f0) - 1)) < (l1.length : Int) then (some (((rd_T46 l0 (wrap64 (((rd_T46 l0 t366).f1.f0) - 1))).f0).toList == ((rd_T46 l1 (wrap64 (((rd_T46 l1 t367).f1.f0) - 1))).f0).toList)) else (none)) else (none)) else (none)) else (none)) else (none)) else (none)) else (some true))) else (none)) else (none)) = some r := by rw [if_neg (show ¬ (false = true) by decide)] at H; exact H
    clear H
    have H := H1
    clear H1
    by_cases c14 : 0 ≤ t366
    ·
     rw [if_pos c14] at H
     have c14b0 : decide (0 ≤ t366) = true := decide_eq_true c14
     clear c14
     by_cases c15 : t366 < (l0.length : Int)
     ·
      rw [if_pos c15] at H
      have c15b0 : decide (t366 < (l0.length : Int)) = true := decide_eq_true c15
      clear c15
      by_cases c16 : ((rd_T46 l0 t366).f1.f2) = 3
      ·
       rw [if_pos c16] at H
       have c16b0 : (((rd_T46 l0 t366).f1.f2) == 3) = true := beq_iff_eq.mpr c16
       have c16b1 : (((rd_T46 l0 t366).f1.f2) != 3) = false := bne_eq_false_iff_eq.mpr c16
       clear c16
       by_cases c17 : 0 ≤ t367
       ·
        rw [if_pos c17] at H
        have c17b0 : decide (0 ≤ t367) = true := decide_eq_true c17
        clear c17
        by_cases c18 : t367 < (l1.length : Int)
        ·
         rw [if_pos c18] at H
         have c18b0 : decide (t367 < (l1.length : Int)) = true := decide_eq_true c18
         clear c18
         obtain rfl := Option.some.inj H
         have p370 : 0 ≤ (t366 : Int) := of_decide_eq_true (by first | (with_reducible assumption) | assumption)
         have q370 : t366 < (l0.length : Int) := of_decide_eq_true (by first | (with_reducible assumption) | assumption)
         obtain ⟨ad370, e370, hx370_0, hx370_1, hx370_2, hx370_3, hx370_4, hx370_5, hx370_6⟩ := at_T46 HR0.out t366 p370 q370
         cases e370
         replace p370 := eq_true p370
         replace q370 := eq_true q370
         have p371 : 0 ≤ (t366 : Int) := of_decide_eq_true (by first | (with_reducible assumption) | assumption)
         have q371 : t366 < (l0.length : Int) := of_decide_eq_true (by first | (with_reducible assumption) | assumption)
         obtain ⟨ad371, e371, hx371_0, hx371_1, hx371_2, hx371_3, hx371_4, hx371_5, hx371_6⟩ := at_T46 HR0.out t366 p371 q371
         obtain rfl : ad370 = ad371 := (by injection e371)
         replace p371 := eq_true p371
         replace q371 := eq_true q371
         have p372 : 0 ≤ (t367 : Int) := of_decide_eq_true (by first | (with_reducible assumption) | assumption)
         have q372 : t367 < (l1.length : Int) := of_decide_eq_true (by first | (with_reducible assumption) | assumption)
         obtain ⟨ad372, e372, hx372_0, hx372_1, hx372_2, hx372_3, hx372_4, hx372_5, hx372_6⟩ := at_T46 HR1.out t367 p372 q372
         cases e372
         replace p372 := eq_true p372
         replace q372 := eq_true q372
         go_wp2
         repeat (go_quiet (fail); try go_wp2)
         go_ret
         exact ⟨by first | rfl | (simp; done) | (simp [*]; done), by repeat (first | exact Drawn0.refl _ | apply Drawn0.step)⟩
        ·
         rw [if_neg c18] at H
         exact absurd H (by simp)
       ·
        rw [if_neg c17] at H
        exact absurd H (by simp)
      ·
       rw [if_neg c16] at H
       have c16b0 : (((rd_T46 l0 t366).f1.f2) == 3) = false := beq_eq_false_iff_ne.mpr c16
       have c16b1 : (((rd_T46 l0 t366).f1.f2) != 3) = true := bne_iff_ne.mpr c16
       by_cases c19 : ((rd_T46 l0 t366).f1.f2) = 1
       ·
        rw [if_pos c19] at H
        have c19b0 : (((rd_T46 l0 t366).f1.f2) == 1) = true := beq_iff_eq.mpr c19
        have c19b1 : (((rd_T46 l0 t366).f1.f2) != 1) = false := bne_eq_false_iff_eq.mpr c19
        clear c19
        obtain ⟨ji20, hji20⟩ : ∃ j_ : Int, (wrap64 (((rd_T46 l0 t366).f1.f0) - 1)) = j_ := ⟨_, rfl⟩
        replace H : (if 0 ≤ (ji20) then (if (ji20) < (l0.length : Int) then (if 0 ≤ t367 then (if t367 < (l1.length : Int) then (if 0 ≤ (wrap64 (((rd_T46 l1 t367).f1.f0) - 1)) then (if (wrap64 (((rd_T46 l1 t367).f1.f0) - 1)) < (l1.length : Int) then (some (((rd_T46 l0 (ji20)).f0).toList == ((rd_T46 l1 (wrap64 (((rd_T46 l1 t367).f1.f0) - 1))).f0).toList)) else (none)) else (none)) else (none)) else (none)) else (none)) else (none)) = some r := by first | (rw [hji20] at H; exact H) | (simp only [hji20] at H ⊢; exact H)
        have hji20w : (IntKind.i64.wrap (((rd_T46 l0 t366).f1.f0) - 1)) = ji20 := (i64_w _).trans hji20
        by_cases c21 : 0 ≤ (ji20)
        ·
         rw [if_pos c21] at H
         have c21b0 : decide (0 ≤ (ji20)) = true := decide_eq_true c21
         clear c21
         by_cases c22 : (ji20) < (l0.length : Int)
         ·
          rw [if_pos c22] at H
          have c22b0 : decide ((ji20) < (l0.length : Int)) = true := decide_eq_true c22
          clear c22
          by_cases c23 : 0 ≤ t367
          ·
           rw [if_pos c23] at H
           have c23b0 : decide (0 ≤ t367) = true := decide_eq_true c23
           clear c23
           by_cases c24 : t367 < (l1.length : Int)
           ·
            rw [if_pos c24] at H
            have c24b0 : decide (t367 < (l1.length : Int)) = true := decide_eq_true c24
            clear c24
            obtain ⟨ji25, hji25⟩ : ∃ j_ : Int, (wrap64 (((rd_T46 l1 t367).f1.f0) - 1)) = j_ := ⟨_, rfl⟩
            replace H : (if 0 ≤ (ji25) then (if (ji25) < (l1.length : Int) then (some (((rd_T46 l0 (ji20)).f0).toList == ((rd_T46 l1 (ji25)).f0).toList)) else (none)) else (none)) = some r := by first | (rw [hji25] at H; exact H) | (simp only [hji25] at H ⊢; exact H)
            have hji25w : (IntKind.i64.wrap (((rd_T46 l1 t367).f1.f0) - 1)) = ji25 := (i64_w _).trans hji25
            by_cases c26 : 0 ≤ (ji25)
            ·
             rw [if_pos c26] at H
             have c26b0 : decide (0 ≤ (ji25)) = true := decide_eq_true c26
             clear c26
             by_cases c27 : (ji25) < (l1.length : Int)
             ·
              rw [if_pos c27] at H
              have c27b0 : decide ((ji25) < (l1.length : Int)) = true := decide_eq_true c27
              clear c27
              obtain rfl := Option.some.inj H
              have p370 : 0 ≤ (t366 : Int) := of_decide_eq_true (by first | (with_reducible assumption) | assumption)
              have q370 : t366 < (l0.length : Int) := of_decide_eq_true (by first | (with_reducible assumption) | assumption)
              obtain ⟨ad370, e370, hx370_0, hx370_1, hx370_2, hx370_3, hx370_4, hx370_5, hx370_6⟩ := at_T46 HR0.out t366 p370 q370
              cases e370
              replace p370 := eq_true p370
              replace q370 := eq_true q370
              have p373 : 0 ≤ (t366 : Int) := of_decide_eq_true (by first | (with_reducible assumption) | assumption)
              have q373 : t366 < (l0.length : Int) := of_decide_eq_true (by first | (with_reducible assumption) | assumption)
              obtain ⟨ad373, e373, hx373_0, hx373_1, hx373_2, hx373_3, hx373_4, hx373_5, hx373_6⟩ := at_T46 HR0.out t366 p373 q373
              obtain rfl : ad370 = ad373 := (by injection e373)
              replace p373 := eq_true p373
              replace q373 := eq_true q373
              have p374 : 0 ≤ (t366 : Int) := of_decide_eq_true (by first | (with_reducible assumption) | assumption)
              have q374 : t366 < (l0.length : Int) := of_decide_eq_true (by first | (with_reducible assumption) | assumption)
              obtain ⟨ad374, e374, hx374_0, hx374_1, hx374_2, hx374_3, hx374_4, hx374_5, hx374_6⟩ := at_T46 HR0.out t366 p374 q374
              obtain rfl : ad370 = ad374 := (by injection e374)
              replace p374 := eq_true p374
              replace q374 := eq_true q374
              have p375 : 0 ≤ ((ji20) : Int) := of_decide_eq_true (by first | (with_reducible assumption) | assumption)
              have q375 : (ji20) < (l0.length : Int) := of_decide_eq_true (by first | (with_reducible assumption) | assumption)
              obtain ⟨ad375, e375, hx375_0, hx375_1, hx375_2, hx375_3, hx375_4, hx375_5, hx375_6⟩ := at_T46 HR0.out (ji20) p375 q375
              obtain rfl : ad370 = ad375 := (by injection e375)
              replace p375 := eq_true p375
              replace q375 := eq_true q375
              have p376 : 0 ≤ (t367 : Int) := of_decide_eq_true (by first | (with_reducible assumption) | assumption)
              have q376 : t367 < (l1.length : Int) := of_decide_eq_true (by first | (with_reducible assumption) | assumption)
              obtain ⟨ad376, e376, hx376_0, hx376_1, hx376_2, hx376_3, hx376_4, hx376_5, hx376_6⟩ := at_T46 HR1.out t367 p376 q376
              cases e376
              replace p376 := eq_true p376
              replace q376 := eq_true q376
              have p377 : 0 ≤ ((ji25) : Int) := of_decide_eq_true (by first | (with_reducible assumption) | assumption)
              have q377 : (ji25) < (l1.length : Int) := of_decide_eq_true (by first | (with_reducible assumption) | assumption)
              obtain ⟨ad377, e377, hx377_0, hx377_1, hx377_2, hx377_3, hx377_4, hx377_5, hx377_6⟩ := at_T46 HR1.out (ji25) p377 q377
              obtain rfl : ad376 = ad377 := (by injection e377)
              replace p377 := eq_true p377
              replace q377 := eq_true q377
              go_wp2
              repeat (go_quiet (fail); try go_wp2)
              go_ret
              exact ⟨by first | rfl | (simp; done) | (simp only [← hji20, ← hji25] <;> (first | rfl | simp)) | (simp [*]; done), by repeat (first | exact Drawn0.refl _ | apply Drawn0.step)⟩
             ·
              rw [if_neg c27] at H
              exact absurd H (by simp)
            ·
             rw [if_neg c26] at H
             exact absurd H (by simp)
           ·
            rw [if_neg c24] at H
            exact absurd H (by simp)
          ·
           rw [if_neg c23] at H
           exact absurd H (by simp)
         ·
          rw [if_neg c22] at H
          exact absurd H (by simp)
        ·
         rw [if_neg c21] at H
         exact absurd H (by simp)
       ·
        rw [if_neg c19] at H
        have c19b0 : (((rd_T46 l0 t366).f1.f2) == 1) = false := beq_eq_false_iff_ne.mpr c19
        have c19b1 : (((rd_T46 l0 t366).f1.f2) != 1) = true := bne_iff_ne.mpr c19
        obtain rfl := Option.some.inj H
        have p370 : 0 ≤ (t366 : Int) := of_decide_eq_true (by first | (with_reducible assumption) | assumption)
        have q370 : t366 < (l0.length : Int) := of_decide_eq_true (by first | (with_reducible assumption) | assumption)
        obtain ⟨ad370, e370, hx370_0, hx370_1, hx370_2, hx370_3, hx370_4, hx370_5, hx370_6⟩ := at_T46 HR0.out t366 p370 q370
        cases e370
        replace p370 := eq_true p370
        replace q370 := eq_true q370
        have p373 : 0 ≤ (t366 : Int) := of_decide_eq_true (by first | (with_reducible assumption) | assumption)
        have q373 : t366 < (l0.length : Int) := of_decide_eq_true (by first | (with_reducible assumption) | assumption)
        obtain ⟨ad373, e373, hx373_0, hx373_1, hx373_2, hx373_3, hx373_4, hx373_5, hx373_6⟩ := at_T46 HR0.out t366 p373 q373
        obtain rfl : ad370 = ad373 := (by injection e373)
        replace p373 := eq_true p373
        replace q373 := eq_true q373
        go_wp2
        repeat (go_quiet (fail); try go_wp2)
        go_ret
        exact ⟨by first | rfl | (simp; done) | (simp [*]; done), by repeat (first | exact Drawn0.refl _ | apply Drawn0.step)⟩
     ·
      rw [if_neg c15] at H
      exact absurd H (by simp)
    ·
     rw [if_neg c14] at H
     exact absurd H (by simp)
end Go.Proofs.YtoggfapafjgkdaaDoor.PAll
