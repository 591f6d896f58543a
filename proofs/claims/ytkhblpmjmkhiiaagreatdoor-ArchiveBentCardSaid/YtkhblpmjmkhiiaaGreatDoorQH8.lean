/- A list of nodes that came in: its cells. -/
import Derived.Test.YtkhblpmjmkhiiaaGreatDoorQH2
import Derived.Test.YtkhblpmjmkhiiaaGreatDoorQH4
import Derived.Test.YtkhblpmjmkhiiaaGreatDoorQH7
import Derived.Deep.Slices
import Derived.Deep.Fields
import Derived.ChangeArms
import Derived.OpenShut
import Derived.HandedShaped
import Derived.Handed
import Derived.Shelf.Vars
namespace Go.Proofs.YtkhblpmjmkhiiaaGreatDoor.PAll
open Go.RowKit Go.Proofs.YtkhblpmjmkhiiaaGreatDoorW.PrintWords Go.Proofs.YtkhblpmjmkhiiaaGreatDoorW.PrintLast Go.Proofs.YtkhblpmjmkhiiaaGreatDoorW.PrintMore Go.Proofs.YtkhblpmjmkhiiaaGreatDoor.T
attribute [local go_sem] max2_int min2_int max_two min_two max_three min_three max_four min_four
set_option linter.unusedVariables false
set_option linter.unusedSimpArgs false
set_option maxHeartbeats 8000000 in
set_option maxRecDepth 100000 in
theorem l8_few.calls (k : Nat) (A0 : Option Addr) (c0 : Nat) (l0 : List (S38)) (r : List (S38)) (w : World) (hr0 : Kd.C k38 w A0 l0.length l0) (hc0 : l0.length ≤ c0) (h : l8_few.f k l0 = some r) :
  Calls Tryz.prog 5 #[.slice A0 l0.length c0] w fun e w' => ∃ v0_ : Value, e = .returned (v0_) ∧ Kd.R k38 38 w' w.heap.size (fun _ => True) v0_ r ∧ Below w.heap.size w w' := by
 have hu46 := Tryz.underlying38
 have HR0 := Aside0.mk hr0
 have HC0 := Aside0.mk hc0
 clear hr0 hc0
 have HB := Aside0.mk (Below.refl w.heap.size w)
 have H : (l8_few.l0 k l0 ([] : List (S38)) 0 0) = some r := h
 clear h
 have H' := Aside0.mk H
 clear H
 go_enter Tryz.func5, Tryz.ntmps5
 go_wp2
 go_loopg [3, 4, 5] k (fun kq v3 v4 v5 w' => ∃ (x3_1 : List (S38)) (x4_1 : Int) (x5_1 : Int), v4 = .int .i64 x4_1 ∧ v5 = .int .i64 x5_1 ∧ Aside0 (l8_few.l0 kq l0 x3_1 x4_1 x5_1 = some r) ∧ Aside0 (kq ≤ k) ∧ Aside0 (Kd.R k38 38 w' w.heap.size (fun _ => True) v3 x3_1) ∧ Aside0 (Below w.heap.size w w'))
 case atStart => exact ⟨(([] : List (S38))), (0), (0), Z4, Z4, H', ⟨Nat.le_refl _⟩, ⟨Z17⟩, ⟨Z1⟩⟩
 case round =>
  clear H'
  obtain ⟨x3_1, x4_1, x5_1, rfl, rfl, HA, HK1, HO_3, HB⟩ := hrel
  cases gk with
  | zero => exact absurd HA.out (by simp [l8_few.l0])
  | succ k1 =>
   have H := HA.out
   clear HA
   simp only [l8_few.l0] at H
   have HC2 := Aside0.mk H
   clear H
   go_upto_region 4 with (fail)
   go_cut [14] (fun v14 wc => ∃ (kq : Nat) (x14_1 : Bool), v14 = .bool x14_1 ∧ Aside0 (l8_few.j1 kq l0 x3_1 x4_1 x5_1 x14_1 = some r) ∧ Aside0 (kq ≤ k1) ∧ Aside0 (Kd.R k38 38 wc w.heap.size (fun _ => True) u3 x3_1) ∧ Aside0 (Below w.heap.size w wc))
   case first =>
    have H := HC2.out
    clear HC2
    by_cases c3 : x5_1 < (l0.length : Int)
    ·
     rw [if_pos c3] at H
     have c3b0 : decide (x5_1 < (l0.length : Int)) = true := decide_eq_true c3
     clear c3
     (first | rw [c3b0] | (simp only [i64_w, i32_w]; rw [c3b0]) | skip)
     have H' := Aside0.mk H
     clear H
     go_wp2
     go_meet
     case rel => exact ⟨_, (decide (x5_1 < 40)), Z4, H', ⟨Z30⟩, ⟨Z24⟩, ⟨Z1⟩⟩
    ·
     rw [if_neg c3] at H
     have c3b0 : decide (x5_1 < (l0.length : Int)) = false := decide_eq_false c3
     clear c3
     (first | rw [c3b0] | (simp only [i64_w, i32_w]; rw [c3b0]) | skip)
     have H' := Aside0.mk H
     clear H
     go_wp2
     go_meet
     case rel => exact ⟨_, (false), Z4, H', ⟨Z30⟩, ⟨Z24⟩, ⟨Z1⟩⟩
   case rest =>
    clear HC2
    try clear c2
    try clear p2
    try clear c3
    try clear c3b0
    obtain ⟨kq, x14_1, rfl, HA, HJ1, HO_3, HB⟩ := hcut
    cases kq with
    | zero => exact absurd HA.out (by simp [l8_few.j1])
    | succ kj1 =>
     have H := HA.out
     clear HA
     simp only [l8_few.j1] at H
     by_cases c4 : x14_1 = true
     ·
      subst c4
      have H1 : (if 0 ≤ x5_1 then (if x5_1 < (l0.length : Int) then (if (((rd_T38 l0 x5_1).f2).size : Int) > (wrap64 (60000 - x4_1)) then (if x3_1.length < 1954687338268 then (l8_few.l0 kj1 l0 (x3_1 ++ [(⟨(rd_T38 l0 x5_1).f0, (⟨(rd_T38 l0 x5_1).f1.f0, (rd_T38 l0 x5_1).f1.f1, (rd_T38 l0 x5_1).f1.f2, (rd_T38 l0 x5_1).f1.f3, (rd_T38 l0 x5_1).f1.f4⟩ : S36), (⟨#[]⟩ : ByteArray)⟩ : S38)]) (wrap64 (x4_1 + 0)) (wrap64 (x5_1 + 1))) else (none)) else (if x3_1.length < 1954687338268 then (l8_few.l0 kj1 l0 (x3_1 ++ [(⟨(rd_T38 l0 x5_1).f0, (⟨(rd_T38 l0 x5_1).f1.f0, (rd_T38 l0 x5_1).f1.f1, (rd_T38 l0 x5_1).f1.f2, (rd_T38 l0 x5_1).f1.f3, (rd_T38 l0 x5_1).f1.f4⟩ : S36), (rd_T38 l0 x5_1).f2⟩ : S38)]) (wrap64 (x4_1 + (((rd_T38 l0 x5_1).f2).size : Int))) (wrap64 (x5_1 + 1))) else (none))) else (none)) else (none)) = some r := by rw [if_pos rfl] at H; exact H
      clear H
      have H := H1
      clear H1
      by_cases c5 : 0 ≤ x5_1
      ·
       rw [if_pos c5] at H
       have c5b0 : decide (0 ≤ x5_1) = true := decide_eq_true c5
       clear c5
       by_cases c6 : x5_1 < (l0.length : Int)
       ·
        rw [if_pos c6] at H
        have c6b0 : decide (x5_1 < (l0.length : Int)) = true := decide_eq_true c6
        clear c6
        by_cases c7 : (((rd_T38 l0 x5_1).f2).size : Int) > (wrap64 (60000 - x4_1))
        ·
         rw [if_pos c7] at H
         have c7b0 : decide ((wrap64 (60000 - x4_1)) < (((rd_T38 l0 x5_1).f2).size : Int)) = true := decide_eq_true c7
         clear c7
         by_cases c8 : x3_1.length < 1954687338268
         ·
          rw [if_pos c8] at H
          have LMc8 := Aside0.mk c8
          clear c8
          obtain ⟨y426, hy426⟩ : ∃ y_ : List (S38), y_ = (x3_1 ++ [(⟨(rd_T38 l0 x5_1).f0, (⟨(rd_T38 l0 x5_1).f1.f0, (rd_T38 l0 x5_1).f1.f1, (rd_T38 l0 x5_1).f1.f2, (rd_T38 l0 x5_1).f1.f3, (rd_T38 l0 x5_1).f1.f4⟩ : S36), (⟨#[]⟩ : ByteArray)⟩ : S38)]) := ⟨_, rfl⟩
          replace H : (l8_few.l0 kj1 l0 y426 (wrap64 (x4_1 + 0)) (wrap64 (x5_1 + 1))) = some r := by first | (rw [hy426]; with_reducible exact H) | (have H2_ := (Option.bind_some _ _).symm.trans H; rw [hy426]; with_reducible exact H2_) | (have H2_ := (Option.bind_some _ _).symm.trans H; with_reducible exact H2_) | with_reducible exact H | (rw [hy426]; exact H) | exact H
          have Ny426 := Aside0.mk hy426
          clear hy426
          have H' := Aside0.mk H
          clear H
          have p424 : 0 ≤ (x5_1 : Int) := of_decide_eq_true Z2
          have q424 : x5_1 < (l0.length : Int) := of_decide_eq_true Z2
          obtain ⟨ad424, e424, hx424_0, hx424_1, hx424_2, hx424_3, hx424_4, hx424_5, hx424_6⟩ := at_T38 HR0.out x5_1 p424 q424
          cases e424
          replace hx424_0 := (HB.out.cell (World.block_lt_of_cell? w _ hx424_0)).trans hx424_0
          replace hx424_1 := (HB.out.cell (World.block_lt_of_cell? w _ hx424_1)).trans hx424_1
          replace hx424_2 := (HB.out.cell (World.block_lt_of_cell? w _ hx424_2)).trans hx424_2
          replace hx424_3 := (HB.out.cell (World.block_lt_of_cell? w _ hx424_3)).trans hx424_3
          replace hx424_4 := (HB.out.cell (World.block_lt_of_cell? w _ hx424_4)).trans hx424_4
          replace hx424_5 := (HB.out.cell (World.block_lt_of_cell? w _ hx424_5)).trans hx424_5
          replace hx424_6 := (HB.out.cell (World.block_lt_of_cell? w _ hx424_6)).trans hx424_6
          replace p424 := eq_true p424
          replace q424 := eq_true q424
          go_wp2_with (first | ((with_reducible refine gate_dst (N := 6) rfl ?_); refine box_event ?hg (N := 6) ?hd (cs := #[.string (⟨#[]⟩ : ByteArray), .int .i64 0, .int .i64 0, .int .i64 0, .int .i64 0, .int .i64 0, .string (⟨#[]⟩ : ByteArray)]) (t := 38) ?hr ?_; (case hd => rfl); (case hg => rfl); (case hr => first | (go_simp; done) | (go_simp; rfl)); intro gb425 hg w9 hbox hb; have n0_ := Aside0.mk (Kd.R_below (Kd.R_elderB Z24 gb425 (Nat.le_of_eq hg.symm)) hb); have n1_ := Aside0.mk (below_step Z1 hb); have n2_ := Aside0.mk (hbox); have n3_ := Aside0.mk ((by rw [hg]; exact (below_size Z1) : w.heap.size ≤ gb425)); have n4_ := Aside0.mk ((by rw [hg]; exact (below_size Z1) : w.heap.size ≤ gb425)); clear HO_3; clear HB; have HO_3 := n0_; have HB := n1_; have BK425 := n2_; have GW425 := n3_; have GE425 := n4_; clear n0_ n1_ n2_ n3_ n4_; clear hb hbox hg; have hcz10_0 : w9.cell? ⟨gb425, 0, none⟩ = some (.string (⟨#[]⟩ : ByteArray)) := (blk_cell BK425.out 0).trans rfl; have hcz10_1 : w9.cell? ⟨gb425, 1, none⟩ = some (.int .i64 0) := (blk_cell BK425.out 1).trans rfl; have hcz10_2 : w9.cell? ⟨gb425, 2, none⟩ = some (.int .i64 0) := (blk_cell BK425.out 2).trans rfl; have hcz10_3 : w9.cell? ⟨gb425, 3, none⟩ = some (.int .i64 0) := (blk_cell BK425.out 3).trans rfl; have hcz10_4 : w9.cell? ⟨gb425, 4, none⟩ = some (.int .i64 0) := (blk_cell BK425.out 4).trans rfl; have hcz10_5 : w9.cell? ⟨gb425, 5, none⟩ = some (.int .i64 0) := (blk_cell BK425.out 5).trans rfl; have hcz10_6 : w9.cell? ⟨gb425, 6, none⟩ = some (.string (⟨#[]⟩ : ByteArray)) := (blk_cell BK425.out 6).trans rfl; have hfz10_0 := blk_frozen BK425.out 0; have hfz10_1 := blk_frozen BK425.out 1; have hfz10_2 := blk_frozen BK425.out 2; have hfz10_3 := blk_frozen BK425.out 3; have hfz10_4 := blk_frozen BK425.out 4; have hfz10_5 := blk_frozen BK425.out 5; have hfz10_6 := blk_frozen BK425.out 6) | ((with_reducible refine gate_store (t := 38) rfl ?_); refine store_node rfl _ _ rfl gb425 _ (rd_T38 l0 x5_1) BK425.out rfl rfl rfl ?_; intro wS hS1 hS2; have s0_ := Aside0.mk (Kd.R_grown HO_3.out hS2 (fun k hk e => hk.2 (Option.some.inj e))); have s1_ := Aside0.mk (HB.out.grown hS2 HB.out.size (fun k hk => by injection hk with hk; rw [← hk]; exact GE425.out)); have s2_ := Aside0.mk hS1; clear HO_3 HB BK425 hcz10_0 hcz10_1 hcz10_2 hcz10_3 hcz10_4 hcz10_5 hcz10_6 hfz10_0 hfz10_1 hfz10_2 hfz10_3 hfz10_4 hfz10_5 hfz10_6 hS1 hS2; have HO_3 := s0_; have HB := s1_; have BK425 := s2_; clear s0_ s1_ s2_; have hcz10_0 : wS.cell? ⟨gb425, 0, none⟩ = some (.string ((rd_T38 l0 x5_1).f0)) := (blk_cell BK425.out 0).trans rfl; have hcz10_1 : wS.cell? ⟨gb425, 1, none⟩ = some (.int .i64 ((rd_T38 l0 x5_1).f1.f0)) := (blk_cell BK425.out 1).trans rfl; have hcz10_2 : wS.cell? ⟨gb425, 2, none⟩ = some (.int .i64 ((rd_T38 l0 x5_1).f1.f1)) := (blk_cell BK425.out 2).trans rfl; have hcz10_3 : wS.cell? ⟨gb425, 3, none⟩ = some (.int .i64 ((rd_T38 l0 x5_1).f1.f2)) := (blk_cell BK425.out 3).trans rfl; have hcz10_4 : wS.cell? ⟨gb425, 4, none⟩ = some (.int .i64 ((rd_T38 l0 x5_1).f1.f3)) := (blk_cell BK425.out 4).trans rfl; have hcz10_5 : wS.cell? ⟨gb425, 5, none⟩ = some (.int .i64 ((rd_T38 l0 x5_1).f1.f4)) := (blk_cell BK425.out 5).trans rfl; have hcz10_6 : wS.cell? ⟨gb425, 6, none⟩ = some (.string ((rd_T38 l0 x5_1).f2)) := (blk_cell BK425.out 6).trans rfl; have hfz10_0 := blk_frozen BK425.out 0; have hfz10_1 := blk_frozen BK425.out 1; have hfz10_2 := blk_frozen BK425.out 2; have hfz10_3 := blk_frozen BK425.out 3; have hfz10_4 := blk_frozen BK425.out 4; have hfz10_5 := blk_frozen BK425.out 5; have hfz10_6 := blk_frozen BK425.out 6) | ((with_reducible refine gate_builtin (b := .append) (xs := #[.tmp 33, .tmp 35]) rfl ?_); at_builtin; refine Kd.R_append k38 (w0 := w) w.heap.size rfl (.tmp 33) (.tmp 35) 22 38 (.agg #[(.string ⟨#[]⟩), (.int .i64 0), (.int .i64 0), (.int .i64 0), (.int .i64 0), (.int .i64 0), (.string ⟨#[]⟩)]) 72 rfl Tryz.underlying22 info38 rfl Z11 Z3 u3 x3_1 (⟨(rd_T38 l0 x5_1).f0, (⟨(rd_T38 l0 x5_1).f1.f0, (rd_T38 l0 x5_1).f1.f1, (rd_T38 l0 x5_1).f1.f2, (rd_T38 l0 x5_1).f1.f3, (rd_T38 l0 x5_1).f1.f4⟩ : S36), (⟨#[]⟩ : ByteArray)⟩ : S38) [.string ((rd_T38 l0 x5_1).f0), .int .i64 ((rd_T38 l0 x5_1).f1.f0), .int .i64 ((rd_T38 l0 x5_1).f1.f1), .int .i64 ((rd_T38 l0 x5_1).f1.f2), .int .i64 ((rd_T38 l0 x5_1).f1.f3), .int .i64 ((rd_T38 l0 x5_1).f1.f4), .string (⟨#[]⟩ : ByteArray)] (fun k_ => k_ ≠ gb425) (fun _ => False) rfl Z33 ?aP (fun _ hk => hk.elim) ?aF ?aO ?aB ?aS ?aL ?_; (case aP => exact k38_mkM _ _ _ (⟨(rd_T38 l0 x5_1).f0, (⟨(rd_T38 l0 x5_1).f1.f0, (rd_T38 l0 x5_1).f1.f1, (rd_T38 l0 x5_1).f1.f2, (rd_T38 l0 x5_1).f1.f3, (rd_T38 l0 x5_1).f1.f4⟩ : S36), (⟨#[]⟩ : ByteArray)⟩ : S38)); (case aB => exact (by repeat (first | (with_reducible first | exact HB.out | apply below_alloc | apply pw_below_drewN | apply below_drew1 | refine below_set ?_ GE425.out) | exact HB.out))); (case aF => exact (fun k_ hk => Kd.freshB (g := gb425) (o := .cells #[.string ((rd_T38 l0 x5_1).f0), .int .i64 ((rd_T38 l0 x5_1).f1.f0), .int .i64 ((rd_T38 l0 x5_1).f1.f1), .int .i64 ((rd_T38 l0 x5_1).f1.f2), .int .i64 ((rd_T38 l0 x5_1).f1.f3), .int .i64 ((rd_T38 l0 x5_1).f1.f4), .string (⟨#[]⟩ : ByteArray)] 38 (0, 0)) (by (with_reducible repeat (first | refine blk_drewN ?_ _ | refine blk_drew ?_ | refine blk_alloc ?_ _)); refine blk_put (cs := #[.string ((rd_T38 l0 x5_1).f0), .int .i64 ((rd_T38 l0 x5_1).f1.f0), .int .i64 ((rd_T38 l0 x5_1).f1.f1), .int .i64 ((rd_T38 l0 x5_1).f1.f2), .int .i64 ((rd_T38 l0 x5_1).f1.f3), .int .i64 ((rd_T38 l0 x5_1).f1.f4), .string ((rd_T38 l0 x5_1).f2)]) ?_ 6 _ rfl; (with_reducible repeat (first | refine blk_drewN ?_ _ | refine blk_drew ?_ | refine blk_alloc ?_ _)); exact BK425.out) k_ hk)); (case aO => exact (by (with_reducible repeat (first | apply Kd.R_alloc | apply Kd.R_drewN | apply Kd.R_drew)); exact Kd.R_mono (Kd.R_far (p := ⟨gb425, 6, none⟩) (Kd.R_mono HO_3.out (fun k_ hk => (⟨hk, hk.2⟩ : _ ∧ k_ ≠ gb425))) (fun _ hk => hk.2) (.string (⟨#[]⟩ : ByteArray))) (fun _ hk => hk.1.2))); (case aS => exact (below_size (by repeat (first | (with_reducible first | exact HB.out | apply below_alloc | apply pw_below_drewN | apply below_drew1 | refine below_set ?_ GE425.out) | exact HB.out)))); (case aL => have := LMc8.out; omega); intro v427 w11 ho hb hg hat; rw [← Ny426.out] at ho; have n0_ := Aside0.mk (blk_grown (g := gb425) (o := .cells #[.string ((rd_T38 l0 x5_1).f0), .int .i64 ((rd_T38 l0 x5_1).f1.f0), .int .i64 ((rd_T38 l0 x5_1).f1.f1), .int .i64 ((rd_T38 l0 x5_1).f1.f2), .int .i64 ((rd_T38 l0 x5_1).f1.f3), .int .i64 ((rd_T38 l0 x5_1).f1.f4), .string (⟨#[]⟩ : ByteArray)] 38 (0, 0)) (by (with_reducible repeat (first | refine blk_drewN ?_ _ | refine blk_drew ?_ | refine blk_alloc ?_ _)); refine blk_put (cs := #[.string ((rd_T38 l0 x5_1).f0), .int .i64 ((rd_T38 l0 x5_1).f1.f0), .int .i64 ((rd_T38 l0 x5_1).f1.f1), .int .i64 ((rd_T38 l0 x5_1).f1.f2), .int .i64 ((rd_T38 l0 x5_1).f1.f3), .int .i64 ((rd_T38 l0 x5_1).f1.f4), .string ((rd_T38 l0 x5_1).f2)]) ?_ 6 _ rfl; (with_reducible repeat (first | refine blk_drewN ?_ _ | refine blk_drew ?_ | refine blk_alloc ?_ _)); exact BK425.out) hg (Kd.R_away HO_3.out (fun _ hk => hk.2))); have n1_ := Aside0.mk (hb); have n2_ := Aside0.mk (ho); clear BK425; clear HB; clear HO_3; have BK425 := n0_; have HB := n1_; have HO428 := n2_; clear n0_ n1_ n2_; clear ho hb hg hat))
          go_roundg kj1
          case measure => have := HK1.out; have := HJ1.out; omega
          case rel => exact ⟨(y426), (wrap64 (x4_1 + 0)), (wrap64 (x5_1 + 1)), Z4, Z4, H', ⟨by have := HK1.out; have := HJ1.out; omega⟩, ⟨by (with_reducible repeat (first | apply Kd.R_alloc | apply Kd.R_drewN | apply Kd.R_drew)); exact Kd.R_mono HO428.out (fun _ hk => trivial)⟩, ⟨by repeat (first | (with_reducible first | exact HB.out | apply below_alloc | apply pw_below_drewN | apply below_drew1 | refine below_set ?_ GE425.out) | exact HB.out)⟩⟩
         ·
          rw [if_neg c8] at H
          exact absurd H Z23
        ·
         rw [if_neg c7] at H
         have c7b0 : decide ((wrap64 (60000 - x4_1)) < (((rd_T38 l0 x5_1).f2).size : Int)) = false := decide_eq_false c7
         clear c7
         by_cases c12 : x3_1.length < 1954687338268
         ·
          rw [if_pos c12] at H
          have LMc12 := Aside0.mk c12
          clear c12
          obtain ⟨y429, hy429⟩ : ∃ y_ : List (S38), y_ = (x3_1 ++ [(⟨(rd_T38 l0 x5_1).f0, (⟨(rd_T38 l0 x5_1).f1.f0, (rd_T38 l0 x5_1).f1.f1, (rd_T38 l0 x5_1).f1.f2, (rd_T38 l0 x5_1).f1.f3, (rd_T38 l0 x5_1).f1.f4⟩ : S36), (rd_T38 l0 x5_1).f2⟩ : S38)]) := ⟨_, rfl⟩
          replace H : (l8_few.l0 kj1 l0 y429 (wrap64 (x4_1 + (((rd_T38 l0 x5_1).f2).size : Int))) (wrap64 (x5_1 + 1))) = some r := by first | (rw [hy429]; with_reducible exact H) | (have H2_ := (Option.bind_some _ _).symm.trans H; rw [hy429]; with_reducible exact H2_) | (have H2_ := (Option.bind_some _ _).symm.trans H; with_reducible exact H2_) | with_reducible exact H | (rw [hy429]; exact H) | exact H
          have Ny429 := Aside0.mk hy429
          clear hy429
          have H' := Aside0.mk H
          clear H
          have p424 : 0 ≤ (x5_1 : Int) := of_decide_eq_true Z2
          have q424 : x5_1 < (l0.length : Int) := of_decide_eq_true Z2
          obtain ⟨ad424, e424, hx424_0, hx424_1, hx424_2, hx424_3, hx424_4, hx424_5, hx424_6⟩ := at_T38 HR0.out x5_1 p424 q424
          cases e424
          replace hx424_0 := (HB.out.cell (World.block_lt_of_cell? w _ hx424_0)).trans hx424_0
          replace hx424_1 := (HB.out.cell (World.block_lt_of_cell? w _ hx424_1)).trans hx424_1
          replace hx424_2 := (HB.out.cell (World.block_lt_of_cell? w _ hx424_2)).trans hx424_2
          replace hx424_3 := (HB.out.cell (World.block_lt_of_cell? w _ hx424_3)).trans hx424_3
          replace hx424_4 := (HB.out.cell (World.block_lt_of_cell? w _ hx424_4)).trans hx424_4
          replace hx424_5 := (HB.out.cell (World.block_lt_of_cell? w _ hx424_5)).trans hx424_5
          replace hx424_6 := (HB.out.cell (World.block_lt_of_cell? w _ hx424_6)).trans hx424_6
          replace p424 := eq_true p424
          replace q424 := eq_true q424
          go_wp2_with (first | ((with_reducible refine gate_dst (N := 6) rfl ?_); refine box_event ?hg (N := 6) ?hd (cs := #[.string (⟨#[]⟩ : ByteArray), .int .i64 0, .int .i64 0, .int .i64 0, .int .i64 0, .int .i64 0, .string (⟨#[]⟩ : ByteArray)]) (t := 38) ?hr ?_; (case hd => rfl); (case hg => rfl); (case hr => first | (go_simp; done) | (go_simp; rfl)); intro gb425 hg w13 hbox hb; have n0_ := Aside0.mk (Kd.R_below (Kd.R_elderB Z24 gb425 (Nat.le_of_eq hg.symm)) hb); have n1_ := Aside0.mk (below_step Z1 hb); have n2_ := Aside0.mk (hbox); have n3_ := Aside0.mk ((by rw [hg]; exact (below_size Z1) : w.heap.size ≤ gb425)); have n4_ := Aside0.mk ((by rw [hg]; exact (below_size Z1) : w.heap.size ≤ gb425)); clear HO_3; clear HB; have HO_3 := n0_; have HB := n1_; have BK425 := n2_; have GW425 := n3_; have GE425 := n4_; clear n0_ n1_ n2_ n3_ n4_; clear hb hbox hg; have hcz14_0 : w13.cell? ⟨gb425, 0, none⟩ = some (.string (⟨#[]⟩ : ByteArray)) := (blk_cell BK425.out 0).trans rfl; have hcz14_1 : w13.cell? ⟨gb425, 1, none⟩ = some (.int .i64 0) := (blk_cell BK425.out 1).trans rfl; have hcz14_2 : w13.cell? ⟨gb425, 2, none⟩ = some (.int .i64 0) := (blk_cell BK425.out 2).trans rfl; have hcz14_3 : w13.cell? ⟨gb425, 3, none⟩ = some (.int .i64 0) := (blk_cell BK425.out 3).trans rfl; have hcz14_4 : w13.cell? ⟨gb425, 4, none⟩ = some (.int .i64 0) := (blk_cell BK425.out 4).trans rfl; have hcz14_5 : w13.cell? ⟨gb425, 5, none⟩ = some (.int .i64 0) := (blk_cell BK425.out 5).trans rfl; have hcz14_6 : w13.cell? ⟨gb425, 6, none⟩ = some (.string (⟨#[]⟩ : ByteArray)) := (blk_cell BK425.out 6).trans rfl; have hfz14_0 := blk_frozen BK425.out 0; have hfz14_1 := blk_frozen BK425.out 1; have hfz14_2 := blk_frozen BK425.out 2; have hfz14_3 := blk_frozen BK425.out 3; have hfz14_4 := blk_frozen BK425.out 4; have hfz14_5 := blk_frozen BK425.out 5; have hfz14_6 := blk_frozen BK425.out 6) | ((with_reducible refine gate_store (t := 38) rfl ?_); refine store_node rfl _ _ rfl gb425 _ (rd_T38 l0 x5_1) BK425.out rfl rfl rfl ?_; intro wS hS1 hS2; have s0_ := Aside0.mk (Kd.R_grown HO_3.out hS2 (fun k hk e => hk.2 (Option.some.inj e))); have s1_ := Aside0.mk (HB.out.grown hS2 HB.out.size (fun k hk => by injection hk with hk; rw [← hk]; exact GE425.out)); have s2_ := Aside0.mk hS1; clear HO_3 HB BK425 hcz14_0 hcz14_1 hcz14_2 hcz14_3 hcz14_4 hcz14_5 hcz14_6 hfz14_0 hfz14_1 hfz14_2 hfz14_3 hfz14_4 hfz14_5 hfz14_6 hS1 hS2; have HO_3 := s0_; have HB := s1_; have BK425 := s2_; clear s0_ s1_ s2_; have hcz14_0 : wS.cell? ⟨gb425, 0, none⟩ = some (.string ((rd_T38 l0 x5_1).f0)) := (blk_cell BK425.out 0).trans rfl; have hcz14_1 : wS.cell? ⟨gb425, 1, none⟩ = some (.int .i64 ((rd_T38 l0 x5_1).f1.f0)) := (blk_cell BK425.out 1).trans rfl; have hcz14_2 : wS.cell? ⟨gb425, 2, none⟩ = some (.int .i64 ((rd_T38 l0 x5_1).f1.f1)) := (blk_cell BK425.out 2).trans rfl; have hcz14_3 : wS.cell? ⟨gb425, 3, none⟩ = some (.int .i64 ((rd_T38 l0 x5_1).f1.f2)) := (blk_cell BK425.out 3).trans rfl; have hcz14_4 : wS.cell? ⟨gb425, 4, none⟩ = some (.int .i64 ((rd_T38 l0 x5_1).f1.f3)) := (blk_cell BK425.out 4).trans rfl; have hcz14_5 : wS.cell? ⟨gb425, 5, none⟩ = some (.int .i64 ((rd_T38 l0 x5_1).f1.f4)) := (blk_cell BK425.out 5).trans rfl; have hcz14_6 : wS.cell? ⟨gb425, 6, none⟩ = some (.string ((rd_T38 l0 x5_1).f2)) := (blk_cell BK425.out 6).trans rfl; have hfz14_0 := blk_frozen BK425.out 0; have hfz14_1 := blk_frozen BK425.out 1; have hfz14_2 := blk_frozen BK425.out 2; have hfz14_3 := blk_frozen BK425.out 3; have hfz14_4 := blk_frozen BK425.out 4; have hfz14_5 := blk_frozen BK425.out 5; have hfz14_6 := blk_frozen BK425.out 6) | ((with_reducible refine gate_builtin (b := .append) (xs := #[.tmp 33, .tmp 35]) rfl ?_); at_builtin; refine Kd.R_append k38 (w0 := w) w.heap.size rfl (.tmp 33) (.tmp 35) 22 38 (.agg #[(.string ⟨#[]⟩), (.int .i64 0), (.int .i64 0), (.int .i64 0), (.int .i64 0), (.int .i64 0), (.string ⟨#[]⟩)]) 72 rfl Tryz.underlying22 info38 rfl Z11 Z3 u3 x3_1 (⟨(rd_T38 l0 x5_1).f0, (⟨(rd_T38 l0 x5_1).f1.f0, (rd_T38 l0 x5_1).f1.f1, (rd_T38 l0 x5_1).f1.f2, (rd_T38 l0 x5_1).f1.f3, (rd_T38 l0 x5_1).f1.f4⟩ : S36), (rd_T38 l0 x5_1).f2⟩ : S38) [.string ((rd_T38 l0 x5_1).f0), .int .i64 ((rd_T38 l0 x5_1).f1.f0), .int .i64 ((rd_T38 l0 x5_1).f1.f1), .int .i64 ((rd_T38 l0 x5_1).f1.f2), .int .i64 ((rd_T38 l0 x5_1).f1.f3), .int .i64 ((rd_T38 l0 x5_1).f1.f4), .string ((rd_T38 l0 x5_1).f2)] (fun k_ => k_ ≠ gb425) (fun _ => False) rfl Z33 ?aP (fun _ hk => hk.elim) ?aF ?aO ?aB ?aS ?aL ?_; (case aP => exact k38_mkM _ _ _ (⟨(rd_T38 l0 x5_1).f0, (⟨(rd_T38 l0 x5_1).f1.f0, (rd_T38 l0 x5_1).f1.f1, (rd_T38 l0 x5_1).f1.f2, (rd_T38 l0 x5_1).f1.f3, (rd_T38 l0 x5_1).f1.f4⟩ : S36), (rd_T38 l0 x5_1).f2⟩ : S38)); (case aB => exact (by repeat (first | (with_reducible first | exact HB.out | apply below_alloc | apply pw_below_drewN | apply below_drew1 | refine below_set ?_ GE425.out) | exact HB.out))); (case aF => exact (fun k_ hk => Kd.freshB (g := gb425) (o := .cells #[.string ((rd_T38 l0 x5_1).f0), .int .i64 ((rd_T38 l0 x5_1).f1.f0), .int .i64 ((rd_T38 l0 x5_1).f1.f1), .int .i64 ((rd_T38 l0 x5_1).f1.f2), .int .i64 ((rd_T38 l0 x5_1).f1.f3), .int .i64 ((rd_T38 l0 x5_1).f1.f4), .string ((rd_T38 l0 x5_1).f2)] 38 (0, 0)) (by (with_reducible repeat (first | refine blk_drewN ?_ _ | refine blk_drew ?_ | refine blk_alloc ?_ _)); exact BK425.out) k_ hk)); (case aO => exact (by (with_reducible repeat (first | apply Kd.R_alloc | apply Kd.R_drewN | apply Kd.R_drew)); exact Kd.R_mono (Kd.R_mono HO_3.out (fun k_ hk => (⟨hk, hk.2⟩ : _ ∧ k_ ≠ gb425))) (fun _ hk => hk.1.2))); (case aS => exact (below_size (by repeat (first | (with_reducible first | exact HB.out | apply below_alloc | apply pw_below_drewN | apply below_drew1 | refine below_set ?_ GE425.out) | exact HB.out)))); (case aL => have := LMc12.out; omega); intro v430 w15 ho hb hg hat; rw [← Ny429.out] at ho; have n0_ := Aside0.mk (blk_grown (g := gb425) (o := .cells #[.string ((rd_T38 l0 x5_1).f0), .int .i64 ((rd_T38 l0 x5_1).f1.f0), .int .i64 ((rd_T38 l0 x5_1).f1.f1), .int .i64 ((rd_T38 l0 x5_1).f1.f2), .int .i64 ((rd_T38 l0 x5_1).f1.f3), .int .i64 ((rd_T38 l0 x5_1).f1.f4), .string ((rd_T38 l0 x5_1).f2)] 38 (0, 0)) (by (with_reducible repeat (first | refine blk_drewN ?_ _ | refine blk_drew ?_ | refine blk_alloc ?_ _)); exact BK425.out) hg (Kd.R_away HO_3.out (fun _ hk => hk.2))); have n1_ := Aside0.mk (hb); have n2_ := Aside0.mk (ho); clear BK425; clear HB; clear HO_3; have BK425 := n0_; have HB := n1_; have HO431 := n2_; clear n0_ n1_ n2_; clear ho hb hg hat))
          go_roundg kj1
          case measure => have := HK1.out; have := HJ1.out; omega
          case rel => exact ⟨(y429), (wrap64 (x4_1 + (((rd_T38 l0 x5_1).f2).size : Int))), (wrap64 (x5_1 + 1)), Z4, Z4, H', ⟨by have := HK1.out; have := HJ1.out; omega⟩, ⟨by (with_reducible repeat (first | apply Kd.R_alloc | apply Kd.R_drewN | apply Kd.R_drew)); exact Kd.R_mono HO431.out (fun _ hk => trivial)⟩, ⟨by repeat (first | (with_reducible first | exact HB.out | apply below_alloc | apply pw_below_drewN | apply below_drew1 | refine below_set ?_ GE425.out) | exact HB.out)⟩⟩
         ·
          rw [if_neg c12] at H
          exact absurd H Z23
       ·
        rw [if_neg c6] at H
        exact absurd H Z23
      ·
       rw [if_neg c5] at H
       exact absurd H Z23
     ·
      replace c4 := Bool.eq_false_iff.mpr c4
      subst c4
      have H1 : (some x3_1) = some r := by rw [if_neg (show ¬ (false = true) by decide)] at H; exact H
      clear H
      have H := H1
      clear H1
      obtain rfl := Option.some.inj H
      go_wp2
      go_ret
      exact ⟨_, Z12, Z24, Z1⟩
end Go.Proofs.YtkhblpmjmkhiiaaGreatDoor.PAll
namespace Go.Proofs.YtkhblpmjmkhiiaaGreatDoor.T
open Go.RowKit Go.Proofs.YtkhblpmjmkhiiaaGreatDoorW.PrintWords Go.Proofs.YtkhblpmjmkhiiaaGreatDoorW.PrintLast Go.Proofs.YtkhblpmjmkhiiaaGreatDoorW.PrintMore Go.Proofs.YtkhblpmjmkhiiaaGreatDoor.PAll
set_option linter.unusedSimpArgs false
set_option linter.unusedVariables false
def RowRet (z : List S38) (w : World) (e : Ending) (w' : World) : Prop := ∃ v, e = .returned v ∧ Kd.R k38 38 w' w.heap.size (fun _ => True) v z ∧ Below w.heap.size w w'
theorem few_c (l : List S38) (A : Option Addr) (c : Nat) (w : World) (hr0 : Kd.C k38 w A l.length l) (hc : l.length ≤ c) (hw : Wf l) :
  ∃ z : List S38, z.length ≤ 40 ∧ Wf z ∧ tot z ≤ 60000 ∧ Calls Tryz.prog 5 #[.slice A l.length c] w fun e w' => RowRet z w e w' := by
 obtain ⟨z, ⟨h1, h2, h3⟩, hz⟩ := few18_ev l hw
 obtain ⟨K, hK⟩ := evs_get hz
 exact ⟨z, h1, h2, h3, l8_few.calls K A c l z w hr0 hc hK⟩
def rt0 : S38 := ⟨⟨#[47]⟩, ⟨0, 0, 2, 0, 0⟩, ⟨#[]⟩⟩
def rt1 : S38 := ⟨⟨#[47]⟩, ⟨1, 0, 2, 1, 0⟩, ⟨#[]⟩⟩
def rt2 : S38 := ⟨⟨#[47]⟩, ⟨1, 0, 2, 0, 0⟩, ⟨#[]⟩⟩
theorem rt0_norm : normT [rt0] = ([rt1], 0) := by
 rw [← normR_T]
 rfl
theorem rt1_norm : normT [rt1] = ([rt1], 0) := by
 rw [← normR_T]
 rfl
theorem rt2_norm : normT [rt2] = ([rt1], 0) := by
 rw [← normR_T]
 rfl
theorem rt_arc : arcB [rt1] = [65, 82, 67, 72, 1, 0, 0, 0, 2, 1, 47] := by rfl
theorem rt_bytes : bytesP [rt1] = (⟨(arcB [rt1] ++ sha (arcB [rt1])).toArray⟩, 0) := by
 unfold bytesP
 rw [if_pos rt1_norm]
theorem rt_read : readR [65, 82, 67, 72, 1, 0, 0, 0, 2, 1, 47] = .ok [rt2] := by rfl
theorem rt_of : ofP (arcB [rt1] ++ sha (arcB [rt1])) = ([rt1], 0) := by
 have hl : (arcB [rt1] ++ sha (arcB [rt1])).length = 43 := by rw [List.length_append, sha_length, rt_arc]; rfl
 have h1 : (arcB [rt1]).length = 11 := by rw [rt_arc]; rfl
 unfold ofP
 rw [hl, if_neg Z11, if_neg Z11, List.take_append_of_le_length (by rw [h1]; decide), List.drop_append_of_le_length (by rw [h1]; decide), List.take_of_length_le (by rw [h1]; decide), List.drop_eq_nil_of_le (by rw [h1]; decide), List.nil_append, if_neg Z23, rt_arc, rt_read]
 show ofL [rt2] = _
 unfold ofL
 rw [rt2_norm, if_neg Z11, if_pos]
 intro i hi
 match i, hi with
 | 0, _ => exact ⟨rfl, rfl⟩
set_option maxHeartbeats 4000000 in
set_option maxRecDepth 100000 in
theorem awake_c (w : World) (hT : Tab w) : Calls Tryz.prog 9 #[] w fun e w' => e = .returned (.bool true) ∧ Below w.heap.size w w' := by
 have hu46 := Tryz.underlying38
 have hu44 := Tryz.underlying36
 have HT := Aside0.mk hT
 clear hT
 go_enter Tryz.func9, Tryz.ntmps9
 go_wp2_with fail
 change Calls _ _ _ (w.alloc (.cells (([rt0] : List S38).flatMap encN).toArray 38 (0, 0))) _
 have hA := row_shut (base := w.heap.size) (cap := 1) (l := [rt0]) (Nat.le_refl _) (heap_alloc_new w (.cells (([rt0] : List S38).flatMap encN).toArray 38 (0, 0))) (Nat.le_refl _) Z11 rfl rfl
 have HB1 := Aside0.mk (below_alloc (Below.refl w.heap.size w) (.cells (([rt0] : List S38).flatMap encN).toArray 38 (0, 0)))
 refine (normal_c [rt0] (some ⟨w.heap.size, 0, none⟩) 1 _ (Kd.R_reads' hA).2.2 (Nat.le_refl _) Z11 (fun n hn => by simp only [List.mem_cons, List.mem_nil_iff, or_false] at hn; subst hn; exact nat_wf (k := 0) Z11) (HT.out.below HB1.out)).mono ?_
 rintro e w2 ⟨v2, rfl, hv2, hb2⟩
 have HB2 := Aside0.mk (below_then HB1.out HB1.out.size hb2)
 rw [rt0_norm] at hv2 ⊢
 dsimp only at hv2 ⊢
 have HV2 := Aside0.mk (Kd.R_lower hv2 HB1.out.size)
 obtain ⟨A2, c2, e2⟩ := Kd.R_slice hv2
 subst e2
 clear hA hv2 hb2 HB1
 have hw1 : Wf [rt1] := fun n hn => by simp only [List.mem_cons, List.mem_nil_iff, or_false] at hn; subst hn; exact nat_wf (k := 1) Z11
 go_wp2_with fail
 refine (bytes_c [rt1] A2 c2 w2 (Kd.R_reads' HV2.out).2.2 (Kd.R_reads' HV2.out).2.1 Z11 Z11 hw1 (HT.out.below HB2.out)).mono ?_
 rintro e w3 ⟨rfl, hb3⟩
 rw [rt_bytes]
 have HB3 := Aside0.mk (below_then HB2.out HB2.out.size hb3)
 have HV3 := Aside0.mk (Kd.R_below HV2.out hb3)
 clear hb3 HB2 HV2 hw1
 dsimp only
 go_wp2_with fail
 refine (of_c ⟨(arcB [rt1] ++ sha (arcB [rt1])).toArray⟩ w3 (by show (arcB [rt1] ++ sha (arcB [rt1])).toArray.size < _; rw [List.size_toArray, List.length_append, sha_length, rt_arc]; decide) (HT.out.below HB3.out)).mono ?_
 rintro e w4 ⟨v4, rfl, hv4, hb4⟩
 rw [show pb ⟨(arcB [rt1] ++ sha (arcB [rt1])).toArray⟩ = arcB [rt1] ++ sha (arcB [rt1]) from rfl, rt_of] at hv4 ⊢
 dsimp only at hv4 ⊢
 have HB4 := Aside0.mk (below_then HB3.out HB3.out.size hb4)
 have hv3 := Kd.R_below HV3.out hb4
 obtain ⟨A4, c4, e4⟩ := Kd.R_slice hv4
 subst e4
 obtain ⟨ad, ea, x0, x1, x2, x3, x4, x5, x6⟩ := at_T38 (Kd.R_reads' hv3).2.2 0 Z11 Z11
 subst ea
 obtain ⟨ad4, ea, y0, y1, y2, y3, y4, y5, y6⟩ := at_T38 (Kd.R_reads' hv4).2.2 0 Z11 Z11
 subst ea
 rw [show ((0 : Int)).toNat = 0 from rfl, show 0 * 7 = 0 from rfl, Addr.add_zero'] at x0 x1 x2 x3 x4 x5 x6 y0 y1 y2 y3 y4 y5 y6
 have u0 : w4.cell? ad = some (.string ⟨#[47]⟩) := x0
 have u1 : w4.cell? ⟨ad.block, ad.off + 1, none⟩ = some (.int .i64 1) := x1
 have u2 : w4.cell? ⟨ad.block, ad.off + 2, none⟩ = some (.int .i64 0) := x2
 have u3 : w4.cell? ⟨ad.block, ad.off + 3, none⟩ = some (.int .i64 2) := x3
 have u4 : w4.cell? ⟨ad.block, ad.off + 4, none⟩ = some (.int .i64 1) := x4
 have u5 : w4.cell? ⟨ad.block, ad.off + 5, none⟩ = some (.int .i64 0) := x5
 have u6 : w4.cell? ⟨ad.block, ad.off + 6, none⟩ = some (.string ⟨#[]⟩) := x6
 have v0 : w4.cell? ad4 = some (.string ⟨#[47]⟩) := y0
 have v1 : w4.cell? ⟨ad4.block, ad4.off + 1, none⟩ = some (.int .i64 1) := y1
 have v2 : w4.cell? ⟨ad4.block, ad4.off + 2, none⟩ = some (.int .i64 0) := y2
 have v3 : w4.cell? ⟨ad4.block, ad4.off + 3, none⟩ = some (.int .i64 2) := y3
 have v4 : w4.cell? ⟨ad4.block, ad4.off + 4, none⟩ = some (.int .i64 1) := y4
 have v5 : w4.cell? ⟨ad4.block, ad4.off + 5, none⟩ = some (.int .i64 0) := y5
 have v6 : w4.cell? ⟨ad4.block, ad4.off + 6, none⟩ = some (.string ⟨#[]⟩) := y6
 clear x0 x1 x2 x3 x4 x5 x6 y0 y1 y2 y3 y4 y5 y6 hv3 hv4 hb4 HV3 HB3
 go_wp2_with fail
 go_quiet (fail)
 go_wp2_with fail
 go_ret
 exact ⟨rfl, below_then HB4.out HB4.out.size (pw_below_drewN (Below.refl _ _) _)⟩
open Go.RowKit Go.Deep Go.Proofs.YtkhblpmjmkhiiaaGreatDoorW.PrintWords Go.Proofs.YtkhblpmjmkhiiaaGreatDoorW.PrintLast Go.Proofs.YtkhblpmjmkhiiaaGreatDoorW.PrintMore Go.Proofs.YtkhblpmjmkhiiaaGreatDoor.PAll
theorem c3 : Tryz.prog.cellsOf 3 = 1 := by kernel_rfl
theorem c9 : Tryz.prog.cellsOf 9 = 1 := by kernel_rfl
theorem c44 : Tryz.prog.cellsOf 36 = 5 := by kernel_rfl
theorem c46 : Tryz.prog.cellsOf 38 = 7 := by kernel_rfl
theorem one_cell {H : Type} {enc : TypeId × Value → H} {w : World} {base n : Nat} {spare : Nat → Bool} {held : Bool} {t : TypeId} {cs' : List Value} {y : DataW H × List MemPlace} {j : Nat} (hl : j < cs'.length)
  (h : DataW.trod enc Tryz.prog w base spare held n t ((cs'.drop j).take 1) = some y) : DataW.trod enc Tryz.prog w base spare held n t [cs'[j]] = some y := by
 have : (cs'.drop j).take 1 = [cs'[j]] := by
  rw [List.drop_eq_getElem_cons hl]
  rfl
 rw [this] at h
 exact h
theorem int_at {H : Type} {enc : TypeId × Value → H} {w : World} {base n : Nat} {spare : Nat → Bool} {held : Bool} {cs' : List Value} {y : DataW H × List MemPlace} {j : Nat} (hl : j < cs'.length)
  (h : DataW.trod enc Tryz.prog w base spare held n 3 ((cs'.drop j).take (Tryz.prog.cellsOf 3)) = some y) : ∃ k, cs'[j]? = some (.int .i64 k) ∧ (Lit.int .i64 k).wf = true := by
 rw [c3] at h
 obtain ⟨k, e, _, hw⟩ := DataW.trod_int Tryz.underlying3 (one_cell hl h)
 injection e with e
 exact ⟨k, by rw [List.getElem?_eq_getElem hl, e], hw⟩
theorem str_at {H : Type} {enc : TypeId × Value → H} {w : World} {base n : Nat} {spare : Nat → Bool} {held : Bool} {cs' : List Value} {y : DataW H × List MemPlace} {j : Nat} (hl : j < cs'.length)
  (h : DataW.trod enc Tryz.prog w base spare held n 9 ((cs'.drop j).take (Tryz.prog.cellsOf 9)) = some y) : ∃ s : ByteArray, cs'[j]? = some (.string s) := by
 rw [c9] at h
 obtain ⟨k, e, _, _⟩ := DataW.trod_string Tryz.underlying9 (one_cell hl h)
 injection e with e
 exact ⟨k, by rw [List.getElem?_eq_getElem hl, e]⟩
theorem node_at {H : Type} {enc : TypeId × Value → H} {w : World} {base n : Nat} {spare : Nat → Bool} {held : Bool} {cs' : List Value} {y : DataW H × List MemPlace}
  (h : DataW.trod enc Tryz.prog w base spare held n 38 cs' = some y) : ∃ m : S38, cs' = encN m ∧ (Lit.int .i64 (ino m)).wf = true := by
 obtain ⟨ys, n', hn', hy, hlen, hyl, hf⟩ := DataW.trod_struct Tryz.underlying38 h
 rw [c46] at hlen
 have hys : ys.length = 3 := hyl
 have f0 : DataW.trod enc Tryz.prog w base spare held n' 9 ((cs'.drop 0).take (Tryz.prog.cellsOf 9)) = ys[0]? := hf 0 _ rfl
 have f1 : DataW.trod enc Tryz.prog w base spare held n' 36 ((cs'.drop 1).take (Tryz.prog.cellsOf 36)) = ys[1]? := hf 1 _ rfl
 have f2 : DataW.trod enc Tryz.prog w base spare held n' 9 ((cs'.drop 6).take (Tryz.prog.cellsOf 9)) = ys[2]? := hf 2 _ rfl
 rw [List.getElem?_eq_getElem Z3] at f0 f1 f2
 rw [c44] at f1
 obtain ⟨zs, m', hm', hz, hlz, hzl, hg⟩ := DataW.trod_struct Tryz.underlying36 f1
 have hzs : zs.length = 5 := hzl
 have hl5 : ((cs'.drop 1).take 5).length = 5 := by rw [List.length_take, List.length_drop]; omega
 have g0 : DataW.trod enc Tryz.prog w base spare held m' 3 ((((cs'.drop 1).take 5).drop 0).take (Tryz.prog.cellsOf 3)) = zs[0]? := hg 0 _ rfl
 have g1 : DataW.trod enc Tryz.prog w base spare held m' 3 ((((cs'.drop 1).take 5).drop 1).take (Tryz.prog.cellsOf 3)) = zs[1]? := hg 1 _ rfl
 have g2 : DataW.trod enc Tryz.prog w base spare held m' 3 ((((cs'.drop 1).take 5).drop 2).take (Tryz.prog.cellsOf 3)) = zs[2]? := hg 2 _ rfl
 have g3 : DataW.trod enc Tryz.prog w base spare held m' 3 ((((cs'.drop 1).take 5).drop 3).take (Tryz.prog.cellsOf 3)) = zs[3]? := hg 3 _ rfl
 have g4 : DataW.trod enc Tryz.prog w base spare held m' 3 ((((cs'.drop 1).take 5).drop 4).take (Tryz.prog.cellsOf 3)) = zs[4]? := hg 4 _ rfl
 rw [List.getElem?_eq_getElem Z3] at g0 g1 g2 g3 g4
 obtain ⟨p, e0⟩ := str_at Z3 f0
 obtain ⟨d, e6⟩ := str_at Z3 f2
 obtain ⟨a0, e1, w0⟩ := int_at Z3 g0
 obtain ⟨a1, e2, _⟩ := int_at Z3 g1
 obtain ⟨a2, e3, _⟩ := int_at Z3 g2
 obtain ⟨a3, e4, _⟩ := int_at Z3 g3
 obtain ⟨a4, e5, _⟩ := int_at Z3 g4
 simp only [List.getElem?_take, List.getElem?_drop] at e1 e2 e3 e4 e5
 refine ⟨⟨p, ⟨a0, a1, a2, a3, a4⟩, d⟩, ?_, w0⟩
 apply List.ext_getElem?
 intro j
 match j with
 | 0 => exact e0
 | 1 => exact (show cs'[1]? = some (.int .i64 a0) by simpa using e1)
 | 2 => exact (show cs'[2]? = some (.int .i64 a1) by simpa using e2)
 | 3 => exact (show cs'[3]? = some (.int .i64 a2) by simpa using e3)
 | 4 => exact (show cs'[4]? = some (.int .i64 a3) by simpa using e4)
 | 5 => exact (show cs'[5]? = some (.int .i64 a4) by simpa using e5)
 | 6 => exact e6
 | j + 7 =>
  rw [List.getElem?_eq_none Z3]
  rfl
theorem nodes_in {H : Type} {enc : TypeId × Value → H} {w : World} {base fuel : Nat} {spare : Nat → Bool} {held : Bool} {a : Option Addr} {len cap : Nat} {x : DataW H × List MemPlace}
  (h : DataW.trod enc Tryz.prog w base spare held fuel 22 (Value.slice a len cap).cells.toList = some x) : ∃ l : List S38, len = l.length ∧ l.length ≤ cap ∧ Kd.C k38 w a l.length l ∧ Wf l := by
 rcases open_slice Tryz.underlying22 h with ⟨h0, _⟩ | ⟨ad, len', cap', m, n, D, Pl, hcs, hb, hl, hm, hmm, hx, hi⟩
 ·
  simp [Value.cells] at h0
  obtain ⟨rfl, rfl, rfl⟩ := h0
  exact ⟨[], rfl, Nat.zero_le _, ⟨rfl, Z11, fun h => absurd h Z11⟩, fun n hn => by cases hn⟩
 ·
  simp [Value.cells] at hcs
  obtain ⟨rfl, rfl, rfl⟩ := hcs
  have F : ∀ i, ∃ n : S38, i < len → (∀ j u, (encN n)[j]? = some u → w.cell? (ad.add (i * 7 + j)) = some u) ∧ (Lit.int .i64 (ino n)).wf = true := by
   intro i
   by_cases hil : i < len
   ·
    obtain ⟨cs', hc, ht'⟩ := hi i (by rw [hmm]; split <;> omega)
    rw [c46] at hc
    obtain ⟨nd, e, hw⟩ := node_at ht'
    obtain ⟨_, hcl, hat⟩ := World.cells?_some hc
    refine ⟨nd, fun _ => ⟨fun j u hj => ?_, hw⟩⟩
    have hj7 : j < 7 := (List.getElem?_eq_some_iff.1 hj).1
    have := hat j hj7
    rw [e, Addr.add_add] at this
    rw [this, hj]
   ·
    exact ⟨z38, fun q => absurd q hil⟩
  obtain ⟨f, hf⟩ := Classical.axiomOfChoice F
  have hl' : ((List.range len).map f).length = len := by rw [List.length_map, List.length_range]
  refine ⟨(List.range len).map f, hl'.symm, by rw [hl']; exact hl, ?_, fun n hn => ?_⟩
  ·
   rw [hl']
   refine ⟨hl', by unfold maxLen at hm; omega, fun _ => ⟨ad, rfl, fun j p hj => ?_⟩⟩
   rw [List.getElem?_map] at hj
   obtain ⟨i, hi1, hi2⟩ := Option.map_eq_some_iff.1 hj
   obtain ⟨hi3, hi4⟩ := List.getElem?_eq_some_iff.1 hi1
   rw [List.getElem_range] at hi4
   subst hi4
   rw [List.length_range] at hi3
   subst hi2
   exact ⟨encN (f j), rfl, k38_mk w (f j), fun i u hu => (hf j hi3).1 i u hu⟩
  ·
   obtain ⟨i, hi1, rfl⟩ := List.mem_map.1 hn
   exact (hf i (List.mem_range.1 hi1)).2
theorem tab_of {w : World} (h : w.ShapedOpen Tryz.prog) : Tab w :=
 cell_of_shapedOpen_int (t := 3) (zero := #[.int .i64 0]) h (of_decide_eq_true Z13) Z13 Z13 Z13 Z13 Tryz.underlying3
theorem returns_laid_shaped {H : Type} {enc : TypeId × Value → H} {a : Assume} {C : Checked} {os : Os} {f : FuncId} {fn : Func} {s : ChangeSpec} {conds : List PathCond} {apart fresh handsOn again : Bool} {X : World → Array Value → Prop}
  (own : ownKnob C.prog.godebug = none) (started : os.Started) (noInit : C.prog.inits.idxOf? f = none) (hfn : C.prog.funcs[f]? = some fn)
  (witness : ∃ (w : World) (tape : Tape) (i : Input), w.os = os ∧ (w.forCall tape i).Shaped C.prog ∧ i.vars = [] ∧ Input.okWide C.prog (w.forCall tape i) .any w.heap.size f i ∧
   ((s.pre enc C.prog fn conds apart (w.forCall tape i).memory i.args ∧ X (w.forCall tape i).memory i.args) ∧ sizedMet enc C.prog fn (OpenSpec.ofChange s) apart (w.forCall tape i).memory i.args) ∧ a.holds C.prog (lone (Frame.enter C.prog f i.args .normal) [] (w.forCall tape i)))
  (contract : ∀ (W : World) (base : Nat) (args : Array Value) (ds gs : List (DataW H)) (before : List MemPlace),
   (∀ (j : Nat) t v, fn.params[j]? = some t → args[j]? = some v → Value.okWide C.prog W .any base t v) →
   DataW.Whole enc C.prog fn.params.toList s.vars apart W args.toList ds gs before →
   W.ShapedOpen C.prog →
   Calls C.prog f args W fun e W' => ∃ v, e = .returned v ∧ s.post enc C.prog fn apart fresh handsOn again W args v W') :
  ReturnsInHanded a C os f .any (fun w args => (s.pre enc C.prog fn conds apart w args ∧ X w args) ∧ sizedMet enc C.prog fn (OpenSpec.ofChange s) apart w args) (s.post enc C.prog fn apart fresh handsOn again) := by
 refine returnsInHanded_of_calls own started noInit witness ?_
 intro w tape i _ hsh _ hok hpre hholds
 obtain ⟨_, _, _, fn', hfn', _, _, _, _, hval⟩ := hok
 have e : fn' = fn := Option.some.inj (hfn'.symm.trans hfn)
 subst e
 obtain ⟨⟨⟨ds, gs, before, hw, hc⟩, hx⟩, hz⟩ := hpre
 have hw' := DataW.Whole.of_heap (w' := w.forCall tape i) (by rfl) hw
 refine (contract (w.forCall tape i) w.heap.size i.args ds gs before hval hw' hsh).mono fun e W' ⟨v, he, hp⟩ => ?_
 subst he
 exact ChangeSpec.post_blind hp
end Go.Proofs.YtkhblpmjmkhiiaaGreatDoor.T
