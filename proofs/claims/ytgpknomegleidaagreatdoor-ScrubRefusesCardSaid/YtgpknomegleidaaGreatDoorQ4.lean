/- The scrub texts, part Q4: walks through the code that the law reaches. -/
import Derived.Test.YtgpknomegleidaaGreatDoorQ3
import Derived.Test.YtgpknomegleidaaGreatDoorQ1
import Derived.Laws.BitsLemmas
import Derived.Handy
import Derived.Lib.LazyBuf
import Derived.Deep.RegionLaw
namespace Go.Proofs.YtgpknomegleidaaGreatDoor.T
open Go.RowKit Go.Proofs.YtgpknomegleidaaGreatDoorW.PrintWords Go.Proofs.YtgpknomegleidaaGreatDoorW.PrintLast Go.Proofs.YtgpknomegleidaaGreatDoorW.PrintMore Go.Proofs.YtgpknomegleidaaGreatDoor.PAll
set_option linter.unusedSimpArgs false
set_option linter.unusedVariables false

theorem infoScr : (Tryz.prog.info? 24).map (·.size) = some 3 := by kernel_rfl
theorem layR_bad {live : Int} (h : live < 48 ∨ 1024 < live) : layR live = (zeroL, 1) := by unfold layR; rw [if_pos h]
theorem layR_ok {n : Nat} (h1 : 48 ≤ n) (h2 : n ≤ 1024) : layR (n : Int) = (layL n, 0) := by
  unfold layR
  rw [if_neg (by omega)]
  rfl
/-- What scrub.Start answers. -/
def startR (live : Int) : Value × Int := if live < 48 ∨ 1024 < live then (.agg #[.int .i64 0, .int .i64 0, .slice none 0 0], 1) else (.agg #[.int .i64 live, .int .i64 27, .slice none 0 0], 0)
set_option maxHeartbeats 4000000 in
set_option maxRecDepth 100000 in
theorem start_c (live : Int) (w : World) : Calls Tryz.prog 8 #[.int .i64 live] w fun e w' => e = .returned (.tuple #[(startR live).1, .int .i64 (startR live).2]) ∧ Below w.heap.size w w' := by
  have hu24 := Tryz.underlying24
  have hu26 := Tryz.underlying26
  go_enter Tryz.func8, Tryz.ntmps8
  go_wp2_with ((with_reducible refine gate_dst (N := 2) rfl ?_); refine box_event ?hg (N := 2) ?hd (cs := (#[.int .i64 0, .int .i64 0, .slice none 0 0] : Array Value)) (t := 24) ?hr ?_; (case hd => rfl); (case hg => rfl); (case hr => first | (go_simp; done) | (go_simp; rfl)); intro g2 hg wn hbox hb; have H2 := Aside0.mk hbox; have HB := Aside0.mk hb; have G2 := Aside0.mk (Nat.le_of_eq hg.symm : w.heap.size ≤ g2); clear hg hbox hb)
  refine (layout_c live _).mono ?_
  rintro e w2 ⟨rfl, hb⟩
  have n1_ := Aside0.mk (below_then HB.out HB.out.size hb)
  have n2_ := Aside0.mk (blk_below H2.out hb)
  clear HB H2 hb
  have HB := n1_
  have H2 := n2_
  clear n1_ n2_
  by_cases hbad : live < 48 ∨ 1024 < live
  · have HS : Aside0 (startR live = (.agg #[.int .i64 0, .int .i64 0, .slice none 0 0], 1)) := ⟨by unfold startR; rw [if_pos hbad]⟩
    rw [layR_bad hbad]
    clear hbad
    have e16 : numsA zeroL = (#[.int .i64 0, .int .i64 0, .int .i64 0, .int .i64 0, .int .i64 0, .int .i64 0, .int .i64 0, .int .i64 0, .int .i64 0, .int .i64 0, .int .i64 0, .int .i64 0, .int .i64 0, .int .i64 0, .int .i64 0, .int .i64 0] : Array Value) := rfl
    simp only [e16]
    go_wp2_with (first | ((with_reducible refine gate_dst (N := 4) rfl ?_); refine box_event ?hg (N := 4) ?hd (cs := (#[.int .i64 0, .int .i64 0, .int .i64 0, .int .i64 0, .int .i64 0, .int .i64 0, .int .i64 0, .int .i64 0, .int .i64 0, .int .i64 0, .int .i64 0, .int .i64 0, .int .i64 0, .int .i64 0, .int .i64 0, .int .i64 0] : Array Value)) (t := 26) ?hr ?_; (case hd => rfl); (case hg => rfl); (case hr => first | (go_simp; done) | (go_simp; rfl)); intro g4 hg wn hbox hb; have n1_ := Aside0.mk (below_then HB.out HB.out.size hb); have n2_ := Aside0.mk (blk_below H2.out hb); have H4 := Aside0.mk hbox; have G4 := Aside0.mk ((by rw [hg]; exact blk_lt H2.out) : g2 < g4); clear HB H2; have HB := n1_; have H2 := n2_; clear n1_ n2_; clear hg hbox hb) | ((with_reducible refine gate_store (t := 26) rfl ?_); refine store_at rfl _ _ _ rfl g4 0 26 _ (numsL [0, 0, 0, 0, 0, 0, 0, 0, 0, 0, 0, 0, 0, 0, 0, 0]) infoLay H4.out (Nat.le_of_ble_eq_true rfl) (by first | (go_simp; done) | (go_simp; rfl)) (by first | (go_simp; done) | (go_simp; rfl)) (one_nums _) ?_; intro ws hs hgr; have n1_ := Aside0.mk (HB.out.grown hgr HB.out.size (fun k hk => by injection hk with hk; have := G2.out; have := G4.out; omega)); have n2_ := Aside0.mk (blk_grown H2.out hgr (fun e => by injection e with e; have := G4.out; omega)); clear HB H2 H4; have HB := n1_; have H2 := n2_; clear n1_ n2_; clear hs hgr) | ((with_reducible refine gate_store (t := 24) rfl ?_); refine store_at rfl _ _ _ rfl g2 0 24 _ [.int .i64 0, .int .i64 0, .slice none 0 0] infoScr H2.out (Nat.le_of_ble_eq_true rfl) (by first | (go_simp; done) | (go_simp; rfl)) (by first | (go_simp; done) | (go_simp; rfl)) (by intro v hv; simp only [List.mem_cons, List.mem_nil_iff, or_false] at hv; rcases hv with rfl | rfl | rfl <;> rfl) ?_; intro ws hs hgr; have n1_ := Aside0.mk (HB.out.grown hgr HB.out.size (fun k hk => by injection hk with hk; have := G2.out; omega)); clear HB H2; have HB := n1_; clear n1_; have H2 : Aside0 (ws.heap[g2]? = some (.cells #[.int .i64 0, .int .i64 0, .slice none 0 0] 24 (0, 0))) := ⟨hs⟩; clear hs hgr))
    (try simp only [Exit.inBlock, Exit.then])
    refine bodyPost_ret (results_ct rfl _ _ g2 24 #[.int .i64 0, .int .i64 0, .slice none 0 0] (0, 0) _ rfl H2.out hu24 rfl infoScr) rfl ?_
    exact ⟨by rw [HS.out]; rfl, HB.out⟩
  obtain ⟨n, hn⟩ : ∃ n : Nat, live = (n : Int) := ⟨live.toNat, by omega⟩
  subst hn
  have HS : Aside0 (startR (n : Int) = (.agg #[.int .i64 (n : Int), .int .i64 27, .slice none 0 0], 0)) := ⟨by unfold startR; rw [if_neg hbad]⟩
  rw [layR_ok (by omega) (by omega)]
  clear hbad
  have e16 : numsA (layL n) = (#[.int .i64 (n : Int), .int .i64 2, .int .i64 3, .int .i64 27, .int .i64 28, .int .i64 29, .int .i64 ((n / 8 : Nat) : Int), .int .i64 ((29 + n / 8 : Nat) : Int), .int .i64 (((n / 8 + 15) / 16 : Nat) : Int), .int .i64 ((29 + n / 8 + (n / 8 + 15) / 16 : Nat) : Int), .int .i64 ((30 + n / 8 + (n / 8 + 15) / 16 : Nat) : Int), .int .i64 (n : Int), .int .i64 ((n + 1 : Nat) : Int), .int .i64 (((n + 63) / 64 : Nat) : Int), .int .i64 ((n + 1 + (n + 63) / 64 : Nat) : Int), .int .i64 ((2 * n + 1 + (n + 63) / 64 : Nat) : Int)] : Array Value) := rfl
  simp only [e16]
  go_wp2_with (first | ((with_reducible refine gate_dst (N := 4) rfl ?_); refine box_event ?hg (N := 4) ?hd (cs := (#[.int .i64 0, .int .i64 0, .int .i64 0, .int .i64 0, .int .i64 0, .int .i64 0, .int .i64 0, .int .i64 0, .int .i64 0, .int .i64 0, .int .i64 0, .int .i64 0, .int .i64 0, .int .i64 0, .int .i64 0, .int .i64 0] : Array Value)) (t := 26) ?hr ?_; (case hd => rfl); (case hg => rfl); (case hr => first | (go_simp; done) | (go_simp; rfl)); intro g4 hg wn hbox hb; have n1_ := Aside0.mk (below_then HB.out HB.out.size hb); have n2_ := Aside0.mk (blk_below H2.out hb); have H4 := Aside0.mk hbox; have G4 := Aside0.mk ((by rw [hg]; exact blk_lt H2.out) : g2 < g4); clear HB H2; have HB := n1_; have H2 := n2_; clear n1_ n2_; clear hg hbox hb) | ((with_reducible refine gate_store (t := 26) rfl ?_); refine store_at rfl _ _ _ rfl g4 0 26 _ (numsL [(n : Int), 2, 3, 27, 28, 29, ((n / 8 : Nat) : Int), ((29 + n / 8 : Nat) : Int), (((n / 8 + 15) / 16 : Nat) : Int), ((29 + n / 8 + (n / 8 + 15) / 16 : Nat) : Int), ((30 + n / 8 + (n / 8 + 15) / 16 : Nat) : Int), (n : Int), ((n + 1 : Nat) : Int), (((n + 63) / 64 : Nat) : Int), ((n + 1 + (n + 63) / 64 : Nat) : Int), ((2 * n + 1 + (n + 63) / 64 : Nat) : Int)]) infoLay H4.out (Nat.le_of_ble_eq_true rfl) (by first | (go_simp; done) | (go_simp; rfl)) (by first | (go_simp; done) | (go_simp; rfl)) (one_nums _) ?_; intro ws hs hgr; have n1_ := Aside0.mk (HB.out.grown hgr HB.out.size (fun k hk => by injection hk with hk; have := G2.out; have := G4.out; omega)); have n2_ := Aside0.mk (blk_grown H2.out hgr (fun e => by injection e with e; have := G4.out; omega)); clear HB H2 H4; have HB := n1_; have H2 := n2_; clear n1_ n2_; have H4 : Aside0 (ws.heap[g4]? = some (.cells (#[.int .i64 (n : Int), .int .i64 2, .int .i64 3, .int .i64 27, .int .i64 28, .int .i64 29, .int .i64 ((n / 8 : Nat) : Int), .int .i64 ((29 + n / 8 : Nat) : Int), .int .i64 (((n / 8 + 15) / 16 : Nat) : Int), .int .i64 ((29 + n / 8 + (n / 8 + 15) / 16 : Nat) : Int), .int .i64 ((30 + n / 8 + (n / 8 + 15) / 16 : Nat) : Int), .int .i64 (n : Int), .int .i64 ((n + 1 : Nat) : Int), .int .i64 (((n + 63) / 64 : Nat) : Int), .int .i64 ((n + 1 + (n + 63) / 64 : Nat) : Int), .int .i64 ((2 * n + 1 + (n + 63) / 64 : Nat) : Int)] : Array Value) 26 (0, 0))) := ⟨hs⟩; have c3 : ws.cell? ⟨g4, 3, none⟩ = some (.int .i64 27) := (blk_cell H4.out 3).trans rfl; clear hs hgr) | ((with_reducible refine gate_store (t := 24) rfl ?_); refine store_at rfl _ _ _ rfl g2 0 24 _ [.int .i64 (n : Int), .int .i64 27, .slice none 0 0] infoScr H2.out (Nat.le_of_ble_eq_true rfl) (by first | (go_simp; done) | (go_simp; rfl)) (by first | (go_simp; done) | (go_simp; rfl)) (by intro v hv; simp only [List.mem_cons, List.mem_nil_iff, or_false] at hv; rcases hv with rfl | rfl | rfl <;> rfl) ?_; intro ws hs hgr; have n1_ := Aside0.mk (HB.out.grown hgr HB.out.size (fun k hk => by injection hk with hk; have := G2.out; omega)); clear HB H2; have HB := n1_; clear n1_; have H2 : Aside0 (ws.heap[g2]? = some (.cells #[.int .i64 (n : Int), .int .i64 27, .slice none 0 0] 24 (0, 0))) := ⟨hs⟩; clear hs hgr))
  (try simp only [Exit.inBlock, Exit.then])
  refine bodyPost_ret (results_ct rfl _ _ g2 24 #[.int .i64 (n : Int), .int .i64 27, .slice none 0 0] (0, 0) _ rfl H2.out hu24 rfl infoScr) rfl ?_
  exact ⟨by rw [HS.out]; rfl, HB.out⟩
/-- May a scrub be? -/
def rightR (live at_ : Int) : Bool := decide (48 ≤ live ∧ live ≤ 1024 ∧ 27 ≤ at_ ∧ at_ ≤ live)
set_option maxHeartbeats 4000000 in
set_option maxRecDepth 100000 in
theorem right_c (live at_ : Int) (bad : Value) (hbadv : bad.oneCell' = true) (w : World) : Calls Tryz.prog 13 #[.agg #[.int .i64 live, .int .i64 at_, bad]] w fun e w' => e = .returned (.bool (rightR live at_)) ∧ Below w.heap.size w w' := by
  have hu24 := Tryz.underlying24
  have hu26 := Tryz.underlying26
  go_enter Tryz.func13, Tryz.ntmps13
  go_wp2_with ((with_reducible refine gate_dst (N := 1) rfl ?_); refine box_event ?hg (N := 1) ?hd (cs := (#[.int .i64 live, .int .i64 at_, bad] : Array Value)) (t := 24) ?hr ?_; (case hd => rfl); (case hg => rfl); (case hr => first | (go_simp; done) | (go_simp; rfl)); intro g1 hg wn hbox hb; have H1 := Aside0.mk hbox; have HB := Aside0.mk hb; have G1 := Aside0.mk (Nat.le_of_eq hg.symm : w.heap.size ≤ g1); have c0 : wn.cell? ⟨g1, 0, none⟩ = some (.int .i64 live) := (blk_cell H1.out 0).trans rfl; clear hg hbox hb)
  refine (layout_c live _).mono ?_
  rintro e w2 ⟨rfl, hb⟩
  clear c0
  have n1_ := Aside0.mk (below_then HB.out HB.out.size hb)
  have n2_ := Aside0.mk (blk_below H1.out hb)
  clear HB H1 hb
  have HB := n1_
  have H1 := n2_
  clear n1_ n2_
  by_cases hbad : live < 48 ∨ 1024 < live
  · have HS : Aside0 (rightR live at_ = false) := ⟨decide_eq_false (by omega)⟩
    rw [layR_bad hbad]
    clear hbad
    have e16 : numsA zeroL = (#[.int .i64 0, .int .i64 0, .int .i64 0, .int .i64 0, .int .i64 0, .int .i64 0, .int .i64 0, .int .i64 0, .int .i64 0, .int .i64 0, .int .i64 0, .int .i64 0, .int .i64 0, .int .i64 0, .int .i64 0, .int .i64 0] : Array Value) := rfl
    simp only [e16]
    go_wp2_with (first | ((with_reducible refine gate_dst (N := 3) rfl ?_); refine box_event ?hg (N := 3) ?hd (cs := (#[.int .i64 0, .int .i64 0, .int .i64 0, .int .i64 0, .int .i64 0, .int .i64 0, .int .i64 0, .int .i64 0, .int .i64 0, .int .i64 0, .int .i64 0, .int .i64 0, .int .i64 0, .int .i64 0, .int .i64 0, .int .i64 0] : Array Value)) (t := 26) ?hr ?_; (case hd => rfl); (case hg => rfl); (case hr => first | (go_simp; done) | (go_simp; rfl)); intro g3 hg wn hbox hb; have n1_ := Aside0.mk (below_then HB.out HB.out.size hb); have n2_ := Aside0.mk (blk_below H1.out hb); have H4 := Aside0.mk hbox; have G3 := Aside0.mk ((by rw [hg]; exact blk_lt H1.out) : g1 < g3); clear HB H1; have HB := n1_; have H1 := n2_; clear n1_ n2_; clear hg hbox hb) | ((with_reducible refine gate_store (t := 26) rfl ?_); refine store_at rfl _ _ _ rfl g3 0 26 _ (numsL [0, 0, 0, 0, 0, 0, 0, 0, 0, 0, 0, 0, 0, 0, 0, 0]) infoLay H4.out (Nat.le_of_ble_eq_true rfl) (by first | (go_simp; done) | (go_simp; rfl)) (by first | (go_simp; done) | (go_simp; rfl)) (one_nums _) ?_; intro ws hs hgr; have n1_ := Aside0.mk (HB.out.grown hgr HB.out.size (fun k hk => by injection hk with hk; have := G1.out; have := G3.out; omega)); have n2_ := Aside0.mk (blk_grown H1.out hgr (fun e => by injection e with e; have := G3.out; omega)); clear HB H1 H4; have HB := n1_; have H1 := n2_; clear n1_ n2_; have c0 : ws.cell? ⟨g1, 0, none⟩ = some (.int .i64 live) := (blk_cell H1.out 0).trans rfl; have c1 : ws.cell? ⟨g1, 1, none⟩ = some (.int .i64 at_) := (blk_cell H1.out 1).trans rfl; have H4 : Aside0 (ws.heap[g3]? = some (.cells (#[.int .i64 0, .int .i64 0, .int .i64 0, .int .i64 0, .int .i64 0, .int .i64 0, .int .i64 0, .int .i64 0, .int .i64 0, .int .i64 0, .int .i64 0, .int .i64 0, .int .i64 0, .int .i64 0, .int .i64 0, .int .i64 0] : Array Value) 26 (0, 0))) := ⟨hs⟩; have c3 : ws.cell? ⟨g3, 3, none⟩ = some (.int .i64 (0 : Int)) := (blk_cell H4.out 3).trans rfl; clear hs hgr))
    go_ret
    exact ⟨by rw [HS.out]; rfl, HB.out⟩
  obtain ⟨n, hn⟩ : ∃ n : Nat, live = (n : Int) := ⟨live.toNat, by omega⟩
  subst hn
  rw [layR_ok (by omega) (by omega)]
  have e16 : numsA (layL n) = (#[.int .i64 (n : Int), .int .i64 2, .int .i64 3, .int .i64 27, .int .i64 28, .int .i64 29, .int .i64 ((n / 8 : Nat) : Int), .int .i64 ((29 + n / 8 : Nat) : Int), .int .i64 (((n / 8 + 15) / 16 : Nat) : Int), .int .i64 ((29 + n / 8 + (n / 8 + 15) / 16 : Nat) : Int), .int .i64 ((30 + n / 8 + (n / 8 + 15) / 16 : Nat) : Int), .int .i64 (n : Int), .int .i64 ((n + 1 : Nat) : Int), .int .i64 (((n + 63) / 64 : Nat) : Int), .int .i64 ((n + 1 + (n + 63) / 64 : Nat) : Int), .int .i64 ((2 * n + 1 + (n + 63) / 64 : Nat) : Int)] : Array Value) := rfl
  simp only [e16]
  by_cases h27 : 27 ≤ at_
  rotate_left
  · have HS : Aside0 (rightR (n : Int) at_ = false) := ⟨decide_eq_false (by omega)⟩
    have q1 : decide (27 ≤ at_) = false := decide_eq_false h27
    clear hbad h27
    go_wp2_with (first | ((with_reducible refine gate_dst (N := 3) rfl ?_); refine box_event ?hg (N := 3) ?hd (cs := (#[.int .i64 0, .int .i64 0, .int .i64 0, .int .i64 0, .int .i64 0, .int .i64 0, .int .i64 0, .int .i64 0, .int .i64 0, .int .i64 0, .int .i64 0, .int .i64 0, .int .i64 0, .int .i64 0, .int .i64 0, .int .i64 0] : Array Value)) (t := 26) ?hr ?_; (case hd => rfl); (case hg => rfl); (case hr => first | (go_simp; done) | (go_simp; rfl)); intro g3 hg wn hbox hb; have n1_ := Aside0.mk (below_then HB.out HB.out.size hb); have n2_ := Aside0.mk (blk_below H1.out hb); have H4 := Aside0.mk hbox; have G3 := Aside0.mk ((by rw [hg]; exact blk_lt H1.out) : g1 < g3); clear HB H1; have HB := n1_; have H1 := n2_; clear n1_ n2_; clear hg hbox hb) | ((with_reducible refine gate_store (t := 26) rfl ?_); refine store_at rfl _ _ _ rfl g3 0 26 _ (numsL [(n : Int), 2, 3, 27, 28, 29, ((n / 8 : Nat) : Int), ((29 + n / 8 : Nat) : Int), (((n / 8 + 15) / 16 : Nat) : Int), ((29 + n / 8 + (n / 8 + 15) / 16 : Nat) : Int), ((30 + n / 8 + (n / 8 + 15) / 16 : Nat) : Int), (n : Int), ((n + 1 : Nat) : Int), (((n + 63) / 64 : Nat) : Int), ((n + 1 + (n + 63) / 64 : Nat) : Int), ((2 * n + 1 + (n + 63) / 64 : Nat) : Int)]) infoLay H4.out (Nat.le_of_ble_eq_true rfl) (by first | (go_simp; done) | (go_simp; rfl)) (by first | (go_simp; done) | (go_simp; rfl)) (one_nums _) ?_; intro ws hs hgr; have n1_ := Aside0.mk (HB.out.grown hgr HB.out.size (fun k hk => by injection hk with hk; have := G1.out; have := G3.out; omega)); have n2_ := Aside0.mk (blk_grown H1.out hgr (fun e => by injection e with e; have := G3.out; omega)); clear HB H1 H4; have HB := n1_; have H1 := n2_; clear n1_ n2_; have c0 : ws.cell? ⟨g1, 0, none⟩ = some (.int .i64 (n : Int)) := (blk_cell H1.out 0).trans rfl; have c1 : ws.cell? ⟨g1, 1, none⟩ = some (.int .i64 at_) := (blk_cell H1.out 1).trans rfl; have H4 : Aside0 (ws.heap[g3]? = some (.cells (#[.int .i64 (n : Int), .int .i64 2, .int .i64 3, .int .i64 27, .int .i64 28, .int .i64 29, .int .i64 ((n / 8 : Nat) : Int), .int .i64 ((29 + n / 8 : Nat) : Int), .int .i64 (((n / 8 + 15) / 16 : Nat) : Int), .int .i64 ((29 + n / 8 + (n / 8 + 15) / 16 : Nat) : Int), .int .i64 ((30 + n / 8 + (n / 8 + 15) / 16 : Nat) : Int), .int .i64 (n : Int), .int .i64 ((n + 1 : Nat) : Int), .int .i64 (((n + 63) / 64 : Nat) : Int), .int .i64 ((n + 1 + (n + 63) / 64 : Nat) : Int), .int .i64 ((2 * n + 1 + (n + 63) / 64 : Nat) : Int)] : Array Value) 26 (0, 0))) := ⟨hs⟩; have c3 : ws.cell? ⟨g3, 3, none⟩ = some (.int .i64 (27 : Int)) := (blk_cell H4.out 3).trans rfl; clear hs hgr))
    go_ret
    exact ⟨by rw [HS.out]; rfl, HB.out⟩
  have q1 : decide (27 ≤ at_) = true := decide_eq_true h27
  by_cases hle : at_ ≤ (n : Int)
  · have HS : Aside0 (rightR (n : Int) at_ = true) := ⟨decide_eq_true (by omega)⟩
    have q2 : decide (at_ ≤ (n : Int)) = true := decide_eq_true hle
    clear hbad h27 hle
    go_wp2_with (first | ((with_reducible refine gate_dst (N := 3) rfl ?_); refine box_event ?hg (N := 3) ?hd (cs := (#[.int .i64 0, .int .i64 0, .int .i64 0, .int .i64 0, .int .i64 0, .int .i64 0, .int .i64 0, .int .i64 0, .int .i64 0, .int .i64 0, .int .i64 0, .int .i64 0, .int .i64 0, .int .i64 0, .int .i64 0, .int .i64 0] : Array Value)) (t := 26) ?hr ?_; (case hd => rfl); (case hg => rfl); (case hr => first | (go_simp; done) | (go_simp; rfl)); intro g3 hg wn hbox hb; have n1_ := Aside0.mk (below_then HB.out HB.out.size hb); have n2_ := Aside0.mk (blk_below H1.out hb); have H4 := Aside0.mk hbox; have G3 := Aside0.mk ((by rw [hg]; exact blk_lt H1.out) : g1 < g3); clear HB H1; have HB := n1_; have H1 := n2_; clear n1_ n2_; clear hg hbox hb) | ((with_reducible refine gate_store (t := 26) rfl ?_); refine store_at rfl _ _ _ rfl g3 0 26 _ (numsL [(n : Int), 2, 3, 27, 28, 29, ((n / 8 : Nat) : Int), ((29 + n / 8 : Nat) : Int), (((n / 8 + 15) / 16 : Nat) : Int), ((29 + n / 8 + (n / 8 + 15) / 16 : Nat) : Int), ((30 + n / 8 + (n / 8 + 15) / 16 : Nat) : Int), (n : Int), ((n + 1 : Nat) : Int), (((n + 63) / 64 : Nat) : Int), ((n + 1 + (n + 63) / 64 : Nat) : Int), ((2 * n + 1 + (n + 63) / 64 : Nat) : Int)]) infoLay H4.out (Nat.le_of_ble_eq_true rfl) (by first | (go_simp; done) | (go_simp; rfl)) (by first | (go_simp; done) | (go_simp; rfl)) (one_nums _) ?_; intro ws hs hgr; have n1_ := Aside0.mk (HB.out.grown hgr HB.out.size (fun k hk => by injection hk with hk; have := G1.out; have := G3.out; omega)); have n2_ := Aside0.mk (blk_grown H1.out hgr (fun e => by injection e with e; have := G3.out; omega)); clear HB H1 H4; have HB := n1_; have H1 := n2_; clear n1_ n2_; have c0 : ws.cell? ⟨g1, 0, none⟩ = some (.int .i64 (n : Int)) := (blk_cell H1.out 0).trans rfl; have c1 : ws.cell? ⟨g1, 1, none⟩ = some (.int .i64 at_) := (blk_cell H1.out 1).trans rfl; have H4 : Aside0 (ws.heap[g3]? = some (.cells (#[.int .i64 (n : Int), .int .i64 2, .int .i64 3, .int .i64 27, .int .i64 28, .int .i64 29, .int .i64 ((n / 8 : Nat) : Int), .int .i64 ((29 + n / 8 : Nat) : Int), .int .i64 (((n / 8 + 15) / 16 : Nat) : Int), .int .i64 ((29 + n / 8 + (n / 8 + 15) / 16 : Nat) : Int), .int .i64 ((30 + n / 8 + (n / 8 + 15) / 16 : Nat) : Int), .int .i64 (n : Int), .int .i64 ((n + 1 : Nat) : Int), .int .i64 (((n + 63) / 64 : Nat) : Int), .int .i64 ((n + 1 + (n + 63) / 64 : Nat) : Int), .int .i64 ((2 * n + 1 + (n + 63) / 64 : Nat) : Int)] : Array Value) 26 (0, 0))) := ⟨hs⟩; have c3 : ws.cell? ⟨g3, 3, none⟩ = some (.int .i64 (27 : Int)) := (blk_cell H4.out 3).trans rfl; clear hs hgr))
    go_ret
    exact ⟨by rw [HS.out]; rfl, HB.out⟩
  · have HS : Aside0 (rightR (n : Int) at_ = false) := ⟨decide_eq_false (by omega)⟩
    have q2 : decide (at_ ≤ (n : Int)) = false := decide_eq_false hle
    clear hbad h27 hle
    go_wp2_with (first | ((with_reducible refine gate_dst (N := 3) rfl ?_); refine box_event ?hg (N := 3) ?hd (cs := (#[.int .i64 0, .int .i64 0, .int .i64 0, .int .i64 0, .int .i64 0, .int .i64 0, .int .i64 0, .int .i64 0, .int .i64 0, .int .i64 0, .int .i64 0, .int .i64 0, .int .i64 0, .int .i64 0, .int .i64 0, .int .i64 0] : Array Value)) (t := 26) ?hr ?_; (case hd => rfl); (case hg => rfl); (case hr => first | (go_simp; done) | (go_simp; rfl)); intro g3 hg wn hbox hb; have n1_ := Aside0.mk (below_then HB.out HB.out.size hb); have n2_ := Aside0.mk (blk_below H1.out hb); have H4 := Aside0.mk hbox; have G3 := Aside0.mk ((by rw [hg]; exact blk_lt H1.out) : g1 < g3); clear HB H1; have HB := n1_; have H1 := n2_; clear n1_ n2_; clear hg hbox hb) | ((with_reducible refine gate_store (t := 26) rfl ?_); refine store_at rfl _ _ _ rfl g3 0 26 _ (numsL [(n : Int), 2, 3, 27, 28, 29, ((n / 8 : Nat) : Int), ((29 + n / 8 : Nat) : Int), (((n / 8 + 15) / 16 : Nat) : Int), ((29 + n / 8 + (n / 8 + 15) / 16 : Nat) : Int), ((30 + n / 8 + (n / 8 + 15) / 16 : Nat) : Int), (n : Int), ((n + 1 : Nat) : Int), (((n + 63) / 64 : Nat) : Int), ((n + 1 + (n + 63) / 64 : Nat) : Int), ((2 * n + 1 + (n + 63) / 64 : Nat) : Int)]) infoLay H4.out (Nat.le_of_ble_eq_true rfl) (by first | (go_simp; done) | (go_simp; rfl)) (by first | (go_simp; done) | (go_simp; rfl)) (one_nums _) ?_; intro ws hs hgr; have n1_ := Aside0.mk (HB.out.grown hgr HB.out.size (fun k hk => by injection hk with hk; have := G1.out; have := G3.out; omega)); have n2_ := Aside0.mk (blk_grown H1.out hgr (fun e => by injection e with e; have := G3.out; omega)); clear HB H1 H4; have HB := n1_; have H1 := n2_; clear n1_ n2_; have c0 : ws.cell? ⟨g1, 0, none⟩ = some (.int .i64 (n : Int)) := (blk_cell H1.out 0).trans rfl; have c1 : ws.cell? ⟨g1, 1, none⟩ = some (.int .i64 at_) := (blk_cell H1.out 1).trans rfl; have H4 : Aside0 (ws.heap[g3]? = some (.cells (#[.int .i64 (n : Int), .int .i64 2, .int .i64 3, .int .i64 27, .int .i64 28, .int .i64 29, .int .i64 ((n / 8 : Nat) : Int), .int .i64 ((29 + n / 8 : Nat) : Int), .int .i64 (((n / 8 + 15) / 16 : Nat) : Int), .int .i64 ((29 + n / 8 + (n / 8 + 15) / 16 : Nat) : Int), .int .i64 ((30 + n / 8 + (n / 8 + 15) / 16 : Nat) : Int), .int .i64 (n : Int), .int .i64 ((n + 1 : Nat) : Int), .int .i64 (((n + 63) / 64 : Nat) : Int), .int .i64 ((n + 1 + (n + 63) / 64 : Nat) : Int), .int .i64 ((2 * n + 1 + (n + 63) / 64 : Nat) : Int)] : Array Value) 26 (0, 0))) := ⟨hs⟩; have c3 : ws.cell? ⟨g3, 3, none⟩ = some (.int .i64 (27 : Int)) := (blk_cell H4.out 3).trans rfl; clear hs hgr))
    go_ret
    exact ⟨by rw [HS.out]; rfl, HB.out⟩
end Go.Proofs.YtgpknomegleidaaGreatDoor.T
namespace Go.Proofs.YtgpknomegleidaaGreatDoor.T
open Go.RowKit Go.Proofs.YtgpknomegleidaaGreatDoorW.PrintWords Go.Proofs.YtgpknomegleidaaGreatDoorW.PrintLast Go.Proofs.YtgpknomegleidaaGreatDoorW.PrintMore Go.Proofs.YtgpknomegleidaaGreatDoor.PAll
set_option linter.unusedSimpArgs false
set_option linter.unusedVariables false

def lay48 : Array Value := #[.int .i64 48, .int .i64 2, .int .i64 3, .int .i64 27, .int .i64 28, .int .i64 29, .int .i64 6, .int .i64 35, .int .i64 1, .int .i64 36, .int .i64 37, .int .i64 48, .int .i64 49, .int .i64 1, .int .i64 50, .int .i64 98]
theorem lay48_eq : numsA (layL 48) = lay48 := by rfl
def z16 : ByteArray := ⟨(zeros 16).toArray⟩
theorem z16_size : z16.size = 16 := by rw [z16, mk_size]; rfl
set_option maxHeartbeats 1000000 in
set_option maxRecDepth 100000 in
theorem btag_c (w : World) : Calls Tryz.prog 100 #[] w fun e w' => e = .returned (.string z16) ∧ Below w.heap.size w w' := by
  go_enter Tryz.func100, Tryz.ntmps100
  go_wp2_with fail
  refine (Tryz.strings_Repeat ⟨#[0]⟩ 16 _ (by decide) (by decide)).mono ?_
  rintro e w2 ⟨rfl, hb⟩
  have HB := Aside0.mk hb
  have hz : (⟨(Lib.repeatL [0] 16).toArray⟩ : ByteArray) = z16 := by unfold z16; congr 2
  clear hb
  rw [show (⟨#[0]⟩ : ByteArray).data.toList = [0] from rfl, hz]
  clear hz
  go_wp2_with fail
  go_ret
  exact ⟨rfl, HB.out⟩
def LeafP (w : World) (e : Ending) (w' : World) : Prop := ∃ gl c cs, e = .returned (.slice (some ⟨gl, 0, none⟩) 48 c) ∧ w'.heap[gl]? = some (.cells cs 9 (0, 0)) ∧ (∀ j, j < 48 → ∃ s : ByteArray, cs[j]? = some (.string s) ∧ s.size ≤ 1000) ∧ Below w.heap.size w w'
def Le16 (xs : List ByteArray) : Prop := ∀ s ∈ xs, s.size ≤ 1000
set_option maxHeartbeats 4000000 in
set_option maxRecDepth 100000 in
theorem leaves_c (w : World) (bu cu base N : Nat) (vr vm : Value) (raw : Nat → ByteArray) (msk : Nat → Int) (k : ImgS w base vr vm N raw msk) (hN : 37 ≤ N) (hraw : ∀ a, 27 ≤ a → a < 37 → (raw a).size = 512)
    (hu : w.heap[bu]? = some (.cells (dumbC 37 fun _ => true) 4 (0, 0))) :
    Calls Tryz.prog 71 #[.agg lay48, .slice (some ⟨bu, 0, none⟩) 37 cu, .agg #[vr, vm]] w (LeafP w) := by
  have hu37 := Tryz.underlying37
  have hu26 := Tryz.underlying26
  obtain ⟨Ar, cr, er⟩ := own_sliceN k.raws
  subst er
  obtain ⟨Am, cm, em⟩ := own_sliceN k.msks
  subst em
  have hb1 := below_alloc (Below.refl w.heap.size w) (.cells lay48 26 (0, 0))
  have hb2 := below_alloc hb1 (.cells #[.slice Ar N cr, .slice Am N cm] 37 (0, 0))
  have HB0 := Aside0.mk hb2
  have h3 := blk_alloc (heap_alloc_new w (.cells lay48 26 (0, 0))) (.cells #[.slice Ar N cr, .slice Am N cm] 37 (0, 0))
  have h5 := heap_alloc_new (w.alloc (.cells lay48 26 (0, 0))) (.cells #[.slice Ar N cr, .slice Am N cm] 37 (0, 0))
  rw [alloc_sz] at h5
  have H35 := Aside0.mk (And.intro h3 h5)
  have HK := Aside0.mk k
  have HC := Aside0.mk (And.intro hN hraw)
  have HU := Aside0.mk hu
  clear hb1 hb2 h3 h5 k hN hraw hu
  unfold lay48 at HB0 H35 ⊢
  go_enter Tryz.func71, Tryz.ntmps71
  go_wp2_with fail
  obtain ⟨B, hB⟩ : ∃ B, B = w.heap.size := ⟨_, rfl⟩
  have HBB := Aside0.mk hB
  rw [← hB] at H35 ⊢
  clear hB
  generalize (w.alloc (.cells #[.int .i64 48, .int .i64 2, .int .i64 3, .int .i64 27, .int .i64 28, .int .i64 29, .int .i64 6, .int .i64 35, .int .i64 1, .int .i64 36, .int .i64 37, .int .i64 48, .int .i64 49, .int .i64 1, .int .i64 50, .int .i64 98] 26 (0, 0))).alloc (.cells #[.slice Ar N cr, .slice Am N cm] 37 (0, 0)) = w1 at HB0 H35 ⊢
  go_loopw [7, 14] (fun x i wq => ∃ (j : Nat) (xs : List ByteArray), j ≤ 48 ∧ i = .int .i64 j ∧ Aside0 (Below w.heap.size w wq) ∧ Aside0 (wq.heap[B]? = some (.cells #[.int .i64 48, .int .i64 2, .int .i64 3, .int .i64 27, .int .i64 28, .int .i64 29, .int .i64 6, .int .i64 35, .int .i64 1, .int .i64 36, .int .i64 37, .int .i64 48, .int .i64 49, .int .i64 1, .int .i64 50, .int .i64 98] 26 (0, 0)) ∧ wq.heap[B + 1]? = some (.cells #[.slice Ar N cr, .slice Am N cm] 37 (0, 0))) ∧ Aside0 (xs.length = j ∧ Le16 xs) ∧ Aside0 (wq.ownsRow B 9 1 x j (strV xs))) (fun _ i _ => 48 - (intOf i).toNat)
  case atStart => exact ⟨0, [], by decide, rfl, HB0, H35, ⟨rfl, by intro s hs; cases hs⟩, ⟨World.ownsRow_nil _ _ _ _⟩⟩
  case round =>
    clear HB0 H35
    obtain ⟨j, xs, hj, rfl, HB, H35, HX, HR⟩ := hrel
    obtain ⟨A1, c1, ev⟩ := own_sliceN HR.out
    subst ev
    by_cases hlt : j < 48
    · have HJ := Aside0.mk hlt
      have HJ2 := Aside0.mk (show j ≤ 100000 by omega)
      have w4_ : wrap64 ((j : Int) + 1) = (j : Int) + 1 := w64 (by omega) (by omega)
      have e0 : decide ((j : Int) < 48) = true := decide_eq_true (by omega)
      clear hlt hj
      go_wp2_with fail
      refine (btag_c wr).mono ?_
      rintro e w2 ⟨rfl, hb⟩
      have HW2 := Aside0.mk hb
      have y3 : w2.cell? ⟨B, 3, none⟩ = some (.int .i64 27) := (blk_cell (blk_below H35.out.1 hb) 3).trans rfl
      have y0 : w2.cell? ⟨B + 1, 0, none⟩ = some (.slice Ar N cr) := (blk_cell (blk_below H35.out.2 hb) 0).trans rfl
      have y1 : w2.cell? ⟨B + 1, 1, none⟩ = some (.slice Am N cm) := (blk_cell (blk_below H35.out.2 hb) 1).trans rfl
      clear hb
      by_cases h27 : 27 ≤ j ∧ j < 37
      · have d1 : decide (27 ≤ (j : Int)) = true := decide_eq_true (by omega)
        have d2 : decide ((j : Int) < 37) = true := decide_eq_true (by omega)
        have d1' : decide (27 ≤ j) = true := decide_eq_true (by omega)
        have d2' : decide (j < 37) = true := decide_eq_true (by omega)
        have q1 : ((j : Int) < 37) = True := eq_true (by omega)
        have q2 : (j < 37) = True := eq_true (by omega)
        have xu : w2.cell? ⟨bu, j, none⟩ = some (.bool true) := cells_bel HW2.out (cells_bel HB.out ((blk_cell HU.out j).trans (dumbC_at 37 _ j h27.2)))
        have H27 := Aside0.mk h27
        clear h27
        go_wp2_with fail
        refine (at_c w2 base N _ _ raw msk ((HK.out.below HB.out).below HW2.out) j (by have := HC.out.1; have := H27.out.2; omega) (HC.out.2 j H27.out.1 H27.out.2)).mono ?_
        rintro e w3 ⟨rfl, hb⟩
        have HW3 := Aside0.mk (below_then HW2.out HW2.out.size hb)
        have hz := HC.out.2 j H27.out.1 H27.out.2
        generalize raw j = rj at hz ⊢
        clear hb
        go_wp2_with fail
        refine (tag_c w3 rj hz).mono ?_
        rintro e w4 ⟨rfl, rfl⟩
        have HSZ : Aside0 ((rj.extract 496 512).size ≤ 1000) := ⟨by rw [ByteArray.size_extract, hz]; omega⟩
        generalize rj.extract 496 512 = s at HSZ ⊢
        clear hz
        have HR4 := Aside0.mk (pw_own_below HR.out HW3.out)
        have HLE := Aside0.mk (show B ≤ w4.heap.size by rw [HBB.out]; exact Nat.le_trans HB.out.size HW3.out.size)
        go_wp2_with (at_builtin; go_loud (refine wpList_app1 rfl (.tmp 42) (.tmp 44) 34 rfl B 9 (.string ⟨#[]⟩) 16 Tryz.underlying34 infoStr3 rfl (by decide) w4 (.slice A1 j c1) (.string s) j _ rfl rfl HR4.out rfl HJ2.out HLE.out ?_); intro v1 w5 ho hg; have HQ := Aside0.mk ho; have HG := Aside0.mk hg; obtain ⟨A2, c2, e2⟩ := own_sliceN ho; subst e2; clear ho hg)
        -- ROUND
        have hW := below_alloc (Below.refl w4.heap.size w4) (.cells #[.string s] 9 (0, 0))
        have ho0 := pw_own_below HR4.out hW
        have HB5 : Aside0 (Below w.heap.size w w5) := ⟨(below_then (below_then HB.out HB.out.size HW3.out) (Nat.le_trans HB.out.size HW3.out.size) hW).trans (below_own ho0 HG.out (Nat.le_of_eq HBB.out.symm) (Nat.le_trans (Nat.le_of_eq HBB.out.symm) (Nat.le_trans HLE.out hW.size)))⟩
        have H355 : Aside0 (w5.heap[B]? = _ ∧ w5.heap[B + 1]? = _) := ⟨blk_grown (blk_below (blk_below H35.out.1 HW3.out) hW) HG.out (own_ne2 ho0 (blk_below (blk_below H35.out.1 HW3.out) hW) (by decide)), blk_grown (blk_below (blk_below H35.out.2 HW3.out) hW) HG.out (own_ne2 ho0 (blk_below (blk_below H35.out.2 HW3.out) hW) (by decide))⟩
        clear hW ho0 HG
        go_roundw
        case rel => exact ⟨j + 1, xs ++ [s], HJ.out, by rw [w4_]; rfl, HB5, H355, ⟨by rw [List.length_append, HX.out.1]; rfl, by
          intro q hq
          rw [List.mem_append, List.mem_singleton] at hq
          rcases hq with hq | rfl
          · exact HX.out.2 q hq
          · exact HSZ.out⟩, ⟨by unfold strV; rw [List.map_append]; exact HQ.out⟩⟩
        case measure =>
          have := HJ.out
          rw [w4_]
          simp only [intOf]
          omega
      · have H27 := Aside0.mk h27
        have HSZ : Aside0 (z16.size ≤ 1000) := ⟨by rw [z16_size]; decide⟩
        generalize z16 = s at HSZ ⊢
        have HR4 := Aside0.mk (pw_own_below HR.out HW2.out)
        have HLE := Aside0.mk (show B ≤ w2.heap.size by rw [HBB.out]; exact Nat.le_trans HB.out.size HW2.out.size)
        by_cases h28 : 27 ≤ j
        · have d1 : decide (27 ≤ (j : Int)) = true := decide_eq_true (by omega)
          have d2 : decide ((j : Int) < 37) = false := decide_eq_false (by omega)
          have d1' : decide (27 ≤ j) = true := decide_eq_true (by omega)
          have d2' : decide (j < 37) = false := decide_eq_false (by omega)
          clear h27 h28
          go_wp2_with (at_builtin; go_loud (refine wpList_app1 rfl (.tmp 42) (.tmp 44) 34 rfl B 9 (.string ⟨#[]⟩) 16 Tryz.underlying34 infoStr3 rfl (by decide) w2 (.slice A1 j c1) (.string s) j _ rfl rfl HR4.out rfl HJ2.out HLE.out ?_); intro v1 w5 ho hg; have HQ := Aside0.mk ho; have HG := Aside0.mk hg; obtain ⟨A2, c2, e2⟩ := own_sliceN ho; subst e2; clear ho hg)
          have hW := below_alloc (Below.refl w2.heap.size w2) (.cells #[.string s] 9 (0, 0))
          have ho0 := pw_own_below HR4.out hW
          have HB5 : Aside0 (Below w.heap.size w w5) := ⟨(below_then (below_then HB.out HB.out.size HW2.out) (Nat.le_trans HB.out.size HW2.out.size) hW).trans (below_own ho0 HG.out (Nat.le_of_eq HBB.out.symm) (Nat.le_trans (Nat.le_of_eq HBB.out.symm) (Nat.le_trans HLE.out hW.size)))⟩
          have H355 : Aside0 (w5.heap[B]? = _ ∧ w5.heap[B + 1]? = _) := ⟨blk_grown (blk_below (blk_below H35.out.1 HW2.out) hW) HG.out (own_ne2 ho0 (blk_below (blk_below H35.out.1 HW2.out) hW) (by decide)), blk_grown (blk_below (blk_below H35.out.2 HW2.out) hW) HG.out (own_ne2 ho0 (blk_below (blk_below H35.out.2 HW2.out) hW) (by decide))⟩
          clear hW ho0 HG
          go_roundw
          case rel => exact ⟨j + 1, xs ++ [s], HJ.out, by rw [w4_]; rfl, HB5, H355, ⟨by rw [List.length_append, HX.out.1]; rfl, by
            intro q hq
            rw [List.mem_append, List.mem_singleton] at hq
            rcases hq with hq | rfl
            · exact HX.out.2 q hq
            · exact HSZ.out⟩, ⟨by unfold strV; rw [List.map_append]; exact HQ.out⟩⟩
          case measure =>
            have := HJ.out
            rw [w4_]
            simp only [intOf]
            omega
        · have d1 : decide (27 ≤ (j : Int)) = false := decide_eq_false (by omega)
          have d1' : decide (27 ≤ j) = false := decide_eq_false (by omega)
          clear h27 h28
          go_wp2_with (at_builtin; go_loud (refine wpList_app1 rfl (.tmp 42) (.tmp 44) 34 rfl B 9 (.string ⟨#[]⟩) 16 Tryz.underlying34 infoStr3 rfl (by decide) w2 (.slice A1 j c1) (.string s) j _ rfl rfl HR4.out rfl HJ2.out HLE.out ?_); intro v1 w5 ho hg; have HQ := Aside0.mk ho; have HG := Aside0.mk hg; obtain ⟨A2, c2, e2⟩ := own_sliceN ho; subst e2; clear ho hg)
          have hW := below_alloc (Below.refl w2.heap.size w2) (.cells #[.string s] 9 (0, 0))
          have ho0 := pw_own_below HR4.out hW
          have HB5 : Aside0 (Below w.heap.size w w5) := ⟨(below_then (below_then HB.out HB.out.size HW2.out) (Nat.le_trans HB.out.size HW2.out.size) hW).trans (below_own ho0 HG.out (Nat.le_of_eq HBB.out.symm) (Nat.le_trans (Nat.le_of_eq HBB.out.symm) (Nat.le_trans HLE.out hW.size)))⟩
          have H355 : Aside0 (w5.heap[B]? = _ ∧ w5.heap[B + 1]? = _) := ⟨blk_grown (blk_below (blk_below H35.out.1 HW2.out) hW) HG.out (own_ne2 ho0 (blk_below (blk_below H35.out.1 HW2.out) hW) (by decide)), blk_grown (blk_below (blk_below H35.out.2 HW2.out) hW) HG.out (own_ne2 ho0 (blk_below (blk_below H35.out.2 HW2.out) hW) (by decide))⟩
          clear hW ho0 HG
          go_roundw
          case rel => exact ⟨j + 1, xs ++ [s], HJ.out, by rw [w4_]; rfl, HB5, H355, ⟨by rw [List.length_append, HX.out.1]; rfl, by
            intro q hq
            rw [List.mem_append, List.mem_singleton] at hq
            rcases hq with hq | rfl
            · exact HX.out.2 q hq
            · exact HSZ.out⟩, ⟨by unfold strV; rw [List.map_append]; exact HQ.out⟩⟩
          case measure =>
            have := HJ.out
            rw [w4_]
            simp only [intOf]
            omega
    · have : j = 48 := by omega
      subst this
      have e0 : decide (((48 : Nat) : Int) < 48) = false := rfl
      clear hlt hj
      go_wp2_with fail
      go_ret
      obtain ⟨gl, rfl⟩ := own_some HR.out (by decide)
      obtain ⟨_, hr⟩ := HR.out
      rcases hr with ⟨h, _⟩ | ⟨g, cap, cur, e1, e2, e3, _, _, hs, ht⟩
      · cases h
      · injection e1 with e1 _ _
        injection e1 with e1
        injection e1 with e1
        subst e1
        refine ⟨gl, c1, cur, rfl, e3, fun q hq => ?_, HB.out⟩
        have hlen : q < xs.length := by rw [HX.out.1]; exact hq
        refine ⟨xs[q], ?_, HX.out.2 _ (List.getElem_mem hlen)⟩
        have h1 : (cur.toList.take (48 * 1))[q]? = (strV xs)[q]? := by rw [ht]
        rw [List.getElem?_take, if_pos (by omega), Array.getElem?_toList] at h1
        rw [h1]
        simp [strV, List.getElem?_eq_getElem hlen]
end Go.Proofs.YtgpknomegleidaaGreatDoor.T
namespace Go.Proofs.YtgpknomegleidaaGreatDoor.G
open Go.RowKit Go.Proofs.YtgpknomegleidaaGreatDoorW.PrintWords Go.Proofs.YtgpknomegleidaaGreatDoorW.PrintLast Go.Proofs.YtgpknomegleidaaGreatDoorW.PrintMore Go.Proofs.YtgpknomegleidaaGreatDoor.PAll
set_option linter.unusedSimpArgs false
set_option linter.unusedVariables false

def b8 (c0 c1 c2 c3 c4 c5 c6 c7 : Bool) : Nat :=
  c0.toNat + 2 * c1.toNat + 4 * c2.toNat + 8 * c3.toNat + 16 * c4.toNat + 32 * c5.toNat + 64 * c6.toNat + 128 * c7.toNat
def pick8 (c0 c1 c2 c3 c4 c5 c6 c7 : Bool) (k : Nat) : Bool :=
  match k with | 0 => c0 | 1 => c1 | 2 => c2 | 3 => c3 | 4 => c4 | 5 => c5 | 6 => c6 | _ => c7
/-- The byte whose bits are c's first eight. -/
def B8 (c : Nat → Bool) : Nat := b8 (c 0) (c 1) (c 2) (c 3) (c 4) (c 5) (c 6) (c 7)
def upd (f : Nat → Bool) (i : Nat) (u : Bool) : Nat → Bool := fun j => if j = i then u else f j
theorem upd_self (f : Nat → Bool) (i : Nat) (u : Bool) : upd f i u i = u := by simp [upd]
theorem upd_ne (f : Nat → Bool) {i j : Nat} (u : Bool) (h : j ≠ i) : upd f i u j = f j := by simp [upd, h]

theorem b8_lt : ∀ c0 c1 c2 c3 c4 c5 c6 c7, b8 c0 c1 c2 c3 c4 c5 c6 c7 < 256 := by decide +kernel
theorem b8_bit : ∀ c0 c1 c2 c3 c4 c5 c6 c7, ∀ k : Fin 8, b8 c0 c1 c2 c3 c4 c5 c6 c7 / 2 ^ k.val % 2 = (pick8 c0 c1 c2 c3 c4 c5 c6 c7 k.val).toNat := by decide +kernel
theorem b8_or : ∀ c0 c1 c2 c3 c4 c5 c6 c7, ∀ k : Fin 8, b8 c0 c1 c2 c3 c4 c5 c6 c7 ||| 2 ^ k.val =
    b8 (k.val == 0 || c0) (k.val == 1 || c1) (k.val == 2 || c2) (k.val == 3 || c3) (k.val == 4 || c4) (k.val == 5 || c5) (k.val == 6 || c6) (k.val == 7 || c7) := by decide +kernel
theorem b8_not : ∀ c0 c1 c2 c3 c4 c5 c6 c7, ∀ k : Fin 8, b8 c0 c1 c2 c3 c4 c5 c6 c7 &&& (255 - 2 ^ k.val) =
    b8 (k.val != 0 && c0) (k.val != 1 && c1) (k.val != 2 && c2) (k.val != 3 && c3) (k.val != 4 && c4) (k.val != 5 && c5) (k.val != 6 && c6) (k.val != 7 && c7) := by decide +kernel
theorem b8_add : ∀ c0 c1 c2 c3 c4 c5 c6 c7, ∀ k : Fin 8, pick8 c0 c1 c2 c3 c4 c5 c6 c7 k.val = false → b8 c0 c1 c2 c3 c4 c5 c6 c7 + 2 ^ k.val =
    b8 (k.val == 0 || c0) (k.val == 1 || c1) (k.val == 2 || c2) (k.val == 3 || c3) (k.val == 4 || c4) (k.val == 5 || c5) (k.val == 6 || c6) (k.val == 7 || c7) := by decide +kernel
theorem b8_full : ∀ c0 c1 c2 c3 c4 c5 c6 c7, b8 c0 c1 c2 c3 c4 c5 c6 c7 = 255 → (c0 && c1 && c2 && c3 && c4 && c5 && c6 && c7) = true := by decide +kernel
theorem b8_of : ∀ x : Fin 256, x.val = b8 (x.val / 1 % 2 == 1) (x.val / 2 % 2 == 1) (x.val / 4 % 2 == 1) (x.val / 8 % 2 == 1) (x.val / 16 % 2 == 1) (x.val / 32 % 2 == 1) (x.val / 64 % 2 == 1) (x.val / 128 % 2 == 1) := by decide +kernel

theorem pick8_fn (c : Nat → Bool) (k : Nat) (hk : k < 8) : pick8 (c 0) (c 1) (c 2) (c 3) (c 4) (c 5) (c 6) (c 7) k = c k := by
  match k, hk with
  | 0, _ => rfl
  | 1, _ => rfl
  | 2, _ => rfl
  | 3, _ => rfl
  | 4, _ => rfl
  | 5, _ => rfl
  | 6, _ => rfl
  | 7, _ => rfl
theorem B8_lt (c : Nat → Bool) : B8 c < 256 := b8_lt ..
theorem B8_bit (c : Nat → Bool) (k : Nat) (hk : k < 8) : B8 c / 2 ^ k % 2 = (c k).toNat := by
  have := b8_bit (c 0) (c 1) (c 2) (c 3) (c 4) (c 5) (c 6) (c 7) ⟨k, hk⟩
  rw [pick8_fn c k hk] at this
  exact this
theorem upd_or (c : Nat → Bool) (k j : Nat) : upd c k true j = (k == j || c j) := by
  unfold upd
  by_cases h : j = k
  · simp [h]
  · have : ¬ k = j := fun e => h e.symm
    simp [h, this]
theorem upd_and (c : Nat → Bool) (k j : Nat) : upd c k false j = (k != j && c j) := by
  unfold upd
  by_cases h : j = k
  · simp [h]
  · have : ¬ k = j := fun e => h e.symm
    simp [h, this]
theorem B8_or (c : Nat → Bool) (k : Nat) (hk : k < 8) : B8 c ||| 2 ^ k = B8 (upd c k true) := by
  have := b8_or (c 0) (c 1) (c 2) (c 3) (c 4) (c 5) (c 6) (c 7) ⟨k, hk⟩
  unfold B8
  simp only [upd_or]
  exact this
theorem B8_not (c : Nat → Bool) (k : Nat) (hk : k < 8) : B8 c &&& (255 - 2 ^ k) = B8 (upd c k false) := by
  have := b8_not (c 0) (c 1) (c 2) (c 3) (c 4) (c 5) (c 6) (c 7) ⟨k, hk⟩
  unfold B8
  simp only [upd_and]
  exact this
theorem B8_add (c : Nat → Bool) (k : Nat) (hk : k < 8) (h0 : c k = false) : B8 c + 2 ^ k = B8 (upd c k true) := by
  have := b8_add (c 0) (c 1) (c 2) (c 3) (c 4) (c 5) (c 6) (c 7) ⟨k, hk⟩ (by rw [pick8_fn c k hk]; exact h0)
  unfold B8
  simp only [upd_or]
  exact this
theorem B8_full (c : Nat → Bool) (h : B8 c = 255) (k : Nat) (hk : k < 8) : c k = true := by
  have := b8_full _ _ _ _ _ _ _ _ h
  simp only [Bool.and_eq_true] at this
  obtain ⟨⟨⟨⟨⟨⟨⟨h0, h1⟩, h2⟩, h3⟩, h4⟩, h5⟩, h6⟩, h7⟩ := this
  match k, hk with
  | 0, _ => exact h0
  | 1, _ => exact h1
  | 2, _ => exact h2
  | 3, _ => exact h3
  | 4, _ => exact h4
  | 5, _ => exact h5
  | 6, _ => exact h6
  | 7, _ => exact h7
theorem B8_of (x : Nat) (h : x < 256) : x = B8 (fun k => x / 2 ^ k % 2 == 1) := b8_of ⟨x, h⟩
theorem B8_congr {c d : Nat → Bool} (h : ∀ k, k < 8 → c k = d k) : B8 c = B8 d := by
  unfold B8
  rw [h 0 (by omega), h 1 (by omega), h 2 (by omega), h 3 (by omega), h 4 (by omega), h 5 (by omega), h 6 (by omega), h 7 (by omega)]

/-- The body whose bits are f's first 3584. -/
def byts (f : Nat → Bool) : List Int := (List.range 448).map fun j => ((B8 fun k => f (8 * j + k) : Nat) : Int)
theorem byts_length (f : Nat → Bool) : (byts f).length = 448 := by simp [byts]
theorem rd_byts (f : Nat → Bool) (i : Int) (h0 : 0 ≤ i) (h1 : i < 448) : rd (byts f) i = ((B8 fun k => f (8 * i.toNat + k) : Nat) : Int) := by
  have : i.toNat < 448 := by omega
  simp [rd, byts, List.getD_eq_getElem?_getD, this]
theorem byts_congr {f g : Nat → Bool} (h : ∀ i, i < 3584 → f i = g i) : byts f = byts g := by
  unfold byts
  apply List.map_congr_left
  intro j hj
  have := List.mem_range.1 hj
  rw [B8_congr (fun k hk => h (8 * j + k) (by omega))]
theorem byts_set (f : Nat → Bool) (i : Nat) (u : Bool) (hi : i < 3584) :
    (byts f).set (i / 8) ((B8 (upd (fun k => f (8 * (i / 8) + k)) (i % 8) u) : Nat) : Int) = byts (upd f i u) := by
  apply List.ext_getElem?
  intro j
  by_cases hj : j < 448
  · by_cases he : i / 8 = j
    · subst he
      rw [List.getElem?_set_self (by rw [byts_length]; exact hj)]
      simp only [byts, List.getElem?_map, List.getElem?_range hj, Option.map_some]
      congr 3
      funext k
      unfold upd
      by_cases h2 : k = i % 8
      · rw [if_pos h2, if_pos (by omega)]
      · rw [if_neg h2, if_neg (by omega)]
    · rw [List.getElem?_set_ne he]
      simp only [byts, List.getElem?_map, List.getElem?_range hj, Option.map_some]
      congr 2
      refine B8_congr fun k hk => ?_
      rw [upd_ne f u (by omega)]
  · rw [List.getElem?_eq_none (by rw [List.length_set, byts_length]; omega), List.getElem?_eq_none (by rw [byts_length]; omega)]

/-- A bit, as the walk spells it. -/
theorem and_one (c : Nat → Bool) (k : Nat) (hk : k < 8) : (Go.bits .and .u8 (((B8 c : Nat) : Int) / 2 ^ k) 1 == 1) = c k := by
  have hl := B8_lt c
  have h1 : ((B8 c : Nat) : Int) / 2 ^ k = ((B8 c / 2 ^ k : Nat) : Int) := by rw [Int.natCast_ediv]; congr 1
  have h2 : B8 c / 2 ^ k < 256 := Nat.lt_of_le_of_lt (Nat.div_le_self _ _) hl
  have h5 := B8_bit c k hk
  rw [h1]
  generalize B8 c / 2 ^ k = m at *
  have h3 : Go.bits .and .u8 (m : Int) 1 = (m : Int) % 2 := bits_mask .u8 8 (by decide) wraps_u8 1 (by decide) _ (by omega) (by omega)
  rw [h3]
  have h4 : (m : Int) % 2 = ((m % 2 : Nat) : Int) := by omega
  rw [h4, h5]
  cases c k <;> rfl
theorem or_bit (c : Nat → Bool) (k : Nat) (hk : k < 8) : Go.bits .or .u8 ((B8 c : Nat) : Int) (2 ^ k) = ((B8 (upd c k true) : Nat) : Int) := by
  have h : (2 : Int) ^ k = ((2 ^ k : Nat) : Int) := (Int.natCast_pow 2 k).symm
  have hp : 2 ^ k < 256 := by
    have := Nat.pow_lt_pow_right (a := 2) (by omega) (show k < 8 from hk)
    omega
  rw [h, (bits_nat .u8 8 (by decide) wraps_u8 _ _ (B8_lt c) hp).2, B8_or c k hk]
theorem andNot_all : ∀ a : Fin 256, ∀ k : Fin 8, Go.bits .andNot .u8 (a.val : Int) (2 ^ k.val) = ((a.val &&& (255 - 2 ^ k.val) : Nat) : Int) := by decide +kernel
theorem not_bit (c : Nat → Bool) (k : Nat) (hk : k < 8) : Go.bits .andNot .u8 ((B8 c : Nat) : Int) (2 ^ k) = ((B8 (upd c k false) : Nat) : Int) := by
  rw [← B8_not c k hk]
  exact andNot_all ⟨B8 c, B8_lt c⟩ ⟨k, hk⟩
theorem at_val (f : Nat → Bool) (i : Int) (h0 : 0 ≤ i) (h1 : i < 3584) : (Go.bits .and .u8 (rd (byts f) (i / 8) / 2 ^ (i % 8).toNat) 1 == 1) = f i.toNat := by
  rw [rd_byts f _ (by omega) (by omega), and_one _ _ (by omega)]
  congr 1
  omega
theorem pow_mod (i : Int) (h0 : 0 ≤ i) : (2 : Int) ^ (i % 8).toNat % 256 = 2 ^ (i % 8).toNat := by
  have h : (2 : Int) ^ (i % 8).toNat = ((2 ^ (i % 8).toNat : Nat) : Int) := (Int.natCast_pow 2 _).symm
  have hp : 2 ^ (i % 8).toNat < 256 := by
    have := Nat.pow_lt_pow_right (a := 2) (by omega) (show (i % 8).toNat < 8 by omega)
    omega
  rw [h]
  generalize 2 ^ (i % 8).toNat = m at hp
  omega
theorem set_val (f : Nat → Bool) (i : Int) (h0 : 0 ≤ i) (h1 : i < 3584) : (byts f).set (i / 8).toNat (Go.bits .or .u8 (rd (byts f) (i / 8)) (2 ^ (i % 8).toNat % 256)) = byts (upd f i.toNat true) := by
  rw [pow_mod i h0, rd_byts f _ (by omega) (by omega), or_bit _ _ (by omega)]
  have := byts_set f i.toNat true (by omega)
  rw [← this, show (i / 8).toNat = i.toNat / 8 by omega, show (i % 8).toNat = i.toNat % 8 by omega]
theorem clr_val (f : Nat → Bool) (i : Int) (h0 : 0 ≤ i) (h1 : i < 3584) : (byts f).set (i / 8).toNat (Go.bits .andNot .u8 (rd (byts f) (i / 8)) (2 ^ (i % 8).toNat % 256)) = byts (upd f i.toNat false) := by
  rw [pow_mod i h0, rd_byts f _ (by omega) (by omega), not_bit _ _ (by omega)]
  have := byts_set f i.toNat false (by omega)
  rw [← this, show (i / 8).toNat = i.toNat / 8 by omega, show (i % 8).toNat = i.toNat % 8 by omega]
end Go.Proofs.YtgpknomegleidaaGreatDoor.G
namespace Go.Proofs.YtgpknomegleidaaGreatDoor.G
open Go.RowKit Go.Proofs.YtgpknomegleidaaGreatDoorW.PrintWords Go.Proofs.YtgpknomegleidaaGreatDoorW.PrintLast Go.Proofs.YtgpknomegleidaaGreatDoorW.PrintMore Go.Proofs.YtgpknomegleidaaGreatDoor.PAll
set_option linter.unusedSimpArgs false
set_option linter.unusedVariables false
attribute [local go_sem] max2_int min2_int max_two min_two max_three min_three max_four min_four

/-- A grid of n at block g of w, its bytes bs in block b; both from base on. -/
def Gr (w : World) (base g b : Nat) (n : Int) (bs : List Int) : Prop :=
  ∃ cap, w.heap[g]? = some (.cells #[.int .i64 n, .slice (some ⟨b, 0, none⟩) 448 cap] 95 (0, 0)) ∧ base ≤ g ∧
    (Kd.int .u8).R 5 w base (fun _ => True) (.slice (some ⟨b, 0, none⟩) 448 cap) bs

section
variable {w w1 : World} {base g b : Nat} {n : Int} {bs : List Int}
theorem Gr.len (h : Gr w base g b n bs) : bs.length = 448 := by
  obtain ⟨cap, h1, h2, h3⟩ := h
  exact (Kd.R_reads' h3).1.symm
theorem Gr.ne (h : Gr w base g b n bs) : g ≠ b := by
  obtain ⟨cap, h1, h2, h3⟩ := h
  have := Kd.R_ne h3 h1 (by decide)
  intro e
  exact this (by rw [e]; rfl)
theorem Gr.grown {row : Option Nat} (h : Gr w base g b n bs) (hg : w.grownBy w1 row) (h1 : some g ≠ row) (h2 : some b ≠ row) : Gr w1 base g b n bs := by
  obtain ⟨cap, e1, e2, e3⟩ := h
  refine ⟨cap, blk_grown e1 hg h1, e2, ?_⟩
  have := Kd.R_of_own (h1 := fun _ => rfl) (ok := fun k => k = b) (Kd.own_of_R e3) (fun k hk => by simpa [Value.ownBlock] using hk.symm)
  exact Kd.R_mono (Kd.R_grown this hg (fun k hk => by rw [hk]; exact h2)) (fun _ _ => trivial)
theorem Gr.below (h : Gr w base g b n bs) (hb : Below w.heap.size w w1) : Gr w1 base g b n bs := h.grown (grown_of_below hb none) (by simp) (by simp)
theorem Gr.alloc (h : Gr w base g b n bs) (o : Obj) : Gr (w.alloc o) base g b n bs := h.below (below_alloc (Below.refl _ _) o)
theorem Gr.drewN (h : Gr w base g b n bs) (m : Nat) : Gr (w.drewN m) base g b n bs := h
theorem Gr.drew (h : Gr w base g b n bs) : Gr w.drew base g b n bs := h
theorem Gr.lower {base' : Nat} (h : Gr w base g b n bs) (hb : base' ≤ base) : Gr w base' g b n bs := by
  obtain ⟨cap, e1, e2, e3⟩ := h
  exact ⟨cap, e1, by omega, Kd.R_lower e3 hb⟩
end

set_option maxHeartbeats 400000 in
theorem size_calls (w : World) (base g b : Nat) (n : Int) (bs : List Int) (h : Gr w base g b n bs) :
    Calls Tryz.prog 35 #[.pointer (some ⟨g, 0, none⟩)] w fun e w' => e = .returned (.int .i64 n) ∧ w = w' := by
  obtain ⟨cap, e1, e2, e3⟩ := h
  have c0 : w.cell? ⟨g, 0, none⟩ = some (.int .i64 n) := (blk_cell e1 0).trans rfl
  clear e1 e3
  go_enter Tryz.func35, Tryz.ntmps35
  go_wp2
  go_ret
  exact ⟨rfl, rfl⟩

theorem size_nil (w : World) :
    Calls Tryz.prog 35 #[.pointer none] w fun e w' => e = .returned (.int .i64 0) ∧ w = w' := by
  go_enter Tryz.func35, Tryz.ntmps35
  go_wp2
  go_ret
  exact ⟨rfl, rfl⟩

def inB (n i : Int) : Bool := decide (0 ≤ i) && decide (i < n)

set_option maxHeartbeats 400000 in
theorem has_calls (w : World) (base g b : Nat) (n i : Int) (bs : List Int) (h : Gr w base g b n bs) :
    Calls Tryz.prog 52 #[.pointer (some ⟨g, 0, none⟩), .int .i64 i] w fun e w' => e = .returned (.bool (inB n i)) ∧ w = w' := by
  obtain ⟨cap, e1, e2, e3⟩ := h
  have c0 : w.cell? ⟨g, 0, none⟩ = some (.int .i64 n) := (blk_cell e1 0).trans rfl
  clear e1 e3
  unfold inB
  by_cases h1 : 0 ≤ i
  · by_cases h2 : i < n
    · go_enter Tryz.func52, Tryz.ntmps52
      go_wp2
      go_ret
      exact ⟨by simp [h1, h2], rfl⟩
    · go_enter Tryz.func52, Tryz.ntmps52
      go_wp2
      go_ret
      exact ⟨by simp [h1, h2], rfl⟩
  · go_enter Tryz.func52, Tryz.ntmps52
    go_wp2
    go_ret
    exact ⟨by simp; omega, rfl⟩

theorem has_nil (w : World) (i : Int) :
    Calls Tryz.prog 52 #[.pointer none, .int .i64 i] w fun e w' => e = .returned (.bool false) ∧ w = w' := by
  go_enter Tryz.func52, Tryz.ntmps52
  go_wp2
  go_ret
  exact ⟨rfl, rfl⟩

/-- The cells of a grid, as a walk wants them. -/
theorem Gr.cells {w : World} {base g b : Nat} {n : Int} {bs : List Int} (h : Gr w base g b n bs) : ∃ cap, w.cell? ⟨g, 0, none⟩ = some (.int .i64 n) ∧ w.cell? ⟨g, 1, none⟩ = some (.slice (some ⟨b, 0, none⟩) 448 cap) ∧
    (∀ i : Int, 0 ≤ i → i < 448 → w.cell? ⟨b, i.toNat, none⟩ = some (.int .u8 (rd bs i)) ∧ w.frozen? ⟨b, i.toNat, none⟩ = false) := by
  have hl := h.len
  obtain ⟨cap, e1, e2, e3⟩ := h
  refine ⟨cap, (blk_cell e1 0).trans rfl, (blk_cell e1 1).trans rfl, fun i h0 h1 => ?_⟩
  rw [← hl] at e3
  have := Kd.R_cell (0 : Int) e3 i h0 (by omega)
  exact this

set_option maxHeartbeats 400000 in
theorem at_calls (w : World) (base g b : Nat) (n i : Int) (f : Nat → Bool) (h : Gr w base g b n (byts f)) (h0 : 0 ≤ i) (h1 : i < 3584) :
    Calls Tryz.prog 34 #[.pointer (some ⟨g, 0, none⟩), .int .i64 i] w fun e w' => e = .returned (.bool (f i.toNat)) ∧ w = w' := by
  obtain ⟨cap, c0, c1, c2⟩ := h.cells
  obtain ⟨c3, _⟩ := c2 (i / 8) (by omega) (by omega)
  clear c2 h
  go_enter Tryz.func34, Tryz.ntmps34
  go_wp2
  go_ret
  exact ⟨congrArg (fun q => Ending.returned (.bool q)) (at_val f i h0 h1), rfl⟩

theorem Gr.put {w : World} {base g b : Nat} {n : Int} {bs : List Int} (h : Gr w base g b n bs) (i x : Int) (h0 : 0 ≤ i) (h1 : i < 448) :
    Gr (w.setCell ⟨b, i.toNat, none⟩ (.int .u8 x)) base g b n (bs.set i.toNat x) ∧ w.grownBy (w.setCell ⟨b, i.toNat, none⟩ (.int .u8 x)) (some b) := by
  have hl := h.len
  have hne := h.ne
  obtain ⟨cap, e1, e2, e3⟩ := h
  rw [← hl] at e3
  obtain ⟨r1, r2⟩ := Kd.R_put e3 i x
  rw [hl] at r1
  exact ⟨⟨cap, blk_far e1 hne _, e2, r1⟩, r2⟩

theorem grown_drew {w w1 : World} {row : Option Nat} (h : w.grownBy w1 row) : w.grownBy w1.drew row := ⟨h.os, h.tape, h.output, h.size, h.block⟩

set_option maxHeartbeats 1000000 in
theorem put_set (w : World) (base g b : Nat) (n i : Int) (f : Nat → Bool) (h : Gr w base g b n (byts f)) (h0 : 0 ≤ i) (h1 : i < n) (hn : n ≤ 3584) :
    Calls Tryz.prog 89 #[.pointer (some ⟨g, 0, none⟩), .int .i64 i, .bool true] w fun e w' => e = .returned (.int .i64 0) ∧ Gr w' base g b n (byts (upd f i.toNat true)) ∧ w.grownBy w' (some b) := by
  have hput := h.put (i / 8) (Go.bits .or .u8 (rd (byts f) (i / 8)) (2 ^ (i % 8).toNat % 256)) (by omega) (by omega)
  rw [set_val f i h0 (by omega)] at hput
  have HP := Aside0.mk hput
  clear hput
  have hhas := has_calls w base g b n i _ h
  rw [show inB n i = true by simp [inB, h0, h1]] at hhas
  have HH := Aside0.mk hhas
  clear hhas
  obtain ⟨cap, c0, c1, c2⟩ := h.cells
  obtain ⟨c3, c4⟩ := c2 (i / 8) (by omega) (by omega)
  clear c2 h
  go_enter Tryz.func89, Tryz.ntmps89
  go_wp2_with (go_at_call 52; refine HH.out.mono ?_; rintro e w' ⟨rfl, rfl⟩)
  go_region
  all_goals (go_wp2; go_ret; exact ⟨rfl, HP.out.1.drew, grown_drew HP.out.2⟩)

set_option maxHeartbeats 1000000 in
theorem put_clr (w : World) (base g b : Nat) (n i : Int) (f : Nat → Bool) (h : Gr w base g b n (byts f)) (h0 : 0 ≤ i) (h1 : i < n) (hn : n ≤ 3584) :
    Calls Tryz.prog 89 #[.pointer (some ⟨g, 0, none⟩), .int .i64 i, .bool false] w fun e w' => e = .returned (.int .i64 0) ∧ Gr w' base g b n (byts (upd f i.toNat false)) ∧ w.grownBy w' (some b) := by
  have hput := h.put (i / 8) (Go.bits .andNot .u8 (rd (byts f) (i / 8)) (2 ^ (i % 8).toNat % 256)) (by omega) (by omega)
  rw [clr_val f i h0 (by omega)] at hput
  have HP := Aside0.mk hput
  clear hput
  have hhas := has_calls w base g b n i _ h
  rw [show inB n i = true by simp [inB, h0, h1]] at hhas
  have HH := Aside0.mk hhas
  clear hhas
  obtain ⟨cap, c0, c1, c2⟩ := h.cells
  obtain ⟨c3, c4⟩ := c2 (i / 8) (by omega) (by omega)
  clear c2 h
  go_enter Tryz.func89, Tryz.ntmps89
  go_wp2_with (go_at_call 52; refine HH.out.mono ?_; rintro e w' ⟨rfl, rfl⟩)
  go_region
  all_goals (go_wp2; go_ret; exact ⟨rfl, HP.out.1.drew, grown_drew HP.out.2⟩)

theorem put_out (w : World) (base g b : Nat) (n i : Int) (u : Bool) (bs : List Int) (h : Gr w base g b n bs) (hi : inB n i = false) :
    Calls Tryz.prog 89 #[.pointer (some ⟨g, 0, none⟩), .int .i64 i, .bool u] w fun e w' => e = .returned (.int .i64 2) ∧ w = w' := by
  have hhas := has_calls w base g b n i _ h
  rw [hi] at hhas
  have HH := Aside0.mk hhas
  clear hhas h hi
  go_enter Tryz.func89, Tryz.ntmps89
  go_wp2_with (go_at_call 52; refine HH.out.mono ?_; rintro e w' ⟨rfl, rfl⟩)
  go_ret
  exact ⟨rfl, rfl⟩

theorem put_nil (w : World) (i : Int) (u : Bool) :
    Calls Tryz.prog 89 #[.pointer none, .int .i64 i, .bool u] w fun e w' => e = .returned (.int .i64 2) ∧ w = w' := by
  have HH := Aside0.mk (has_nil w i)
  go_enter Tryz.func89, Tryz.ntmps89
  go_wp2_with (go_at_call 52; refine HH.out.mono ?_; rintro e w' ⟨rfl, rfl⟩)
  go_ret
  exact ⟨rfl, rfl⟩

/-- Put, whatever the place and the word: the error; the grid behind it. -/
def putE (n i : Int) : Int := if inB n i = true then 0 else 2
def putF (n i : Int) (u : Bool) (f : Nat → Bool) : Nat → Bool := if inB n i = true then upd f i.toNat u else f
theorem put_calls (w : World) (base g b : Nat) (n i : Int) (u : Bool) (f : Nat → Bool) (h : Gr w base g b n (byts f)) (hn : n ≤ 3584) :
    Calls Tryz.prog 89 #[.pointer (some ⟨g, 0, none⟩), .int .i64 i, .bool u] w fun e w' => e = .returned (.int .i64 (putE n i)) ∧ Gr w' base g b n (byts (putF n i u f)) ∧ w.grownBy w' (some b) := by
  by_cases hi : inB n i = true
  · have h' := hi
    simp only [inB, Bool.and_eq_true, decide_eq_true_eq] at h'
    unfold putE putF
    rw [if_pos hi, if_pos hi]
    cases u with
    | true => exact put_set w base g b n i f h h'.1 h'.2 hn
    | false => exact put_clr w base g b n i f h h'.1 h'.2 hn
  · have hf : inB n i = false := by simpa using hi
    unfold putE putF
    rw [if_neg hi, if_neg hi]
    refine (put_out w base g b n i u _ h hf).mono ?_
    rintro e w' ⟨rfl, rfl⟩
    exact ⟨rfl, h, ⟨rfl, rfl, rfl, Nat.le_refl _, fun _ _ _ => rfl⟩⟩

theorem Has_in (w : World) (base g b : Nat) (n i : Int) (f : Nat → Bool) (h : Gr w base g b n (byts f)) (hn : n ≤ 3584) :
    Calls Tryz.prog 36 #[.pointer (some ⟨g, 0, none⟩), .int .i64 i] w fun e w' => e = .returned (.bool (inB n i && f i.toNat)) ∧ w = w' := by
  by_cases hi : inB n i = true
  · have h' := hi
    simp only [inB, Bool.and_eq_true, decide_eq_true_eq] at h'
    have hhas := has_calls w base g b n i _ h
    rw [hi] at hhas
    have HH := Aside0.mk hhas
    have HA := Aside0.mk (at_calls w base g b n i f h h'.1 (by omega))
    clear hhas h
    rw [hi]
    clear hi h'
    go_enter Tryz.func36, Tryz.ntmps36
    go_wp2_with (first | (go_at_call 52; refine HH.out.mono ?_; rintro e w' ⟨rfl, rfl⟩) | (go_at_call 34; refine HA.out.mono ?_; rintro e w' ⟨rfl, rfl⟩))
    go_ret
    exact ⟨by simp, rfl⟩
  · have hf : inB n i = false := by simpa using hi
    have hhas := has_calls w base g b n i _ h
    rw [hf] at hhas
    have HH := Aside0.mk hhas
    rw [hf]
    clear hhas h hi hf
    go_enter Tryz.func36, Tryz.ntmps36
    go_wp2_with (go_at_call 52; refine HH.out.mono ?_; rintro e w' ⟨rfl, rfl⟩)
    go_ret
    exact ⟨by simp, rfl⟩

theorem Has_nil (w : World) (i : Int) :
    Calls Tryz.prog 36 #[.pointer none, .int .i64 i] w fun e w' => e = .returned (.bool false) ∧ w = w' := by
  have HH := Aside0.mk (has_nil w i)
  go_enter Tryz.func36, Tryz.ntmps36
  go_wp2_with (go_at_call 52; refine HH.out.mono ?_; rintro e w' ⟨rfl, rfl⟩)
  go_ret
  exact ⟨rfl, rfl⟩
theorem body_calls (w : World) (base g b : Nat) (n : Int) (bs : List Int) (h : Gr w base g b n bs) :
    Calls Tryz.prog 90 #[.pointer (some ⟨g, 0, none⟩)] w fun e w' => e = .returned (.string (strOfNums bs)) ∧ w = w' := by
  have hr : ∃ cap, w.heap[g]? = some (.cells #[.int .i64 n, .slice (some ⟨b, 0, none⟩) 448 cap] 95 (0, 0)) ∧ (Kd.int .u8).C w (some ⟨b, 0, none⟩) 448 bs := by
    obtain ⟨cap, e1, e2, e3⟩ := h
    obtain ⟨e4, _, e5⟩ := Kd.R_reads' e3
    rw [← e4] at e5
    exact ⟨cap, e1, e5⟩
  clear h
  obtain ⟨cap, e1, e2⟩ := hr
  have c1 : w.cell? ⟨g, 1, none⟩ = some (.slice (some ⟨b, 0, none⟩) 448 cap) := (blk_cell e1 1).trans rfl
  have hs := Kd.C_string (P := Tryz.prog) (c := cap) Tryz.underlying93 Tryz.underlying5 Tryz.underlying9 e2
  clear e1 e2
  go_enter Tryz.func90, Tryz.ntmps90
  go_wp2
  go_ret
  exact ⟨rfl, rfl⟩

theorem body_nil (w : World) :
    Calls Tryz.prog 90 #[.pointer none] w fun e w' => e = .returned (.string ⟨#[]⟩) ∧ w = w' := by
  go_enter Tryz.func90, Tryz.ntmps90
  go_wp2
  go_ret
  exact ⟨rfl, rfl⟩

theorem byts_nothing : byts (fun _ => false) = List.replicate 448 0 := by decide +kernel

theorem info5 : (Tryz.prog.info? 5).map (fun i => (i.zero, i.size, i.bytes)) = some (some (.int .u8 0), 1, 1) := by kernel_rfl
theorem toNat448 : (448 : Int).toNat = 448 := rfl

set_option maxHeartbeats 1000000 in
theorem new_yes (w : World) (n : Int) (h0 : 0 ≤ n) (h1 : n ≤ 3584) :
    Calls Tryz.prog 33 #[.int .i64 n] w fun e w' => ∃ g b, e = .returned (.tuple #[.pointer (some ⟨g, 0, none⟩), .int .i64 0]) ∧ Gr w' w.heap.size g b n (byts fun _ => false) ∧ Below w.heap.size w w' := by
  go_enter Tryz.func33, Tryz.ntmps33
  go_wp2_with (first | ((with_reducible refine gate_dst (N := 11) rfl ?_); refine Kd.R_make (Kd.int .u8) w.heap.size 5 rfl (N := 11) rfl 93 _ _ rfl 448 rfl rfl Tryz.underlying93 (.int .u8 0) 1 info5 rfl (by decide) (by omega) 0 (ok := fun _ => True) (okp := fun _ => True) rfl (fun _ hk => hk) trivial (by omega) (by decide) (Below.refl _ _) (Nat.le_refl _) ?_; intro v1 w1 ho hb hg hnew; obtain ⟨g1, cap1, e1, _, _, _⟩ := Kd.R_form ho (by rw [List.length_replicate]; decide); (rw [List.length_replicate, toNat448] at e1); subst e1; have HO := Aside0.mk ho; have HB := Aside0.mk hb; clear ho hb hg hnew))
  go_ret2
  rw [toNat448, ← byts_nothing] at HO
  exact ⟨_, _, rfl, ⟨cap1, heap_alloc_new _ _, HB.out.size, Kd.R_alloc HO.out _⟩, below_alloc HB.out _⟩

theorem new_no (w : World) (n : Int) (h : n < 0 ∨ 3584 < n) :
    Calls Tryz.prog 33 #[.int .i64 n] w fun e w' => e = .returned (.tuple #[.pointer none, .int .i64 1]) ∧ w = w' := by
  rcases h with h | h
  · go_enter Tryz.func33, Tryz.ntmps33
    go_wp2
    go_ret2
    exact ⟨rfl, rfl⟩
  · have : ¬ n < 0 := by omega
    go_enter Tryz.func33, Tryz.ntmps33
    go_wp2
    go_ret2
    exact ⟨rfl, rfl⟩

/-- Bit i of a text. -/
def bitsOf (s : ByteArray) (i : Nat) : Bool := (s.data.toList.getD (i / 8) 0).toNat / 2 ^ (i % 8) % 2 == 1
theorem bytesOf_len (s : ByteArray) : (bytesOf s).length = s.size := by
  simp [bytesOf]
theorem byts_bitsOf (s : ByteArray) (h : s.size = 448) : bytesOf s = byts (bitsOf s) := by
  apply List.ext_getElem?
  intro j
  by_cases hj : j < 448
  · simp only [byts, List.getElem?_map, List.getElem?_range hj, Option.map_some, bytesOf]
    have hl : j < s.data.toList.length := by
      have : s.data.toList.length = s.size := by simp
      omega
    rw [List.getElem?_eq_getElem hl, Option.map_some]
    congr 1
    have hx := B8_of (s.data.toList[j]).toNat (s.data.toList[j]).toNat_lt
    rw [hx]
    congr 1
    refine B8_congr fun k hk => ?_
    unfold bitsOf
    rw [show (8 * j + k) / 8 = j by omega, show (8 * j + k) % 8 = k by omega]
    simp [List.getD_eq_getElem?_getD, List.getElem?_eq_getElem hl]
  · rw [List.getElem?_eq_none (by rw [bytesOf_len]; omega), List.getElem?_eq_none (by rw [byts_length]; omega)]

theorem setCells_grown {w : World} {b : Nat} {vs : List Value} {o : Nat} : w.grownBy (w.setCells b o vs) (some b) := by
  obtain ⟨h1, h2, h3, h4⟩ := setCells_same b vs o w
  exact ⟨h1, h2, h3, by omega, fun k _ hk => setCells_far vs o k (fun e => hk (by rw [e]))⟩

/-- All of a grid's bytes are written. -/
theorem Gr.fill {w : World} {base g b : Nat} {n : Int} {bs : List Int} (h : Gr w base g b n bs) (s : ByteArray) (hs : s.size = 448) :
    Gr (w.setCells b 0 (s.data.toList.map fun x => Value.int .u8 (x.toNat : Int))) base g b n (bytesOf s) := by
  have hne := h.ne
  have hl := h.len
  obtain ⟨cap, e1, e2, e3⟩ := h
  refine ⟨cap, (setCells_far _ _ _ hne).trans e1, e2, ?_⟩
  have ho := Kd.own_of_R e3
  rw [hl] at ho
  obtain ⟨p1, p2⟩ := ho
  rcases p2 with ⟨hz, _⟩ | ⟨g', cap', cur, hv, hb, hh, hnc, hcm, hcs, ht⟩
  · cases hz
  injection hv with ha hn' hc
  injection ha with ha
  injection ha with hg'
  subst hg' hc
  have hvl : (s.data.toList.map fun x => Value.int .u8 (x.toNat : Int)).length = 448 := by
    rw [List.length_map]
    have : s.data.toList.length = s.size := by simp
    omega
  obtain ⟨cur', q1, q2, q3⟩ := setCells_row (s.data.toList.map fun x => Value.int .u8 (x.toNat : Int)) 0 w cur hh (by rw [hvl]; omega)
  refine Kd.R_of_own (h1 := fun _ => rfl) (enc := Value.int .u8) ?_ (fun _ _ => trivial)
  have hbl : (bytesOf s).length = 448 := (bytesOf_len s).trans hs
  rw [hbl]
  refine ⟨by simp [encs, hbl], .inr ⟨b, cap, cur', rfl, hb, q1, hnc, hcm, by rw [q2, hcs], ?_⟩⟩
  rw [q3, List.take_zero, List.nil_append]
  have : List.take (448 * 1) ((s.data.toList.map fun x => Value.int .u8 (x.toNat : Int)) ++ cur.toList.drop (0 + (s.data.toList.map fun x => Value.int .u8 (x.toNat : Int)).length)) = s.data.toList.map fun x => Value.int .u8 (x.toNat : Int) := by
    have h448 : 448 * 1 = (s.data.toList.map fun x => Value.int .u8 (x.toNat : Int)).length := by rw [hvl]
    rw [h448, List.take_left]
  rw [this]
  simp [encs, bytesOf, Function.comp_def]

theorem Gr.bge {w : World} {base g b : Nat} {n : Int} {bs : List Int} (h : Gr w base g b n bs) : base ≤ b := by
  obtain ⟨cap, e1, e2, e3⟩ := h
  exact Kd.R_base e3 b rfl
theorem sizeOf5 : ∀ w, (Go.sizeOf 5).run Tryz.prog w = .ok 1 w := fun w => by kernel_rfl

/-- Why Of refuses; 0: it doesn't. -/
theorem of_new_bad (w : World) (s : ByteArray) (n : Int) (h : n < 0 ∨ 3584 < n) :
    Calls Tryz.prog 22 #[.string s, .int .i64 n] w fun e w' => e = .returned (.tuple #[.pointer none, .int .i64 1]) ∧ w = w' := by
  have HN := Aside0.mk (new_no w n h)
  clear h
  go_enter Tryz.func22, Tryz.ntmps22
  go_wp2_with (go_at_call 33; refine HN.out.mono ?_; rintro e w' ⟨rfl, rfl⟩)
  go_ret2
  exact ⟨rfl, rfl⟩

theorem of_size_bad (w : World) (s : ByteArray) (n : Int) (h0 : 0 ≤ n) (h1 : n ≤ 3584) (hs : s.size ≠ 448) :
    Calls Tryz.prog 22 #[.string s, .int .i64 n] w fun e w' => e = .returned (.tuple #[.pointer none, .int .i64 1]) ∧ Below w.heap.size w w' := by
  have HN := Aside0.mk (new_yes w n h0 h1)
  have hsb : ((s.size : Int) != 448) = true := by simp; omega
  clear hs
  go_enter Tryz.func22, Tryz.ntmps22
  go_wp2_with (go_at_call 33; refine HN.out.mono ?_; rintro e w1 ⟨g, b, rfl, hg, hb⟩; have HB := Aside0.mk hb; clear hg hb)
  go_ret2
  exact ⟨rfl, HB.out⟩

theorem copy_run (w : World) {ops : Array Oper} {rest : List Oper} {o : Oper} {a : Act} {Q : Exit → Act → World → Prop} (hgd : o.guard = none) (d x : Operand) (t t' : TypeId)
    (ho : o.op = .call { callee := .builtin .copy, args := #[d, x], argTypes := #[t, t'] }) (v u : Value) (hd : a.eval d = v) (hs : a.eval x = u) {v' : Value} {w' : World}
    (hr : (Builtin.copy_ #[t, t'] o.type #[v, u]).run Tryz.prog w = .ok v' w') (h : wpList Tryz.prog ops Q rest (a.put o.dst v') w') : wpList Tryz.prog ops Q (o :: rest) a w :=
  wpList_plain hgd fun K hK => by
    unfold Oper.wp execOp
    simp only [ho, resolve, invoke, builtin, Sem.run_bind, Sem.run_pure, Result.andThen_ok, List.map_toArray, List.map_cons, List.map_nil, hd, hs, hr]
    exact hK _ _ h
/-- 'copy(g.bits, s)' over a grid. -/
theorem Gr.copy {w : World} {base g b cap : Nat} {n : Int} {bs : List Int} (h : Gr w base g b n bs) (s : ByteArray) (hs : s.size = 448) :
    (Builtin.copy_ #[93, 9] 3 #[.slice (some ⟨b, 0, none⟩) 448 cap, .string s]).run Tryz.prog w = .ok (goInt s.size) (w.setCells b 0 (s.data.toList.map fun x => Value.int .u8 (x.toNat : Int))) := by
  obtain ⟨cap', c0, c1, c2⟩ := h.cells
  refine run_copy_string w 93 9 3 5 b 0 448 cap s Tryz.underlying93 sizeOf5 (by omega) (fun j hj => ?_) (fun j hj => ?_)
  · have := (c2 (j : Int) (by omega) (by omega)).1
    rw [Int.toNat_natCast] at this
    rw [Nat.zero_add, this]
    rfl
  · have := (c2 (j : Int) (by omega) (by omega)).2
    rw [Int.toNat_natCast] at this
    rw [Nat.zero_add, this]

def OfR (w : World) (s : ByteArray) (n : Int) (e : Ending) (w' : World) : Prop :=
  Below w.heap.size w w' ∧ ((∃ i, n.toNat ≤ i ∧ i < 3584 ∧ bitsOf s i = true) ∧ e = .returned (.tuple #[.pointer none, .int .i64 5]) ∨
    (∀ i, n.toNat ≤ i → i < 3584 → bitsOf s i = false) ∧ ∃ g b, e = .returned (.tuple #[.pointer (some ⟨g, 0, none⟩), .int .i64 0]) ∧ Gr w' w.heap.size g b n (byts (bitsOf s)))

set_option maxRecDepth 100000 in
set_option maxHeartbeats 4000000 in
theorem of_ok (w : World) (s : ByteArray) (n : Int) (h0 : 0 ≤ n) (h1 : n ≤ 3584) (hs : s.size = 448) :
    Calls Tryz.prog 22 #[.string s, .int .i64 n] w (OfR w s n) := by
  have HN := Aside0.mk (new_yes w n h0 h1)
  have HSZ := Aside0.mk hs
  have hsb : ((s.size : Int) != 448) = false := by simp; omega
  clear hs
  obtain ⟨m, rfl⟩ := Int.eq_ofNat_of_zero_le h0
  go_enter Tryz.func22, Tryz.ntmps22
  go_wp2_with (first | (go_at_call 33; refine HN.out.mono ?_; rintro e w1 ⟨g, b, rfl, hg, hb⟩; have HB := Aside0.mk hb; have HG := Aside0.mk hg; have hcl := hg.cells; obtain ⟨cap, c0, c1, c2⟩ := hcl; clear hg hb c2) | ((with_reducible refine gate_builtin (b := .copy) (xs := #[.tmp 24, .tmp 25]) rfl ?_); refine copy_run _ rfl (.tmp 24) (.tmp 25) 93 9 rfl (.slice (some ⟨b, 0, none⟩) 448 cap) (.string s) rfl rfl (HG.out.copy s HSZ.out) ?_; have HG2 := Aside0.mk (HG.out.fill s HSZ.out); have HW := Aside0.mk (setCells_grown (w := w1) (b := b) (o := 0) (vs := s.data.toList.map fun x => Value.int .u8 (x.toNat : Int))); generalize w1.setCells b 0 (s.data.toList.map fun x => Value.int .u8 (x.toNat : Int)) = w2 at HG2 HW ⊢; clear c0 c1))
  have HBe := Aside0.mk (HB.out.grown HW.out HB.out.size (fun k hk => by injection hk with hk; rw [← hk]; exact HG.out.bge))
  have hg2 := HG2.out
  rw [byts_bitsOf s HSZ.out] at hg2
  have HG3 := Aside0.mk hg2
  clear hg2 HG2
  go_loop [8] (fun i => ∃ k : Nat, m ≤ k ∧ k ≤ 3584 ∧ i = .int .i64 k ∧ Aside0 (∀ j, m ≤ j → j < k → bitsOf s j = false)) (fun i => 3584 - (intOf i).toNat)
  case atStart => exact ⟨m, Nat.le_refl _, by omega, rfl, ⟨fun j hj hjk => by omega⟩⟩
  case round =>
    obtain ⟨k, hmk, hk, rfl, HN2⟩ := hrel
    by_cases hlt : k < 3584
    · have hat := at_calls w2 _ g b m (k : Int) _ HG3.out (by omega) (by omega)
      rw [Int.toNat_natCast] at hat
      cases hf : bitsOf s k with
      | true =>
        rw [hf] at hat
        have HA := Aside0.mk hat
        have HF := Aside0.mk hf
        clear hat hf
        go_wp2_with (go_at_call 34; refine HA.out.mono ?_; rintro e w' ⟨rfl, rfl⟩)
        go_ret2
        unfold OfR
        exact ⟨HBe.out, .inl ⟨⟨k, by omega, hlt, HF.out⟩, rfl⟩⟩
      | false =>
        rw [hf] at hat
        have HA := Aside0.mk hat
        have HF := Aside0.mk hf
        clear hat hf
        go_wp2_with (go_at_call 34; refine HA.out.mono ?_; rintro e w' ⟨rfl, rfl⟩)
        go_round
        case rel => exact ⟨k + 1, by omega, by omega, by go_num, ⟨fun j hj hjk => by
          by_cases hjk' : j = k
          · rw [hjk']; exact HF.out
          · exact HN2.out j hj (by omega)⟩⟩
        case measure => simp [intOf]; omega
    · have hk2 : k = 3584 := by omega
      subst hk2
      go_wp2
      go_ret2
      unfold OfR
      exact ⟨HBe.out, .inr ⟨fun j hj hjk => HN2.out j (by omega) hjk, g, b, rfl, HG3.out⟩⟩
end Go.Proofs.YtgpknomegleidaaGreatDoor.G
