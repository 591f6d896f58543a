/- The document's Part.node: the walk. Printed by wip/tools/gen_pnode.py. -/
import Derived.Test.YtkhblpmjmkhiiaaGreatDoorQH14
import Derived.Test.YtkhblpmjmkhiiaaGreatDoorQK6
import Derived.Test.YtkhblpmjmkhiiaaGreatDoorQH2
namespace Go.Proofs.YtkhblpmjmkhiiaaGreatDoor.T
open Go.RowKit Go.Proofs.YtkhblpmjmkhiiaaGreatDoorW.PrintWords Go.Proofs.YtkhblpmjmkhiiaaGreatDoorW.PrintLast Go.Proofs.YtkhblpmjmkhiiaaGreatDoorW.PrintMore Go.Proofs.YtkhblpmjmkhiiaaGreatDoor.PAll
set_option linter.unusedSimpArgs false
set_option linter.unusedVariables false
structure NB (w0 w W : World) (g g4 g5 : Nat) (s : ByteArray) (a E : Int) (p : ByteArray) (x kd : Int) (d : ByteArray) : Prop where
 is : IsS67 w0 W g s a E
 bl : Below w0.heap.size w0 W
 kp : KeepBut w W g none
 r4 : W.heap[g4]? = some (.cells #[.string (⟨#[]⟩ : ByteArray), .int .i64 0, .int .i64 0, .int .i64 0, .int .i64 0, .int .i64 0, .string (⟨#[]⟩ : ByteArray)] 38 (0, 0))
 r5 : W.heap[g5]? = some (.cells #[.string p, .int .i64 x, .int .i64 0, .int .i64 kd, .int .i64 0, .int .i64 0, .string d] 38 (0, 0))
 l4 : w.heap.size ≤ g4
 l5 : g4 < g5
 gl : g < w.heap.size
 wl : w0.heap.size ≤ w.heap.size
section
variable {w0 w W W' : World} {g g4 g5 : Nat} {s : ByteArray} {a E : Int} {p : ByteArray} {x kd : Int} {d : ByteArray}
theorem NB.cells (h : NB w0 w W g g4 g5 s a E p x kd d) : W.cell? ⟨g5, 0, none⟩ = some (.string p) ∧ W.cell? ⟨g5, 1, none⟩ = some (.int .i64 x) ∧ W.cell? ⟨g5, 2, none⟩ = some (.int .i64 0) ∧ W.cell? ⟨g5, 3, none⟩ = some (.int .i64 kd) ∧ W.cell? ⟨g5, 4, none⟩ = some (.int .i64 0) ∧ W.cell? ⟨g5, 5, none⟩ = some (.int .i64 0) ∧ W.cell? ⟨g5, 6, none⟩ = some (.string d) ∧ W.frozen? ⟨g5, 0, none⟩ = false ∧ W.frozen? ⟨g5, 1, none⟩ = false ∧ W.frozen? ⟨g5, 6, none⟩ = false ∧ W.cell? ⟨g, 2, none⟩ = some (.int .i64 E) :=
 ⟨(blk_cell h.r5 0).trans rfl, (blk_cell h.r5 1).trans rfl, (blk_cell h.r5 2).trans rfl, (blk_cell h.r5 3).trans rfl, (blk_cell h.r5 4).trans rfl, (blk_cell h.r5 5).trans rfl, (blk_cell h.r5 6).trans rfl, blk_frozen h.r5 0, blk_frozen h.r5 1, blk_frozen h.r5 6, cellS67_2 h.is.1⟩
theorem NB.call {s' : ByteArray} {a' E' : Int} (h : NB w0 w W g g4 g5 s a E p x kd d) (hi : IsS67 w0 W' g s' a' E') (hb : Below w0.heap.size w0 W') (hk : KeepBut W W' g none) : NB w0 w W' g g4 g5 s' a' E' p x kd d :=
 ⟨hi, hb, h.kp.trans hk (.inl rfl), hk.blk h.r4 (by have := h.gl; have := h.l4; omega) Z23, hk.blk h.r5 (by have := h.gl; have := h.l4; have := h.l5; omega) Z23, h.l4, h.l5, h.gl, h.wl⟩
theorem NB.put {cs : Array Value} {i : Nat} {v : Value} {p' d' : ByteArray} {x' : Int} (h : NB w0 w W g g4 g5 s a E p x kd d) (hs : W'.heap[g5]? = some (.cells cs 38 (0, 0))) (hW : W' = W.setCell ⟨g5, i, none⟩ v) (hc : cs = #[.string p', .int .i64 x', .int .i64 0, .int .i64 kd, .int .i64 0, .int .i64 0, .string d']) : NB w0 w W' g g4 g5 s a E p' x' kd d' := by
 subst hW hc
 have hg5 : w.heap.size ≤ g5 := by have := h.l4; have := h.l5; omega
 exact ⟨h.is.far (by have := h.gl; show g ≠ g5; omega) v, h.bl.setCell (by have := h.wl; show w0.heap.size ≤ g5; omega) v,
  ⟨by simpa [World.setCell] using h.kp.1, fun i hi hg hr => (Below.heap_setCell W ⟨g5, _, none⟩ v i (by show i ≠ g5; omega)).trans (h.kp.2 i hi hg hr)⟩,
  blk_far h.r4 (by have := h.l5; show g4 ≠ g5; omega) v, hs, h.l4, h.l5, h.gl, h.wl⟩
theorem NB.put0 (h : NB w0 w W g g4 g5 s a E p x kd d) (p' : ByteArray) : NB w0 w (W.setCell ⟨g5, 0, none⟩ (.string p')) g g4 g5 s a E p' x kd d := h.put (blk_set h.r5 0 (.string p')) rfl rfl
theorem NB.put1 (h : NB w0 w W g g4 g5 s a E p x kd d) (x' : Int) : NB w0 w (W.setCell ⟨g5, 1, none⟩ (.int .i64 x')) g g4 g5 s a E p x' kd d := h.put (blk_set h.r5 1 (.int .i64 x')) rfl rfl
theorem NB.put6 (h : NB w0 w W g g4 g5 s a E p x kd d) (d' : ByteArray) : NB w0 w (W.setCell ⟨g5, 6, none⟩ (.string d')) g g4 g5 s a E p x kd d' := h.put (blk_set h.r5 6 (.string d')) rfl rfl
end
theorem grown_new' {w0 W W' : World} {b : Nat} (h : Below w0.heap.size w0 W) (hS : W.grownBy W' (some b)) (hb : w0.heap.size ≤ b) : Below w0.heap.size w0 W' :=
 ⟨hS.os.trans h.os, hS.tape.trans h.tape, hS.output.trans h.output, Nat.le_trans h.size hS.size, fun i hi => (hS.block i (Nat.lt_of_lt_of_le hi h.size) (fun e => by injection e with e; omega)).trans (h.block i hi)⟩
theorem NB.store {w0 w W W' : World} {g g4 g5 : Nat} {s : ByteArray} {a E : Int} {p p' : ByteArray} {x kd x' kd' : Int} {d d' : ByteArray} (h : NB w0 w W g g4 g5 s a E p x kd d) (hS : W.grownBy W' (some g5)) (hs : W'.heap[g5]? = some (.cells #[.string p', .int .i64 x', .int .i64 0, .int .i64 kd', .int .i64 0, .int .i64 0, .string d'] 38 (0, 0))) : NB w0 w W' g g4 g5 s a E p' x' kd' d' :=
 ⟨h.is.grown hS (fun e => by injection e with e; have := h.gl; have := h.l4; have := h.l5; omega), grown_new' h.bl hS (Nat.le_trans h.wl (Nat.le_trans h.l4 (Nat.le_of_lt h.l5))),
  ⟨Nat.le_trans h.kp.1 hS.size, fun i hi hg hr => (hS.block i (Nat.lt_of_lt_of_le hi h.kp.1) (fun e => by injection e with e; have := h.l4; have := h.l5; omega)).trans (h.kp.2 i hi hg hr)⟩,
  blk_grown h.r4 hS (fun e => by injection e with e; have := h.l5; omega), hs, h.l4, h.l5, h.gl, h.wl⟩
theorem NB.done {w0 w W W' : World} {g g4 g5 : Nat} {s : ByteArray} {a E : Int} {p : ByteArray} {x kd : Int} {d : ByteArray} (h : NB w0 w W g g4 g5 s a E p x kd d) (hS : W.grownBy W' (some g4)) : IsS67 w0 W' g s a E ∧ Below w0.heap.size w0 W' ∧ KeepBut w W' g none :=
 ⟨h.is.grown hS (fun e => by injection e with e; have := h.gl; have := h.l4; omega), grown_new' h.bl hS (Nat.le_trans h.wl h.l4),
  Nat.le_trans h.kp.1 hS.size, fun i hi hg hr => (hS.block i (Nat.lt_of_lt_of_le hi h.kp.1) (fun e => by injection e with e; have := h.l4; omega)).trans (h.kp.2 i hi hg hr)⟩
theorem ask_zero {s s' : ByteArray} {a a' : Int} {c : Prop} [Decidable c] (h : r8_Part_ask.f s a 0 (decide c) = some (s', a', 0)) : c :=
 Decidable.byContradiction fun q => by
  rw [decide_eq_false q, pask_no] at h
  injection h with h
  injection h with h1 h
  injection h with h1 h
  cases h
theorem ask_five {s s' : ByteArray} {a a' E' : Int} (h : r8_Part_ask.f s a 0 false = some (s', a', E')) : E' ≠ 0 := by
 rw [pask_no] at h
 injection h with h
 injection h with h1 h
 injection h with h1 h
 omega
theorem ask_good {s s' : ByteArray} {a a' E' : Int} (h : r8_Part_ask.f s a 0 true = some (s', a', E')) : E' = 0 := by
 rw [pask_yes] at h
 injection h with h
 injection h with h1 h
 injection h with h1 h
 omega
set_option maxHeartbeats 4000000 in
set_option maxRecDepth 100000 in
theorem pnode_c (k g : Nat) (s : ByteArray) (a E : Int) (A : Option Addr) (c : Nat) (l : List S38) (n : S38) (st : PS) (w0 w : World) (hI : IsS67 w0 w g s a E) (hB : Below w0.heap.size w0 w)
  (hr : ∀ W_, KeepBut w W_ g none → Kd.C k38 W_ A l.length l) (hc : l.length ≤ c) (hll : l.length < 4294967296) (h : nodeF k s a E l = some (n, st)) :
  Calls Tryz.prog 38 #[.pointer (some ⟨g, 0, none⟩), .slice A l.length c] w fun e w' => e = .returned (nodeV n) ∧ IsS67 w0 w' g st.1 st.2.1 st.2.2 ∧ Below w0.heap.size w0 w' ∧ KeepBut w w' g none := by
 have hu46 := Tryz.underlying38
 have hu44 := Tryz.underlying36
 have HR := Aside0.mk hr
 have HC := Aside0.mk hc
 have HI := Aside0.mk hI
 have HB := Aside0.mk hB
 have HGL := Aside0.mk hI.lt
 have HWL := Aside0.mk hB.size
 rw [nodeF_tail] at h
 obtain ⟨⟨kd, s1, a1, E1⟩, e1, h⟩ := Option.bind_eq_some_iff.mp h
 obtain ⟨⟨m, s2, a2, E2⟩, e2, h⟩ := Option.bind_eq_some_iff.mp h
 obtain ⟨⟨p, s3, a3, E3⟩, e3, h⟩ := Option.bind_eq_some_iff.mp h
 have G1 := Aside0.mk e1
 have G2 := Aside0.mk e2
 have G3 := Aside0.mk e3
 have HT := Aside0.mk h
 obtain ⟨y, hy⟩ : ∃ y : Int, y = (l.length : Int) + 1 := ⟨_, rfl⟩
 have HY := Aside0.mk hy
 have hw0 : IntKind.i64.wrap ((l.length : Int) + 1) = y := by rw [i64_w, w64 Z3 Z3]; omega
 clear hr hc hI hB h e1 e2 e3 hy
 go_enter Tryz.func38, Tryz.ntmps38
 go_wp2_with ((with_reducible refine gate_dst (N := 4) rfl ?_); refine box_event ?hg (N := 4) ?hd (cs := #[.string (⟨#[]⟩ : ByteArray), .int .i64 0, .int .i64 0, .int .i64 0, .int .i64 0, .int .i64 0, .string (⟨#[]⟩ : ByteArray)]) (t := 38) ?hr ?_; (case hd => rfl); (case hg => rfl); (case hr => first | (go_simp; done) | (go_simp; rfl)); intro g4 hg w1 hbox hb; have HX := Aside0.mk hbox; have HI1 := Aside0.mk (IsS67.below HI.out hb); have HK1 := Aside0.mk (KeepBut.of_below hb g none); have HB1 := Aside0.mk (below_step HB.out hb); have L4 := Aside0.mk (Nat.le_of_eq hg.symm : w.heap.size ≤ g4); clear hg hbox hb)
 refine (r8_Part_get.calls k g _ _ _ 1 _ _ _ _ w0 _ HI1.out HB1.out G1.out).mono ?_
 rintro e w2 ⟨rfl, hi, hb, hk⟩
 have HI2 := Aside0.mk hi
 have HB2 := Aside0.mk hb
 have HK2 := Aside0.mk (HK1.out.trans hk (.inl rfl))
 have HX2 := Aside0.mk (hk.blk HX.out (by have := HGL.out; have := L4.out; omega) Z23)
 clear hi hb hk HI HB HI1 HB1 HK1 HX
 go_wp2_with (first | ((with_reducible refine gate_dst (N := 5) rfl ?_); refine box_event ?hg (N := 5) ?hd (cs := #[.string (⟨#[]⟩ : ByteArray), .int .i64 0, .int .i64 0, .int .i64 0, .int .i64 0, .int .i64 0, .string (⟨#[]⟩ : ByteArray)]) (t := 38) ?hr ?_; (case hd => rfl); (case hg => rfl); (case hr => first | (go_simp; done) | (go_simp; rfl)); intro g5 hg w3 hbox hb; have H := Aside0.mk (NB.mk (HI2.out.below hb) (below_step HB2.out hb) (HK2.out.trans (KeepBut.of_below hb g none) (.inl rfl)) (blk_below HX2.out hb) hbox L4.out (by rw [hg]; exact blk_lt HX2.out) HGL.out HWL.out); clear hg hbox hb HI2 HB2 HK2 HX2) | ((with_reducible refine gate_store (t := 38) rfl ?_); refine store_node' rfl rfl _ _ rfl g5 _ (⟨(⟨#[]⟩ : ByteArray), ⟨y, 0, kd, 0, 0⟩, (⟨#[]⟩ : ByteArray)⟩ : S38) H.out.r5 rfl rfl rfl ?_; intro w4 hS1 hS2; have H_ := Aside0.mk (H.out.store hS2 hS1); clear H hS1 hS2; have H := H_; clear H_))
 refine (r8_Part_get.calls k g _ _ _ 1 _ _ _ _ w0 _ (H.out).is (H.out).bl G2.out).mono ?_
 rintro e w5 ⟨rfl, hi, hb, hk⟩
 have H_ := Aside0.mk ((H.out).call hi hb hk); clear H hi hb hk; have H := H_; clear H_
 go_wp2_with fail
 refine (r8_Part_text.calls g _ _ _ _ _ _ _ _ w0 _ (H.out).is (H.out).bl G3.out).mono ?_
 rintro e w6 ⟨rfl, hi, hb, hk⟩
 have H_ := Aside0.mk ((H.out).call hi hb hk); clear H hi hb hk; have H := H_; clear H_
 unfold tailF at HT
 clear G1 G2 G3
 by_cases k3 : kd = 3
 ·
  subst k3
  have h := HT.out
  clear HT
  rw [if_pos rfl] at h
  obtain ⟨⟨d, s5, a5, E5⟩, e45, h⟩ := Option.bind_eq_some_iff.mp h
  obtain ⟨⟨m4, s4, a4, E4⟩, e4, e5⟩ := Option.bind_eq_some_iff.mp e45
  rw [if_neg Z11, Option.bind_some] at h
  have G4 := Aside0.mk e4
  have G5 := Aside0.mk e5
  clear e4 e5 e45
  obtain ⟨⟨s9, a9, E9⟩, e9, h⟩ := Option.bind_eq_some_iff.mp h
  replace e9 : r8_Part_ask.f _ _ _ (decide (1 ≤ (3 : Int) ∧ (3 : Int) ≤ 3)) = some (s9, a9, E9) := e9
  rw [show decide (1 ≤ (3 : Int) ∧ (3 : Int) ≤ 3) = true from by decide] at e9
  have HA := Aside0.mk e9
  injection h with h
  injection h with h1 h2
  subst h1 h2
  clear e9
  obtain ⟨c0, c1, c2, c3, c4, c5, c6, f0, f1, f6, cE⟩ := H.out.cells
  go_wp2_with fail
  try clear c0 c1 c2 c3 c4 c5 c6 f0 f1 f6 cE
  refine (r8_Part_get.calls k g _ _ _ 1 _ _ _ _ w0 _ (H.out.put0 p).is (H.out.put0 p).bl G4.out).mono ?_
  rintro e w7 ⟨rfl, hi, hb, hk⟩
  have H_ := Aside0.mk ((H.out.put0 p).call hi hb hk); clear H hi hb hk; have H := H_; clear H_
  go_wp2_with fail
  refine (r8_Part_text.calls g _ _ _ _ _ _ _ _ w0 _ (H.out).is (H.out).bl G5.out).mono ?_
  rintro e w8 ⟨rfl, hi, hb, hk⟩
  have H_ := Aside0.mk ((H.out).call hi hb hk); clear H hi hb hk; have H := H_; clear H_
  obtain ⟨c0, c1, c2, c3, c4, c5, c6, f0, f1, f6, cE⟩ := H.out.cells
  go_wp2_with fail
  try clear c0 c1 c2 c3 c4 c5 c6 f0 f1 f6 cE
  refine (r8_Part_ask.calls g _ _ _ _ _ _ _ w0 _ (H.out.put6 d).is (H.out.put6 d).bl HA.out).mono ?_
  rintro e w9 ⟨rfl, hi, hb, hk⟩
  have H_ := Aside0.mk ((H.out.put6 d).call hi hb hk); clear H hi hb hk; have H := H_; clear H_
  obtain ⟨c0, c1, c2, c3, c4, c5, c6, f0, f1, f6, cE⟩ := H.out.cells
  go_wp2_with ((with_reducible refine gate_store (t := 38) rfl ?_); refine store_node' rfl rfl _ _ rfl g4 _ (⟨p, ⟨y, 0, 3, 0, 0⟩, d⟩ : S38) H.out.r4 rfl rfl rfl ?_; intro w7 hS1 hS2; have d0 := (blk_cell hS1 0).trans (show _ = some _ from rfl); have d1 := (blk_cell hS1 1).trans (show _ = some _ from rfl); have d2 := (blk_cell hS1 2).trans (show _ = some _ from rfl); have d3 := (blk_cell hS1 3).trans (show _ = some _ from rfl); have d4 := (blk_cell hS1 4).trans (show _ = some _ from rfl); have d5 := (blk_cell hS1 5).trans (show _ = some _ from rfl); have d6 := (blk_cell hS1 6).trans (show _ = some _ from rfl); have HE := Aside0.mk (H.out.done hS2); clear hS1 hS2 H c0 c1 c2 c3 c4 c5 c6 f0 f1 f6 cE)
  (try simp only [Exit.inBlock, Exit.then])
  refine bodyPost_ret (v := nodeV (⟨p, ⟨y, 0, 3, 0, 0⟩, d⟩ : S38)) Z26 rfl ?_
  exact ⟨Z48, HE.out⟩
 have h := HT.out
 clear HT
 rw [if_neg k3, Option.bind_some] at h
 have z3 : (kd == 3) = false := beq_eq_false_iff_ne.mpr k3
 by_cases k1 : kd = 1
 ·
  subst k1
  clear z3 k3
  rw [if_pos rfl] at h
  obtain ⟨⟨x8, d8, s8, a8, E8⟩, e78, h⟩ := Option.bind_eq_some_iff.mp h
  obtain ⟨⟨q, s7, a7, E7⟩, e7, e8⟩ := Option.bind_eq_some_iff.mp e78
  have G7 := Aside0.mk e7
  clear e7 e78
  obtain ⟨⟨s9, a9, E9⟩, e9, h⟩ := Option.bind_eq_some_iff.mp h
  replace e9 : r8_Part_ask.f _ _ _ (decide (1 ≤ (1 : Int) ∧ (1 : Int) ≤ 3)) = some (s9, a9, E9) := e9
  rw [show decide (1 ≤ (1 : Int) ∧ (1 : Int) ≤ 3) = true from by decide] at e9
  have HA := Aside0.mk e9
  injection h with h
  injection h with h1 h2
  subst h1 h2
  clear e9
  have H8 := Aside0.mk e8
  clear e8
  obtain ⟨c0, c1, c2, c3, c4, c5, c6, f0, f1, f6, cE⟩ := H.out.cells
  go_wp2_with fail
  try clear c0 c1 c2 c3 c4 c5 c6 f0 f1 f6 cE
  refine (r8_Part_get.calls k g _ _ _ 4 _ _ _ _ w0 _ (H.out.put0 p).is (H.out.put0 p).bl G7.out).mono ?_
  rintro e w8 ⟨rfl, hi, hb, hk⟩
  have H_ := Aside0.mk ((H.out.put0 p).call hi hb hk); clear H hi hb hk; have H := H_; clear H_
  have e8 := H8.out
  clear H8 G7
  unfold nodeK at e8
  by_cases zE : E7 = 0
  rotate_left
  ·
   rw [if_neg zE] at e8
   injection e8 with e8
   injection e8 with q1 e8
   injection e8 with q2 e8
   injection e8 with q3 e8
   injection e8 with q4 q5
   subst q1 q2 q3 q4 q5
   have gE : (E7 == 0) = false := beq_eq_false_iff_ne.mpr zE
   clear zE
   obtain ⟨c0, c1, c2, c3, c4, c5, c6, f0, f1, f6, cE⟩ := H.out.cells
   go_wp2_with fail
   try clear c0 c1 c2 c3 c4 c5 c6 f0 f1 f6 cE
   refine (r8_Part_ask.calls g _ _ _ _ _ _ _ w0 _ (H.out).is (H.out).bl HA.out).mono ?_
   rintro e w9 ⟨rfl, hi, hb, hk⟩
   have H_ := Aside0.mk ((H.out).call hi hb hk); clear H hi hb hk; have H := H_; clear H_
   obtain ⟨c0, c1, c2, c3, c4, c5, c6, f0, f1, f6, cE⟩ := H.out.cells
   go_wp2_with ((with_reducible refine gate_store (t := 38) rfl ?_); refine store_node' rfl rfl _ _ rfl g4 _ (⟨p, ⟨y, 0, 1, 0, 0⟩, (⟨#[]⟩ : ByteArray)⟩ : S38) H.out.r4 rfl rfl rfl ?_; intro w7 hS1 hS2; have d0 := (blk_cell hS1 0).trans (show _ = some _ from rfl); have d1 := (blk_cell hS1 1).trans (show _ = some _ from rfl); have d2 := (blk_cell hS1 2).trans (show _ = some _ from rfl); have d3 := (blk_cell hS1 3).trans (show _ = some _ from rfl); have d4 := (blk_cell hS1 4).trans (show _ = some _ from rfl); have d5 := (blk_cell hS1 5).trans (show _ = some _ from rfl); have d6 := (blk_cell hS1 6).trans (show _ = some _ from rfl); have HE := Aside0.mk (H.out.done hS2); clear hS1 hS2 H c0 c1 c2 c3 c4 c5 c6 f0 f1 f6 cE)
   (try simp only [Exit.inBlock, Exit.then])
   refine bodyPost_ret (v := nodeV (⟨p, ⟨y, 0, 1, 0, 0⟩, (⟨#[]⟩ : ByteArray)⟩ : S38)) Z26 rfl ?_
   exact ⟨Z48, HE.out⟩
  subst zE
  rw [if_pos rfl] at e8
  by_cases zq : q = 0
  ·
   subst zq
   rw [if_pos rfl] at e8
   obtain ⟨⟨df, s6, a6, E6⟩, e6, e8⟩ := Option.bind_eq_some_iff.mp e8
   injection e8 with e8
   injection e8 with q1 e8
   injection e8 with q2 e8
   injection e8 with q3 e8
   injection e8 with q4 q5
   subst q1 q2 q3 q4 q5
   have G6 := Aside0.mk e6
   clear e6
   obtain ⟨c0, c1, c2, c3, c4, c5, c6, f0, f1, f6, cE⟩ := H.out.cells
   go_wp2_with fail
   try clear c0 c1 c2 c3 c4 c5 c6 f0 f1 f6 cE
   refine (r8_Part_file.calls k g _ _ _ _ _ _ _ w0 _ (H.out).is (H.out).bl G6.out).mono ?_
   rintro e w9 ⟨rfl, hi, hb, hk⟩
   have H_ := Aside0.mk ((H.out).call hi hb hk); clear H hi hb hk; have H := H_; clear H_
   obtain ⟨c0, c1, c2, c3, c4, c5, c6, f0, f1, f6, cE⟩ := H.out.cells
   go_wp2_with fail
   try clear c0 c1 c2 c3 c4 c5 c6 f0 f1 f6 cE
   refine (r8_Part_ask.calls g _ _ _ _ _ _ _ w0 _ (H.out.put6 df).is (H.out.put6 df).bl HA.out).mono ?_
   rintro e w10 ⟨rfl, hi, hb, hk⟩
   have H_ := Aside0.mk ((H.out.put6 df).call hi hb hk); clear H hi hb hk; have H := H_; clear H_
   obtain ⟨c0, c1, c2, c3, c4, c5, c6, f0, f1, f6, cE⟩ := H.out.cells
   go_wp2_with ((with_reducible refine gate_store (t := 38) rfl ?_); refine store_node' rfl rfl _ _ rfl g4 _ (⟨p, ⟨y, 0, 1, 0, 0⟩, df⟩ : S38) H.out.r4 rfl rfl rfl ?_; intro w7 hS1 hS2; have d0 := (blk_cell hS1 0).trans (show _ = some _ from rfl); have d1 := (blk_cell hS1 1).trans (show _ = some _ from rfl); have d2 := (blk_cell hS1 2).trans (show _ = some _ from rfl); have d3 := (blk_cell hS1 3).trans (show _ = some _ from rfl); have d4 := (blk_cell hS1 4).trans (show _ = some _ from rfl); have d5 := (blk_cell hS1 5).trans (show _ = some _ from rfl); have d6 := (blk_cell hS1 6).trans (show _ = some _ from rfl); have HE := Aside0.mk (H.out.done hS2); clear hS1 hS2 H c0 c1 c2 c3 c4 c5 c6 f0 f1 f6 cE)
   (try simp only [Exit.inBlock, Exit.then])
   refine bodyPost_ret (v := nodeV (⟨p, ⟨y, 0, 1, 0, 0⟩, df⟩ : S38)) Z26 rfl ?_
   exact ⟨Z48, HE.out⟩
  rw [if_neg zq] at e8
  by_cases zp : 0 < q
  rotate_left
  ·
   rw [if_neg zp] at e8
   cases e8
  rw [if_pos zp] at e8
  obtain ⟨⟨s10, a10, E10⟩, e10, e8⟩ := Option.bind_eq_some_iff.mp e8
  have G10 := Aside0.mk e10
  have H8 := Aside0.mk e8
  clear e8 e10
  have gq : (q == 0) = false := beq_eq_false_iff_ne.mpr zq
  have gQ : (q != 0) = true := bne_iff_ne.mpr zq
  obtain ⟨c0, c1, c2, c3, c4, c5, c6, f0, f1, f6, cE⟩ := H.out.cells
  go_wp2_with fail
  try clear c0 c1 c2 c3 c4 c5 c6 f0 f1 f6 cE
  refine (r8_Part_ask.calls g _ _ _ _ _ _ _ w0 _ (H.out).is (H.out).bl G10.out).mono ?_
  rintro e w9 ⟨rfl, hi, hb, hk⟩
  have H_ := Aside0.mk ((H.out).call hi hb hk); clear H hi hb hk; have H := H_; clear H_
  have e8 := H8.out
  clear H8
  by_cases zE : E10 = 0
  rotate_left
  ·
   rw [if_neg zE] at e8
   injection e8 with e8
   injection e8 with q1 e8
   injection e8 with q2 e8
   injection e8 with q3 e8
   injection e8 with q4 q5
   subst q1 q2 q3 q4 q5
   have gE : (E10 == 0) = false := beq_eq_false_iff_ne.mpr zE
   clear zE G10
   obtain ⟨c0, c1, c2, c3, c4, c5, c6, f0, f1, f6, cE⟩ := H.out.cells
   go_wp2_with fail
   try clear c0 c1 c2 c3 c4 c5 c6 f0 f1 f6 cE
   refine (r8_Part_ask.calls g _ _ _ _ _ _ _ w0 _ (H.out).is (H.out).bl HA.out).mono ?_
   rintro e w10 ⟨rfl, hi, hb, hk⟩
   have H_ := Aside0.mk ((H.out).call hi hb hk); clear H hi hb hk; have H := H_; clear H_
   obtain ⟨c0, c1, c2, c3, c4, c5, c6, f0, f1, f6, cE⟩ := H.out.cells
   go_wp2_with ((with_reducible refine gate_store (t := 38) rfl ?_); refine store_node' rfl rfl _ _ rfl g4 _ (⟨p, ⟨y, 0, 1, 0, 0⟩, (⟨#[]⟩ : ByteArray)⟩ : S38) H.out.r4 rfl rfl rfl ?_; intro w7 hS1 hS2; have d0 := (blk_cell hS1 0).trans (show _ = some _ from rfl); have d1 := (blk_cell hS1 1).trans (show _ = some _ from rfl); have d2 := (blk_cell hS1 2).trans (show _ = some _ from rfl); have d3 := (blk_cell hS1 3).trans (show _ = some _ from rfl); have d4 := (blk_cell hS1 4).trans (show _ = some _ from rfl); have d5 := (blk_cell hS1 5).trans (show _ = some _ from rfl); have d6 := (blk_cell hS1 6).trans (show _ = some _ from rfl); have HE := Aside0.mk (H.out.done hS2); clear hS1 hS2 H c0 c1 c2 c3 c4 c5 c6 f0 f1 f6 cE)
   (try simp only [Exit.inBlock, Exit.then])
   refine bodyPost_ret (v := nodeV (⟨p, ⟨y, 0, 1, 0, 0⟩, (⟨#[]⟩ : ByteArray)⟩ : S38)) Z26 rfl ?_
   exact ⟨Z48, HE.out⟩
  subst zE
  rw [if_pos rfl] at e8
  obtain ⟨⟨s11, a11, E11⟩, e11, e8⟩ := Option.bind_eq_some_iff.mp e8
  have hql : q ≤ (l.length : Int) := ask_zero G10.out
  obtain ⟨j, hj⟩ : ∃ j : Nat, j = q.toNat - 1 := ⟨_, rfl⟩
  rw [← hj] at e11 e8
  have hw1 : IntKind.i64.wrap (q - 1) = (j : Int) := by rw [i64_w, w64 Z3 Z3]; omega
  have p1 : (0 ≤ (j : Int)) = True := eq_true Z3
  have q1 : ((j : Int) < (l.length : Int)) = True := eq_true Z3
  have HQ := Aside0.mk (And.intro hj (And.intro zp hql))
  have HRW := HR.out _ H.out.kp
  obtain ⟨ad, ea, x0, x1, x2, x3, x4, x5, x6⟩ := at_T38 HRW (j : Int) Z3 Z3
  subst ea
  simp only [Int.toNat_natCast] at x0 x1 x2 x3 x4 x5 x6
  clear HRW hj zp hql G10 zq
  replace e11 : r8_Part_ask.f _ _ _ (decide ((rdn l j).f1.f2 = 1 ∧ (rdn l j).f1.f0 = q)) = some (s11, a11, E11) := e11
  have H8 := Aside0.mk e8
  clear e8
  have HZ := Aside0.mk e11
  have h11 := e11
  clear e11
  by_cases h1 : (rdn l j).f1.f2 = 1
  rotate_left
  ·
   rw [decide_eq_false (fun u => h1 u.1)] at h11
   have gB : ((rdn l j).f1.f2 == 1) = false := beq_eq_false_iff_ne.mpr h1
   clear h1
   have G11 := Aside0.mk h11
   clear h11 HZ
   obtain ⟨c0, c1, c2, c3, c4, c5, c6, f0, f1, f6, cE⟩ := H.out.cells
   go_wp2_with fail
   try clear c0 c1 c2 c3 c4 c5 c6 f0 f1 f6 cE
   clear x0 x1 x2 x3 x4 x5 x6
   refine (r8_Part_ask.calls g _ _ _ _ _ _ _ w0 _ (H.out).is (H.out).bl G11.out).mono ?_
   rintro e w10 ⟨rfl, hi, hb, hk⟩
   have H_ := Aside0.mk ((H.out).call hi hb hk); clear H hi hb hk; have H := H_; clear H_
   have zE := ask_five G11.out
   have e8 := H8.out
   clear H8 G11
   rw [if_neg (show ¬ ((s11, a11, E11) : PS).2.2 = 0 from zE)] at e8
   injection e8 with e8
   injection e8 with q1 e8
   injection e8 with q2 e8
   injection e8 with q3 e8
   injection e8 with q4 q5
   subst q1 q2 q3 q4 q5
   have gE : (E11 == 0) = false := beq_eq_false_iff_ne.mpr zE
   clear zE
   obtain ⟨c0, c1, c2, c3, c4, c5, c6, f0, f1, f6, cE⟩ := H.out.cells
   go_wp2_with fail
   try clear c0 c1 c2 c3 c4 c5 c6 f0 f1 f6 cE
   refine (r8_Part_ask.calls g _ _ _ _ _ _ _ w0 _ (H.out).is (H.out).bl HA.out).mono ?_
   rintro e w11 ⟨rfl, hi, hb, hk⟩
   have H_ := Aside0.mk ((H.out).call hi hb hk); clear H hi hb hk; have H := H_; clear H_
   obtain ⟨c0, c1, c2, c3, c4, c5, c6, f0, f1, f6, cE⟩ := H.out.cells
   go_wp2_with ((with_reducible refine gate_store (t := 38) rfl ?_); refine store_node' rfl rfl _ _ rfl g4 _ (⟨p, ⟨y, 0, 1, 0, 0⟩, (⟨#[]⟩ : ByteArray)⟩ : S38) H.out.r4 rfl rfl rfl ?_; intro w7 hS1 hS2; have d0 := (blk_cell hS1 0).trans (show _ = some _ from rfl); have d1 := (blk_cell hS1 1).trans (show _ = some _ from rfl); have d2 := (blk_cell hS1 2).trans (show _ = some _ from rfl); have d3 := (blk_cell hS1 3).trans (show _ = some _ from rfl); have d4 := (blk_cell hS1 4).trans (show _ = some _ from rfl); have d5 := (blk_cell hS1 5).trans (show _ = some _ from rfl); have d6 := (blk_cell hS1 6).trans (show _ = some _ from rfl); have HE := Aside0.mk (H.out.done hS2); clear hS1 hS2 H c0 c1 c2 c3 c4 c5 c6 f0 f1 f6 cE)
   (try simp only [Exit.inBlock, Exit.then])
   refine bodyPost_ret (v := nodeV (⟨p, ⟨y, 0, 1, 0, 0⟩, (⟨#[]⟩ : ByteArray)⟩ : S38)) Z26 rfl ?_
   exact ⟨Z48, HE.out⟩
  have gB : ((rdn l j).f1.f2 == 1) = true := beq_iff_eq.mpr h1
  by_cases h2 : (rdn l j).f1.f0 = q
  rotate_left
  ·
   rw [decide_eq_false (fun u => h2 u.2)] at h11
   have gC : ((rdn l j).f1.f0 == q) = false := beq_eq_false_iff_ne.mpr h2
   clear h1 h2
   have G11 := Aside0.mk h11
   clear h11 HZ
   obtain ⟨c0, c1, c2, c3, c4, c5, c6, f0, f1, f6, cE⟩ := H.out.cells
   go_wp2_with fail
   try clear c0 c1 c2 c3 c4 c5 c6 f0 f1 f6 cE
   clear x0 x1 x2 x3 x4 x5 x6
   refine (r8_Part_ask.calls g _ _ _ _ _ _ _ w0 _ (H.out).is (H.out).bl G11.out).mono ?_
   rintro e w10 ⟨rfl, hi, hb, hk⟩
   have H_ := Aside0.mk ((H.out).call hi hb hk); clear H hi hb hk; have H := H_; clear H_
   have zE := ask_five G11.out
   have e8 := H8.out
   clear H8 G11
   rw [if_neg (show ¬ ((s11, a11, E11) : PS).2.2 = 0 from zE)] at e8
   injection e8 with e8
   injection e8 with q1 e8
   injection e8 with q2 e8
   injection e8 with q3 e8
   injection e8 with q4 q5
   subst q1 q2 q3 q4 q5
   have gE : (E11 == 0) = false := beq_eq_false_iff_ne.mpr zE
   clear zE
   obtain ⟨c0, c1, c2, c3, c4, c5, c6, f0, f1, f6, cE⟩ := H.out.cells
   go_wp2_with fail
   try clear c0 c1 c2 c3 c4 c5 c6 f0 f1 f6 cE
   refine (r8_Part_ask.calls g _ _ _ _ _ _ _ w0 _ (H.out).is (H.out).bl HA.out).mono ?_
   rintro e w11 ⟨rfl, hi, hb, hk⟩
   have H_ := Aside0.mk ((H.out).call hi hb hk); clear H hi hb hk; have H := H_; clear H_
   obtain ⟨c0, c1, c2, c3, c4, c5, c6, f0, f1, f6, cE⟩ := H.out.cells
   go_wp2_with ((with_reducible refine gate_store (t := 38) rfl ?_); refine store_node' rfl rfl _ _ rfl g4 _ (⟨p, ⟨y, 0, 1, 0, 0⟩, (⟨#[]⟩ : ByteArray)⟩ : S38) H.out.r4 rfl rfl rfl ?_; intro w7 hS1 hS2; have d0 := (blk_cell hS1 0).trans (show _ = some _ from rfl); have d1 := (blk_cell hS1 1).trans (show _ = some _ from rfl); have d2 := (blk_cell hS1 2).trans (show _ = some _ from rfl); have d3 := (blk_cell hS1 3).trans (show _ = some _ from rfl); have d4 := (blk_cell hS1 4).trans (show _ = some _ from rfl); have d5 := (blk_cell hS1 5).trans (show _ = some _ from rfl); have d6 := (blk_cell hS1 6).trans (show _ = some _ from rfl); have HE := Aside0.mk (H.out.done hS2); clear hS1 hS2 H c0 c1 c2 c3 c4 c5 c6 f0 f1 f6 cE)
   (try simp only [Exit.inBlock, Exit.then])
   refine bodyPost_ret (v := nodeV (⟨p, ⟨y, 0, 1, 0, 0⟩, (⟨#[]⟩ : ByteArray)⟩ : S38)) Z26 rfl ?_
   exact ⟨Z48, HE.out⟩
  have gC : ((rdn l j).f1.f0 == q) = true := beq_iff_eq.mpr h2
  rw [decide_eq_true (And.intro h1 h2)] at h11
  have G11 := Aside0.mk h11
  clear h11 HZ h1 h2
  obtain ⟨c0, c1, c2, c3, c4, c5, c6, f0, f1, f6, cE⟩ := H.out.cells
  go_wp2_with fail
  try clear c0 c1 c2 c3 c4 c5 c6 f0 f1 f6 cE
  clear x0 x1 x2 x3 x4 x5 x6
  refine (r8_Part_ask.calls g _ _ _ _ _ _ _ w0 _ (H.out).is (H.out).bl G11.out).mono ?_
  rintro e w10 ⟨rfl, hi, hb, hk⟩
  have H_ := Aside0.mk ((H.out).call hi hb hk); clear H hi hb hk; have H := H_; clear H_
  have zE := ask_good G11.out
  have e8 := H8.out
  clear H8 G11 gB gC
  subst zE
  rw [if_pos (show ((s11, a11, 0) : PS).2.2 = 0 from rfl)] at e8
  injection e8 with e8
  injection e8 with q1 e8
  injection e8 with q2 e8
  injection e8 with q3 e8
  injection e8 with q4 q5
  subst q1 q2 q3 q4 q5
  have H_ := Aside0.mk (H.out.put1 q)
  have HRW := HR.out _ H_.out.kp
  obtain ⟨ad_, ea, x0, x1, x2, x3, x4, x5, x6⟩ := at_T38 HRW (j : Int) (by have := HQ.out; omega) (by have := HQ.out; omega)
  injection ea with ea
  subst ea
  simp only [Int.toNat_natCast] at x0 x1 x2 x3 x4 x5 x6
  clear HRW H_
  obtain ⟨c0, c1, c2, c3, c4, c5, c6, f0, f1, f6, cE⟩ := H.out.cells
  go_wp2_with fail
  try clear c0 c1 c2 c3 c4 c5 c6 f0 f1 f6 cE
  refine (r8_Part_ask.calls g _ _ _ _ _ _ _ w0 _ ((H.out.put1 q).put6 (rdn l j).f2).is ((H.out.put1 q).put6 (rdn l j).f2).bl HA.out).mono ?_
  rintro e w11 ⟨rfl, hi, hb, hk⟩
  have H_ := Aside0.mk (((H.out.put1 q).put6 (rdn l j).f2).call hi hb hk); clear H hi hb hk; have H := H_; clear H_
  obtain ⟨c0, c1, c2, c3, c4, c5, c6, f0, f1, f6, cE⟩ := H.out.cells
  go_wp2_with ((with_reducible refine gate_store (t := 38) rfl ?_); refine store_node' rfl rfl _ _ rfl g4 _ (⟨p, ⟨q, 0, 1, 0, 0⟩, (rdn l j).f2⟩ : S38) H.out.r4 rfl rfl rfl ?_; intro w7 hS1 hS2; have d0 := (blk_cell hS1 0).trans (show _ = some _ from rfl); have d1 := (blk_cell hS1 1).trans (show _ = some _ from rfl); have d2 := (blk_cell hS1 2).trans (show _ = some _ from rfl); have d3 := (blk_cell hS1 3).trans (show _ = some _ from rfl); have d4 := (blk_cell hS1 4).trans (show _ = some _ from rfl); have d5 := (blk_cell hS1 5).trans (show _ = some _ from rfl); have d6 := (blk_cell hS1 6).trans (show _ = some _ from rfl); have HE := Aside0.mk (H.out.done hS2); clear hS1 hS2 H c0 c1 c2 c3 c4 c5 c6 f0 f1 f6 cE)
  (try simp only [Exit.inBlock, Exit.then])
  refine bodyPost_ret (v := nodeV (⟨p, ⟨q, 0, 1, 0, 0⟩, (rdn l j).f2⟩ : S38)) Z26 rfl ?_
  exact ⟨Z48, HE.out⟩
 rw [if_neg k1, Option.bind_some] at h
 have z1 : (kd == 1) = false := beq_eq_false_iff_ne.mpr k1
 by_cases k2 : kd = 2
 ·
  subst k2
  obtain ⟨⟨s9, a9, E9⟩, e9, h⟩ := Option.bind_eq_some_iff.mp h
  replace e9 : r8_Part_ask.f _ _ _ (decide (1 ≤ (2 : Int) ∧ (2 : Int) ≤ 3)) = some (s9, a9, E9) := e9
  rw [show decide (1 ≤ (2 : Int) ∧ (2 : Int) ≤ 3) = true from by decide] at e9
  have HA := Aside0.mk e9
  injection h with h
  injection h with h1 h2
  subst h1 h2
  clear e9
  obtain ⟨c0, c1, c2, c3, c4, c5, c6, f0, f1, f6, cE⟩ := H.out.cells
  go_wp2_with fail
  try clear c0 c1 c2 c3 c4 c5 c6 f0 f1 f6 cE
  refine (r8_Part_ask.calls g _ _ _ _ _ _ _ w0 _ (H.out.put0 p).is (H.out.put0 p).bl HA.out).mono ?_
  rintro e w9 ⟨rfl, hi, hb, hk⟩
  have H_ := Aside0.mk ((H.out.put0 p).call hi hb hk); clear H hi hb hk; have H := H_; clear H_
  obtain ⟨c0, c1, c2, c3, c4, c5, c6, f0, f1, f6, cE⟩ := H.out.cells
  go_wp2_with ((with_reducible refine gate_store (t := 38) rfl ?_); refine store_node' rfl rfl _ _ rfl g4 _ (⟨p, ⟨y, 0, 2, 0, 0⟩, (⟨#[]⟩ : ByteArray)⟩ : S38) H.out.r4 rfl rfl rfl ?_; intro w7 hS1 hS2; have d0 := (blk_cell hS1 0).trans (show _ = some _ from rfl); have d1 := (blk_cell hS1 1).trans (show _ = some _ from rfl); have d2 := (blk_cell hS1 2).trans (show _ = some _ from rfl); have d3 := (blk_cell hS1 3).trans (show _ = some _ from rfl); have d4 := (blk_cell hS1 4).trans (show _ = some _ from rfl); have d5 := (blk_cell hS1 5).trans (show _ = some _ from rfl); have d6 := (blk_cell hS1 6).trans (show _ = some _ from rfl); have HE := Aside0.mk (H.out.done hS2); clear hS1 hS2 H c0 c1 c2 c3 c4 c5 c6 f0 f1 f6 cE)
  (try simp only [Exit.inBlock, Exit.then])
  refine bodyPost_ret (v := nodeV (⟨p, ⟨y, 0, 2, 0, 0⟩, (⟨#[]⟩ : ByteArray)⟩ : S38)) Z26 rfl ?_
  exact ⟨Z48, HE.out⟩
 by_cases k4 : 1 ≤ kd
 ·
  have k5 : ¬ kd ≤ 3 := by omega
  have g4_ : decide (kd ≥ 1) = true := decide_eq_true k4
  have g5_ : decide (kd ≤ 3) = false := decide_eq_false k5
  obtain ⟨⟨s9, a9, E9⟩, e9, h⟩ := Option.bind_eq_some_iff.mp h
  replace e9 : r8_Part_ask.f _ _ _ (decide (1 ≤ (kd : Int) ∧ (kd : Int) ≤ 3)) = some (s9, a9, E9) := e9
  rw [show decide (1 ≤ (kd : Int) ∧ (kd : Int) ≤ 3) = false from decide_eq_false (fun u => k5 u.2)] at e9
  have HA := Aside0.mk e9
  injection h with h
  injection h with h1 h2
  subst h1 h2
  clear e9
  obtain ⟨c0, c1, c2, c3, c4, c5, c6, f0, f1, f6, cE⟩ := H.out.cells
  go_wp2_with fail
  try clear c0 c1 c2 c3 c4 c5 c6 f0 f1 f6 cE
  refine (r8_Part_ask.calls g _ _ _ _ _ _ _ w0 _ (H.out.put0 p).is (H.out.put0 p).bl HA.out).mono ?_
  rintro e w9 ⟨rfl, hi, hb, hk⟩
  have H_ := Aside0.mk ((H.out.put0 p).call hi hb hk); clear H hi hb hk; have H := H_; clear H_
  obtain ⟨c0, c1, c2, c3, c4, c5, c6, f0, f1, f6, cE⟩ := H.out.cells
  go_wp2_with ((with_reducible refine gate_store (t := 38) rfl ?_); refine store_node' rfl rfl _ _ rfl g4 _ (⟨p, ⟨y, 0, kd, 0, 0⟩, (⟨#[]⟩ : ByteArray)⟩ : S38) H.out.r4 rfl rfl rfl ?_; intro w7 hS1 hS2; have d0 := (blk_cell hS1 0).trans (show _ = some _ from rfl); have d1 := (blk_cell hS1 1).trans (show _ = some _ from rfl); have d2 := (blk_cell hS1 2).trans (show _ = some _ from rfl); have d3 := (blk_cell hS1 3).trans (show _ = some _ from rfl); have d4 := (blk_cell hS1 4).trans (show _ = some _ from rfl); have d5 := (blk_cell hS1 5).trans (show _ = some _ from rfl); have d6 := (blk_cell hS1 6).trans (show _ = some _ from rfl); have HE := Aside0.mk (H.out.done hS2); clear hS1 hS2 H c0 c1 c2 c3 c4 c5 c6 f0 f1 f6 cE)
  (try simp only [Exit.inBlock, Exit.then])
  refine bodyPost_ret (v := nodeV (⟨p, ⟨y, 0, kd, 0, 0⟩, (⟨#[]⟩ : ByteArray)⟩ : S38)) Z26 rfl ?_
  exact ⟨Z48, HE.out⟩
 have g4_ : decide (kd ≥ 1) = false := decide_eq_false k4
 obtain ⟨⟨s9, a9, E9⟩, e9, h⟩ := Option.bind_eq_some_iff.mp h
 replace e9 : r8_Part_ask.f _ _ _ (decide (1 ≤ (kd : Int) ∧ (kd : Int) ≤ 3)) = some (s9, a9, E9) := e9
 rw [show decide (1 ≤ (kd : Int) ∧ (kd : Int) ≤ 3) = false from decide_eq_false (fun u => k4 u.1)] at e9
 have HA := Aside0.mk e9
 injection h with h
 injection h with h1 h2
 subst h1 h2
 clear e9
 obtain ⟨c0, c1, c2, c3, c4, c5, c6, f0, f1, f6, cE⟩ := H.out.cells
 go_wp2_with fail
 try clear c0 c1 c2 c3 c4 c5 c6 f0 f1 f6 cE
 refine (r8_Part_ask.calls g _ _ _ _ _ _ _ w0 _ (H.out.put0 p).is (H.out.put0 p).bl HA.out).mono ?_
 rintro e w9 ⟨rfl, hi, hb, hk⟩
 have H_ := Aside0.mk ((H.out.put0 p).call hi hb hk); clear H hi hb hk; have H := H_; clear H_
 obtain ⟨c0, c1, c2, c3, c4, c5, c6, f0, f1, f6, cE⟩ := H.out.cells
 go_wp2_with ((with_reducible refine gate_store (t := 38) rfl ?_); refine store_node' rfl rfl _ _ rfl g4 _ (⟨p, ⟨y, 0, kd, 0, 0⟩, (⟨#[]⟩ : ByteArray)⟩ : S38) H.out.r4 rfl rfl rfl ?_; intro w7 hS1 hS2; have d0 := (blk_cell hS1 0).trans (show _ = some _ from rfl); have d1 := (blk_cell hS1 1).trans (show _ = some _ from rfl); have d2 := (blk_cell hS1 2).trans (show _ = some _ from rfl); have d3 := (blk_cell hS1 3).trans (show _ = some _ from rfl); have d4 := (blk_cell hS1 4).trans (show _ = some _ from rfl); have d5 := (blk_cell hS1 5).trans (show _ = some _ from rfl); have d6 := (blk_cell hS1 6).trans (show _ = some _ from rfl); have HE := Aside0.mk (H.out.done hS2); clear hS1 hS2 H c0 c1 c2 c3 c4 c5 c6 f0 f1 f6 cE)
 (try simp only [Exit.inBlock, Exit.then])
 refine bodyPost_ret (v := nodeV (⟨p, ⟨y, 0, kd, 0, 0⟩, (⟨#[]⟩ : ByteArray)⟩ : S38)) Z26 rfl ?_
 exact ⟨Z48, HE.out⟩
end Go.Proofs.YtkhblpmjmkhiiaaGreatDoor.T
