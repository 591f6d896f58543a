/- Printed by the kit's print.py, made shorter and regrouped by wip/tools/regroup.py. -/
import Derived.Test.YtkhblpmjmkhiiaaGreatDoorQK4
namespace Go.Proofs.YtkhblpmjmkhiiaaGreatDoor.PAll
open Go.RowKit Go.Proofs.YtkhblpmjmkhiiaaGreatDoorW.PrintWords Go.Proofs.YtkhblpmjmkhiiaaGreatDoorW.PrintLast Go.Proofs.YtkhblpmjmkhiiaaGreatDoorW.PrintMore
attribute [local go_sem] max2_int min2_int max_two min_two max_three min_three max_four min_four
set_option linter.unusedVariables false
set_option linter.unusedSimpArgs false
def IsS67 (w0 W : World) (g : Nat) (f0 : ByteArray) (f1 : Int) (f2 : Int) : Prop := W.heap[g]? = some (.cells #[.string f0, .int .i64 f1, .int .i64 f2] 67 (0, 0)) ∧ w0.heap.size ≤ g
theorem IsS67.grown {w0 W : World} {g : Nat} {f0 : ByteArray} {f1 : Int} {f2 : Int} {W1 : World} {row : Option Nat} (h : IsS67 w0 W g f0 f1 f2) (hw : W.grownBy W1 row) (hne : some g ≠ row) : IsS67 w0 W1 g f0 f1 f2 := by
  obtain ⟨hb, hg⟩ := h
  exact ⟨blk_grown hb hw hne, hg⟩
theorem IsS67.fresh {w0 W : World} {g : Nat} {f0 : ByteArray} {f1 : Int} {f2 : Int} (h : IsS67 w0 W g f0 f1 f2) : ∀ k, W.heap.size ≤ k → k ≠ g := by
  obtain ⟨hb, hg⟩ := h
  exact Kd.freshB hb
theorem IsS67.kept {w0 W : World} {g : Nat} {f0 : ByteArray} {f1 : Int} {f2 : Int} {W1 : World} {S : Nat → Prop} (h : IsS67 w0 W g f0 f1 f2) (hk : Kept W W1 S) (hne : ¬ S g) : IsS67 w0 W1 g f0 f1 f2 := by
  obtain ⟨hb, hg⟩ := h
  exact ⟨blk_kept hb hk hne, hg⟩
theorem IsS67.below {w0 W : World} {g : Nat} {f0 : ByteArray} {f1 : Int} {f2 : Int} {W1 : World} (h : IsS67 w0 W g f0 f1 f2) (hw : Below W.heap.size W W1) : IsS67 w0 W1 g f0 f1 f2 := h.grown (grown_of_below hw none) Z23
theorem IsS67.alloc {w0 W : World} {g : Nat} {f0 : ByteArray} {f1 : Int} {f2 : Int} (h : IsS67 w0 W g f0 f1 f2) (o : Obj) : IsS67 w0 (W.alloc o) g f0 f1 f2 := h.below (below_alloc (Below.refl _ _) o)
theorem IsS67.drewN {w0 W : World} {g : Nat} {f0 : ByteArray} {f1 : Int} {f2 : Int} (h : IsS67 w0 W g f0 f1 f2) (m : Nat) : IsS67 w0 (W.drewN m) g f0 f1 f2 := h
theorem IsS67.drew {w0 W : World} {g : Nat} {f0 : ByteArray} {f1 : Int} {f2 : Int} (h : IsS67 w0 W g f0 f1 f2) : IsS67 w0 W.drew g f0 f1 f2 := h
theorem IsS67.at_ {w0 W : World} {g : Nat} {f0 : ByteArray} {f1 : Int} {f2 : Int} {w' : World} {m : Nat} (hq : W.drewN m = w') (h : IsS67 w0 W g f0 f1 f2) : IsS67 w0 w' g f0 f1 f2 := by subst hq; exact IsS67.drewN h m
theorem IsS67.apart {w0 W : World} {g : Nat} {f0 : ByteArray} {f1 : Int} {f2 : Int} {α : Type} {d : Kd α} {e : Nat} {base : Nat} {ok : Nat → Prop} {v : Value} {xs : List α} (h : IsS67 w0 W g f0 f1 f2) (ho : d.R e W base ok v xs) (ht : ∀ q, q ∈ e :: d.E → q ≠ 67) : d.R e W base (fun k => ok k ∧ k ≠ g) v xs := by
  obtain ⟨hb, hg⟩ := h
  exact Kd.R_types ho hb ht
theorem IsS67.own_ne {w0 W : World} {g : Nat} {f0 : ByteArray} {f1 : Int} {f2 : Int} {α : Type} {d : Kd α} {e : Nat} {base : Nat} {ok : Nat → Prop} {v : Value} {xs : List α} (h : IsS67 w0 W g f0 f1 f2) (ho : d.R e W base ok v xs) (ht : e ≠ 67) : some g ≠ v.ownBlock := by
  obtain ⟨hb, hg⟩ := h
  exact Kd.R_ne ho hb ht
theorem IsS67.lt {w0 W : World} {g : Nat} {f0 : ByteArray} {f1 : Int} {f2 : Int} (h : IsS67 w0 W g f0 f1 f2) : g < W.heap.size := by
  obtain ⟨hb, hg⟩ := h
  exact blk_lt hb
theorem IsS67.ge {w0 W : World} {g : Nat} {f0 : ByteArray} {f1 : Int} {f2 : Int} (h : IsS67 w0 W g f0 f1 f2) : w0.heap.size ≤ g := by
  obtain ⟨hb, hg⟩ := h
  exact hg
theorem IsS67.far {w0 W : World} {g : Nat} {f0 : ByteArray} {f1 : Int} {f2 : Int} {p : Addr} (h : IsS67 w0 W g f0 f1 f2) (hne : g ≠ p.block) (u : Value) : IsS67 w0 (W.setCell p u) g f0 f1 f2 := by
  obtain ⟨hb, hg⟩ := h
  exact ⟨blk_far hb hne u, hg⟩
theorem cellS67_0 {W : World} {g : Nat} {f0 : ByteArray} {f1 : Int} {f2 : Int} (h : W.heap[g]? = some (.cells #[.string f0, .int .i64 f1, .int .i64 f2] 67 (0, 0))) : W.cell? ⟨g, 0, none⟩ = some (.string f0) := (blk_cell h 0).trans rfl
theorem IsS67.set_0 {w0 W : World} {g : Nat} {f0 : ByteArray} {f1 : Int} {f2 : Int} (h : IsS67 w0 W g f0 f1 f2) (x : ByteArray) : IsS67 w0 (W.setCell ⟨g, 0, none⟩ (.string x)) g x f1 f2 := by
  obtain ⟨hb, hg⟩ := h
  exact ⟨by simpa using blk_set hb 0 (.string x), hg⟩
theorem cellS67_1 {W : World} {g : Nat} {f0 : ByteArray} {f1 : Int} {f2 : Int} (h : W.heap[g]? = some (.cells #[.string f0, .int .i64 f1, .int .i64 f2] 67 (0, 0))) : W.cell? ⟨g, 1, none⟩ = some (.int .i64 f1) := (blk_cell h 1).trans rfl
theorem IsS67.set_1 {w0 W : World} {g : Nat} {f0 : ByteArray} {f1 : Int} {f2 : Int} (h : IsS67 w0 W g f0 f1 f2) (x : Int) : IsS67 w0 (W.setCell ⟨g, 1, none⟩ (.int .i64 x)) g f0 x f2 := by
  obtain ⟨hb, hg⟩ := h
  exact ⟨by simpa using blk_set hb 1 (.int .i64 x), hg⟩
theorem cellS67_2 {W : World} {g : Nat} {f0 : ByteArray} {f1 : Int} {f2 : Int} (h : W.heap[g]? = some (.cells #[.string f0, .int .i64 f1, .int .i64 f2] 67 (0, 0))) : W.cell? ⟨g, 2, none⟩ = some (.int .i64 f2) := (blk_cell h 2).trans rfl
theorem IsS67.set_2 {w0 W : World} {g : Nat} {f0 : ByteArray} {f1 : Int} {f2 : Int} (h : IsS67 w0 W g f0 f1 f2) (x : Int) : IsS67 w0 (W.setCell ⟨g, 2, none⟩ (.int .i64 x)) g f0 f1 x := by
  obtain ⟨hb, hg⟩ := h
  exact ⟨by simpa using blk_set hb 2 (.int .i64 x), hg⟩
theorem IsS67.new (w0 W : World) (f0 : ByteArray) (f1 : Int) (f2 : Int) (hB : Below w0.heap.size w0 W) : IsS67 w0 (W.alloc (.cells #[.string f0, .int .i64 f1, .int .i64 f2] 67)) W.heap.size f0 f1 f2 := ⟨by simpa using heap_alloc_new W _, hB.size⟩
set_option maxHeartbeats 8000000 in
set_option maxRecDepth 100000 in
theorem r8_Part_text.calls (g : Nat) (s0_0 : ByteArray) (s0_1 : Int) (s0_2 : Int) (a1 : Int) (r1 : ByteArray) (r2 : ByteArray) (r3 : Int) (r4 : Int) (w0 w : World) (hI : IsS67 w0 w g s0_0 s0_1 s0_2) (hB : Below w0.heap.size w0 w) (h : r8_Part_text.f s0_0 s0_1 s0_2 a1 = some (r1, r2, r3, r4)) :
  Calls Tryz.prog 35 #[.pointer (some ⟨g, 0, none⟩), .int .i64 a1] w fun e w' => e = .returned (.string r1) ∧ IsS67 w0 w' g r2 r3 r4 ∧ Below w0.heap.size w0 w' ∧ KeepBut w w' g none := by
 have HI0 := Aside0.mk hI
 have HK := Aside0.mk (KeepBut.refl w g none)
 have HL := Aside0.mk hB.size
 clear hI
 have HW0 := Aside0.mk hB.size
 have HB := Aside0.mk hB
 clear hB
 have H : (if s0_2 = 0 then (if a1 > (wrap64 ((s0_0.size : Int) - s0_1)) then (some ((⟨#[]⟩ : ByteArray), s0_0, s0_1, 3)) else (if 0 ≤ (wrap64 ((wrap64 (s0_1 + a1)) - a1)) then (if (wrap64 ((wrap64 (s0_1 + a1)) - a1)) ≤ (wrap64 (s0_1 + a1)) then (if (wrap64 (s0_1 + a1)) ≤ (s0_0.size : Int) then (some (s0_0.extract ((wrap64 ((wrap64 (s0_1 + a1)) - a1)) : Int).toNat ((wrap64 (s0_1 + a1)) : Int).toNat, s0_0, wrap64 (s0_1 + a1), s0_2)) else (none)) else (none)) else (none))) else (some ((⟨#[]⟩ : ByteArray), s0_0, s0_1, s0_2))) = some (r1, r2, r3, r4) := h
 clear h
 by_cases c3 : s0_2 = 0
 ·
  rw [if_pos c3] at H
  have c3b0 : (s0_2 == 0) = true := beq_iff_eq.mpr c3
  have c3b1 : (s0_2 != 0) = false := bne_eq_false_iff_eq.mpr c3
  clear c3
  by_cases c4 : a1 > (wrap64 ((s0_0.size : Int) - s0_1))
  ·
   rw [if_pos c4] at H
   have c4b0 : decide ((wrap64 ((s0_0.size : Int) - s0_1)) < a1) = true := decide_eq_true c4
   clear c4
   simp only [Option.some.injEq, Prod.mk.injEq] at H
   obtain ⟨rfl, rfl, rfl, rfl⟩ := H
   obtain ⟨HGz5, hgz5⟩ := HI0.out
   have hcz5_0 := cellS67_0 HGz5
   have hcz5_1 := cellS67_1 HGz5
   have hcz5_2 := cellS67_2 HGz5
   have hfz5_0 := blk_frozen HGz5 0
   have hfz5_1 := blk_frozen HGz5 1
   have hfz5_2 := blk_frozen HGz5 2
   clear HGz5 hgz5
   go_enter Tryz.func35, Tryz.ntmps35
   go_wp2
   repeat (go_quiet (fail); try go_wp2)
   go_ret
   exact ⟨Z12, Z6, by repeat (first | (with_reducible first | exact HB.out | apply below_alloc | apply pw_below_drewN | apply below_drew1 | refine below_set ?_ (IsS67.ge HI0.out)) | exact HB.out), Z5⟩
  ·
   rw [if_neg c4] at H
   have c4b0 : decide ((wrap64 ((s0_0.size : Int) - s0_1)) < a1) = false := decide_eq_false c4
   clear c4
   obtain ⟨ji6, hji6⟩ : ∃ j_ : Int, (wrap64 ((wrap64 (s0_1 + a1)) - a1)) = j_ := ⟨_, rfl⟩
   replace H : (if 0 ≤ (ji6) then (if (ji6) ≤ (wrap64 (s0_1 + a1)) then (if (wrap64 (s0_1 + a1)) ≤ (s0_0.size : Int) then (some (s0_0.extract ((ji6) : Int).toNat ((wrap64 (s0_1 + a1)) : Int).toNat, s0_0, wrap64 (s0_1 + a1), s0_2)) else (none)) else (none)) else (none)) = some (r1, r2, r3, r4) := by first | (rw [hji6] at H; exact H) | (simp only [hji6] at H ⊢; exact H)
   have hji6w : (IntKind.i64.wrap ((wrap64 (s0_1 + a1)) - a1)) = ji6 := (i64_w _).trans hji6
   by_cases c7 : 0 ≤ (ji6)
   ·
    rw [if_pos c7] at H
    have c7b0 := eq_true c7
    have c7b1 : decide (0 ≤ (ji6)) = true := decide_eq_true c7
    clear c7
    by_cases c8 : (ji6) ≤ (wrap64 (s0_1 + a1))
    ·
     rw [if_pos c8] at H
     have c8b0 := eq_true c8
     have c8b1 : decide ((ji6) ≤ (wrap64 (s0_1 + a1))) = true := decide_eq_true c8
     by_cases c9 : (wrap64 (s0_1 + a1)) ≤ (s0_0.size : Int)
     ·
      rw [if_pos c9] at H
      have c9b0 := eq_true c9
      have c9b1 : decide ((wrap64 (s0_1 + a1)) ≤ (s0_0.size : Int)) = true := decide_eq_true c9
      simp only [Option.some.injEq, Prod.mk.injEq] at H
      obtain ⟨rfl, rfl, rfl, rfl⟩ := H
      obtain ⟨HGz10, hgz10⟩ := HI0.out
      have hcz10_0 := cellS67_0 HGz10
      have hcz10_1 := cellS67_1 HGz10
      have hcz10_2 := cellS67_2 HGz10
      have hfz10_0 := blk_frozen HGz10 0
      have hfz10_1 := blk_frozen HGz10 1
      have hfz10_2 := blk_frozen HGz10 2
      clear HGz10 hgz10
      go_enter Tryz.func35, Tryz.ntmps35
      go_wp2
      repeat (go_quiet (fail); try go_wp2)
      go_ret
      exact ⟨by first | rfl | (simp [errW_none, errW_some] <;> rfl) | (simp only [← hji6]; first | rfl | (simp [errW_none, errW_some] <;> rfl)) | (simp [*, errW_none, errW_some] <;> rfl), Z6, by repeat (first | (with_reducible first | exact HB.out | apply below_alloc | apply pw_below_drewN | apply below_drew1 | refine below_set ?_ (IsS67.ge HI0.out)) | exact HB.out), Z5⟩
     ·
      rw [if_neg c9] at H
      exact absurd H Z23
    ·
     rw [if_neg c8] at H
     exact absurd H Z23
   ·
    rw [if_neg c7] at H
    exact absurd H Z23
 ·
  rw [if_neg c3] at H
  have c3b0 : (s0_2 == 0) = false := beq_eq_false_iff_ne.mpr c3
  have c3b1 : (s0_2 != 0) = true := bne_iff_ne.mpr c3
  simp only [Option.some.injEq, Prod.mk.injEq] at H
  obtain ⟨rfl, rfl, rfl, rfl⟩ := H
  obtain ⟨HGz11, hgz11⟩ := HI0.out
  have hcz11_0 := cellS67_0 HGz11
  have hcz11_1 := cellS67_1 HGz11
  have hcz11_2 := cellS67_2 HGz11
  have hfz11_0 := blk_frozen HGz11 0
  have hfz11_1 := blk_frozen HGz11 1
  have hfz11_2 := blk_frozen HGz11 2
  clear HGz11 hgz11
  go_enter Tryz.func35, Tryz.ntmps35
  go_wp2
  repeat (go_quiet (fail); try go_wp2)
  go_ret
  exact ⟨Z12, Z6, by repeat (first | (with_reducible first | exact HB.out | apply below_alloc | apply pw_below_drewN | apply below_drew1 | refine below_set ?_ (IsS67.ge HI0.out)) | exact HB.out), Z5⟩
set_option maxHeartbeats 8000000 in
set_option maxRecDepth 100000 in
theorem r8_Part_ask.calls (g : Nat) (s0_0 : ByteArray) (s0_1 : Int) (s0_2 : Int) (a1 : Bool) (r1 : ByteArray) (r2 : Int) (r3 : Int) (w0 w : World) (hI : IsS67 w0 w g s0_0 s0_1 s0_2) (hB : Below w0.heap.size w0 w) (h : r8_Part_ask.f s0_0 s0_1 s0_2 a1 = some (r1, r2, r3)) :
  Calls Tryz.prog 36 #[.pointer (some ⟨g, 0, none⟩), .bool a1] w fun e w' => e = .returned (.tuple #[]) ∧ IsS67 w0 w' g r1 r2 r3 ∧ Below w0.heap.size w0 w' ∧ KeepBut w w' g none := by
 have HI0 := Aside0.mk hI
 have HK := Aside0.mk (KeepBut.refl w g none)
 have HL := Aside0.mk hB.size
 clear hI
 have HW0 := Aside0.mk hB.size
 have HB := Aside0.mk hB
 clear hB
 have H : (if s0_2 = 0 then (if a1 = true then (some (s0_0, s0_1, s0_2)) else (some (s0_0, s0_1, 5))) else (some (s0_0, s0_1, s0_2))) = some (r1, r2, r3) := h
 clear h
 by_cases c3 : s0_2 = 0
 ·
  rw [if_pos c3] at H
  have c3b0 : (s0_2 == 0) = true := beq_iff_eq.mpr c3
  have c3b1 : (s0_2 != 0) = false := bne_eq_false_iff_eq.mpr c3
  clear c3
  by_cases c4 : a1 = true
  ·
   subst c4
   have H1 : (some (s0_0, s0_1, s0_2)) = some (r1, r2, r3) := by rw [if_pos rfl] at H; exact H
   clear H
   have H := H1
   clear H1
   simp only [Option.some.injEq, Prod.mk.injEq] at H
   obtain ⟨rfl, rfl, rfl⟩ := H
   obtain ⟨HGz5, hgz5⟩ := HI0.out
   have hcz5_0 := cellS67_0 HGz5
   have hcz5_1 := cellS67_1 HGz5
   have hcz5_2 := cellS67_2 HGz5
   have hfz5_0 := blk_frozen HGz5 0
   have hfz5_1 := blk_frozen HGz5 1
   have hfz5_2 := blk_frozen HGz5 2
   clear HGz5 hgz5
   go_enter Tryz.func36, Tryz.ntmps36
   go_wp2
   first | go_end0 | ((try simp only [Exit.inBlock, Exit.then]); refine bodyPost_ret (results_none rfl _ _ _) rfl ?_)
   exact ⟨Z12, Z6, by repeat (first | (with_reducible first | exact HB.out | apply below_alloc | apply pw_below_drewN | apply below_drew1 | refine below_set ?_ (IsS67.ge HI0.out)) | exact HB.out), Z5⟩
  ·
   replace c4 := Bool.eq_false_iff.mpr c4
   subst c4
   have H1 : (some (s0_0, s0_1, 5)) = some (r1, r2, r3) := by rw [if_neg (show ¬ (false = true) by decide)] at H; exact H
   clear H
   have H := H1
   clear H1
   simp only [Option.some.injEq, Prod.mk.injEq] at H
   obtain ⟨rfl, rfl, rfl⟩ := H
   obtain ⟨HGz6, hgz6⟩ := HI0.out
   have hcz6_0 := cellS67_0 HGz6
   have hcz6_1 := cellS67_1 HGz6
   have hcz6_2 := cellS67_2 HGz6
   have hfz6_0 := blk_frozen HGz6 0
   have hfz6_1 := blk_frozen HGz6 1
   have hfz6_2 := blk_frozen HGz6 2
   clear HGz6 hgz6
   go_enter Tryz.func36, Tryz.ntmps36
   go_wp2
   first | go_end0 | ((try simp only [Exit.inBlock, Exit.then]); refine bodyPost_ret (results_none rfl _ _ _) rfl ?_)
   exact ⟨Z12, Z6, by repeat (first | (with_reducible first | exact HB.out | apply below_alloc | apply pw_below_drewN | apply below_drew1 | refine below_set ?_ (IsS67.ge HI0.out)) | exact HB.out), Z5⟩
 ·
  rw [if_neg c3] at H
  have c3b0 : (s0_2 == 0) = false := beq_eq_false_iff_ne.mpr c3
  have c3b1 : (s0_2 != 0) = true := bne_iff_ne.mpr c3
  simp only [Option.some.injEq, Prod.mk.injEq] at H
  obtain ⟨rfl, rfl, rfl⟩ := H
  obtain ⟨HGz7, hgz7⟩ := HI0.out
  have hcz7_0 := cellS67_0 HGz7
  have hcz7_1 := cellS67_1 HGz7
  have hcz7_2 := cellS67_2 HGz7
  have hfz7_0 := blk_frozen HGz7 0
  have hfz7_1 := blk_frozen HGz7 1
  have hfz7_2 := blk_frozen HGz7 2
  clear HGz7 hgz7
  go_enter Tryz.func36, Tryz.ntmps36
  go_wp2
  first | go_end0 | ((try simp only [Exit.inBlock, Exit.then]); refine bodyPost_ret (results_none rfl _ _ _) rfl ?_)
  exact ⟨Z12, Z6, by repeat (first | (with_reducible first | exact HB.out | apply below_alloc | apply pw_below_drewN | apply below_drew1 | refine below_set ?_ (IsS67.ge HI0.out)) | exact HB.out), Z5⟩
set_option maxHeartbeats 8000000 in
set_option maxRecDepth 100000 in
theorem r1_Get.calls (k : Nat) (a0 : ByteArray) (a1 : Int) (a2 : Int) (r1 : Int) (r2 : Int) (w : World) (h : r1_Get.f k a0 a1 a2 = some (r1, r2)) :
  Calls Tryz.prog 65 #[.string a0, .int .i64 a1, .int .i64 a2] w fun e w' => e = .returned (.tuple #[.int .i64 r1, .int .i64 r2]) ∧ Drawn0 w w' := by
 have H : (if a2 < 1 then (r1_Get.j0 k a0 a1 a2 true) else (r1_Get.j0 k a0 a1 a2 (decide (a2 > 6)))) = some (r1, r2) := h
 clear h
 have HC4 := Aside0.mk H
 clear H
 go_enter Tryz.func65, Tryz.ntmps65
 go_upto_region 1 with (fail)
 go_cut [15] (fun v15 wc => ∃ (kq : Nat) (x15_3 : Bool), v15 = .bool x15_3 ∧ Aside0 (r1_Get.j0 kq a0 a1 a2 x15_3 = some (r1, r2)) ∧ Aside0 (kq ≤ k) ∧ Drawn0 w wc)
 case first =>
  have H := HC4.out
  clear HC4
  by_cases c5 : a2 < 1
  ·
   rw [if_pos c5] at H
   have c5b0 : decide (a2 < 1) = true := decide_eq_true c5
   clear c5
   (first | rw [c5b0] | (simp only [i64_w, i32_w]; rw [c5b0]) | skip)
   have H' := Aside0.mk H
   clear H
   go_wp2
   go_meet
   case rel => exact ⟨_, (true), Z4, H', ⟨Z40⟩, Z9⟩
  ·
   rw [if_neg c5] at H
   have c5b0 : decide (a2 < 1) = false := decide_eq_false c5
   clear c5
   (first | rw [c5b0] | (simp only [i64_w, i32_w]; rw [c5b0]) | skip)
   have H' := Aside0.mk H
   clear H
   go_wp2
   go_meet
   case rel => exact ⟨_, (decide (a2 > 6)), Z4, H', ⟨Z40⟩, Z9⟩
 case rest =>
  clear HC4; try clear p2; try clear c5; try clear c5b0
  obtain ⟨kq, x15_3, rfl, HA, HJ3, ⟨mc3, rfl⟩⟩ := hcut
  cases kq with
  | zero => exact absurd HA.out (by simp [r1_Get.j0])
  | succ kj3 =>
   have H := HA.out
   clear HA
   simp only [r1_Get.j0] at H
   by_cases c6 : x15_3 = true
   ·
    subst c6
    have H1 : (some (0, 1)) = some (r1, r2) := by rw [if_pos rfl] at H; exact H
    clear H
    have H := H1
    clear H1
    simp only [Option.some.injEq, Prod.mk.injEq] at H
    obtain ⟨rfl, rfl⟩ := H
    go_wp2
    go_ret2
    exact ⟨Z4, Z9⟩
   ·
    replace c6 := Bool.eq_false_iff.mpr c6
    subst c6
    have H1 : (if a1 < 0 then (r1_Get.j1 kj3 a0 a1 a2 true) else (if a1 > (a0.size : Int) then (r1_Get.j1 kj3 a0 a1 a2 true) else (r1_Get.j1 kj3 a0 a1 a2 (decide (a2 > (wrap64 ((a0.size : Int) - a1))))))) = some (r1, r2) := by rw [if_neg (show ¬ (false = true) by decide)] at H; exact H
    clear H
    have H := H1
    clear H1
    have HC7 := Aside0.mk H
    clear H
    go_upto_region 3 with (fail)
    go_cut [31] (fun v31 wc => ∃ (kq : Nat) (x31_6 : Bool), v31 = .bool x31_6 ∧ Aside0 (r1_Get.j1 kq a0 a1 a2 x31_6 = some (r1, r2)) ∧ Aside0 (kq ≤ kj3) ∧ Drawn0 w wc)
    case first =>
     have H := HC7.out
     clear HC7
     by_cases c8 : a1 < 0
     ·
      rw [if_pos c8] at H
      have c8b0 : decide (a1 < 0) = true := decide_eq_true c8
      clear c8
      (first | rw [c8b0] | (simp only [i64_w, i32_w]; rw [c8b0]) | skip)
      have H' := Aside0.mk H
      clear H
      go_wp2
      go_meet
      case rel => exact ⟨_, (true), Z4, H', ⟨by have := HJ3.out; first | omega | exact Nat.le_refl _⟩, Z9⟩
     ·
      rw [if_neg c8] at H
      have c8b0 : decide (a1 < 0) = false := decide_eq_false c8
      clear c8
      (first | rw [c8b0] | (simp only [i64_w, i32_w]; rw [c8b0]) | skip)
      by_cases c9 : a1 > (a0.size : Int)
      ·
       rw [if_pos c9] at H
       have c9b0 : decide ((a0.size : Int) < a1) = true := decide_eq_true c9
       clear c9
       have H' := Aside0.mk H
       clear H
       go_wp2
       go_meet
       case rel => exact ⟨_, (true), Z4, H', ⟨by have := HJ3.out; first | omega | exact Nat.le_refl _⟩, Z9⟩
      ·
       rw [if_neg c9] at H
       have c9b0 : decide ((a0.size : Int) < a1) = false := decide_eq_false c9
       clear c9
       have H' := Aside0.mk H
       clear H
       go_wp2
       go_meet
       case rel => exact ⟨_, (decide (a2 > (wrap64 ((a0.size : Int) - a1)))), Z4, H', ⟨by have := HJ3.out; first | omega | exact Nat.le_refl _⟩, Z9⟩
    case rest =>
     clear HC7; try clear p2; try clear c3; try clear c5; try clear c5b0; try clear c6; try clear p6; try clear c8; try clear c8b0; try clear c9; try clear c9b0; try clear p2
     obtain ⟨kq, x31_6, rfl, HA, HJ6, ⟨mc6, rfl⟩⟩ := hcut
     cases kq with
     | zero => exact absurd HA.out (by simp [r1_Get.j1])
     | succ kj6 =>
      have H := HA.out
      clear HA
      simp only [r1_Get.j1] at H
      by_cases c10 : x31_6 = true
      ·
       subst c10
       have H1 : (some (0, 3)) = some (r1, r2) := by rw [if_pos rfl] at H; exact H
       clear H
       have H := H1
       clear H1
       simp only [Option.some.injEq, Prod.mk.injEq] at H
       obtain ⟨rfl, rfl⟩ := H
       go_wp2
       go_ret2
       exact ⟨Z4, Z9⟩
      ·
       replace c10 := Bool.eq_false_iff.mpr c10
       subst c10
       have H1 : (r1_Get.l0 kj6 a0 a1 0 (wrap64 (a2 - 1))) = some (r1, r2) := by rw [if_neg (show ¬ (false = true) by decide)] at H; exact H
       clear H
       have H := H1
       clear H1
       have H' := Aside0.mk H
       clear H
       go_wp2
       go_loopg [8, 9] kj6 (fun kq v8 v9 w' => ∃ (x8_3 : Int) (x9_3 : Int), v8 = .int .i64 x8_3 ∧ v9 = .int .i64 x9_3 ∧ Aside0 (r1_Get.l0 kq a0 a1 x8_3 x9_3 = some (r1, r2)) ∧ Aside0 (kq ≤ kj6) ∧ Drawn0 w w')
       case atStart => exact ⟨(0), (wrap64 (a2 - 1)), Z4, Z4, H', ⟨Nat.le_refl _⟩, Z9⟩
       case round =>
        clear H'
        try clear c1; try clear p2; try clear c3; try clear c5; try clear c5b0; try clear c6; try clear p6; try clear c8; try clear c8b0; try clear c9; try clear c9b0; try clear c10; try clear p2; try clear p6
        obtain ⟨x8_3, x9_3, rfl, rfl, HA, HK3, ⟨m3, rfl⟩⟩ := hrel
        cases gk with
        | zero => exact absurd HA.out (by simp [r1_Get.l0])
        | succ k3 =>
         have H := HA.out
         clear HA
         simp only [r1_Get.l0] at H
         by_cases c11 : x9_3 ≥ 0
         ·
          rw [if_pos c11] at H
          have c11b0 : decide (0 ≤ x9_3) = true := decide_eq_true c11
          clear c11
          obtain ⟨ji12, hji12⟩ : ∃ j_ : Int, (wrap64 (a1 + x9_3)) = j_ := ⟨_, rfl⟩
          replace H : (if 0 ≤ (ji12) then (if (ji12) < (a0.size : Int) then (r1_Get.l0 k3 a0 a1 (wrap64 ((wrap64 (x8_3 * 256)) + (wrap64 (bt a0 (ji12))))) (wrap64 (x9_3 - 1))) else (none)) else (none)) = some (r1, r2) := by first | (rw [hji12] at H; exact H) | (simp only [hji12] at H ⊢; exact H)
          have hji12w : (IntKind.i64.wrap (a1 + x9_3)) = ji12 := (i64_w _).trans hji12
          by_cases c13 : 0 ≤ (ji12)
          ·
           rw [if_pos c13] at H
           have c13b0 : decide (0 ≤ (ji12)) = true := decide_eq_true c13
           clear c13
           by_cases c14 : (ji12) < (a0.size : Int)
           ·
            rw [if_pos c14] at H
            have c14b0 : decide ((ji12) < (a0.size : Int)) = true := decide_eq_true c14
            clear c14
            have H' := Aside0.mk H
            clear H
            have p15 : 0 ≤ ((ji12) : Int) := of_decide_eq_true Z2
            have q15 : (ji12) < (a0.size : Int) := of_decide_eq_true Z2
            have hx15 := bt_at a0 (ji12)
            replace p15 := eq_true p15
            replace q15 := eq_true q15
            go_wp2
            go_roundg k3
            case measure => have := HJ3.out; have := HJ6.out; have := HK3.out; omega
            case rel => exact ⟨(wrap64 ((wrap64 (x8_3 * 256)) + (wrap64 (bt a0 (ji12))))), (wrap64 (x9_3 - 1)), (by first | rfl | (simp; done) | (simp only [← hji12] <;> (first | rfl | simp)) | (simp [*]; done)), Z4, H', ⟨by have := HJ3.out; have := HJ6.out; have := HK3.out; omega⟩, Z9⟩
           ·
            rw [if_neg c14] at H
            exact absurd H Z23
          ·
           rw [if_neg c13] at H
           exact absurd H Z23
         ·
          rw [if_neg c11] at H
          have c11b0 : decide (0 ≤ x9_3) = false := decide_eq_false c11
          clear c11
          simp only [Option.some.injEq, Prod.mk.injEq] at H
          obtain ⟨rfl, rfl⟩ := H
          go_wp2
          go_ret2
          exact ⟨Z4, Z9⟩
set_option maxHeartbeats 8000000 in
set_option maxRecDepth 100000 in
theorem r8_Part_get.calls (k : Nat) (g : Nat) (s0_0 : ByteArray) (s0_1 : Int) (s0_2 : Int) (a1 : Int) (r1 : Int) (r2 : ByteArray) (r3 : Int) (r4 : Int) (w0 w : World) (hI : IsS67 w0 w g s0_0 s0_1 s0_2) (hB : Below w0.heap.size w0 w) (h : r8_Part_get.f k s0_0 s0_1 s0_2 a1 = some (r1, r2, r3, r4)) :
  Calls Tryz.prog 37 #[.pointer (some ⟨g, 0, none⟩), .int .i64 a1] w fun e w' => e = .returned (.int .i64 r1) ∧ IsS67 w0 w' g r2 r3 r4 ∧ Below w0.heap.size w0 w' ∧ KeepBut w w' g none := by
 have HI0 := Aside0.mk hI
 have HK := Aside0.mk (KeepBut.refl w g none)
 have HL := Aside0.mk hB.size
 clear hI
 have HW0 := Aside0.mk hB.size
 have HB := Aside0.mk hB
 clear hB
 have H : (if s0_2 = 0 then ((r1_Get.f k s0_0 s0_1 a1).bind fun bt246 => (some (bt246.1, s0_0, wrap64 (s0_1 + a1), bt246.2))) else (some (0, s0_0, s0_1, s0_2))) = some (r1, r2, r3, r4) := h
 clear h
 by_cases c3 : s0_2 = 0
 ·
  rw [if_pos c3] at H
  have c3b0 : (s0_2 == 0) = true := beq_iff_eq.mpr c3
  have c3b1 : (s0_2 != 0) = false := bne_eq_false_iff_eq.mpr c3
  clear c3
  replace H := Option.bind_eq_some_iff.mp H
  obtain ⟨⟨t246, t247⟩, A40, H⟩ := H
  replace H : (some (t246, s0_0, wrap64 (s0_1 + a1), t247)) = some (r1, r2, r3, r4) := H
  have A4 := Aside0.mk A40
  clear A40
  simp only [Option.some.injEq, Prod.mk.injEq] at H
  obtain ⟨rfl, rfl, rfl, rfl⟩ := H
  obtain ⟨HGz5, hgz5⟩ := HI0.out
  have hcz5_0 := cellS67_0 HGz5
  have hcz5_1 := cellS67_1 HGz5
  have hcz5_2 := cellS67_2 HGz5
  have hfz5_0 := blk_frozen HGz5 0
  have hfz5_1 := blk_frozen HGz5 1
  have hfz5_2 := blk_frozen HGz5 2
  clear HGz5 hgz5
  go_enter Tryz.func37, Tryz.ntmps37
  go_wp2_with (first | (go_at_call 65; (with_reducible refine (r1_Get.calls k s0_0 s0_1 a1 t246 t247 _ A4.out).mono ?_); rintro e w' ⟨rfl, ⟨nd, rfl⟩⟩; (try first | exact ⟨rfl, _, World.drewN_drewN _ _ _⟩ | exact ⟨rfl, _, Eq.trans (World.drewN_drewN _ _ _) (congrArg (World.drewN _) (Nat.add_assoc _ _ _))⟩)))
  repeat (go_quiet (first | (go_at_call 65; (with_reducible refine (r1_Get.calls k s0_0 s0_1 a1 t246 t247 _ A4.out).mono ?_); rintro e w' ⟨rfl, ⟨nd, rfl⟩⟩; (try first | exact ⟨rfl, _, World.drewN_drewN _ _ _⟩ | exact ⟨rfl, _, Eq.trans (World.drewN_drewN _ _ _) (congrArg (World.drewN _) (Nat.add_assoc _ _ _))⟩))); try go_wp2_with (first | (go_at_call 65; (with_reducible refine (r1_Get.calls k s0_0 s0_1 a1 t246 t247 _ A4.out).mono ?_); rintro e w' ⟨rfl, ⟨nd, rfl⟩⟩; (try first | exact ⟨rfl, _, World.drewN_drewN _ _ _⟩ | exact ⟨rfl, _, Eq.trans (World.drewN_drewN _ _ _) (congrArg (World.drewN _) (Nat.add_assoc _ _ _))⟩))))
  go_ret
  exact ⟨Z12, Z6, by repeat (first | (with_reducible first | exact HB.out | apply below_alloc | apply pw_below_drewN | apply below_drew1 | refine below_set ?_ (IsS67.ge HI0.out)) | exact HB.out), Z5⟩
 ·
  rw [if_neg c3] at H
  have c3b0 : (s0_2 == 0) = false := beq_eq_false_iff_ne.mpr c3
  have c3b1 : (s0_2 != 0) = true := bne_iff_ne.mpr c3
  simp only [Option.some.injEq, Prod.mk.injEq] at H
  obtain ⟨rfl, rfl, rfl, rfl⟩ := H
  obtain ⟨HGz6, hgz6⟩ := HI0.out
  have hcz6_0 := cellS67_0 HGz6
  have hcz6_1 := cellS67_1 HGz6
  have hcz6_2 := cellS67_2 HGz6
  have hfz6_0 := blk_frozen HGz6 0
  have hfz6_1 := blk_frozen HGz6 1
  have hfz6_2 := blk_frozen HGz6 2
  clear HGz6 hgz6
  go_enter Tryz.func37, Tryz.ntmps37
  go_wp2
  repeat (go_quiet (fail); try go_wp2)
  go_ret
  exact ⟨Z12, Z6, by repeat (first | (with_reducible first | exact HB.out | apply below_alloc | apply pw_below_drewN | apply below_drew1 | refine below_set ?_ (IsS67.ge HI0.out)) | exact HB.out), Z5⟩
set_option maxHeartbeats 8000000 in
set_option maxRecDepth 100000 in
theorem r8_Part_file.calls (k : Nat) (g : Nat) (s0_0 : ByteArray) (s0_1 : Int) (s0_2 : Int) (r1 : ByteArray) (r2 : ByteArray) (r3 : Int) (r4 : Int) (w0 w : World) (hI : IsS67 w0 w g s0_0 s0_1 s0_2) (hB : Below w0.heap.size w0 w) (h : r8_Part_file.f k s0_0 s0_1 s0_2 = some (r1, r2, r3, r4)) :
  Calls Tryz.prog 66 #[.pointer (some ⟨g, 0, none⟩)] w fun e w' => e = .returned (.string r1) ∧ IsS67 w0 w' g r2 r3 r4 ∧ Below w0.heap.size w0 w' ∧ KeepBut w w' g none := by
 have HI0 := Aside0.mk hI
 have HK := Aside0.mk (KeepBut.refl w g none)
 have HL := Aside0.mk hB.size
 clear hI
 have HW0 := Aside0.mk hB.size
 have HB := Aside0.mk hB
 clear hB
 have H : ((r8_Part_get.f k s0_0 s0_1 s0_2 6).bind fun bt248 => ((r8_Part_get.f k bt248.2.1 bt248.2.2.1 bt248.2.2.2 4).bind fun bt252 => ((r8_Part_ask.f bt252.2.1 bt252.2.2.1 bt252.2.2.2 (decide (bt248.1 ≤ 5675264))).bind fun bt256 => (if bt256.2.2 = 0 then (if 0 ≤ bt248.1 then (if (bt248.1 : Int).toNat ≤ 281474976710656 then (r8_Part_file.l0 k bt248.1 bt252.1 (List.replicate (bt248.1 : Int).toNat 0) (-1) 0 bt256.1 bt256.2.1 bt256.2.2) else (none)) else (none)) else (some ((⟨#[]⟩ : ByteArray), bt256.1, bt256.2.1, bt256.2.2)))))) = some (r1, r2, r3, r4) := h
 clear h
 replace H := Option.bind_eq_some_iff.mp H
 obtain ⟨⟨t248, t249, t250, t251⟩, A20, H⟩ := H
 replace H : ((r8_Part_get.f k t249 t250 t251 4).bind fun bt252 => ((r8_Part_ask.f bt252.2.1 bt252.2.2.1 bt252.2.2.2 (decide (t248 ≤ 5675264))).bind fun bt256 => (if bt256.2.2 = 0 then (if 0 ≤ t248 then (if (t248 : Int).toNat ≤ 281474976710656 then (r8_Part_file.l0 k t248 bt252.1 (List.replicate (t248 : Int).toNat 0) (-1) 0 bt256.1 bt256.2.1 bt256.2.2) else (none)) else (none)) else (some ((⟨#[]⟩ : ByteArray), bt256.1, bt256.2.1, bt256.2.2))))) = some (r1, r2, r3, r4) := H
 have A2 := Aside0.mk A20
 clear A20
 replace H := Option.bind_eq_some_iff.mp H
 obtain ⟨⟨t252, t253, t254, t255⟩, A30, H⟩ := H
 replace H : ((r8_Part_ask.f t253 t254 t255 (decide (t248 ≤ 5675264))).bind fun bt256 => (if bt256.2.2 = 0 then (if 0 ≤ t248 then (if (t248 : Int).toNat ≤ 281474976710656 then (r8_Part_file.l0 k t248 t252 (List.replicate (t248 : Int).toNat 0) (-1) 0 bt256.1 bt256.2.1 bt256.2.2) else (none)) else (none)) else (some ((⟨#[]⟩ : ByteArray), bt256.1, bt256.2.1, bt256.2.2)))) = some (r1, r2, r3, r4) := H
 have A3 := Aside0.mk A30
 clear A30
 replace H := Option.bind_eq_some_iff.mp H
 obtain ⟨⟨t256, t257, t258⟩, A40, H⟩ := H
 replace H : (if t258 = 0 then (if 0 ≤ t248 then (if (t248 : Int).toNat ≤ 281474976710656 then (r8_Part_file.l0 k t248 t252 (List.replicate (t248 : Int).toNat 0) (-1) 0 t256 t257 t258) else (none)) else (none)) else (some ((⟨#[]⟩ : ByteArray), t256, t257, t258))) = some (r1, r2, r3, r4) := H
 have A4 := Aside0.mk A40
 clear A40
 by_cases c5 : t258 = 0
 ·
  rw [if_pos c5] at H
  have c5b0 : (t258 == 0) = true := beq_iff_eq.mpr c5
  have c5b1 : (t258 != 0) = false := bne_eq_false_iff_eq.mpr c5
  clear c5
  by_cases c6 : 0 ≤ t248
  ·
   rw [if_pos c6] at H
   have c6b0 := eq_true c6
   have c6b1 : decide (0 ≤ t248) = true := decide_eq_true c6
   clear c6
   by_cases c7 : (t248 : Int).toNat ≤ 281474976710656
   ·
    rw [if_pos c7] at H
    have c7b0 := eq_true c7
    have c7b1 : decide ((t248 : Int).toNat ≤ 281474976710656) = true := decide_eq_true c7
    clear c7
    obtain ⟨y259, hy259⟩ : ∃ y_ : List Int, y_ = (List.replicate (t248 : Int).toNat 0) := ⟨_, rfl⟩
    replace H : (r8_Part_file.l0 k t248 t252 y259 (-1) 0 t256 t257 t258) = some (r1, r2, r3, r4) := by first | (rw [hy259]; with_reducible exact H) | (have H2_ := (Option.bind_some _ _).symm.trans H; rw [hy259]; with_reducible exact H2_) | (have H2_ := (Option.bind_some _ _).symm.trans H; with_reducible exact H2_) | with_reducible exact H | (rw [hy259]; exact H) | exact H
    have Ny259 := Aside0.mk hy259
    clear hy259
    have H' := Aside0.mk H
    clear H
    go_enter Tryz.func66, Tryz.ntmps66
    go_wp2_with (first | ((with_reducible refine gate_callee (f := 37) rfl ?_); refine goesL_ (some 13) rfl rfl Tryz.func37 Z13 rfl #[.pointer (some ⟨g, 0, none⟩), .int .i64 6] rfl Z7 ?_; (with_reducible refine (r8_Part_get.calls k g s0_0 s0_1 s0_2 6 t248 t249 t250 t251 w0 _ ?side1 ?side2 A2.out).mono ?_); (case side1 => repeat (first | (with_reducible first | exact HI0.out | apply IsS67.alloc | apply IsS67.drewN | apply IsS67.drew | apply IsS67.set_0 | apply IsS67.set_1 | apply IsS67.set_2) | exact HI0.out)); (case side2 => repeat (first | (with_reducible first | exact HB.out | apply below_alloc | apply pw_below_drewN | apply below_drew1 | refine below_set ?_ (IsS67.ge HI0.out)) | exact HB.out)); rintro e w8 ⟨rfl, hi, hb, hk⟩; refine ⟨_, rfl, ?_⟩; have n0_ := Aside0.mk (KeepBut.trans Z5 hk (.inl rfl)); have n1_ := Aside0.mk (hb); have n2_ := Aside0.mk (hi); clear HK; clear HB; clear HI0; have HK := n0_; have HB := n1_; have HI0 := n2_; clear n0_ n1_ n2_; (try clear hb); (try clear hb2); (try clear hk); (try clear hi)) | ((with_reducible refine gate_callee (f := 37) rfl ?_); refine goesL_ (some 15) rfl rfl Tryz.func37 Z13 rfl #[.pointer (some ⟨g, 0, none⟩), .int .i64 4] rfl Z7 ?_; (with_reducible refine (r8_Part_get.calls k g t249 t250 t251 4 t252 t253 t254 t255 w0 _ ?side1 ?side2 A3.out).mono ?_); (case side1 => repeat (first | (with_reducible first | exact HI0.out | apply IsS67.alloc | apply IsS67.drewN | apply IsS67.drew | apply IsS67.set_0 | apply IsS67.set_1 | apply IsS67.set_2) | exact HI0.out)); (case side2 => repeat (first | (with_reducible first | exact HB.out | apply below_alloc | apply pw_below_drewN | apply below_drew1 | refine below_set ?_ (IsS67.ge HI0.out)) | exact HB.out)); rintro e w9 ⟨rfl, hi, hb, hk⟩; refine ⟨_, rfl, ?_⟩; have n0_ := Aside0.mk (KeepBut.trans Z5 hk (.inl rfl)); have n1_ := Aside0.mk (hb); have n2_ := Aside0.mk (hi); clear HK; clear HB; clear HI0; have HK := n0_; have HB := n1_; have HI0 := n2_; clear n0_ n1_ n2_; (try clear hb); (try clear hb2); (try clear hk); (try clear hi)) | ((with_reducible refine gate_callee (f := 36) rfl ?_); refine goesL_ (some 19) rfl rfl Tryz.func36 Z13 rfl #[.pointer (some ⟨g, 0, none⟩), .bool (decide (t248 ≤ 5675264))] rfl Z7 ?_; (with_reducible refine (r8_Part_ask.calls g t253 t254 t255 (decide (t248 ≤ 5675264)) t256 t257 t258 w0 _ ?side1 ?side2 A4.out).mono ?_); (case side1 => repeat (first | (with_reducible first | exact HI0.out | apply IsS67.alloc | apply IsS67.drewN | apply IsS67.drew | apply IsS67.set_0 | apply IsS67.set_1 | apply IsS67.set_2) | exact HI0.out)); (case side2 => repeat (first | (with_reducible first | exact HB.out | apply below_alloc | apply pw_below_drewN | apply below_drew1 | refine below_set ?_ (IsS67.ge HI0.out)) | exact HB.out)); rintro e w10 ⟨rfl, hi, hb, hk⟩; refine ⟨_, rfl, ?_⟩; have n0_ := Aside0.mk (KeepBut.trans Z5 hk (.inl rfl)); have n1_ := Aside0.mk (hb); have n2_ := Aside0.mk (hi); clear HK; clear HB; clear HI0; have HK := n0_; have HB := n1_; have HI0 := n2_; clear n0_ n1_ n2_; (try clear hb); (try clear hb2); (try clear hk); (try clear hi); obtain ⟨HGz11, hgz11⟩ := HI0.out; have hcz11_0 := cellS67_0 HGz11; have hcz11_1 := cellS67_1 HGz11; have hcz11_2 := cellS67_2 HGz11; have hfz11_0 := blk_frozen HGz11 0; have hfz11_1 := blk_frozen HGz11 1; have hfz11_2 := blk_frozen HGz11 2; clear HGz11 hgz11) | ((with_reducible refine gate_dst (N := 26) rfl ?_); refine Kd.R_make (Kd.int .u8) _ 5 rfl (N := 26) rfl 31 _ _ rfl t248 rfl rfl Tryz.underlying31 (.int .u8 0) 1 info5 rfl Z11 Z3 0 (ok := fun _ => True) (okp := fun _ => True) rfl (fun _ hk => hk) trivial (of_decide_eq_true Z2) (Nat.le_trans (Nat.mul_le_mul_right _ (of_decide_eq_true Z2 : t248.toNat ≤ 281474976710656)) Z3) (Below.refl _ _) (Nat.le_refl _) ?_; intro v260 w12 ho13 hb hg_ hnew_; clear hg_ hnew_; (first | rw [← Ny259.out] at ho13 | (simp only [Int.reduceToNat] at ho13; rw [← Ny259.out] at ho13)); have n0_ := Aside0.mk (Kd.R_lower ho13 (keep_size (w := w) (g := g) (row := none) Z5)); have n1_ := Aside0.mk (IsS67.below Z6 hb); have n2_ := Aside0.mk (KeepBut.trans Z5 (KeepBut.of_below hb g none) (.inl rfl)); have n3_ := Aside0.mk (below_step (by repeat (first | (with_reducible first | exact HB.out | apply below_alloc | apply pw_below_drewN | apply below_drew1 | refine below_set ?_ (IsS67.ge HI0.out)) | exact HB.out)) hb); clear HI0; clear HK; clear HB; have HO261 := n0_; have HI0 := n1_; have HK := n2_; have HB := n3_; clear n0_ n1_ n2_ n3_; clear hb ho13))
    go_loopg [6, 7] k (fun kq v6 v7 w' => ∃ (x5_1 : List Int) (x6_1 : Int) (x7_1 : Int) (x1000_1 : ByteArray) (x1001_1 : Int) (x1002_1 : Int), v6 = .int .i64 x6_1 ∧ v7 = .int .i64 x7_1 ∧ Aside0 (r8_Part_file.l0 kq t248 t252 x5_1 x6_1 x7_1 x1000_1 x1001_1 x1002_1 = some (r1, r2, r3, r4)) ∧ Aside0 (kq ≤ k) ∧ Aside0 (Kd.R (Kd.int .u8) 5 w' w.heap.size (fun _ => True) v260 x5_1) ∧ Aside0 (IsS67 w0 w' g x1000_1 x1001_1 x1002_1) ∧ Aside0 (KeepBut w w' g none) ∧ Aside0 (Below w0.heap.size w0 w'))
    case atStart => exact ⟨(y259), ((-1)), (0), (t256), (t257), (t258), Z4, Z4, H', ⟨Nat.le_refl _⟩, ⟨by (with_reducible repeat (first | apply Kd.R_alloc | apply Kd.R_drewN | apply Kd.R_drew)); exact HO261.out⟩, ⟨Z6⟩, ⟨Z5⟩, ⟨by repeat (first | (with_reducible first | exact HB.out | apply below_alloc | apply pw_below_drewN | apply below_drew1 | refine below_set ?_ (IsS67.ge HI0.out)) | exact HB.out)⟩⟩
    case round =>
     clear H'
     try clear p2; try clear c3; try clear c5; try clear c5b0; try clear c5b1; try clear c6; try clear c6b0; try clear c6b1; try clear c7; try clear c7b0; try clear c7b1; try clear hcz11_0; try clear hcz11_1; try clear hcz11_2; try clear hfz11_0; try clear hfz11_1; try clear hfz11_2
     obtain ⟨x5_1, x6_1, x7_1, x1000_1, x1001_1, x1002_1, rfl, rfl, HA, HK1, HO_5, HI0, HK, HB⟩ := hrel
     cases gk with
     | zero => exact absurd HA.out (by simp [r8_Part_file.l0])
     | succ k1 =>
      have H := HA.out
      clear HA
      simp only [r8_Part_file.l0] at H
      have HC14 := Aside0.mk H
      clear H
      go_upto_region 9 with (fail)
      go_cut [36] (fun v36 wc => ∃ (kq : Nat) (x36_13 : Bool), v36 = .bool x36_13 ∧ Aside0 (r8_Part_file.j1 kq t248 t252 x5_1 x6_1 x7_1 x36_13 x1000_1 x1001_1 x1002_1 = some (r1, r2, r3, r4)) ∧ Aside0 (kq ≤ k1) ∧ Aside0 (Kd.R (Kd.int .u8) 5 wc w.heap.size (fun _ => True) v260 x5_1) ∧ Aside0 (IsS67 w0 wc g x1000_1 x1001_1 x1002_1) ∧ Aside0 (KeepBut w wc g none) ∧ Aside0 (Below w0.heap.size w0 wc))
      case first =>
       have H := HC14.out
       clear HC14
       by_cases c15 : x7_1 < t252
       ·
        rw [if_pos c15] at H
        have c15b0 : decide (x7_1 < t252) = true := decide_eq_true c15
        clear c15
        (first | rw [c15b0] | (simp only [i64_w, i32_w]; rw [c15b0]) | skip)
        have H' := Aside0.mk H
        clear H
        obtain ⟨HGz16, hgz16⟩ := HI0.out
        have hcz16_0 := cellS67_0 HGz16
        have hcz16_1 := cellS67_1 HGz16
        have hcz16_2 := cellS67_2 HGz16
        have hfz16_0 := blk_frozen HGz16 0
        have hfz16_1 := blk_frozen HGz16 1
        have hfz16_2 := blk_frozen HGz16 2
        clear HGz16 hgz16
        go_wp2
        go_meet
        case rel => exact ⟨_, ((x1002_1 == 0)), Z4, H', ⟨Z30⟩, ⟨Z18⟩, ⟨Z6⟩, ⟨Z5⟩, ⟨by repeat (first | (with_reducible first | exact HB.out | apply below_alloc | apply pw_below_drewN | apply below_drew1 | refine below_set ?_ (IsS67.ge HI0.out)) | exact HB.out)⟩⟩
       ·
        rw [if_neg c15] at H
        have c15b0 : decide (x7_1 < t252) = false := decide_eq_false c15
        clear c15
        (first | rw [c15b0] | (simp only [i64_w, i32_w]; rw [c15b0]) | skip)
        have H' := Aside0.mk H
        clear H
        go_wp2
        go_meet
        case rel => exact ⟨_, (false), Z4, H', ⟨Z30⟩, ⟨Z18⟩, ⟨Z6⟩, ⟨Z5⟩, ⟨by repeat (first | (with_reducible first | exact HB.out | apply below_alloc | apply pw_below_drewN | apply below_drew1 | refine below_set ?_ (IsS67.ge HI0.out)) | exact HB.out)⟩⟩
      case rest =>
       clear HC14; try clear c1; try clear p2; try clear c3; try clear c5; try clear c5b0; try clear c5b1; try clear c6; try clear c6b0; try clear c6b1; try clear c7; try clear c7b0; try clear c7b1; try clear c15; try clear c15b0; try clear hcz11_0; try clear hcz11_1; try clear hcz11_2; try clear hcz16_0; try clear hcz16_1; try clear hcz16_2; try clear hfz11_0; try clear hfz11_1; try clear hfz11_2; try clear hfz16_0; try clear hfz16_1; try clear hfz16_2; try clear p2
       obtain ⟨kq, x36_13, rfl, HA, HJ13, HO_5, HI0, HK, HB⟩ := hcut
       cases kq with
       | zero => exact absurd HA.out (by simp [r8_Part_file.j1])
       | succ kj13 =>
        have H := HA.out
        clear HA
        simp only [r8_Part_file.j1] at H
        by_cases c17 : x36_13 = true
        ·
         subst c17
         have H1 : ((r8_Part_get.f kj13 x1000_1 x1001_1 x1002_1 4).bind fun bt262 => (if bt262.1 > x6_1 then ((r8_Part_ask.f bt262.2.1 bt262.2.2.1 bt262.2.2.2 (decide ((wrap64 (448 * bt262.1)) < t248))).bind fun bt266 => (r8_Part_file.j2 kj13 t248 t252 x5_1 x7_1 bt262.1 bt266.1 bt266.2.1 bt266.2.2)) else ((r8_Part_ask.f bt262.2.1 bt262.2.2.1 bt262.2.2.2 false).bind fun bt269 => (r8_Part_file.j2 kj13 t248 t252 x5_1 x7_1 bt262.1 bt269.1 bt269.2.1 bt269.2.2)))) = some (r1, r2, r3, r4) := by rw [if_pos rfl] at H; exact H
         clear H
         have H := H1
         clear H1
         replace H := Option.bind_eq_some_iff.mp H
         obtain ⟨⟨t262, t263, t264, t265⟩, A180, H⟩ := H
         replace H : (if t262 > x6_1 then ((r8_Part_ask.f t263 t264 t265 (decide ((wrap64 (448 * t262)) < t248))).bind fun bt266 => (r8_Part_file.j2 kj13 t248 t252 x5_1 x7_1 t262 bt266.1 bt266.2.1 bt266.2.2)) else ((r8_Part_ask.f t263 t264 t265 false).bind fun bt269 => (r8_Part_file.j2 kj13 t248 t252 x5_1 x7_1 t262 bt269.1 bt269.2.1 bt269.2.2))) = some (r1, r2, r3, r4) := H
         have A18 := Aside0.mk A180
         clear A180
         have HC19 := Aside0.mk H
         clear H
         go_upto_region 12 with (first | ((with_reducible refine gate_callee (f := 37) rfl ?_); refine goesL_ (some 40) rfl rfl Tryz.func37 Z13 rfl #[.pointer (some ⟨g, 0, none⟩), .int .i64 4] rfl Z7 ?_; (with_reducible refine (r8_Part_get.calls kj13 g x1000_1 x1001_1 x1002_1 4 t262 t263 t264 t265 w0 _ ?side1 ?side2 A18.out).mono ?_); (case side1 => repeat (first | (with_reducible first | exact HI0.out | apply IsS67.alloc | apply IsS67.drewN | apply IsS67.drew | apply IsS67.set_0 | apply IsS67.set_1 | apply IsS67.set_2) | exact HI0.out)); (case side2 => repeat (first | (with_reducible first | exact HB.out | apply below_alloc | apply pw_below_drewN | apply below_drew1 | refine below_set ?_ (IsS67.ge HI0.out)) | exact HB.out)); rintro e w20 ⟨rfl, hi, hb, hk⟩; refine ⟨_, rfl, ?_⟩; have n0_ := Aside0.mk (Kd.R_mono (Kd.R_keep (IsS67.apart (show IsS67 w0 _ g x1000_1 x1001_1 x1002_1 from by repeat (first | (with_reducible first | exact HI0.out | apply IsS67.alloc | apply IsS67.drewN | apply IsS67.drew | apply IsS67.set_0 | apply IsS67.set_1 | apply IsS67.set_2) | exact HI0.out)) Z18 Z11) hk (fun _ h => h.2)) (fun _ h => h.1)); have n1_ := Aside0.mk (KeepBut.trans Z5 hk (.inl rfl)); have n2_ := Aside0.mk (hb); have n3_ := Aside0.mk (hi); clear HO_5; clear HK; clear HB; clear HI0; have HO_5 := n0_; have HK := n1_; have HB := n2_; have HI0 := n3_; clear n0_ n1_ n2_ n3_; (try clear hb); (try clear hb2); (try clear hk); (try clear hi)))
         (try simp only [Act.put, List.setIfInBounds_toArray, List.set_cons_zero, List.set_cons_succ])
         go_cut [] (fun wc => ∃ (kq : Nat) (x1000_18 : ByteArray) (x1001_18 : Int) (x1002_18 : Int), Aside0 (r8_Part_file.j2 kq t248 t252 x5_1 x7_1 t262 x1000_18 x1001_18 x1002_18 = some (r1, r2, r3, r4)) ∧ Aside0 (kq ≤ kj13) ∧ Aside0 (Kd.R (Kd.int .u8) 5 wc w.heap.size (fun _ => True) v260 x5_1) ∧ Aside0 (IsS67 w0 wc g x1000_18 x1001_18 x1002_18) ∧ Aside0 (KeepBut w wc g none) ∧ Aside0 (Below w0.heap.size w0 wc))
         case first =>
          have H := HC19.out
          clear HC19
          by_cases c21 : t262 > x6_1
          ·
           rw [if_pos c21] at H
           have c21b0 : decide (x6_1 < t262) = true := decide_eq_true c21
           clear c21
           (first | rw [c21b0] | (simp only [i64_w, i32_w]; rw [c21b0]) | skip)
           replace H := Option.bind_eq_some_iff.mp H
           obtain ⟨⟨t266, t267, t268⟩, A220, H⟩ := H
           replace H : (r8_Part_file.j2 kj13 t248 t252 x5_1 x7_1 t262 t266 t267 t268) = some (r1, r2, r3, r4) := H
           have A22 := Aside0.mk A220
           clear A220
           have H' := Aside0.mk H
           clear H
           go_wp2_with (first | ((with_reducible refine gate_callee (f := 36) rfl ?_); refine goesL_ (some 51) rfl rfl Tryz.func36 Z13 rfl #[.pointer (some ⟨g, 0, none⟩), .bool (decide ((wrap64 (448 * t262)) < t248))] rfl Z7 ?_; (with_reducible refine (r8_Part_ask.calls g t263 t264 t265 (decide ((wrap64 (448 * t262)) < t248)) t266 t267 t268 w0 _ ?side1 ?side2 A22.out).mono ?_); (case side1 => repeat (first | (with_reducible first | exact HI0.out | apply IsS67.alloc | apply IsS67.drewN | apply IsS67.drew | apply IsS67.set_0 | apply IsS67.set_1 | apply IsS67.set_2) | exact HI0.out)); (case side2 => repeat (first | (with_reducible first | exact HB.out | apply below_alloc | apply pw_below_drewN | apply below_drew1 | refine below_set ?_ (IsS67.ge HI0.out)) | exact HB.out)); rintro e w23 ⟨rfl, hi, hb, hk⟩; refine ⟨_, rfl, ?_⟩; have n0_ := Aside0.mk (Kd.R_mono (Kd.R_keep (IsS67.apart (show IsS67 w0 _ g t263 t264 t265 from by repeat (first | (with_reducible first | exact HI0.out | apply IsS67.alloc | apply IsS67.drewN | apply IsS67.drew | apply IsS67.set_0 | apply IsS67.set_1 | apply IsS67.set_2) | exact HI0.out)) Z18 Z11) hk (fun _ h => h.2)) (fun _ h => h.1)); have n1_ := Aside0.mk (KeepBut.trans Z5 hk (.inl rfl)); have n2_ := Aside0.mk (hb); have n3_ := Aside0.mk (hi); clear HO_5; clear HK; clear HB; clear HI0; have HO_5 := n0_; have HK := n1_; have HB := n2_; have HI0 := n3_; clear n0_ n1_ n2_ n3_; (try clear hb); (try clear hb2); (try clear hk); (try clear hi)))
           go_meet
           case rel => exact ⟨_, (t266), (t267), (t268), H', ⟨by have := HK1.out; have := HJ13.out; first | omega | exact Nat.le_refl _⟩, ⟨Z18⟩, ⟨Z6⟩, ⟨Z5⟩, ⟨by repeat (first | (with_reducible first | exact HB.out | apply below_alloc | apply pw_below_drewN | apply below_drew1 | refine below_set ?_ (IsS67.ge HI0.out)) | exact HB.out)⟩⟩
          ·
           rw [if_neg c21] at H
           have c21b0 : decide (x6_1 < t262) = false := decide_eq_false c21
           clear c21
           (first | rw [c21b0] | (simp only [i64_w, i32_w]; rw [c21b0]) | skip)
           replace H := Option.bind_eq_some_iff.mp H
           obtain ⟨⟨t269, t270, t271⟩, A240, H⟩ := H
           replace H : (r8_Part_file.j2 kj13 t248 t252 x5_1 x7_1 t262 t269 t270 t271) = some (r1, r2, r3, r4) := H
           have A24 := Aside0.mk A240
           clear A240
           have H' := Aside0.mk H
           clear H
           go_wp2_with (first | ((with_reducible refine gate_callee (f := 36) rfl ?_); refine goesL_ (some 51) rfl rfl Tryz.func36 Z13 rfl #[.pointer (some ⟨g, 0, none⟩), .bool false] rfl Z7 ?_; (with_reducible refine (r8_Part_ask.calls g t263 t264 t265 false t269 t270 t271 w0 _ ?side1 ?side2 A24.out).mono ?_); (case side1 => repeat (first | (with_reducible first | exact HI0.out | apply IsS67.alloc | apply IsS67.drewN | apply IsS67.drew | apply IsS67.set_0 | apply IsS67.set_1 | apply IsS67.set_2) | exact HI0.out)); (case side2 => repeat (first | (with_reducible first | exact HB.out | apply below_alloc | apply pw_below_drewN | apply below_drew1 | refine below_set ?_ (IsS67.ge HI0.out)) | exact HB.out)); rintro e w25 ⟨rfl, hi, hb, hk⟩; refine ⟨_, rfl, ?_⟩; have n0_ := Aside0.mk (Kd.R_mono (Kd.R_keep (IsS67.apart (show IsS67 w0 _ g t263 t264 t265 from by repeat (first | (with_reducible first | exact HI0.out | apply IsS67.alloc | apply IsS67.drewN | apply IsS67.drew | apply IsS67.set_0 | apply IsS67.set_1 | apply IsS67.set_2) | exact HI0.out)) Z18 Z11) hk (fun _ h => h.2)) (fun _ h => h.1)); have n1_ := Aside0.mk (KeepBut.trans Z5 hk (.inl rfl)); have n2_ := Aside0.mk (hb); have n3_ := Aside0.mk (hi); clear HO_5; clear HK; clear HB; clear HI0; have HO_5 := n0_; have HK := n1_; have HB := n2_; have HI0 := n3_; clear n0_ n1_ n2_ n3_; (try clear hb); (try clear hb2); (try clear hk); (try clear hi)))
           go_meet
           case rel => exact ⟨_, (t269), (t270), (t271), H', ⟨by have := HK1.out; have := HJ13.out; first | omega | exact Nat.le_refl _⟩, ⟨Z18⟩, ⟨Z6⟩, ⟨Z5⟩, ⟨by repeat (first | (with_reducible first | exact HB.out | apply below_alloc | apply pw_below_drewN | apply below_drew1 | refine below_set ?_ (IsS67.ge HI0.out)) | exact HB.out)⟩⟩
         case rest =>
          clear HC19; try clear c1; try clear c2; try clear p2; try clear c3; try clear c5; try clear c5b0; try clear c5b1; try clear c6; try clear c6b0; try clear c6b1; try clear p6; try clear c7; try clear c7b0; try clear c7b1; try clear c15; try clear c15b0; try clear c17; try clear c21; try clear c21b0; try clear hcz11_0; try clear hcz11_1; try clear hcz11_2; try clear hcz16_0; try clear hcz16_1; try clear hcz16_2; try clear hfz11_0; try clear hfz11_1; try clear hfz11_2; try clear hfz16_0; try clear hfz16_1; try clear hfz16_2; try clear p2
          obtain ⟨kq, x1000_18, x1001_18, x1002_18, HA, HJ18, HO_5, HI0, HK, HB⟩ := hcut
          cases kq with
          | zero => exact absurd HA.out (by simp [r8_Part_file.j2])
          | succ kj18 =>
           have H := HA.out
           clear HA
           simp only [r8_Part_file.j2] at H
           by_cases c26 : x1002_18 = 0
           ·
            rw [if_pos c26] at H
            have c26b0 : (x1002_18 == 0) = true := beq_iff_eq.mpr c26
            have c26b1 : (x1002_18 != 0) = false := bne_eq_false_iff_eq.mpr c26
            clear c26
            have HC27 := Aside0.mk H
            clear H
            obtain ⟨HGz28, hgz28⟩ := HI0.out
            have hcz28_0 := cellS67_0 HGz28
            have hcz28_1 := cellS67_1 HGz28
            have hcz28_2 := cellS67_2 HGz28
            have hfz28_0 := blk_frozen HGz28 0
            have hfz28_1 := blk_frozen HGz28 1
            have hfz28_2 := blk_frozen HGz28 2
            clear HGz28 hgz28
            go_upto_if 62 with (fail)
            go_cut [9] (fun v9 wc => ∃ (kq : Nat) (x9_26 : Int), v9 = .int .i64 x9_26 ∧ Aside0 (r8_Part_file.j3 kq t248 t252 x5_1 x7_1 t262 x9_26 x1000_18 x1001_18 x1002_18 = some (r1, r2, r3, r4)) ∧ Aside0 (kq ≤ kj18) ∧ Aside0 (Kd.R (Kd.int .u8) 5 wc w.heap.size (fun _ => True) v260 x5_1) ∧ Aside0 (IsS67 w0 wc g x1000_18 x1001_18 x1002_18) ∧ Aside0 (KeepBut w wc g none) ∧ Aside0 (Below w0.heap.size w0 wc))
            case first =>
             have H := HC27.out
             clear HC27
             by_cases c29 : (wrap64 ((wrap64 (448 * t262)) + 448)) > t248
             ·
              rw [if_pos c29] at H
              have c29b0 : decide (t248 < (wrap64 ((wrap64 (448 * t262)) + 448))) = true := decide_eq_true c29
              clear c29
              (first | rw [c29b0] | (simp only [i64_w, i32_w]; rw [c29b0]) | skip)
              have H' := Aside0.mk H
              clear H
              go_wp2
              go_meet
              case rel => exact ⟨_, (t248), Z4, H', ⟨by have := HK1.out; have := HJ13.out; have := HJ18.out; first | omega | exact Nat.le_refl _⟩, ⟨Z18⟩, ⟨Z6⟩, ⟨Z5⟩, ⟨by repeat (first | (with_reducible first | exact HB.out | apply below_alloc | apply pw_below_drewN | apply below_drew1 | refine below_set ?_ (IsS67.ge HI0.out)) | exact HB.out)⟩⟩
             ·
              rw [if_neg c29] at H
              have c29b0 : decide (t248 < (wrap64 ((wrap64 (448 * t262)) + 448))) = false := decide_eq_false c29
              clear c29
              (first | rw [c29b0] | (simp only [i64_w, i32_w]; rw [c29b0]) | skip)
              have H' := Aside0.mk H
              clear H
              go_wp2
              go_meet
              case rel => exact ⟨_, (wrap64 ((wrap64 (448 * t262)) + 448)), Z4, H', ⟨by have := HK1.out; have := HJ13.out; have := HJ18.out; first | omega | exact Nat.le_refl _⟩, ⟨Z18⟩, ⟨Z6⟩, ⟨Z5⟩, ⟨by repeat (first | (with_reducible first | exact HB.out | apply below_alloc | apply pw_below_drewN | apply below_drew1 | refine below_set ?_ (IsS67.ge HI0.out)) | exact HB.out)⟩⟩
            case rest =>
             clear HC27; try clear c1; try clear c2; try clear p2; try clear c3; try clear c5; try clear c5b0; try clear c5b1; try clear c6; try clear c6b0; try clear c6b1; try clear p6; try clear c7; try clear c7b0; try clear c7b1; try clear c15; try clear c15b0; try clear c17; try clear c21; try clear c21b0; try clear c26; try clear c26b0; try clear c26b1; try clear c29; try clear c29b0; try clear hcz11_0; try clear hcz11_1; try clear hcz11_2; try clear hcz16_0; try clear hcz16_1; try clear hcz16_2; try clear hcz28_0; try clear hcz28_1; try clear hcz28_2; try clear hfz11_0; try clear hfz11_1; try clear hfz11_2; try clear hfz16_0; try clear hfz16_1; try clear hfz16_2; try clear hfz28_0; try clear hfz28_1; try clear hfz28_2; try clear p2; try clear p6
             obtain ⟨kq, x9_26, rfl, HA, HJ26, HO_5, HI0, HK, HB⟩ := hcut
             cases kq with
             | zero => exact absurd HA.out (by simp [r8_Part_file.j3])
             | succ kj26 =>
              have H := HA.out
              clear HA
              simp only [r8_Part_file.j3] at H
              replace H := Option.bind_eq_some_iff.mp H
              obtain ⟨⟨t272, t273, t274, t275⟩, A300, H⟩ := H
              replace H : ((r1_Noughts.f (t272.size : Int)).bind fun t276 => ((r8_Part_ask.f t273 t274 t275 (t272.toList != t276.toList)).bind fun bt277 => (r8_Part_file.l1 kj26 t248 t252 x5_1 x7_1 t262 t272 0 bt277.1 bt277.2.1 bt277.2.2))) = some (r1, r2, r3, r4) := H
              have A30 := Aside0.mk A300
              clear A300
              replace H := Option.bind_eq_some_iff.mp H
              obtain ⟨t276, A310, H⟩ := H
              replace H : ((r8_Part_ask.f t273 t274 t275 (t272.toList != t276.toList)).bind fun bt277 => (r8_Part_file.l1 kj26 t248 t252 x5_1 x7_1 t262 t272 0 bt277.1 bt277.2.1 bt277.2.2)) = some (r1, r2, r3, r4) := H
              have A31 := Aside0.mk A310
              clear A310
              replace H := Option.bind_eq_some_iff.mp H
              obtain ⟨⟨t277, t278, t279⟩, A320, H⟩ := H
              replace H : (r8_Part_file.l1 kj26 t248 t252 x5_1 x7_1 t262 t272 0 t277 t278 t279) = some (r1, r2, r3, r4) := H
              have A32 := Aside0.mk A320
              clear A320
              have H' := Aside0.mk H
              clear H
              go_wp2_with (first | ((with_reducible refine gate_callee (f := 35) rfl ?_); refine goesL_ (some 69) rfl rfl Tryz.func35 Z13 rfl #[.pointer (some ⟨g, 0, none⟩), .int .i64 (wrap64 (x9_26 - (wrap64 (448 * t262))))] rfl Z7 ?_; (with_reducible refine (r8_Part_text.calls g x1000_18 x1001_18 x1002_18 (wrap64 (x9_26 - (wrap64 (448 * t262)))) t272 t273 t274 t275 w0 _ ?side1 ?side2 A30.out).mono ?_); (case side1 => repeat (first | (with_reducible first | exact HI0.out | apply IsS67.alloc | apply IsS67.drewN | apply IsS67.drew | apply IsS67.set_0 | apply IsS67.set_1 | apply IsS67.set_2) | exact HI0.out)); (case side2 => repeat (first | (with_reducible first | exact HB.out | apply below_alloc | apply pw_below_drewN | apply below_drew1 | refine below_set ?_ (IsS67.ge HI0.out)) | exact HB.out)); rintro e w33 ⟨rfl, hi, hb, hk⟩; refine ⟨_, rfl, ?_⟩; have n0_ := Aside0.mk (Kd.R_mono (Kd.R_keep (IsS67.apart (show IsS67 w0 _ g x1000_18 x1001_18 x1002_18 from by repeat (first | (with_reducible first | exact HI0.out | apply IsS67.alloc | apply IsS67.drewN | apply IsS67.drew | apply IsS67.set_0 | apply IsS67.set_1 | apply IsS67.set_2) | exact HI0.out)) Z18 Z11) hk (fun _ h => h.2)) (fun _ h => h.1)); have n1_ := Aside0.mk (KeepBut.trans Z5 hk (.inl rfl)); have n2_ := Aside0.mk (hb); have n3_ := Aside0.mk (hi); clear HO_5; clear HK; clear HB; clear HI0; have HO_5 := n0_; have HK := n1_; have HB := n2_; have HI0 := n3_; clear n0_ n1_ n2_ n3_; (try clear hb); (try clear hb2); (try clear hk); (try clear hi)) | ((with_reducible refine gate_callee (f := 49) rfl ?_); refine goesL_ (some 74) rfl rfl Tryz.func49 Z13 rfl #[.int .i64 (t272.size : Int)] rfl Z7 ?_; (with_reducible refine (r1_Noughts.calls (t272.size : Int) t276 _ A31.out).mono ?_); rintro e w34 ⟨rfl, hb⟩; refine ⟨_, rfl, ?_⟩; have n0_ := Aside0.mk (Kd.R_below Z18 hb); have n1_ := Aside0.mk (IsS67.below Z6 hb); have n2_ := Aside0.mk (KeepBut.trans Z5 (KeepBut.of_below hb g none) (.inl rfl)); have n3_ := Aside0.mk (below_step (by repeat (first | (with_reducible first | exact HB.out | apply below_alloc | apply pw_below_drewN | apply below_drew1 | refine below_set ?_ (IsS67.ge HI0.out)) | exact HB.out)) hb); clear HO_5; clear HI0; clear HK; clear HB; have HO_5 := n0_; have HI0 := n1_; have HK := n2_; have HB := n3_; clear n0_ n1_ n2_ n3_; (try clear hb); (try clear hb2); (try clear hk); (try clear hi)) | ((with_reducible refine gate_callee (f := 36) rfl ?_); refine goesL_ (some 76) rfl rfl Tryz.func36 Z13 rfl #[.pointer (some ⟨g, 0, none⟩), .bool (t272.toList != t276.toList)] rfl Z7 ?_; (with_reducible refine (r8_Part_ask.calls g t273 t274 t275 (t272.toList != t276.toList) t277 t278 t279 w0 _ ?side1 ?side2 A32.out).mono ?_); (case side1 => repeat (first | (with_reducible first | exact HI0.out | apply IsS67.alloc | apply IsS67.drewN | apply IsS67.drew | apply IsS67.set_0 | apply IsS67.set_1 | apply IsS67.set_2) | exact HI0.out)); (case side2 => repeat (first | (with_reducible first | exact HB.out | apply below_alloc | apply pw_below_drewN | apply below_drew1 | refine below_set ?_ (IsS67.ge HI0.out)) | exact HB.out)); rintro e w35 ⟨rfl, hi, hb, hk⟩; refine ⟨_, rfl, ?_⟩; have n0_ := Aside0.mk (Kd.R_mono (Kd.R_keep (IsS67.apart (show IsS67 w0 _ g t273 t274 t275 from by repeat (first | (with_reducible first | exact HI0.out | apply IsS67.alloc | apply IsS67.drewN | apply IsS67.drew | apply IsS67.set_0 | apply IsS67.set_1 | apply IsS67.set_2) | exact HI0.out)) Z18 Z11) hk (fun _ h => h.2)) (fun _ h => h.1)); have n1_ := Aside0.mk (KeepBut.trans Z5 hk (.inl rfl)); have n2_ := Aside0.mk (hb); have n3_ := Aside0.mk (hi); clear HO_5; clear HK; clear HB; clear HI0; have HO_5 := n0_; have HK := n1_; have HB := n2_; have HI0 := n3_; clear n0_ n1_ n2_ n3_; (try clear hb); (try clear hb2); (try clear hk); (try clear hi)))
              go_loopg [11] kj26 (fun kq v11 w' => ∃ (x5_5 : List Int) (x11_5 : Int), v11 = .int .i64 x11_5 ∧ Aside0 (r8_Part_file.l1 kq t248 t252 x5_5 x7_1 t262 t272 x11_5 t277 t278 t279 = some (r1, r2, r3, r4)) ∧ Aside0 (kq ≤ kj26) ∧ Aside0 (Kd.R (Kd.int .u8) 5 w' w.heap.size (fun _ => True) v260 x5_5) ∧ Aside0 (IsS67 w0 w' g t277 t278 t279) ∧ Aside0 (KeepBut w w' g none) ∧ Aside0 (Below w0.heap.size w0 w'))
              case atStart => exact ⟨(x5_1), (0), Z4, H', ⟨Nat.le_refl _⟩, ⟨Z18⟩, ⟨Z6⟩, ⟨Z5⟩, ⟨by repeat (first | (with_reducible first | exact HB.out | apply below_alloc | apply pw_below_drewN | apply below_drew1 | refine below_set ?_ (IsS67.ge HI0.out)) | exact HB.out)⟩⟩
              case round =>
               clear H'
               try clear c1; try clear c2; try clear p2; try clear c3; try clear c4; try clear c5; try clear c5b0; try clear c5b1; try clear c6; try clear c6b0; try clear c6b1; try clear p6; try clear c7; try clear c7b0; try clear c7b1; try clear c15; try clear c15b0; try clear c17; try clear c21; try clear c21b0; try clear c26; try clear c26b0; try clear c26b1; try clear c29; try clear c29b0; try clear c35; try clear hcz11_0; try clear hcz11_1; try clear hcz11_2; try clear hcz16_0; try clear hcz16_1; try clear hcz16_2; try clear hcz28_0; try clear hcz28_1; try clear hcz28_2; try clear hfz11_0; try clear hfz11_1; try clear hfz11_2; try clear hfz16_0; try clear hfz16_1; try clear hfz16_2; try clear hfz28_0; try clear hfz28_1; try clear hfz28_2; try clear p2; try clear p6
               obtain ⟨x5_5, x11_5, rfl, HA, HK5, HO_5, HI0, HK, HB⟩ := hrel
               cases gk with
               | zero => exact absurd HA.out (by simp [r8_Part_file.l1])
               | succ k5 =>
                have H := HA.out
                clear HA
                simp only [r8_Part_file.l1] at H
                by_cases c36 : x11_5 < (t272.size : Int)
                ·
                 rw [if_pos c36] at H
                 have c36b0 : decide (x11_5 < (t272.size : Int)) = true := decide_eq_true c36
                 clear c36
                 by_cases c37 : 0 ≤ x11_5
                 ·
                  rw [if_pos c37] at H
                  have c37b0 : decide (0 ≤ x11_5) = true := decide_eq_true c37
                  clear c37
                  obtain ⟨ji39, hji39⟩ : ∃ j_ : Int, (wrap64 ((wrap64 (448 * t262)) + x11_5)) = j_ := ⟨_, rfl⟩
                  replace H : (if 0 ≤ (ji39) then (if (ji39) < (x5_5.length : Int) then (r8_Part_file.l1 k5 t248 t252 (x5_5.set ((ji39) : Int).toNat (bt t272 x11_5)) x7_1 t262 t272 (wrap64 (x11_5 + 1)) t277 t278 t279) else (none)) else (none)) = some (r1, r2, r3, r4) := by first | (rw [hji39] at H; exact H) | (simp only [hji39] at H ⊢; exact H)
                  have hji39w : (IntKind.i64.wrap ((wrap64 (448 * t262)) + x11_5)) = ji39 := (i64_w _).trans hji39
                  by_cases c40 : 0 ≤ (ji39)
                  ·
                   rw [if_pos c40] at H
                   have c40b0 : decide (0 ≤ (ji39)) = true := decide_eq_true c40
                   clear c40
                   by_cases c41 : (ji39) < (x5_5.length : Int)
                   ·
                    rw [if_pos c41] at H
                    have c41b0 : decide ((ji39) < (x5_5.length : Int)) = true := decide_eq_true c41
                    clear c41
                    obtain ⟨y280, hy280⟩ : ∃ y_ : List Int, y_ = (x5_5.set ((ji39) : Int).toNat (bt t272 x11_5)) := ⟨_, rfl⟩
                    replace H : (r8_Part_file.l1 k5 t248 t252 y280 x7_1 t262 t272 (wrap64 (x11_5 + 1)) t277 t278 t279) = some (r1, r2, r3, r4) := by first | (rw [hy280]; with_reducible exact H) | (have H2_ := (Option.bind_some _ _).symm.trans H; rw [hy280]; with_reducible exact H2_) | (have H2_ := (Option.bind_some _ _).symm.trans H; with_reducible exact H2_) | with_reducible exact H | (rw [hy280]; exact H) | exact H
                    have Ny280 := Aside0.mk hy280
                    clear hy280
                    have H' := Aside0.mk H
                    clear H
                    have p38 : 0 ≤ (x11_5 : Int) := of_decide_eq_true Z2
                    have q38 : x11_5 < (t272.size : Int) := of_decide_eq_true Z2
                    have hx38 := bt_at t272 x11_5
                    replace p38 := eq_true p38
                    replace q38 := eq_true q38
                    have p42 : 0 ≤ ((ji39) : Int) := of_decide_eq_true Z2
                    have q42 : ((ji39) : Int) < ((x5_5.length : Int) : Int) := of_decide_eq_true Z2
                    obtain ⟨go42, co42, eo42, gb42, gl42, cl42, HG42⟩ := Kd.R_form HO_5.out Z3
                    (first | cases eo42 | (injection eo42 with ea_ en_ ec_; (first | subst ea_ | (injection ea_ with ea_; subst ea_)); subst ec_; clear en_))
                    have GB42 := Aside0.mk gb42
                    have GG42 := Aside0.mk HG42
                    clear gb42 gl42 HG42
                    obtain ⟨hx42_0, hf42_0⟩ := Kd.R_celln 0 HO_5.out ((ji39) : Int) p42 q42
                    replace p42 := eq_true p42
                    replace q42 := eq_true q42
                    have HP43 := Kd.R_putg HO_5.out ((ji39) : Int) (bt t272 x11_5)
                    go_wp2_with (first | ((with_reducible refine gate_store (t := 5) (p := 91) rfl ?_); refine store_event (t := 5) (p := 91) (v := ?vo_w44) (w1 := (wr.setCell ⟨go42, ((ji39) : Int).toNat, none⟩ (.int .u8 (bt t272 x11_5)))) ?hg ?ho ?hn ?hr ?_; (case ho => rfl); (case hg => rfl); (case hn => rfl); (case hr => first | (go_simp; done) | (go_simp; rfl)); intro w44 hw; have hg : wr.grownBy w44 (some go42) := (by rw [hw]; exact HP43.2); have hp_ : Kd.R (Kd.int .u8) 5 w44 w.heap.size (fun _ => True) (.slice (some ⟨go42, 0, none⟩) x5_5.length co42) y280 := (by rw [hw, Ny280.out]; exact HP43.1); clear HP43; have n0_ := Aside0.mk (hp_); have n1_ := Aside0.mk (IsS67.grown Z6 hg (IsS67.own_ne HI0.out HO_5.out Z11)); have n2_ := Aside0.mk ((by rw [hw]; exact below_set (HB.out) (Nat.le_trans HL.out GB42.out) : Below w0.heap.size w0 w44)); have n3_ := Aside0.mk (KeepBut.trans Z5 (KeepBut.of_grown hg g) (Kd.R_base2 HO_5.out)); clear HO_5; clear HI0; clear HB; clear HK; have HO_5 := n0_; have HI0 := n1_; have HB := n2_; have HK := n3_; clear n0_ n1_ n2_ n3_; clear hg hw hp_))
                    go_roundg k5
                    case measure => have := HK1.out; have := HJ13.out; have := HJ18.out; have := HJ26.out; have := HK5.out; omega
                    case rel => exact ⟨(y280), (wrap64 (x11_5 + 1)), Z4, H', ⟨by have := HK1.out; have := HJ13.out; have := HJ18.out; have := HJ26.out; have := HK5.out; omega⟩, ⟨Z18⟩, ⟨Z6⟩, ⟨Z5⟩, ⟨by repeat (first | (with_reducible first | exact HB.out | apply below_alloc | apply pw_below_drewN | apply below_drew1 | refine below_set ?_ (IsS67.ge HI0.out)) | exact HB.out)⟩⟩
                   ·
                    rw [if_neg c41] at H
                    exact absurd H Z23
                  ·
                   rw [if_neg c40] at H
                   exact absurd H Z23
                 ·
                  rw [if_neg c37] at H
                  exact absurd H Z23
                ·
                 rw [if_neg c36] at H
                 have c36b0 : decide (x11_5 < (t272.size : Int)) = false := decide_eq_false c36
                 clear c36
                 have H' := Aside0.mk H
                 clear H
                 go_wp2
                 go_roundg k5
                 case measure => have := HK1.out; have := HJ13.out; have := HJ18.out; have := HJ26.out; have := HK5.out; omega
                 case rel => exact ⟨(x5_5), (t262), (wrap64 (x7_1 + 1)), (t277), (t278), (t279), Z4, Z4, H', ⟨by have := HK1.out; have := HJ13.out; have := HJ18.out; have := HJ26.out; have := HK5.out; omega⟩, ⟨Z18⟩, ⟨Z6⟩, ⟨Z5⟩, ⟨by repeat (first | (with_reducible first | exact HB.out | apply below_alloc | apply pw_below_drewN | apply below_drew1 | refine below_set ?_ (IsS67.ge HI0.out)) | exact HB.out)⟩⟩
           ·
            rw [if_neg c26] at H
            have c26b0 : (x1002_18 == 0) = false := beq_eq_false_iff_ne.mpr c26
            have c26b1 : (x1002_18 != 0) = true := bne_iff_ne.mpr c26
            simp only [Option.some.injEq, Prod.mk.injEq] at H
            obtain ⟨rfl, rfl, rfl, rfl⟩ := H
            obtain ⟨HGz45, hgz45⟩ := HI0.out
            have hcz45_0 := cellS67_0 HGz45
            have hcz45_1 := cellS67_1 HGz45
            have hcz45_2 := cellS67_2 HGz45
            have hfz45_0 := blk_frozen HGz45 0
            have hfz45_1 := blk_frozen HGz45 1
            have hfz45_2 := blk_frozen HGz45 2
            clear HGz45 hgz45
            go_wp2
            go_ret
            exact ⟨Z12, Z6, by repeat (first | (with_reducible first | exact HB.out | apply below_alloc | apply pw_below_drewN | apply below_drew1 | refine below_set ?_ (IsS67.ge HI0.out)) | exact HB.out), Z5⟩
        ·
         replace c17 := Bool.eq_false_iff.mpr c17
         subst c17
         have H1 : (some (strOfNums x5_1, x1000_1, x1001_1, x1002_1)) = some (r1, r2, r3, r4) := by rw [if_neg (show ¬ (false = true) by decide)] at H; exact H
         clear H
         have H := H1
         clear H1
         simp only [Option.some.injEq, Prod.mk.injEq] at H
         obtain ⟨rfl, rfl, rfl, rfl⟩ := H
         have hcv46 := own_string (P := Tryz.prog) Tryz.underlying31 Tryz.underlying5 Tryz.underlying9 (Kd.own_of_R HO_5.out)
         go_wp2
         go_ret
         exact ⟨Z12, Z6, by repeat (first | (with_reducible first | exact HB.out | apply below_alloc | apply pw_below_drewN | apply below_drew1 | refine below_set ?_ (IsS67.ge HI0.out)) | exact HB.out), Z5⟩
   ·
    rw [if_neg c7] at H
    exact absurd H Z23
  ·
   rw [if_neg c6] at H
   exact absurd H Z23
 ·
  rw [if_neg c5] at H
  have c5b0 : (t258 == 0) = false := beq_eq_false_iff_ne.mpr c5
  have c5b1 : (t258 != 0) = true := bne_iff_ne.mpr c5
  simp only [Option.some.injEq, Prod.mk.injEq] at H
  obtain ⟨rfl, rfl, rfl, rfl⟩ := H
  go_enter Tryz.func66, Tryz.ntmps66
  go_wp2_with (first | ((with_reducible refine gate_callee (f := 37) rfl ?_); refine goesL_ (some 13) rfl rfl Tryz.func37 Z13 rfl #[.pointer (some ⟨g, 0, none⟩), .int .i64 6] rfl Z7 ?_; (with_reducible refine (r8_Part_get.calls k g s0_0 s0_1 s0_2 6 t248 t249 t250 t251 w0 _ ?side1 ?side2 A2.out).mono ?_); (case side1 => repeat (first | (with_reducible first | exact HI0.out | apply IsS67.alloc | apply IsS67.drewN | apply IsS67.drew | apply IsS67.set_0 | apply IsS67.set_1 | apply IsS67.set_2) | exact HI0.out)); (case side2 => repeat (first | (with_reducible first | exact HB.out | apply below_alloc | apply pw_below_drewN | apply below_drew1 | refine below_set ?_ (IsS67.ge HI0.out)) | exact HB.out)); rintro e w47 ⟨rfl, hi, hb, hk⟩; refine ⟨_, rfl, ?_⟩; have n0_ := Aside0.mk (KeepBut.trans Z5 hk (.inl rfl)); have n1_ := Aside0.mk (hb); have n2_ := Aside0.mk (hi); clear HK; clear HB; clear HI0; have HK := n0_; have HB := n1_; have HI0 := n2_; clear n0_ n1_ n2_; (try clear hb); (try clear hb2); (try clear hk); (try clear hi)) | ((with_reducible refine gate_callee (f := 37) rfl ?_); refine goesL_ (some 15) rfl rfl Tryz.func37 Z13 rfl #[.pointer (some ⟨g, 0, none⟩), .int .i64 4] rfl Z7 ?_; (with_reducible refine (r8_Part_get.calls k g t249 t250 t251 4 t252 t253 t254 t255 w0 _ ?side1 ?side2 A3.out).mono ?_); (case side1 => repeat (first | (with_reducible first | exact HI0.out | apply IsS67.alloc | apply IsS67.drewN | apply IsS67.drew | apply IsS67.set_0 | apply IsS67.set_1 | apply IsS67.set_2) | exact HI0.out)); (case side2 => repeat (first | (with_reducible first | exact HB.out | apply below_alloc | apply pw_below_drewN | apply below_drew1 | refine below_set ?_ (IsS67.ge HI0.out)) | exact HB.out)); rintro e w48 ⟨rfl, hi, hb, hk⟩; refine ⟨_, rfl, ?_⟩; have n0_ := Aside0.mk (KeepBut.trans Z5 hk (.inl rfl)); have n1_ := Aside0.mk (hb); have n2_ := Aside0.mk (hi); clear HK; clear HB; clear HI0; have HK := n0_; have HB := n1_; have HI0 := n2_; clear n0_ n1_ n2_; (try clear hb); (try clear hb2); (try clear hk); (try clear hi)) | ((with_reducible refine gate_callee (f := 36) rfl ?_); refine goesL_ (some 19) rfl rfl Tryz.func36 Z13 rfl #[.pointer (some ⟨g, 0, none⟩), .bool (decide (t248 ≤ 5675264))] rfl Z7 ?_; (with_reducible refine (r8_Part_ask.calls g t253 t254 t255 (decide (t248 ≤ 5675264)) t256 t257 t258 w0 _ ?side1 ?side2 A4.out).mono ?_); (case side1 => repeat (first | (with_reducible first | exact HI0.out | apply IsS67.alloc | apply IsS67.drewN | apply IsS67.drew | apply IsS67.set_0 | apply IsS67.set_1 | apply IsS67.set_2) | exact HI0.out)); (case side2 => repeat (first | (with_reducible first | exact HB.out | apply below_alloc | apply pw_below_drewN | apply below_drew1 | refine below_set ?_ (IsS67.ge HI0.out)) | exact HB.out)); rintro e w49 ⟨rfl, hi, hb, hk⟩; refine ⟨_, rfl, ?_⟩; have n0_ := Aside0.mk (KeepBut.trans Z5 hk (.inl rfl)); have n1_ := Aside0.mk (hb); have n2_ := Aside0.mk (hi); clear HK; clear HB; clear HI0; have HK := n0_; have HB := n1_; have HI0 := n2_; clear n0_ n1_ n2_; (try clear hb); (try clear hb2); (try clear hk); (try clear hi); obtain ⟨HGz50, hgz50⟩ := HI0.out; have hcz50_0 := cellS67_0 HGz50; have hcz50_1 := cellS67_1 HGz50; have hcz50_2 := cellS67_2 HGz50; have hfz50_0 := blk_frozen HGz50 0; have hfz50_1 := blk_frozen HGz50 1; have hfz50_2 := blk_frozen HGz50 2; clear HGz50 hgz50))
  go_ret
  exact ⟨Z12, Z6, by repeat (first | (with_reducible first | exact HB.out | apply below_alloc | apply pw_below_drewN | apply below_drew1 | refine below_set ?_ (IsS67.ge HI0.out)) | exact HB.out), Z5⟩
end Go.Proofs.YtkhblpmjmkhiiaaGreatDoor.PAll
