/- The scrub texts, part Q5: walks through the code that the law reaches. -/
import Derived.Test.YtgpknomegleidaaGreatDoorQ4
import Derived.Test.YtgpknomegleidaaGreatDoorQ1
import Derived.Test.YtgpknomegleidaaGreatDoorQ2
import Derived.WalkKit
import Derived.Laws.BitsLemmas
import Derived.Laws.ShiftsVarLaws
import Derived.Recover
import Derived.WalkLawsBesides
namespace Go.Proofs.YtgpknomegleidaaGreatDoor.T
open Go.RowKit Go.Proofs.YtgpknomegleidaaGreatDoorW.PrintWords Go.Proofs.YtgpknomegleidaaGreatDoorW.PrintLast Go.Proofs.YtgpknomegleidaaGreatDoorW.PrintMore Go.Proofs.YtgpknomegleidaaGreatDoor.PAll
open Go.Proofs.YtgpknomegleidaaGreatDoor.G (Gr byts new_yes put_set body_calls)
set_option linter.unusedSimpArgs false
set_option linter.unusedVariables false

/-- A page that is wanted. -/
structure Wn where
  addr : Nat
  kind : Nat
  ino : Nat
  gen : Nat
  index : Nat
  body : ByteArray
def encW (x : Wn) : List Value := [.int .i64 (x.addr : Int), .int .i64 (x.kind : Int), .int .i64 (x.ino : Int), .int .i64 (x.gen : Int), .int .i64 (x.index : Int), .string x.body]
def WOk (k : Nat) (x : Wn) : Prop := x.addr = 27 + k ∧ x.body.size = 448 ∧ x.kind < 65536 ∧ x.ino < 1000 ∧ x.gen < 1000 ∧ x.index < 1000
theorem infoWant : (Tryz.prog.info? 139).map (fun i => (i.zero, i.size, i.bytes)) = some (some (.agg #[.int .i64 0, .int .i64 0, .int .i64 0, .int .i64 0, .int .i64 0, .string ⟨#[]⟩]), 6, 56) := by kernel_rfl
def low (j : Nat) : Nat → Bool := fun i => decide (i < j)
theorem upd_low (j : Nat) : Go.Proofs.YtgpknomegleidaaGreatDoor.G.upd (low j) (j : Int).toNat true = low (j + 1) := by
  funext i
  unfold Go.Proofs.YtgpknomegleidaaGreatDoor.G.upd low
  rw [Int.toNat_natCast]
  by_cases h : i = j
  · rw [if_pos h, decide_eq_true (by omega)]
  · rw [if_neg h]
    by_cases h2 : i < j
    · rw [decide_eq_true h2, decide_eq_true (by omega)]
    · rw [decide_eq_false h2, decide_eq_false (by omega)]
/-- The pages are as they should be. -/
def WsOk (ws : List Wn) : Prop := (∀ k x, ws[k]? = some x → WOk k x) ∧ ∃ x0, ws[0]? = some x0 ∧ x0.kind = 3 ∧ x0.body = strOfNums (byts (low 37))
theorem WsOk.snoc {ws : List Wn} {x : Wn} (h : WsOk ws) (hx : WOk ws.length x) : WsOk (ws ++ [x]) := by
  obtain ⟨h1, x0, h2, h3⟩ := h
  have hl : 0 < ws.length := by
    rcases Nat.eq_zero_or_pos ws.length with e | e
    · rw [List.eq_nil_of_length_eq_zero e] at h2; cases h2
    · exact e
  refine ⟨fun k y hy => ?_, x0, by rw [List.getElem?_append_left hl]; exact h2, h3⟩
  rcases Nat.lt_trichotomy k ws.length with e | e | e
  · rw [List.getElem?_append_left e] at hy
    exact h1 k y hy
  · subst e
    rw [List.getElem?_append_right (Nat.le_refl _), Nat.sub_self] at hy
    cases hy
    exact hx
  · rw [List.getElem?_eq_none (by rw [List.length_append]; simp only [List.length_cons, List.length_nil]; omega)] at hy
    cases hy
theorem flat_one (x : Wn) : [x].flatMap encW = encW x := by simp
theorem byts_length' (f : Nat → Bool) : (byts f).length = 448 := Go.Proofs.YtgpknomegleidaaGreatDoor.G.byts_length f
theorem wsok_two (b1 b2 : ByteArray) (h1 : b1.size = 448) (h2 : b2.size = 448) (h3 : b1 = strOfNums (byts (low 37))) : WsOk [⟨27, 3, 0, 0, 0, b1⟩, ⟨28, 4, 0, 0, 0, b2⟩] := by
  refine ⟨fun k x hk => ?_, _, rfl, rfl, h3⟩
  match k, hk with
  | 0, hk => cases hk; exact ⟨rfl, h1, (by decide : (3 : Nat) < 65536), (by decide : (0 : Nat) < 1000), (by decide : (0 : Nat) < 1000), (by decide : (0 : Nat) < 1000)⟩
  | 1, hk => cases hk; exact ⟨rfl, h2, (by decide : (4 : Nat) < 65536), (by decide : (0 : Nat) < 1000), (by decide : (0 : Nat) < 1000), (by decide : (0 : Nat) < 1000)⟩
  | k + 2, hk => simp at hk
theorem infoIno : (Tryz.prog.info? 174).map (·.size) = some 18 := by kernel_rfl
theorem load_blk {ops : Array Oper} {rest : List Oper} {op : Oper} {a : Act} {w : World} {Q : Exit → Act → World → Prop} (hgd : op.guard = none) (ty : TypeId) (x : Operand) (ho : op.op = .load ty x) (g : Nat) (t : TypeId) (cs : Array Value) (fr : Nat × Nat) (d : TypeDesc)
    (hx : a.eval x = .pointer (some ⟨g, 0, none⟩)) (hg : w.heap[g]? = some (.cells cs t fr)) (hu : Tryz.prog.underlying ty = some d) (hd : d.isRow = true) (hi : (Tryz.prog.info? ty).map (·.size) = some cs.size)
    (h : wpList Tryz.prog ops Q rest (a.put op.dst (.agg cs)) w) : wpList Tryz.prog ops Q (op :: rest) a w :=
  wpList_load_mid hgd ty x ho g 0 hx cs.toList d (fun j v hv => by rw [Nat.zero_add, cell_of_row w g j cs t fr hg, ← hv, Array.getElem?_toList]) hu hd (by rw [Array.length_toList]; exact hi) (by rw [Array.toArray_toList]; exact h)
def FirstP (w : World) (e : Ending) (w' : World) : Prop := ∃ A c ws, e = .returned (.slice A 10 c) ∧ ws.length = 10 ∧ WsOk ws ∧ w'.ownsRow w.heap.size 139 6 (.slice A 10 c) 10 (ws.flatMap encW) ∧ Below w.heap.size w w'
theorem infoEnt : (Tryz.prog.info? 179).map (·.size) = some 3 := by kernel_rfl
theorem infoEnt3 : (Tryz.prog.info? 179).map (fun i => (i.zero, i.size, i.bytes)) = some (some (.agg #[.string ⟨#[]⟩, .int .i64 0, .int .i64 0]), 3, 32) := by kernel_rfl
/-- Sixteen free slots. -/
def entC : Array Value := madeCells #[.string ⟨#[]⟩, .int .i64 0, .int .i64 0] 48
theorem entC_size : entC.size = 48 := size_madeCells _ _
theorem entC_at (i : Nat) (hi : i < 16) : entC[i * 3]? = some (.string ⟨#[]⟩) ∧ entC[i * 3 + 1]? = some (.int .i64 0) ∧ entC[i * 3 + 2]? = some (.int .i64 0) := by
  have h (k : Nat) (hk : k < 48) : entC[k]? = some ((#[.string ⟨#[]⟩, .int .i64 0, .int .i64 0] : Array Value)[k % 3]!) := by
    simp [entC, madeCells, hk]
  refine ⟨?_, ?_, ?_⟩
  · rw [h _ (by omega), show i * 3 % 3 = 0 by omega]; rfl
  · rw [h _ (by omega), show (i * 3 + 1) % 3 = 1 by omega]; rfl
  · rw [h _ (by omega), show (i * 3 + 2) % 3 = 2 by omega]; rfl
theorem ents_zero : Ents entC := ⟨entC_size, fun i hi => ⟨⟨#[]⟩, 0, 0, (entC_at i hi).1, (entC_at i hi).2.1, (entC_at i hi).2.2, by decide, by decide, by decide, fun _ => ⟨rfl, rfl⟩⟩⟩
theorem ents_lost : Ents ((entC.toList.take 0 ++ [Value.string ⟨#[108, 111, 115, 116, 43, 102, 111, 117, 110, 100]⟩, .int .i64 2, .int .i64 1] ++ entC.toList.drop (0 + ([.string ⟨#[108, 111, 115, 116, 43, 102, 111, 117, 110, 100]⟩, .int .i64 2, .int .i64 1] : List Value).length)).toArray) := by
  have hl : entC.toList.length = 48 := by rw [Array.length_toList, entC_size]
  refine ⟨by simp [hl], fun i hi => ?_⟩
  rcases Nat.eq_zero_or_pos i with rfl | h0
  · exact ⟨⟨#[108, 111, 115, 116, 43, 102, 111, 117, 110, 100]⟩, 2, 1, rfl, rfl, rfl, by decide, by decide, by decide, fun h => by cases h⟩
  · have h (k : Nat) (hk : 3 ≤ k) : ((entC.toList.take 0 ++ [Value.string ⟨#[108, 111, 115, 116, 43, 102, 111, 117, 110, 100]⟩, .int .i64 2, .int .i64 1] ++ entC.toList.drop (0 + ([.string ⟨#[108, 111, 115, 116, 43, 102, 111, 117, 110, 100]⟩, .int .i64 2, .int .i64 1] : List Value).length)).toArray)[k]? = entC[k]? := by
      rw [List.getElem?_toArray, List.take_zero, List.nil_append, List.getElem?_append_right (by exact hk), List.getElem?_drop, ← Array.getElem?_toList]
      congr 1
      show 0 + 3 + (k - 3) = k
      omega
    exact ⟨⟨#[]⟩, 0, 0, (h _ (by omega)).trans (entC_at i hi).1, (h _ (by omega)).trans (entC_at i hi).2.1, (h _ (by omega)).trans (entC_at i hi).2.2, by decide, by decide, by decide, fun _ => ⟨rfl, rfl⟩⟩
theorem own_all3 {W : World} {base : Nat} {e : TypeId} {g n sz : Nat} {xs : List Value} (h : W.ownsRow base e sz (.slice (some ⟨g, 0, none⟩) n n) n xs) : W.heap[g]? = some (.cells xs.toArray e (0, 0)) := by
  rcases h.2 with ⟨h1, _⟩ | ⟨q, cap, cur, hv, _, hq, _, _, hs, ht⟩
  · cases h1
  · injection hv with h1 h2 h3
    injection h1 with h1
    injection h1 with h1
    subst h1
    subst h3
    rw [hq, ← ht, List.take_of_length_le (by rw [Array.length_toList, hs]; exact Nat.le_refl _)]
theorem made_e (w : World) : ∃ w', (Instr.makeSlice 176 (.int .i64 16) (.int .i64 16)).run Tryz.prog w = .ok (.slice (some ⟨w.heap.size, 0, none⟩) 16 16) w' ∧ w'.heap[w.heap.size]? = some (.cells entC 179 (0, 0)) ∧ Below w.heap.size w w' := by
  obtain ⟨i, h1, h2, h3, h4⟩ := info_parts infoEnt3
  obtain ⟨w', hr, ho, hg⟩ := run_make_full (P := Tryz.prog) w 0 176 179 i _ 3 Tryz.underlying176 h1 h2 h3 .i64 .i64 16 (by rw [h4]; decide) (by decide) (Nat.zero_le _)
  refine ⟨w', hr, ?_, grown_none hg⟩
  rw [own_all3 ho]
  rfl
theorem gr_ne {w : World} {base g b q : Nat} {n : Int} {bs : List Int} {cs : Array Value} {t : TypeId} (h : Gr w base g b n bs) (hq : w.heap[q]? = some (.cells cs t (0, 0))) (ht : t ≠ 5) : some q ≠ some b := by
  obtain ⟨cap, e1, e2, e3⟩ := h
  exact Kd.R_ne e3 hq ht.symm
theorem gr_lt {w : World} {base g b : Nat} {n : Int} {bs : List Int} (h : Gr w base g b n bs) : g < w.heap.size ∧ b < w.heap.size := by
  obtain ⟨cap, e1, e2, e3⟩ := h
  exact ⟨blk_lt e1, ((Kd.own_of_R e3).lt b rfl).2⟩
set_option maxHeartbeats 4000000 in
set_option maxRecDepth 100000 in
theorem first_c (w : World) : Calls Tryz.prog 66 #[.agg lay48] w (FirstP w) := by
  have hu26 := Tryz.underlying26
  have hu174 := Tryz.underlying174
  have HB0 := Aside0.mk (below_alloc (Below.refl w.heap.size w) (.cells lay48 26 (0, 0)))
  have HL0 := Aside0.mk (heap_alloc_new w (.cells lay48 26 (0, 0)))
  unfold lay48 at HB0 HL0 ⊢
  go_enter Tryz.func66, Tryz.ntmps66
  go_wp2_with fail
  generalize w.alloc (.cells #[.int .i64 48, .int .i64 2, .int .i64 3, .int .i64 27, .int .i64 28, .int .i64 29, .int .i64 6, .int .i64 35, .int .i64 1, .int .i64 36, .int .i64 37, .int .i64 48, .int .i64 49, .int .i64 1, .int .i64 50, .int .i64 98] 26 (0, 0)) = w1 at HB0 HL0 ⊢
  have HL0' : Aside0 (w1.heap[w.heap.size]? = some (.cells lay48 26 (0, 0))) := ⟨HL0.out⟩
  clear HL0
  have HL0 := HL0'
  clear HL0'
  refine (new_yes w1 48 (by decide) (by decide)).mono ?_
  rintro e w2 ⟨gA, bA, rfl, hgr, hb⟩
  obtain ⟨B, hB⟩ : ∃ B, B = w.heap.size := ⟨_, rfl⟩
  have HBB := Aside0.mk hB
  rw [← hB] at HL0 ⊢
  clear hB
  have HG2 := Aside0.mk (show Gr w2 w.heap.size gA bA 48 (byts (low 0)) from by
    have : low 0 = fun _ => false := by funext i; exact decide_eq_false (by omega)
    rw [this]
    exact hgr.lower HB0.out.size)
  have HL2 := Aside0.mk (blk_below HL0.out hb)
  have HB2 := Aside0.mk (below_then HB0.out HB0.out.size hb)
  clear hgr hb HB0 HL0
  have x10 : w2.cell? ⟨B, 10, none⟩ = some (.int .i64 37) := (blk_cell HL2.out 10).trans rfl
  go_wp2_with fail
  clear x10
  go_loopw [29] (fun i wq => ∃ j : Nat, j ≤ 37 ∧ i = .int .i64 j ∧ Aside0 (Gr wq w.heap.size gA bA 48 (byts (low j))) ∧ Aside0 (wq.heap[B]? = some (.cells lay48 26 (0, 0))) ∧ Aside0 (Below w.heap.size w wq)) (fun i _ => 37 - (intOf i).toNat)
  case atStart => exact ⟨0, by decide, rfl, HG2, HL2, HB2⟩
  case round =>
    clear HG2 HL2 HB2
    obtain ⟨j, hj, rfl, HG, HL, HB⟩ := hrel
    by_cases hlt : j < 37
    · have HJ := Aside0.mk hlt
      have w4_ : wrap64 ((j : Int) + 1) = (j : Int) + 1 := w64 (by omega) (by omega)
      have e0 : decide ((j : Int) < 37) = true := decide_eq_true (by omega)
      clear hlt hj
      go_wp2_with fail
      refine (put_set wr w.heap.size gA bA 48 (j : Int) (low j) HG.out (by omega) (by have := HJ.out; omega) (by decide)).mono ?_
      rintro e w3 ⟨rfl, h1, h2⟩
      rw [upd_low] at h1
      have HG3 := Aside0.mk h1
      have HL3 := Aside0.mk (blk_grown HL.out h2 (gr_ne HG.out HL.out (by decide)))
      have HB3 := Aside0.mk (HB.out.grown h2 HB.out.size (fun q hq => by injection hq with hq; rw [← hq]; exact HG.out.bge))
      clear h1 h2 HG HL HB
      go_wp2_with fail
      go_roundw
      case rel => exact ⟨j + 1, HJ.out, by rw [w4_]; rfl, HG3, HL3, HB3⟩
      case measure =>
        have := HJ.out
        rw [w4_]
        simp only [intOf]
        omega
    · have : j = 37 := by omega
      subst this
      have e0 : decide (((37 : Nat) : Int) < 37) = false := rfl
      have x6 : wr.cell? ⟨B, 6, none⟩ = some (.int .i64 6) := (blk_cell HL.out 6).trans rfl
      clear hlt hj
      go_wp2_with fail
      refine (new_yes wr 6 (by decide) (by decide)).mono ?_
      rintro e w3 ⟨gC, bC, rfl, hgr, hb⟩
      have HGA := Aside0.mk (HG.out.below hb)
      have HGC := Aside0.mk hgr
      have HNE : Aside0 (bC ≠ gA ∧ bC ≠ bA) := ⟨by
        have h1 := hgr.bge
        have h2 := gr_lt HG.out
        omega⟩
      have HL3 := Aside0.mk (blk_below HL.out hb)
      have HB3 := Aside0.mk (below_then HB.out HB.out.size hb)
      have HW := Aside0.mk HB.out.size
      clear hgr hb HG HL HB x6
      go_wp2_with fail
      refine (put_set w3 wr.heap.size gC bC 6 0 _ HGC.out (by decide) (by decide) (by decide)).mono ?_
      rintro e w4 ⟨rfl, h1, h2⟩
      have HGA4 := Aside0.mk (HGA.out.grown h2 (by intro e; injection e with e; exact HNE.out.1 e.symm) (by intro e; injection e with e; exact HNE.out.2 e.symm))
      have HL4 := Aside0.mk (blk_grown HL3.out h2 (gr_ne HGC.out HL3.out (by decide)))
      have HB4 := Aside0.mk (HB3.out.grown h2 HB3.out.size (fun q hq => by injection hq with hq; rw [← hq]; exact Nat.le_trans HW.out HGC.out.bge))
      have HGC4 := Aside0.mk h1
      clear h1 h2 HGA HGC HL3 HB3
      go_wp2_with fail
      refine (put_set w4 wr.heap.size gC bC 6 1 _ HGC4.out (by decide) (by decide) (by decide)).mono ?_
      rintro e w5 ⟨rfl, h1, h2⟩
      have HGA := Aside0.mk (HGA4.out.grown h2 (by intro e; injection e with e; exact HNE.out.1 e.symm) (by intro e; injection e with e; exact HNE.out.2 e.symm))
      have HL := Aside0.mk (blk_grown HL4.out h2 (gr_ne HGC4.out HL4.out (by decide)))
      have HB := Aside0.mk (HB4.out.grown h2 HB4.out.size (fun q hq => by injection hq with hq; rw [← hq]; exact Nat.le_trans HW.out HGC4.out.bge))
      have HGC := Aside0.mk h1
      clear h1 h2 HGA4 HGC4 HL4 HB4
      go_wp2_with fail
      generalize Go.Proofs.YtgpknomegleidaaGreatDoor.G.upd _ _ _ = fC at HGC
      -- REGION10
      refine start_ (n := 12) (S := fun w' => w'.heap[B]? = some (.cells lay48 26 (0, 0))) (ds := []) #[false, false, false, false, false, false, false, false, false, false, false, false] (by kernel_rfl) rfl rfl (show w5.drew.heap[B]? = _ from HL.out) (fun hHeld => ?_)
      have HGA' := Aside0.mk (show Gr w5.drew w.heap.size gA bA 48 (byts (low 37)) from HGA.out)
      have HGC' := Aside0.mk (show Gr w5.drew wr.heap.size gC bC 6 (byts fC) from HGC.out)
      have HB' := Aside0.mk (below_drew HB.out)
      clear HGA HGC HB HL
      have HGA := HGA'
      have HGC := HGC'
      have HB := HB'
      clear HGA' HGC' HB'
      generalize w5.drew = wd at HGA HGC HB hHeld ⊢
      refine pure_ (i := 0) (N := some 46) (v := ?_) (a' := ?_) #[true, false, false, false, false, false, false, false, false, false, false, false] rfl rfl (by kernel_rfl) (fun _ _ _ h => h) (Or.inl ⟨by rfl, ?_⟩) ?_ ?_
      rotate_left; · intro w'; go_simp; with_reducible rfl
      rotate_left; · simp only [Act.put, List.setIfInBounds_toArray, List.set_cons_zero, List.set_cons_succ, i64_w, i32_w]; rfl
      refine take_ (i := 1) (N := some 47) (v := ?_) (a' := ?_) #[true, true, false, false, false, false, false, false, false, false, false, false] rfl rfl (by kernel_rfl) (fun _ _ _ h => h) (Or.inl ⟨by rfl, ?_⟩) hHeld ?_ ?_
      rotate_left; · rintro w' hS; have d3 : w'.cell? ⟨B, 3, none⟩ = some (.int .i64 27) := (blk_cell hS 3).trans rfl; go_simp; with_reducible rfl
      rotate_left; · simp only [Act.put, List.setIfInBounds_toArray, List.set_cons_zero, List.set_cons_succ, i64_w, i32_w]; rfl
      refine pure_ (i := 2) (N := some 48) (v := ?_) (a' := ?_) #[true, true, true, false, false, false, false, false, false, false, false, false] rfl rfl (by kernel_rfl) (fun _ _ _ h => h) (Or.inl ⟨by rfl, ?_⟩) ?_ ?_
      rotate_left; · intro w'; go_simp; with_reducible rfl
      rotate_left; · simp only [Act.put, List.setIfInBounds_toArray, List.set_cons_zero, List.set_cons_succ, i64_w, i32_w]; rfl
      refine pure_ (i := 5) (N := some 51) (v := ?_) (a' := ?_) #[true, true, true, false, false, true, false, false, false, false, false, false] rfl rfl (by kernel_rfl) (fun _ _ _ h => h) (Or.inl ⟨by rfl, ?_⟩) ?_ ?_
      rotate_left; · intro w'; go_simp; with_reducible rfl
      rotate_left; · simp only [Act.put, List.setIfInBounds_toArray, List.set_cons_zero, List.set_cons_succ, i64_w, i32_w]; rfl
      refine take_ (i := 6) (N := some 52) (v := ?_) (a' := ?_) #[true, true, true, false, false, true, true, false, false, false, false, false] rfl rfl (by kernel_rfl) (fun _ _ _ h => h) (Or.inl ⟨by rfl, ?_⟩) hHeld ?_ ?_
      rotate_left; · rintro w' hS; have d4 : w'.cell? ⟨B, 4, none⟩ = some (.int .i64 28) := (blk_cell hS 4).trans rfl; go_simp; with_reducible rfl
      rotate_left; · simp only [Act.put, List.setIfInBounds_toArray, List.set_cons_zero, List.set_cons_succ, i64_w, i32_w]; rfl
      refine pure_ (i := 7) (N := some 53) (v := ?_) (a' := ?_) #[true, true, true, false, false, true, true, true, false, false, false, false] rfl rfl (by kernel_rfl) (fun _ _ _ h => h) (Or.inl ⟨by rfl, ?_⟩) ?_ ?_
      rotate_left; · intro w'; go_simp; with_reducible rfl
      rotate_left; · simp only [Act.put, List.setIfInBounds_toArray, List.set_cons_zero, List.set_cons_succ, i64_w, i32_w]; rfl
      refine one_ (i := 3) (N := some 49) #[true, true, true, true, false, true, true, true, false, false, false, false] rfl rfl (by kernel_rfl) (by decide) (fun K hK => ?_)
      refine goes_ Tryz.func90 (by kernel_rfl) rfl #[.pointer (some ⟨gA, 0, none⟩)] (by rfl) rfl rfl (by (try simp only [List.map_toArray, List.map_cons, List.map_nil]); first | done | rfl) ?_
      refine (body_calls wd w.heap.size gA bA 48 (byts (low 37)) HGA.out).mono ?_
      rintro e w6 ⟨rfl, rfl⟩
      refine ⟨_, rfl, ?_⟩
      refine hK.out _ _ hHeld (fun hHeld => ?_)
      clear hK K
      refine norm_ (a' := ?_) ?_ ?_
      rotate_left; · show Act.put _ (some 49) _ = _; simp only [Act.put, List.setIfInBounds_toArray, List.set_cons_zero, List.set_cons_succ, i64_w, i32_w]; rfl
      refine pure_ (i := 4) (N := some 50) (v := ?_) (a' := ?_) #[true, true, true, true, true, true, true, true, false, false, false, false] rfl rfl (by kernel_rfl) (fun _ _ _ h => h) (Or.inl ⟨by rfl, ?_⟩) ?_ ?_
      rotate_left; · intro w'; go_simp; with_reducible rfl
      rotate_left; · simp only [Act.put, List.setIfInBounds_toArray, List.set_cons_zero, List.set_cons_succ, i64_w, i32_w]; rfl
      refine one_ (i := 8) (N := some 54) #[true, true, true, true, true, true, true, true, true, false, false, false] rfl rfl (by kernel_rfl) (by decide) (fun K hK => ?_)
      refine goes_ Tryz.func90 (by kernel_rfl) rfl #[.pointer (some ⟨gC, 0, none⟩)] (by rfl) rfl rfl (by (try simp only [List.map_toArray, List.map_cons, List.map_nil]); first | done | rfl) ?_
      refine (body_calls wd wr.heap.size gC bC 6 (byts fC) HGC.out).mono ?_
      rintro e w6 ⟨rfl, rfl⟩
      refine ⟨_, rfl, ?_⟩
      refine hK.out _ _ hHeld (fun hHeld => ?_)
      clear hK K
      refine norm_ (a' := ?_) ?_ ?_
      rotate_left; · show Act.put _ (some 54) _ = _; simp only [Act.put, List.setIfInBounds_toArray, List.set_cons_zero, List.set_cons_succ, i64_w, i32_w]; rfl
      refine pure_ (i := 9) (N := some 55) (v := ?_) (a' := ?_) #[true, true, true, true, true, true, true, true, true, true, false, false] rfl rfl (by kernel_rfl) (fun _ _ _ h => h) (Or.inl ⟨by rfl, ?_⟩) ?_ ?_
      rotate_left; · intro w'; go_simp; with_reducible rfl
      rotate_left; · simp only [Act.put, List.setIfInBounds_toArray, List.set_cons_zero, List.set_cons_succ, i64_w, i32_w]; rfl
      refine one_ (i := 10) (N := some 56) #[true, true, true, true, true, true, true, true, true, true, true, false] rfl rfl (by kernel_rfl) (by decide) (fun K hK => ?_)
      refine gives_ (w1 := wd.alloc (.cells #[.int .i64 27, .int .i64 3, .int .i64 0, .int .i64 0, .int .i64 0, .string (strOfNums (byts (low 37))), .int .i64 28, .int .i64 4, .int .i64 0, .int .i64 0, .int .i64 0, .string (strOfNums (byts fC))] 139 (0, 0))) (by rfl) rfl (by first | (go_simp; done) | (go_simp; rfl)) ?_
      refine hK.out _ _ (blk_alloc hHeld _) (fun hHeld => ?_)
      clear hK K
      refine norm_ (a' := ?_) ?_ ?_
      rotate_left; · show Act.put _ (some 56) _ = _; simp only [Act.put, List.setIfInBounds_toArray, List.set_cons_zero, List.set_cons_succ, i64_w, i32_w]; rfl
      refine pure_ (i := 11) (N := some 8) (v := ?_) (a' := ?_) #[true, true, true, true, true, true, true, true, true, true, true, true] rfl rfl (by kernel_rfl) (fun _ _ _ h => h) (Or.inl ⟨by rfl, ?_⟩) ?_ ?_
      rotate_left; · intro w'; go_simp; with_reducible rfl
      rotate_left; · simp only [Act.put, List.setIfInBounds_toArray, List.set_cons_zero, List.set_cons_succ, i64_w, i32_w]; rfl
      refine done_ (by kernel_rfl) ?_
      have HB6 := Aside0.mk (below_alloc HB.out (.cells #[.int .i64 27, .int .i64 3, .int .i64 0, .int .i64 0, .int .i64 0, .string (strOfNums (byts (low 37))), .int .i64 28, .int .i64 4, .int .i64 0, .int .i64 0, .int .i64 0, .string (strOfNums (byts fC))] 139 (0, 0)))
      have HL6 := Aside0.mk hHeld
      have HR6 := Aside0.mk (heap_alloc_new wd (.cells #[.int .i64 27, .int .i64 3, .int .i64 0, .int .i64 0, .int .i64 0, .string (strOfNums (byts (low 37))), .int .i64 28, .int .i64 4, .int .i64 0, .int .i64 0, .int .i64 0, .string (strOfNums (byts fC))] 139 (0, 0)))
      have HWD := Aside0.mk HB.out.size
      clear HGA HGC HB hHeld
      generalize wd.alloc (.cells #[.int .i64 27, .int .i64 3, .int .i64 0, .int .i64 0, .int .i64 0, .string (strOfNums (byts (low 37))), .int .i64 28, .int .i64 4, .int .i64 0, .int .i64 0, .int .i64 0, .string (strOfNums (byts fC))] 139 (0, 0)) = w6 at HB6 HL6 HR6 ⊢
      generalize hsA : strOfNums (byts (low 37)) = sA at HR6 ⊢
      generalize hsC : strOfNums (byts fC) = sC at HR6 ⊢
      have HSA := Aside0.mk hsA
      have HSC := Aside0.mk hsC
      clear hsA hsC
      -- END10
      go_wp2_with fail
      -- LOOP2
      go_loopw [8, 9] (fun x i' wq => ∃ (q : Nat) (ws : List Wn), q ≤ 6 ∧ i' = .int .i64 ((q + 1 : Nat) : Int) ∧ Aside0 (ws.length = 2 + q) ∧ Aside0 (WsOk ws) ∧ Aside0 (wq.ownsRow w.heap.size 139 6 x ws.length (ws.flatMap encW)) ∧ Aside0 (wq.heap[B]? = some (.cells lay48 26 (0, 0))) ∧ Aside0 (Below w.heap.size w wq)) (fun _ i' _ => 7 - (intOf i').toNat)
      case atStart => exact ⟨0, [⟨27, 3, 0, 0, 0, sA⟩, ⟨28, 4, 0, 0, 0, sC⟩], by decide, rfl, ⟨rfl⟩, ⟨wsok_two _ _ (by rw [← HSA.out, strOfNums_size, byts_length']) (by rw [← HSC.out, strOfNums_size, byts_length']) HSA.out.symm⟩, ⟨⟨rfl, .inr ⟨wd.heap.size, 2, _, rfl, HWD.out, HR6.out, Nat.le_refl _, by decide, rfl, rfl⟩⟩⟩, HL6, HB6⟩
      case round =>
        clear HL6 HB6 HR6
        obtain ⟨q, ws, hq, rfl, HLN, HWS, HR, HL, HB⟩ := hrel
        obtain ⟨A1, c1, ev⟩ := own_sliceN HR.out
        subst ev
        obtain ⟨m, hm⟩ : ∃ m, m = ws.length := ⟨_, rfl⟩
        rw [← hm] at HR ⊢
        have HLM := Aside0.mk hm
        have HM := Aside0.mk (show m ≤ 100 by have := HLN.out; omega)
        obtain ⟨r, hr⟩ : ∃ r, r = q + 1 := ⟨_, rfl⟩
        obtain ⟨a, ha⟩ : ∃ a, a = 29 + q := ⟨_, rfl⟩
        rw [← hr]
        have HA := Aside0.mk (show r = q + 1 ∧ a = 29 + q ∧ q ≤ 6 from ⟨hr, ha, hq⟩)
        have HA4 := Aside0.mk (show (r : Int) + 1 = ((q + 1 + 1 : Nat) : Int) by omega)
        have x6 : wr.cell? ⟨B, 6, none⟩ = some (.int .i64 6) := (blk_cell HL.out 6).trans rfl
        by_cases hlt : q < 6
        · have HJ := Aside0.mk hlt
          have w4_ : wrap64 ((r : Int) + 1) = (r : Int) + 1 := w64 (by omega) (by omega)
          have w5_ : wrap64 (29 + (r : Int)) = 29 + (r : Int) := w64 (by omega) (by omega)
          have w6_ : wrap64 (29 + (r : Int) - 1) = (a : Int) := by rw [w64 (by omega) (by omega)]; omega
          have e0 : decide ((r : Int) ≤ 6) = true := decide_eq_true (by omega)
          have e0' : decide (r ≤ 6) = true := decide_eq_true (by omega)
          rcases Nat.lt_trichotomy q 1 with h1 | h1 | h1
          · have hr1 : r = 1 := by omega
            have e1 : ((r : Int) == 1) = true := by rw [hr1]; rfl
            clear hlt hq hr ha h1 hr1 hm
            go_upto_region 17 with (first | ((with_reducible refine gate_dst (N := 10) rfl ?_); refine box_event ?hg (N := 10) ?hd (cs := (#[.int .i64 0, .int .i64 0, .int .i64 0, .int .i64 0, .int .i64 0, .int .i64 0, .int .i64 0, .int .i64 0, .int .i64 0, .int .i64 0, .int .i64 0, .int .i64 0, .int .i64 0, .int .i64 0, .int .i64 0, .int .i64 0, .int .i64 0, .int .i64 0] : Array Value)) (t := 174) ?hr ?_; (case hd => rfl); (case hg => rfl); (case hr => first | (go_simp; done) | (go_simp; rfl)); intro gi hgi w7 hbox hb; have HGC := Aside0.mk hbox; have HWI := Aside0.mk hb; have HGI := Aside0.mk (Nat.le_of_eq hgi.symm : wr.heap.size ≤ gi); clear hgi hbox hb) | ((with_reducible refine gate_store (t := 174) rfl ?_); refine store_at rfl _ _ _ rfl gi 0 174 _ ([.int .i64 0, .int .i64 0, .int .i64 0, .int .i64 0, .int .i64 0, .int .i64 0, .int .i64 0, .int .i64 0, .int .i64 0, .int .i64 0, .int .i64 0, .int .i64 0, .int .i64 0, .int .i64 0, .int .i64 0, .int .i64 0, .int .i64 0, .int .i64 0] : List Value) infoIno HGC.out (Nat.le_of_ble_eq_true rfl) (by first | (go_simp; done) | (go_simp; rfl)) (by first | (go_simp; done) | (go_simp; rfl)) (by intro u hu; simp only [List.mem_cons, List.not_mem_nil, or_false] at hu; rcases hu with rfl | rfl | rfl | rfl | rfl | rfl | rfl | rfl | rfl | rfl | rfl | rfl | rfl | rfl | rfl | rfl | rfl | rfl <;> rfl) ?_; intro ws0 hs hgr; have n1_ : Aside0 (ws0.heap[gi]? = some (.cells (#[.int .i64 0, .int .i64 0, .int .i64 0, .int .i64 0, .int .i64 0, .int .i64 0, .int .i64 0, .int .i64 0, .int .i64 0, .int .i64 0, .int .i64 0, .int .i64 0, .int .i64 0, .int .i64 0, .int .i64 0, .int .i64 0, .int .i64 0, .int .i64 0] : Array Value) 174 (0, 0))) := ⟨hs⟩; have n2_ := Aside0.mk (HWI.out.grown hgr HWI.out.size (fun k hk => by injection hk with hk; rw [← hk]; exact HGI.out)); clear HGC HWI hs hgr; have HGC := n1_; have HWI := n2_; clear n1_ n2_))
            go_upto_region 18 with ((with_reducible refine gate_store (t := 174) rfl ?_); refine store_at rfl _ _ _ rfl gi 0 174 _ ([.int .i64 2, .int .i64 1, .int .i64 448, .int .i64 1, .int .i64 0, .int .i64 0, .int .i64 0, .int .i64 0, .int .i64 0, .int .i64 0, .int .i64 0, .int .i64 0, .int .i64 0, .int .i64 0, .int .i64 0, .int .i64 0, .int .i64 0, .int .i64 0] : List Value) infoIno HGC.out (Nat.le_of_ble_eq_true rfl) (by first | (go_simp; done) | (go_simp; rfl)) (by first | (go_simp; done) | (go_simp; rfl)) (by intro u hu; simp only [List.mem_cons, List.not_mem_nil, or_false] at hu; rcases hu with rfl | rfl | rfl | rfl | rfl | rfl | rfl | rfl | rfl | rfl | rfl | rfl | rfl | rfl | rfl | rfl | rfl | rfl <;> rfl) ?_; intro ws1 hs hgr; have n1_ : Aside0 (ws1.heap[gi]? = some (.cells (#[.int .i64 2, .int .i64 1, .int .i64 448, .int .i64 1, .int .i64 0, .int .i64 0, .int .i64 0, .int .i64 0, .int .i64 0, .int .i64 0, .int .i64 0, .int .i64 0, .int .i64 0, .int .i64 0, .int .i64 0, .int .i64 0, .int .i64 0, .int .i64 0] : Array Value) 174 (0, 0))) := ⟨hs⟩; have n2_ := Aside0.mk (HWI.out.grown hgr HWI.out.size (fun k hk => by injection hk with hk; rw [← hk]; exact HGI.out)); clear HGC HWI hs hgr; have HGC := n1_; have HWI := n2_; clear n1_ n2_)
            have x9 : ws1.cell? ⟨B, 9, none⟩ = some (.int .i64 36) := (blk_cell (blk_below HL.out HWI.out) 9).trans rfl
            have x4 : ws1.cell? ⟨gi, 4, none⟩ = some (.int .i64 0) := (blk_cell HGC.out 4).trans rfl
            have f4 := blk_frozen HGC.out 4
            go_upto_region 26 with fail
            have n1_ : Aside0 ((ws1.setCell ⟨gi, 4, none⟩ (.int .i64 36)).heap[gi]? = some (.cells (#[.int .i64 2, .int .i64 1, .int .i64 448, .int .i64 1, .int .i64 36, .int .i64 0, .int .i64 0, .int .i64 0, .int .i64 0, .int .i64 0, .int .i64 0, .int .i64 0, .int .i64 0, .int .i64 0, .int .i64 0, .int .i64 0, .int .i64 0, .int .i64 0] : Array Value) 174 (0, 0))) := ⟨blk_put HGC.out 4 _ rfl⟩
            have n2_ := Aside0.mk (HWI.out.setCell (p := ⟨gi, 4, none⟩) HGI.out (.int .i64 36))
            clear HGC HWI x9 x4 f4
            have HGC := n1_
            have HWI := n2_
            clear n1_ n2_
            generalize ws1.setCell ⟨gi, 4, none⟩ (.int .i64 36) = w7 at HGC HWI ⊢
            go_wp2_with ((with_reducible refine gate_dst (N := 92) rfl ?_); refine load_blk rfl 174 (.tmp 10) rfl gi 174 (#[.int .i64 2, .int .i64 1, .int .i64 448, .int .i64 1, .int .i64 36, .int .i64 0, .int .i64 0, .int .i64 0, .int .i64 0, .int .i64 0, .int .i64 0, .int .i64 0, .int .i64 0, .int .i64 0, .int .i64 0, .int .i64 0, .int .i64 0, .int .i64 0] : Array Value) (0, 0) _ rfl HGC.out hu174 rfl infoIno ?_)
            refine (inode_c 2 1 448 1 0 0 [36, 0, 0, 0, 0, 0, 0, 0, 0, 0, 0, 0] 36 0 0 0 0 0 0 0 0 0 0 0 rfl _ (by decide) (by decide) (by decide) (by decide) (by decide) (by decide) (by decide)).mono ?_
            rintro e w8 ⟨s, rfl, hs, hb⟩
            have HS := Aside0.mk hs
            have HW8 := Aside0.mk (below_then HWI.out HWI.out.size hb)
            have HL8 := Aside0.mk (blk_below (blk_below HL.out HWI.out) hb)
            have HR8 := Aside0.mk (pw_own_below (pw_own_below HR.out HWI.out) hb)
            clear hs hb
            have x5 : w8.cell? ⟨B, 5, none⟩ = some (.int .i64 29) := (blk_cell HL8.out 5).trans rfl
            have HLE := Aside0.mk (show w.heap.size ≤ w8.heap.size from Nat.le_trans HB.out.size HW8.out.size)
            obtain ⟨i0, hi, hz0, hz1, hz2⟩ := info_parts infoWant
            have HRA := Aside0.mk (pw_own_below HR8.out (below_alloc (Below.refl w8.heap.size w8) (.cells (encW ⟨a, 5, r, 1, 0, s⟩).toArray 139 (0, 0))))
            have HNC := Aside0.mk (new_cells w8 (encW ⟨a, 5, r, 1, 0, s⟩) 139)
            have HSZ := Aside0.mk (show w.heap.size ≤ (w8.alloc (.cells (encW ⟨a, 5, r, 1, 0, s⟩).toArray 139 (0, 0))).heap.size by rw [alloc_sz]; have := HLE.out; omega)
            go_wp2_with (at_builtin; go_loud (refine wpList_append_own_wide (w8.alloc (.cells (encW ⟨a, 5, r, 1, 0, s⟩).toArray 139 (0, 0))) rfl (.tmp 96) (.tmp 106) 136 rfl w.heap.size 139 i0 _ 6 56 Tryz.underlying136 hi hz0 hz1 hz2 rfl (by decide) (.slice A1 m c1) m _ rfl HRA.out ⟨w8.heap.size, 0, none⟩ 1 1 (encW ⟨a, 5, r, 1, 0, s⟩) rfl rfl HNC.out (by intro q hq; simp only [encW, List.mem_cons, List.not_mem_nil, or_false] at hq; rcases hq with rfl | rfl | rfl | rfl | rfl | rfl <;> rfl) (by have := HM.out; unfold maxLen; omega) (by have := HM.out; omega) HSZ.out ?_); intro v1 w9 ho hg _; have HQ := Aside0.mk ho; have HG := Aside0.mk hg; obtain ⟨A2, c2, e2⟩ := own_sliceN ho; subst e2; clear ho hg x5)
            have hW := below_alloc (Below.refl w8.heap.size w8) (.cells (encW ⟨a, 5, r, 1, 0, s⟩).toArray 139 (0, 0))
            have HB9 : Aside0 (Below w.heap.size w w9) := ⟨(below_then (below_then HB.out HB.out.size HW8.out) (Nat.le_trans HB.out.size HW8.out.size) hW).trans (below_own HRA.out HG.out (Nat.le_refl _) HSZ.out)⟩
            have HL9 := Aside0.mk (blk_grown (blk_below HL8.out hW) HG.out (own_ne2 HRA.out (blk_below HL8.out hW) (by decide)))
            have HWS9 : Aside0 (WsOk (ws ++ [⟨a, 5, r, 1, 0, s⟩])) := ⟨HWS.out.snoc ⟨by have := HA.out; have := HLN.out; show a = 27 + ws.length; omega, HS.out, (by decide : (5:Nat) < 65536), by have := HA.out; show r < 1000; omega, (by decide : (1 : Nat) < 1000), (by decide : (0 : Nat) < 1000)⟩⟩
            clear hW HG HRA HNC
            go_roundw
            case rel => exact ⟨q + 1, ws ++ [⟨a, 5, r, 1, 0, s⟩], HJ.out, by rw [w4_, HA4.out], ⟨by rw [List.length_append, HLN.out]; show 2 + q + 1 = _; omega⟩, HWS9, ⟨by rw [List.flatMap_append, List.length_append, ← HLM.out, flat_one]; exact HQ.out⟩, HL9, HB9⟩
            case measure =>
              have := HJ.out
              have h4 := HA4.out
              have h5 := HA.out
              rw [w4_, h4]
              simp only [intOf, Int.toNat_natCast]
              omega
          · have e1 : ((r : Int) == 1) = false := beq_eq_false_iff_ne.mpr (by omega)
            have hr1 : r = 2 := by omega
            have e2 : ((r : Int) == 2) = true := by rw [hr1]; rfl
            clear hlt hq hr ha h1 hr1 hm
            go_upto_region 20 with (first | ((with_reducible refine gate_dst (N := 10) rfl ?_); refine box_event ?hg (N := 10) ?hd (cs := (#[.int .i64 0, .int .i64 0, .int .i64 0, .int .i64 0, .int .i64 0, .int .i64 0, .int .i64 0, .int .i64 0, .int .i64 0, .int .i64 0, .int .i64 0, .int .i64 0, .int .i64 0, .int .i64 0, .int .i64 0, .int .i64 0, .int .i64 0, .int .i64 0] : Array Value)) (t := 174) ?hr ?_; (case hd => rfl); (case hg => rfl); (case hr => first | (go_simp; done) | (go_simp; rfl)); intro gi hgi w7 hbox hb; have HGC := Aside0.mk hbox; have HWI := Aside0.mk hb; have HGI := Aside0.mk (Nat.le_of_eq hgi.symm : wr.heap.size ≤ gi); clear hgi hbox hb) | ((with_reducible refine gate_store (t := 174) rfl ?_); refine store_at rfl _ _ _ rfl gi 0 174 _ ([.int .i64 0, .int .i64 0, .int .i64 0, .int .i64 0, .int .i64 0, .int .i64 0, .int .i64 0, .int .i64 0, .int .i64 0, .int .i64 0, .int .i64 0, .int .i64 0, .int .i64 0, .int .i64 0, .int .i64 0, .int .i64 0, .int .i64 0, .int .i64 0] : List Value) infoIno HGC.out (Nat.le_of_ble_eq_true rfl) (by first | (go_simp; done) | (go_simp; rfl)) (by first | (go_simp; done) | (go_simp; rfl)) (by intro u hu; simp only [List.mem_cons, List.not_mem_nil, or_false] at hu; rcases hu with rfl | rfl | rfl | rfl | rfl | rfl | rfl | rfl | rfl | rfl | rfl | rfl | rfl | rfl | rfl | rfl | rfl | rfl <;> rfl) ?_; intro ws0 hs hgr; have n1_ : Aside0 (ws0.heap[gi]? = some (.cells (#[.int .i64 0, .int .i64 0, .int .i64 0, .int .i64 0, .int .i64 0, .int .i64 0, .int .i64 0, .int .i64 0, .int .i64 0, .int .i64 0, .int .i64 0, .int .i64 0, .int .i64 0, .int .i64 0, .int .i64 0, .int .i64 0, .int .i64 0, .int .i64 0] : Array Value) 174 (0, 0))) := ⟨hs⟩; have n2_ := Aside0.mk (HWI.out.grown hgr HWI.out.size (fun k hk => by injection hk with hk; rw [← hk]; exact HGI.out)); clear HGC HWI hs hgr; have HGC := n1_; have HWI := n2_; clear n1_ n2_))
            have x8 : ws0.cell? ⟨B, 8, none⟩ = some (.int .i64 1) := (blk_cell (blk_below HL.out HWI.out) 8).trans rfl
            go_upto_region 21 with ((with_reducible refine gate_store (t := 174) rfl ?_); refine store_at rfl _ _ _ rfl gi 0 174 _ ([.int .i64 2, .int .i64 1, .int .i64 448, .int .i64 1, .int .i64 0, .int .i64 0, .int .i64 0, .int .i64 0, .int .i64 0, .int .i64 0, .int .i64 0, .int .i64 0, .int .i64 0, .int .i64 0, .int .i64 0, .int .i64 0, .int .i64 0, .int .i64 0] : List Value) infoIno HGC.out (Nat.le_of_ble_eq_true rfl) (by first | (go_simp; done) | (go_simp; rfl)) (by first | (go_simp; done) | (go_simp; rfl)) (by intro u hu; simp only [List.mem_cons, List.not_mem_nil, or_false] at hu; rcases hu with rfl | rfl | rfl | rfl | rfl | rfl | rfl | rfl | rfl | rfl | rfl | rfl | rfl | rfl | rfl | rfl | rfl | rfl <;> rfl) ?_; intro ws1 hs hgr; have n1_ : Aside0 (ws1.heap[gi]? = some (.cells (#[.int .i64 2, .int .i64 1, .int .i64 448, .int .i64 1, .int .i64 0, .int .i64 0, .int .i64 0, .int .i64 0, .int .i64 0, .int .i64 0, .int .i64 0, .int .i64 0, .int .i64 0, .int .i64 0, .int .i64 0, .int .i64 0, .int .i64 0, .int .i64 0] : Array Value) 174 (0, 0))) := ⟨hs⟩; have n2_ := Aside0.mk (HWI.out.grown hgr HWI.out.size (fun k hk => by injection hk with hk; rw [← hk]; exact HGI.out)); clear HGC HWI hs hgr; have HGC := n1_; have HWI := n2_; clear n1_ n2_)
            clear x8
            have x8 : ws1.cell? ⟨B, 8, none⟩ = some (.int .i64 1) := (blk_cell (blk_below HL.out HWI.out) 8).trans rfl
            go_wp2_with fail
            clear x8
            go_loopw [80] (fun i' wq => ∃ k : Nat, k ≤ 1 ∧ i' = .int .i64 (k : Int) ∧ Aside0 (wq.heap[gi]? = some (.cells (if k = 0 then #[.int .i64 2, .int .i64 1, .int .i64 448, .int .i64 1, .int .i64 0, .int .i64 0, .int .i64 0, .int .i64 0, .int .i64 0, .int .i64 0, .int .i64 0, .int .i64 0, .int .i64 0, .int .i64 0, .int .i64 0, .int .i64 0, .int .i64 0, .int .i64 0] else #[.int .i64 2, .int .i64 1, .int .i64 448, .int .i64 1, .int .i64 35, .int .i64 0, .int .i64 0, .int .i64 0, .int .i64 0, .int .i64 0, .int .i64 0, .int .i64 0, .int .i64 0, .int .i64 0, .int .i64 0, .int .i64 0, .int .i64 0, .int .i64 0] : Array Value) 174 (0, 0))) ∧ Aside0 (Below wr.heap.size wr wq)) (fun i' _ => 1 - (intOf i').toNat)
            case atStart => exact ⟨0, by decide, rfl, ⟨by rw [if_pos rfl]; exact HGC.out⟩, HWI⟩
            case round =>
              clear HGC HWI
              obtain ⟨k, hk, rfl, HGC, HWI⟩ := hrel
              rcases Nat.eq_zero_or_pos k with hk0 | hk0
              · subst hk0
                have n1_ : Aside0 (wr.heap[gi]? = some (.cells (#[.int .i64 2, .int .i64 1, .int .i64 448, .int .i64 1, .int .i64 0, .int .i64 0, .int .i64 0, .int .i64 0, .int .i64 0, .int .i64 0, .int .i64 0, .int .i64 0, .int .i64 0, .int .i64 0, .int .i64 0, .int .i64 0, .int .i64 0, .int .i64 0] : Array Value) 174 (0, 0))) := ⟨by have := HGC.out; rw [if_pos rfl] at this; exact this⟩
                clear HGC
                have HGC := n1_
                clear n1_ hk
                rw [show ((0 : Nat) : Int) = 0 from rfl]
                have x7 : wr.cell? ⟨B, 7, none⟩ = some (.int .i64 35) := (blk_cell (blk_below HL.out HWI.out) 7).trans rfl
                have x4 : wr.cell? ⟨gi, 4, none⟩ = some (.int .i64 0) := (blk_cell HGC.out 4).trans rfl
                have f4 := blk_frozen HGC.out 4
                go_wp2_with fail
                have n1_ : Aside0 ((wr.setCell ⟨gi, 4, none⟩ (.int .i64 35)).heap[gi]? = some (.cells (#[.int .i64 2, .int .i64 1, .int .i64 448, .int .i64 1, .int .i64 35, .int .i64 0, .int .i64 0, .int .i64 0, .int .i64 0, .int .i64 0, .int .i64 0, .int .i64 0, .int .i64 0, .int .i64 0, .int .i64 0, .int .i64 0, .int .i64 0, .int .i64 0] : Array Value) 174 (0, 0))) := ⟨blk_put HGC.out 4 _ rfl⟩
                have n2_ := Aside0.mk (HWI.out.setCell (p := ⟨gi, 4, none⟩) HGI.out (.int .i64 35))
                clear HGC HWI x7 x4 f4
                have HGC := n1_
                have HWI := n2_
                clear n1_ n2_
                generalize wr.setCell ⟨gi, 4, none⟩ (.int .i64 35) = w7 at HGC HWI ⊢
                go_roundw
                case rel => exact ⟨1, Nat.le_refl _, rfl, ⟨by rw [if_neg (by decide)]; exact HGC.out⟩, HWI⟩
                case measure => simp [intOf]
              · have hk1 : k = 1 := by omega
                subst hk1
                have n1_ : Aside0 (wr.heap[gi]? = some (.cells (#[.int .i64 2, .int .i64 1, .int .i64 448, .int .i64 1, .int .i64 35, .int .i64 0, .int .i64 0, .int .i64 0, .int .i64 0, .int .i64 0, .int .i64 0, .int .i64 0, .int .i64 0, .int .i64 0, .int .i64 0, .int .i64 0, .int .i64 0, .int .i64 0] : Array Value) 174 (0, 0))) := ⟨by have := HGC.out; rw [if_neg (by decide)] at this; exact this⟩
                clear HGC
                have HGC := n1_
                clear n1_ hk hk0
                rw [show ((1 : Nat) : Int) = 1 from rfl]
                go_wp2_with ((with_reducible refine gate_dst (N := 92) rfl ?_); refine load_blk rfl 174 (.tmp 10) rfl gi 174 (#[.int .i64 2, .int .i64 1, .int .i64 448, .int .i64 1, .int .i64 35, .int .i64 0, .int .i64 0, .int .i64 0, .int .i64 0, .int .i64 0, .int .i64 0, .int .i64 0, .int .i64 0, .int .i64 0, .int .i64 0, .int .i64 0, .int .i64 0, .int .i64 0] : Array Value) (0, 0) _ rfl HGC.out hu174 rfl infoIno ?_)
                clear HGC
                refine (inode_c 2 1 448 1 0 0 [35, 0, 0, 0, 0, 0, 0, 0, 0, 0, 0, 0] 35 0 0 0 0 0 0 0 0 0 0 0 rfl _ (by decide) (by decide) (by decide) (by decide) (by decide) (by decide) (by decide)).mono ?_
                rintro e w8 ⟨s, rfl, hs, hb⟩
                have HS := Aside0.mk hs
                have HW8 := Aside0.mk (below_then HWI.out HWI.out.size hb)
                have HL8 := Aside0.mk (blk_below (blk_below HL.out HWI.out) hb)
                have HR8 := Aside0.mk (pw_own_below (pw_own_below HR.out HWI.out) hb)
                clear hs hb
                have x5 : w8.cell? ⟨B, 5, none⟩ = some (.int .i64 29) := (blk_cell HL8.out 5).trans rfl
                have HLE := Aside0.mk (show w.heap.size ≤ w8.heap.size from Nat.le_trans HB.out.size HW8.out.size)
                obtain ⟨i0, hi, hz0, hz1, hz2⟩ := info_parts infoWant
                have HRA := Aside0.mk (pw_own_below HR8.out (below_alloc (Below.refl w8.heap.size w8) (.cells (encW ⟨a, 5, r, 1, 0, s⟩).toArray 139 (0, 0))))
                have HNC := Aside0.mk (new_cells w8 (encW ⟨a, 5, r, 1, 0, s⟩) 139)
                have HSZ := Aside0.mk (show w.heap.size ≤ (w8.alloc (.cells (encW ⟨a, 5, r, 1, 0, s⟩).toArray 139 (0, 0))).heap.size by rw [alloc_sz]; have := HLE.out; omega)
                go_wp2_with (at_builtin; go_loud (refine wpList_append_own_wide (w8.alloc (.cells (encW ⟨a, 5, r, 1, 0, s⟩).toArray 139 (0, 0))) rfl (.tmp 96) (.tmp 106) 136 rfl w.heap.size 139 i0 _ 6 56 Tryz.underlying136 hi hz0 hz1 hz2 rfl (by decide) (.slice A1 m c1) m _ rfl HRA.out ⟨w8.heap.size, 0, none⟩ 1 1 (encW ⟨a, 5, r, 1, 0, s⟩) rfl rfl HNC.out (by intro q hq; simp only [encW, List.mem_cons, List.not_mem_nil, or_false] at hq; rcases hq with rfl | rfl | rfl | rfl | rfl | rfl <;> rfl) (by have := HM.out; unfold maxLen; omega) (by have := HM.out; omega) HSZ.out ?_); intro v1 w9 ho hg _; have HQ := Aside0.mk ho; have HG := Aside0.mk hg; obtain ⟨A2, c2, e2⟩ := own_sliceN ho; subst e2; clear ho hg x5)
                have hW := below_alloc (Below.refl w8.heap.size w8) (.cells (encW ⟨a, 5, r, 1, 0, s⟩).toArray 139 (0, 0))
                have HB9 : Aside0 (Below w.heap.size w w9) := ⟨(below_then (below_then HB.out HB.out.size HW8.out) (Nat.le_trans HB.out.size HW8.out.size) hW).trans (below_own HRA.out HG.out (Nat.le_refl _) HSZ.out)⟩
                have HL9 := Aside0.mk (blk_grown (blk_below HL8.out hW) HG.out (own_ne2 HRA.out (blk_below HL8.out hW) (by decide)))
                have HWS9 : Aside0 (WsOk (ws ++ [⟨a, 5, r, 1, 0, s⟩])) := ⟨HWS.out.snoc ⟨by have := HA.out; have := HLN.out; show a = 27 + ws.length; omega, HS.out, (by decide : (5:Nat) < 65536), by have := HA.out; show r < 1000; omega, (by decide : (1 : Nat) < 1000), (by decide : (0 : Nat) < 1000)⟩⟩
                clear hW HG HRA HNC
                go_roundw
                case rel => exact ⟨q + 1, ws ++ [⟨a, 5, r, 1, 0, s⟩], HJ.out, by rw [w4_, HA4.out], ⟨by rw [List.length_append, HLN.out]; show 2 + q + 1 = _; omega⟩, HWS9, ⟨by rw [List.flatMap_append, List.length_append, ← HLM.out, flat_one]; exact HQ.out⟩, HL9, HB9⟩
                case measure =>
                  have := HJ.out
                  have h4 := HA4.out
                  have h5 := HA.out
                  rw [w4_, h4]
                  simp only [intOf, Int.toNat_natCast]
                  omega
          · have e1 : ((r : Int) == 1) = false := beq_eq_false_iff_ne.mpr (by omega)
            have e2 : ((r : Int) == 2) = false := beq_eq_false_iff_ne.mpr (by omega)
            clear hlt hq hr ha h1 hm
            go_wp2_with (first | ((with_reducible refine gate_dst (N := 10) rfl ?_); refine box_event ?hg (N := 10) ?hd (cs := (#[.int .i64 0, .int .i64 0, .int .i64 0, .int .i64 0, .int .i64 0, .int .i64 0, .int .i64 0, .int .i64 0, .int .i64 0, .int .i64 0, .int .i64 0, .int .i64 0, .int .i64 0, .int .i64 0, .int .i64 0, .int .i64 0, .int .i64 0, .int .i64 0] : Array Value)) (t := 174) ?hr ?_; (case hd => rfl); (case hg => rfl); (case hr => first | (go_simp; done) | (go_simp; rfl)); intro gi hgi w7 hbox hb; have HGC := Aside0.mk hbox; have HWI := Aside0.mk hb; have HGI := Aside0.mk (Nat.le_of_eq hgi.symm : wr.heap.size ≤ gi); clear hgi hbox hb) | ((with_reducible refine gate_store (t := 174) rfl ?_); refine store_at rfl _ _ _ rfl gi 0 174 _ ([.int .i64 0, .int .i64 0, .int .i64 0, .int .i64 0, .int .i64 0, .int .i64 0, .int .i64 0, .int .i64 0, .int .i64 0, .int .i64 0, .int .i64 0, .int .i64 0, .int .i64 0, .int .i64 0, .int .i64 0, .int .i64 0, .int .i64 0, .int .i64 0] : List Value) infoIno HGC.out (Nat.le_of_ble_eq_true rfl) (by first | (go_simp; done) | (go_simp; rfl)) (by first | (go_simp; done) | (go_simp; rfl)) (by intro u hu; simp only [List.mem_cons, List.not_mem_nil, or_false] at hu; rcases hu with rfl | rfl | rfl | rfl | rfl | rfl | rfl | rfl | rfl | rfl | rfl | rfl | rfl | rfl | rfl | rfl | rfl | rfl <;> rfl) ?_; intro ws0 hs hgr; have n1_ : Aside0 (ws0.heap[gi]? = some (.cells (#[.int .i64 0, .int .i64 0, .int .i64 0, .int .i64 0, .int .i64 0, .int .i64 0, .int .i64 0, .int .i64 0, .int .i64 0, .int .i64 0, .int .i64 0, .int .i64 0, .int .i64 0, .int .i64 0, .int .i64 0, .int .i64 0, .int .i64 0, .int .i64 0] : Array Value) 174 (0, 0))) := ⟨hs⟩; have n2_ := Aside0.mk (HWI.out.grown hgr HWI.out.size (fun k hk => by injection hk with hk; rw [← hk]; exact HGI.out)); clear HGC HWI hs hgr; have HGC := n1_; have HWI := n2_; clear n1_ n2_) | ((with_reducible refine gate_dst (N := 92) rfl ?_); refine load_blk rfl 174 (.tmp 10) rfl gi 174 (#[.int .i64 0, .int .i64 0, .int .i64 0, .int .i64 0, .int .i64 0, .int .i64 0, .int .i64 0, .int .i64 0, .int .i64 0, .int .i64 0, .int .i64 0, .int .i64 0, .int .i64 0, .int .i64 0, .int .i64 0, .int .i64 0, .int .i64 0, .int .i64 0] : Array Value) (0, 0) _ rfl HGC.out hu174 rfl infoIno ?_))
            clear HGC
            refine (inode_c 0 0 0 0 0 0 [0, 0, 0, 0, 0, 0, 0, 0, 0, 0, 0, 0] 0 0 0 0 0 0 0 0 0 0 0 0 rfl _ (by decide) (by decide) (by decide) (by decide) (by decide) (by decide) (by decide)).mono ?_
            rintro e w8 ⟨s, rfl, hs, hb⟩
            have HS := Aside0.mk hs
            have HW8 := Aside0.mk (below_then HWI.out HWI.out.size hb)
            have HL8 := Aside0.mk (blk_below (blk_below HL.out HWI.out) hb)
            have HR8 := Aside0.mk (pw_own_below (pw_own_below HR.out HWI.out) hb)
            clear hs hb
            have x5 : w8.cell? ⟨B, 5, none⟩ = some (.int .i64 29) := (blk_cell HL8.out 5).trans rfl
            have HLE := Aside0.mk (show w.heap.size ≤ w8.heap.size from Nat.le_trans HB.out.size HW8.out.size)
            obtain ⟨i0, hi, hz0, hz1, hz2⟩ := info_parts infoWant
            have HRA := Aside0.mk (pw_own_below HR8.out (below_alloc (Below.refl w8.heap.size w8) (.cells (encW ⟨a, 5, r, 0, 0, s⟩).toArray 139 (0, 0))))
            have HNC := Aside0.mk (new_cells w8 (encW ⟨a, 5, r, 0, 0, s⟩) 139)
            have HSZ := Aside0.mk (show w.heap.size ≤ (w8.alloc (.cells (encW ⟨a, 5, r, 0, 0, s⟩).toArray 139 (0, 0))).heap.size by rw [alloc_sz]; have := HLE.out; omega)
            go_wp2_with (at_builtin; go_loud (refine wpList_append_own_wide (w8.alloc (.cells (encW ⟨a, 5, r, 0, 0, s⟩).toArray 139 (0, 0))) rfl (.tmp 96) (.tmp 106) 136 rfl w.heap.size 139 i0 _ 6 56 Tryz.underlying136 hi hz0 hz1 hz2 rfl (by decide) (.slice A1 m c1) m _ rfl HRA.out ⟨w8.heap.size, 0, none⟩ 1 1 (encW ⟨a, 5, r, 0, 0, s⟩) rfl rfl HNC.out (by intro q hq; simp only [encW, List.mem_cons, List.not_mem_nil, or_false] at hq; rcases hq with rfl | rfl | rfl | rfl | rfl | rfl <;> rfl) (by have := HM.out; unfold maxLen; omega) (by have := HM.out; omega) HSZ.out ?_); intro v1 w9 ho hg _; have HQ := Aside0.mk ho; have HG := Aside0.mk hg; obtain ⟨A2, c2, e2⟩ := own_sliceN ho; subst e2; clear ho hg x5)
            have hW := below_alloc (Below.refl w8.heap.size w8) (.cells (encW ⟨a, 5, r, 0, 0, s⟩).toArray 139 (0, 0))
            have HB9 : Aside0 (Below w.heap.size w w9) := ⟨(below_then (below_then HB.out HB.out.size HW8.out) (Nat.le_trans HB.out.size HW8.out.size) hW).trans (below_own HRA.out HG.out (Nat.le_refl _) HSZ.out)⟩
            have HL9 := Aside0.mk (blk_grown (blk_below HL8.out hW) HG.out (own_ne2 HRA.out (blk_below HL8.out hW) (by decide)))
            have HWS9 : Aside0 (WsOk (ws ++ [⟨a, 5, r, 0, 0, s⟩])) := ⟨HWS.out.snoc ⟨by have := HA.out; have := HLN.out; show a = 27 + ws.length; omega, HS.out, (by decide : (5:Nat) < 65536), by have := HA.out; show r < 1000; omega, (by decide : (0 : Nat) < 1000), (by decide : (0 : Nat) < 1000)⟩⟩
            clear hW HG HRA HNC
            go_roundw
            case rel => exact ⟨q + 1, ws ++ [⟨a, 5, r, 0, 0, s⟩], HJ.out, by rw [w4_, HA4.out], ⟨by rw [List.length_append, HLN.out]; show 2 + q + 1 = _; omega⟩, HWS9, ⟨by rw [List.flatMap_append, List.length_append, ← HLM.out, flat_one]; exact HQ.out⟩, HL9, HB9⟩
            case measure =>
              have := HJ.out
              have h4 := HA4.out
              have h5 := HA.out
              rw [w4_, h4]
              simp only [intOf, Int.toNat_natCast]
              omega
        ·
          -- TAIL
          have hq6 : q = 6 := by omega
          have hm8 : m = 8 := by have := HLN.out; omega
          have hr7 : r = 7 := by omega
          subst hm8
          subst hr7
          have e0 : decide (((7 : Nat) : Int) ≤ 6) = false := rfl
          have HLN8 : Aside0 (ws.length = 8) := ⟨HLM.out.symm⟩
          clear hlt hq hr ha hm hq6
          rw [show ((7 : Nat) : Int) = 7 from rfl]
          have hrun := made_e wr
          obtain ⟨w2', hr, he, hb⟩ := hrun
          have x8 : w2'.cell? ⟨B, 8, none⟩ = some (.int .i64 1) := (blk_cell (blk_below HL.out hb) 8).trans rfl
          have HE := Aside0.mk he
          have HGE := Aside0.mk HB.out.size
          have HB2 := Aside0.mk (below_then HB.out HB.out.size hb)
          have HL2 := Aside0.mk (blk_below HL.out hb)
          have HR2 := Aside0.mk (pw_own_below HR.out hb)
          clear he hb
          go_wp2_with fail
          clear hr x8 x6 HR HL HB HA HA4
          generalize wr.heap.size = ge at HE HGE ⊢
          go_loopw [8, 111] (fun x i' wq => ∃ (k : Nat) (ws : List Wn), k ≤ 1 ∧ i' = .int .i64 (k : Int) ∧ Aside0 (ws.length = 8 + k) ∧ Aside0 (WsOk ws) ∧ Aside0 (wq.ownsRow w.heap.size 139 6 x (8 + k) (ws.flatMap encW)) ∧ Aside0 (wq.heap[B]? = some (.cells lay48 26 (0, 0)) ∧ wq.heap[ge]? = some (.cells entC 179 (0, 0))) ∧ Aside0 (Below w.heap.size w wq)) (fun _ i' _ => 1 - (intOf i').toNat)
          case atStart => exact ⟨0, ws, by decide, rfl, HLN8, HWS, HR2, ⟨HL2.out, HE.out⟩, HB2⟩
          case round =>
            clear HR2 HL2 HE HB2 HWS HLN8 HLN
            obtain ⟨k, ws, hk, rfl, HLN, HWS, HR, HLE, HB⟩ := hrel
            obtain ⟨A3, c3, ev3⟩ := own_sliceN HR.out
            subst ev3
            rcases Nat.eq_zero_or_pos k with hk0 | hk0
            · subst hk0
              rw [show ((0 : Nat) : Int) = 0 from rfl]
              clear hk
              go_wp2_with fail
              refine (sbody_c ge entC wr HLE.out.2 ents_zero).mono ?_
              rintro e w3 ⟨s, rfl, hs, hb⟩
              have HS := Aside0.mk hs
              have HB3 := Aside0.mk (below_then HB.out HB.out.size hb)
              have HLE3 := Aside0.mk (And.intro (blk_below HLE.out.1 hb) (blk_below HLE.out.2 hb))
              have HR3 := Aside0.mk (pw_own_below HR.out hb)
              have x7 : w3.cell? ⟨B, 7, none⟩ = some (.int .i64 35) := (blk_cell HLE3.out.1 7).trans rfl
              clear hs hb HB HLE HR
              obtain ⟨i0, hi, hz0, hz1, hz2⟩ := info_parts infoWant
              have HRA := Aside0.mk (pw_own_below HR3.out (below_alloc (Below.refl w3.heap.size w3) (.cells (encW ⟨35, 6, 2, 1, 0, s⟩).toArray 139 (0, 0))))
              have HNC := Aside0.mk (new_cells w3 (encW ⟨35, 6, 2, 1, 0, s⟩) 139)
              have HSZ := Aside0.mk (show w.heap.size ≤ (w3.alloc (.cells (encW ⟨35, 6, 2, 1, 0, s⟩).toArray 139 (0, 0))).heap.size by rw [alloc_sz]; have := HB3.out.size; omega)
              go_wp2_with (at_builtin; go_loud (refine wpList_append_own_wide (w3.alloc (.cells (encW ⟨35, 6, 2, 1, 0, s⟩).toArray 139 (0, 0))) rfl (.tmp 119) (.tmp 127) 136 rfl w.heap.size 139 i0 _ 6 56 Tryz.underlying136 hi hz0 hz1 hz2 rfl (by decide) (.slice A3 8 c3) 8 _ rfl HRA.out ⟨w3.heap.size, 0, none⟩ 1 1 (encW ⟨35, 6, 2, 1, 0, s⟩) rfl rfl HNC.out (by intro q hq; simp only [encW, List.mem_cons, List.not_mem_nil, or_false] at hq; rcases hq with rfl | rfl | rfl | rfl | rfl | rfl <;> rfl) (by decide) (by decide) HSZ.out ?_); intro v1 w9 ho hg _; have HQ := Aside0.mk ho; have HG := Aside0.mk hg; obtain ⟨A2, c2, e2⟩ := own_sliceN ho; subst e2; clear ho hg)
              have hW := below_alloc (Below.refl w3.heap.size w3) (.cells (encW ⟨35, 6, 2, 1, 0, s⟩).toArray 139 (0, 0))
              have HB9 : Aside0 (Below w.heap.size w w9) := ⟨(below_then HB3.out HB3.out.size hW).trans (below_own HRA.out HG.out (Nat.le_refl _) HSZ.out)⟩
              have HWS9 : Aside0 (WsOk (ws ++ [⟨35, 6, 2, 1, 0, s⟩])) := ⟨HWS.out.snoc ⟨by rw [HLN.out], HS.out, (by decide : (6:Nat) < 65536), (by decide : (2 : Nat) < 1000), (by decide : (1 : Nat) < 1000), (by decide : (0 : Nat) < 1000)⟩⟩
              clear x7
              have HLE9 := Aside0.mk (And.intro (blk_grown (blk_below HLE3.out.1 hW) HG.out (own_ne2 HRA.out (blk_below HLE3.out.1 hW) (by decide))) (blk_grown (blk_below HLE3.out.2 hW) HG.out (own_ne2 HRA.out (blk_below HLE3.out.2 hW) (by decide))))
              clear hW HG HRA HNC
              go_roundw
              case rel => exact ⟨1, ws ++ [⟨35, 6, 2, 1, 0, s⟩], Nat.le_refl _, rfl, ⟨by rw [List.length_append, HLN.out]; rfl⟩, HWS9, ⟨by rw [List.flatMap_append, flat_one]; exact HQ.out⟩, HLE9, HB9⟩
              case measure => simp [intOf]
            · have hk1 : k = 1 := by omega
              subst hk1
              rw [show ((1 : Nat) : Int) = 1 from rfl]
              clear hk hk0
              go_upto_region 36 with ((with_reducible refine gate_store (t := 179) rfl ?_); refine store_at rfl _ _ _ rfl ge 0 179 entC [.string ⟨#[108, 111, 115, 116, 43, 102, 111, 117, 110, 100]⟩, .int .i64 2, .int .i64 1] infoEnt HLE.out.2 (by rw [entC_size]; decide) (by first | (go_simp; done) | (go_simp; rfl)) (by first | (go_simp; done) | (go_simp; rfl)) (by intro u hu; simp only [List.mem_cons, List.not_mem_nil, or_false] at hu; rcases hu with rfl | rfl | rfl <;> rfl) ?_; intro ws0 hs hgr; have HEN := Aside0.mk hs; have HGR := Aside0.mk hgr; clear hs hgr)
              have HB4 := Aside0.mk (HB.out.grown HGR.out HB.out.size (fun k hk => by injection hk with hk; rw [← hk]; exact HGE.out))
              have HL4 := Aside0.mk (blk_grown HLE.out.1 HGR.out (by intro e; injection e with e; exact blk_ne_type HLE.out.1 HLE.out.2 (by decide) e))
              have HR4 := Aside0.mk (HR.out.kept HGR.out (own_not (own_ne2 HR.out HLE.out.2 (by decide))))
              clear HB HLE HR HGR
              go_wp2_with fail
              refine (sbody_c ge _ ws0 HEN.out ents_lost).mono ?_
              rintro e w3 ⟨s, rfl, hs, hb⟩
              have HS := Aside0.mk hs
              have HB3 := Aside0.mk (below_then HB4.out HB4.out.size hb)
              have HL3 := Aside0.mk (blk_below HL4.out hb)
              have HR3 := Aside0.mk (pw_own_below HR4.out hb)
              have x9 : w3.cell? ⟨B, 9, none⟩ = some (.int .i64 36) := (blk_cell HL3.out 9).trans rfl
              clear hs hb HB4 HL4 HR4 HEN
              obtain ⟨i0, hi, hz0, hz1, hz2⟩ := info_parts infoWant
              have HRA := Aside0.mk (pw_own_below HR3.out (below_alloc (Below.refl w3.heap.size w3) (.cells (encW ⟨36, 6, 1, 1, 0, s⟩).toArray 139 (0, 0))))
              have HNC := Aside0.mk (new_cells w3 (encW ⟨36, 6, 1, 1, 0, s⟩) 139)
              have HSZ := Aside0.mk (show w.heap.size ≤ (w3.alloc (.cells (encW ⟨36, 6, 1, 1, 0, s⟩).toArray 139 (0, 0))).heap.size by rw [alloc_sz]; have := HB3.out.size; omega)
              go_wp2_with (at_builtin; go_loud (refine wpList_append_own_wide (w3.alloc (.cells (encW ⟨36, 6, 1, 1, 0, s⟩).toArray 139 (0, 0))) rfl (.tmp 138) (.tmp 143) 136 rfl w.heap.size 139 i0 _ 6 56 Tryz.underlying136 hi hz0 hz1 hz2 rfl (by decide) (.slice A3 9 c3) 9 _ rfl HRA.out ⟨w3.heap.size, 0, none⟩ 1 1 (encW ⟨36, 6, 1, 1, 0, s⟩) rfl rfl HNC.out (by intro q hq; simp only [encW, List.mem_cons, List.not_mem_nil, or_false] at hq; rcases hq with rfl | rfl | rfl | rfl | rfl | rfl <;> rfl) (by decide) (by decide) HSZ.out ?_); intro v1 w9 ho hg _; have HQ := Aside0.mk ho; have HG := Aside0.mk hg; obtain ⟨A2, c2, e2⟩ := own_sliceN ho; subst e2; clear ho hg)
              have hW := below_alloc (Below.refl w3.heap.size w3) (.cells (encW ⟨36, 6, 1, 1, 0, s⟩).toArray 139 (0, 0))
              have HB9 : Aside0 (Below w.heap.size w w9) := ⟨(below_then HB3.out HB3.out.size hW).trans (below_own HRA.out HG.out (Nat.le_refl _) HSZ.out)⟩
              have HWS9 : Aside0 (WsOk (ws ++ [⟨36, 6, 1, 1, 0, s⟩])) := ⟨HWS.out.snoc ⟨by rw [HLN.out], HS.out, (by decide : (6:Nat) < 65536), (by decide : (1 : Nat) < 1000), (by decide : (1 : Nat) < 1000), (by decide : (0 : Nat) < 1000)⟩⟩
              clear x9
              go_ret
              obtain ⟨g2, hg2⟩ := own_some HQ.out (by decide)
              exact ⟨A2, c2, ws ++ [⟨36, 6, 1, 1, 0, s⟩], rfl, by rw [List.length_append, HLN.out]; rfl, HWS9.out, by rw [List.flatMap_append, flat_one]; exact HQ.out, HB9.out⟩
          -- ENDTAIL
      -- ENDLOOP2
end Go.Proofs.YtgpknomegleidaaGreatDoor.T
namespace Go.Proofs.YtgpknomegleidaaGreatDoor.T
open Go.RowKit Go.Proofs.YtgpknomegleidaaGreatDoorW.PrintWords Go.Proofs.YtgpknomegleidaaGreatDoorW.PrintLast Go.Proofs.YtgpknomegleidaaGreatDoorW.PrintMore Go.Proofs.YtgpknomegleidaaGreatDoor.PAll
open Go.Maps (Keyed)
set_option linter.unusedSimpArgs false
set_option linter.unusedVariables false

set_option maxHeartbeats 1000000 in
set_option maxRecDepth 100000 in
theorem vOpen_c (w : World) (v i bh bs N : Nat) (f : Lit → Nat) (salt : Int) (nonce ad s c : ByteArray) (kl : Lit) (h : Vlt w v i bh bs N f) (hN : N < 1000000) (hk : keyOf Tryz.prog 158 (keyV salt nonce ad s) = some kl)
    (hz : s.size ≤ 100000) (hc : c = s ++ ⟨(tagB (f kl)).toArray⟩) (h0 : f kl ≠ 0) (hle : f kl ≤ N) (s0 : 0 ≤ salt) (s1 : salt < 281474976710656) (hn : nonce.size = 12) :
    Calls Tryz.prog 41 #[.pointer (some ⟨v, 0, none⟩), .int .i64 salt, .string nonce, .string ad, .string c] w fun e w' => e = .returned (.tuple #[.string s, .int .i64 0]) ∧ Below w.heap.size w w' := by
  have HA := Aside0.mk (vnone_c w v i bh bs N f h)
  have HW := Aside0.mk (wrong_c w salt nonce s0 s1 hn)
  have HI := Aside0.mk (iopen_c w v i bh bs N f salt nonce ad s c kl h hN hk hz hc h0 hle)
  have hts : (⟨(tagB (f kl)).toArray⟩ : ByteArray).size = 16 := by rw [mk_size, tagB, List.length_append, le_length]; rfl
  have d0 : decide ((c.size : Int) < 16) = false := decide_eq_false (by rw [hc, ByteArray.size_append, hts]; omega)
  have c0 : w.cell? ⟨v, 0, none⟩ = some (.pointer none) := (blk_cell h.vb 0).trans rfl
  have c1 : w.cell? ⟨v, 1, none⟩ = some (.pointer (some ⟨i, 0, none⟩)) := (blk_cell h.vb 1).trans rfl
  clear h hN hz h0 s0 s1 hn hk hc hts hle
  go_enter Tryz.func41, Tryz.ntmps41
  go_wp2_with fail
  refine HA.out.mono ?_
  rintro e w1 ⟨rfl, rfl⟩
  go_wp2_with fail
  refine HW.out.mono ?_
  rintro e w1 ⟨rfl, rfl⟩
  go_wp2_with fail
  refine HI.out.mono ?_
  rintro e w2 ⟨rfl, h1⟩
  have HE := Aside0.mk h1
  clear h1 c0 c1
  go_wp2_with fail
  go_ret2
  exact ⟨rfl, HE.out⟩
end Go.Proofs.YtgpknomegleidaaGreatDoor.T
namespace Go.Proofs.YtgpknomegleidaaGreatDoor.T
set_option linter.unusedSimpArgs false
set_option linter.unusedVariables false

theorem wraps_u32' (n : Int) (h₀ : 0 ≤ n) (h₁ : n < 2 ^ 32) : IntKind.u32.wrap n = n := by rw [IntKind.wrap_u32]; omega
theorem wraps_i64' (n : Int) (h₀ : 0 ≤ n) (h₁ : n < 2 ^ 63) : IntKind.i64.wrap n = n := by rw [IntKind.wrap_i64]; omega
theorem bits_xor_nat (k : IntKind) (j : Nat) (hj : j ≤ k.bits) (hk : ∀ n : Int, 0 ≤ n → n < 2 ^ j → k.wrap n = n) (a b : Nat) (ha : a < 2 ^ j) (hb : b < 2 ^ j) :
    bits .xor k a b = ((a ^^^ b : Nat) : Int) := by
  have hp : 2 ^ j ≤ 2 ^ k.bits := Nat.pow_le_pow_right (by decide) hj
  have ha' : a % 2 ^ k.bits = a := Nat.mod_eq_of_lt (Nat.lt_of_lt_of_le ha hp)
  have hb' : b % 2 ^ k.bits = b := Nat.mod_eq_of_lt (Nat.lt_of_lt_of_le hb hp)
  simp only [bits, BitVec.ofInt_natCast, BitVec.toNat_xor, BitVec.toNat_ofNat, ha', hb']
  exact hk _ (Int.natCast_nonneg _) (by exact_mod_cast Nat.xor_lt_two_pow ha hb)
theorem u32_xor (a b : Nat) (ha : a < 4294967296) (hb : b < 4294967296) : bits .xor .u32 (a : Int) (b : Int) = ((a ^^^ b : Nat) : Int) := bits_xor_nat .u32 32 (by decide) wraps_u32' a b ha hb
theorem u32_and (a b : Nat) (ha : a < 4294967296) (hb : b < 4294967296) : bits .and .u32 (a : Int) (b : Int) = ((a &&& b : Nat) : Int) := (bits_nat .u32 32 (by decide) wraps_u32' a b ha hb).1
theorem u32_or (a b : Nat) (ha : a < 4294967296) (hb : b < 4294967296) : bits .or .u32 (a : Int) (b : Int) = ((a ||| b : Nat) : Int) := (bits_nat .u32 32 (by decide) wraps_u32' a b ha hb).2
theorem i64_xor (a b : Nat) (ha : a < 9223372036854775808) (hb : b < 9223372036854775808) : bits .xor .i64 (a : Int) (b : Int) = ((a ^^^ b : Nat) : Int) := bits_xor_nat .i64 63 (by decide) wraps_i64' a b ha hb
theorem i64_and (a b : Nat) (ha : a < 9223372036854775808) (hb : b < 9223372036854775808) : bits .and .i64 (a : Int) (b : Int) = ((a &&& b : Nat) : Int) := (bits_nat .i64 63 (by decide) wraps_i64' a b ha hb).1
theorem i64_or (a b : Nat) (ha : a < 9223372036854775808) (hb : b < 9223372036854775808) : bits .or .i64 (a : Int) (b : Int) = ((a ||| b : Nat) : Int) := (bits_nat .i64 63 (by decide) wraps_i64' a b ha hb).2
theorem xor_lt32 {a b : Nat} (ha : a < 4294967296) (hb : b < 4294967296) : a ^^^ b < 4294967296 := Nat.xor_lt_two_pow (n := 32) ha hb
theorem and_lt32 {a b : Nat} (ha : a < 4294967296) : a &&& b < 4294967296 := Nat.lt_of_le_of_lt Nat.and_le_left ha
theorem or_lt32 {a b : Nat} (ha : a < 4294967296) (hb : b < 4294967296) : a ||| b < 4294967296 := Nat.or_lt_two_pow (n := 32) ha hb
/-- What a word is not. -/
theorem not32 (a : Nat) (ha : a < 4294967296) : 4294967295 ^^^ a = 4294967295 - a := by
  apply Nat.eq_of_testBit_eq
  intro i
  rw [Nat.testBit_xor, show 4294967295 - a = 2 ^ 32 - (a + 1) by omega, Nat.testBit_two_pow_sub_succ (by omega), show (4294967295 : Nat) = 2 ^ 32 - 1 by decide, Nat.testBit_two_pow_sub_one]
  by_cases hi : i < 32
  · simp [hi]
  · have : a.testBit i = false := Nat.testBit_lt_two_pow (Nat.lt_of_lt_of_le ha ((Nat.pow_le_pow_right (by decide) (by omega) : 2 ^ 32 ≤ 2 ^ i)))
    simp [hi, this]
theorem u32_not (a : Nat) (ha : a < 4294967296) : bits .xor .u32 4294967295 (a : Int) = ((4294967295 - a : Nat) : Int) := by
  rw [← not32 a ha]
  exact u32_xor 4294967295 a (by decide) ha
/-- Numbers that have no bit in common are joined by a sum. -/
theorem or_add (j a b : Nat) (ha : a % 2 ^ j = 0) (hb : b < 2 ^ j) : a ||| b = a + b := by
  have hq : a = 2 ^ j * (a / 2 ^ j) := by have := Nat.div_add_mod a (2 ^ j); omega
  rw [hq, ← Nat.two_pow_add_eq_or_of_lt hb]
end Go.Proofs.YtgpknomegleidaaGreatDoor.T
namespace Go.Proofs.YtgpknomegleidaaGreatDoor.T
open Go.RowKit Go.Proofs.YtgpknomegleidaaGreatDoorW.PrintWords Go.Proofs.YtgpknomegleidaaGreatDoorW.PrintLast Go.Proofs.YtgpknomegleidaaGreatDoorW.PrintMore Go.Proofs.YtgpknomegleidaaGreatDoor.PAll
set_option linter.unusedSimpArgs false
set_option linter.unusedVariables false

theorem bt_pb {s : ByteArray} {i : Nat} (h : i < s.size) : bt s (i : Int) = (((pb s).getD i 0).toNat : Int) := by
  have h2 : i < (pb s).length := by rw [pb_len]; exact h
  unfold bt
  rw [dif_pos (by simpa using h)]
  have h3 : i < s.data.size := h
  simp [pb, List.getD_eq_getElem?_getD, h2, ByteArray.getElem_eq_getElem_data]
  rw [Array.getElem?_eq_getElem h3]
  rfl
theorem below_drawn {w w' : World} (h : Drawn0 w w') : Below w.heap.size w w' := by
  obtain ⟨n, rfl⟩ := h
  exact pw_below_drewN (Below.refl _ _) n
/-- A cursor lies in block g. -/
def Cur (w : World) (g : Nat) (s : ByteArray) (at_ : Nat) : Prop := w.heap[g]? = some (.cells #[.string s, .int .i64 (at_ : Int)] 99 (0, 0))
/-- A number that bytes are, the least of them ahead. -/
def num : List UInt8 → Nat
  | [] => 0
  | b :: r => b.toNat + 256 * num r
theorem num_snoc : ∀ (l : List UInt8) (b : UInt8), num (l ++ [b]) = num l + 256 ^ l.length * b.toNat
  | [], b => by simp [num]
  | a :: r, b => by
    rw [List.cons_append, num, num, num_snoc r b, List.length_cons, Nat.pow_succ, Nat.mul_add, ← Nat.mul_assoc, Nat.mul_comm 256 (256 ^ r.length)]
    omega
theorem num_lt : ∀ l : List UInt8, num l < 256 ^ l.length
  | [] => by simp [num]
  | a :: r => by
    have := num_lt r
    have := a.toNat_lt
    rw [num, List.length_cons, Nat.pow_succ]
    omega
set_option maxHeartbeats 2000000 in
set_option maxRecDepth 100000 in
theorem take_c (g : Nat) (s : ByteArray) (at_ wd : Nat) (w : World) (h : w.heap[g]? = some (.cells #[.string s, .int .i64 (at_ : Int)] 99 (0, 0))) (h6 : wd ≤ 6) (hs : at_ + wd ≤ s.size) (hz : s.size < 9223372036854775807) :
    Calls Tryz.prog 40 #[.pointer (some ⟨g, 0, none⟩), .int .i64 (wd : Int)] w fun e w' => e = .returned (.int .i64 (num (((pb s).drop at_).take wd) : Nat)) ∧ w.grownBy w' (some g) ∧ Cur w' g s (at_ + wd) := by
  have c0 : w.cell? ⟨g, 0, none⟩ = some (.string s) := (blk_cell h 0).trans rfl
  have c1 : w.cell? ⟨g, 1, none⟩ = some (.int .i64 (at_ : Int)) := (blk_cell h 1).trans rfl
  obtain ⟨m, hm⟩ : ∃ m, s.size - at_ = m := ⟨_, rfl⟩
  have hw0 : IntKind.i64.wrap ((s.size : Int) - (at_ : Int)) = (m : Int) := by
    rw [i64_w, w64 (by omega) (by omega)]; omega
  have g1 : decide (m < wd) = false := decide_eq_false (by omega)
  have HF := Aside0.mk (And.intro h6 (And.intro hs hz))
  have HB := Aside0.mk h
  clear h6 hs hz hm h
  go_enter Tryz.func40, Tryz.ntmps40
  go_wp2
  go_quiet (fail)
  go_wp2
  clear hw0 g1 c0 c1
  go_loopw [5, 22] (fun u i wr => ∃ k : Nat, k ≤ wd ∧ u = .int .i64 (num (((pb s).drop at_).take k) : Nat) ∧ i = .int .i64 k ∧ Aside0 (Drawn0 w wr)) (fun _ i _ => wd - (intOf i).toNat)
  case atStart => exact ⟨0, by omega, by simp [num], rfl, ⟨by repeat (first | exact Drawn0.refl _ | apply Drawn0.step)⟩⟩
  case round =>
    obtain ⟨k, hk, rfl, rfl, HD⟩ := hrel
    have HB1 := Aside0.mk (blk_below HB.out (below_drawn HD.out))
    have c0 := (blk_cell HB1.out 0).trans (show (#[.string s, .int .i64 (at_ : Int)] : Array Value)[0]? = some (.string s) from rfl)
    have c1 := (blk_cell HB1.out 1).trans (show (#[.string s, .int .i64 (at_ : Int)] : Array Value)[1]? = some (.int .i64 (at_ : Int)) from rfl)
    by_cases hlt : k < wd
    · have hq0 : at_ + k < s.size := by have := HF.out; omega
      obtain ⟨x, hx⟩ : ∃ x : UInt8, x = ((pb s).drop at_)[k]'(by rw [List.length_drop, pb_len]; omega) := ⟨_, rfl⟩
      have hbt : bt s ((at_ + k : Nat) : Int) = (x.toNat : Int) := by
        rw [bt_pb hq0, hx]
        simp [List.getElem_drop, List.getD_eq_getElem?_getD, pb_len, hq0]
      have hsn : ((pb s).drop at_).take (k + 1) = ((pb s).drop at_).take k ++ [x] := by
        rw [List.take_add_one, List.getElem?_eq_getElem (by rw [List.length_drop, pb_len]; omega), hx]; rfl
      obtain ⟨N, hN⟩ : ∃ N, num (((pb s).drop at_).take k) = N := ⟨_, rfl⟩
      have hlk : (((pb s).drop at_).take k).length = k := by rw [List.length_take, List.length_drop, pb_len]; omega
      have hNlt : N < 256 ^ k := by have := num_lt (((pb s).drop at_).take k); rw [hN, hlk] at this; exact this
      have hnum : num (((pb s).drop at_).take (k + 1)) = N + 256 ^ k * x.toNat := by rw [hsn, num_snoc, hlk, hN]
      have hPb : 256 ^ k ≤ 1099511627776 := Nat.le_trans (Nat.pow_le_pow_right (by decide) (show k ≤ 5 by have := HF.out; omega)) (by decide)
      obtain ⟨X, hX⟩ : ∃ X, x.toNat = X := ⟨_, rfl⟩
      have hXl : X < 256 := by rw [← hX]; exact x.toNat_lt
      obtain ⟨y, hyy⟩ : ∃ y, y = 256 ^ k * x.toNat := ⟨_, rfl⟩
      have hyb : y ≤ 1099511627776 * 255 := by rw [hyy, hX]; exact Nat.mul_le_mul hPb (by omega)
      have hor : N ||| y = N + y := by
        rw [Nat.or_comm, or_add (8 * k) y N (by rw [hyy, show 2 ^ (8 * k) = 256 ^ k by rw [Nat.pow_mul]]; exact Nat.mul_mod_right _ _) (by rw [Nat.pow_mul]; exact hNlt), Nat.add_comm]
      have hyc : (X : Int) * ((256 ^ k : Nat) : Int) = (y : Int) := by rw [hyy, hX, Nat.mul_comm]; exact_mod_cast rfl
      have hNl : N < 1099511627776 := Nat.lt_of_lt_of_le hNlt hPb
      obtain ⟨q, hq⟩ : ∃ q, q = at_ + k := ⟨_, rfl⟩
      obtain ⟨e8, he⟩ : ∃ e8, e8 = 8 * k := ⟨_, rfl⟩
      have hpw : (2 : Int) ^ min e8 64 = ((256 ^ k : Nat) : Int) := by rw [show min e8 64 = 8 * k by have := HF.out; omega, two_pow8]
      generalize 256 ^ k = P at hNlt hnum hPb hyy hyc hpw
      obtain ⟨z, hzz⟩ : ∃ z, z = N + y := ⟨_, rfl⟩
      have hw1 : IntKind.i64.wrap ((at_ : Int) + (k : Int)) = (q : Int) := by rw [i64_w, w64 (by have := HF.out; omega) (by have := HF.out; omega)]; omega
      have hw2 : IntKind.i64.wrap (8 * (k : Int)) = (e8 : Int) := by rw [i64_w, w64 (by have := HF.out; omega) (by have := HF.out; omega)]; omega
      have HX : Aside0 (∀ h : q < s.size, ((s[q]'h).toNat : Int) = (X : Int)) := ⟨fun h => (bt_at s (q : Int) h).trans (by rw [hq, ← hX]; exact hbt)⟩
      have HW4 : Aside0 (wrap64 (X : Int) = (X : Int)) := ⟨by clear hpw hyc; rw [w64 (by omega) (by omega)]⟩
      have HW5 : Aside0 (wrap64 ((X : Int) * 2 ^ min e8 64) = (y : Int)) := ⟨by
        rw [hpw, hyc]
        clear hpw hyc hyy
        exact w64 (by omega) (by omega)⟩
      have HW6 : Aside0 (bits .or .i64 (N : Int) (y : Int) = (z : Int)) := ⟨by
        clear hpw hyc hyy
        rw [i64_or N y (by omega) (by omega), hor, hzz]⟩
      have hnz : num (((pb s).drop at_).take (k + 1)) = z := by rw [hnum, hzz, hyy]
      have q1 : ((q : Int) < (s.size : Int)) = True := eq_true (by have := HF.out; omega)
      have q2 : (q < s.size) = True := eq_true (by have := HF.out; omega)
      have HZ := Aside0.mk (And.intro hlt (And.intro hk hnz))
      rw [hN]
      clear hq0 hx hbt hsn hN hlk hNlt hnum hPb hX hXl hyb hor hyc hNl hpw hnz hq he hyy hzz hlt hk
      have g2 : decide (k < wd) = true := decide_eq_true HZ.out.1
      go_wp2
      go_quiet (fail)
      go_wp2
      go_roundw
      case rel =>
        refine ⟨k + 1, by have := HZ.out.1; omega, ?_, by have := HZ.out.1; have := HF.out; rw [w64 (by omega) (by omega)]; rfl, ⟨by repeat (first | exact HD.out | apply Drawn0.step)⟩⟩
        rw [HX.out, HW4.out, HW5.out, HW6.out, HZ.out.2.2]
      case measure => have := HZ.out.1; have := HF.out; rw [w64 (by omega) (by omega)]; simp [intOf]; omega
    · have hkw : k = wd := by omega
      subst hkw
      have f1 := blk_frozen HB1.out 1
      obtain ⟨q, hq⟩ : ∃ q, q = at_ + k := ⟨_, rfl⟩
      have hw9 : IntKind.i64.wrap ((at_ : Int) + (k : Int)) = (q : Int) := by rw [i64_w, w64 (by have := HF.out; omega) (by have := HF.out; omega)]; omega
      have HQ := Aside0.mk hq
      clear hk hlt hq
      go_wp2
      go_ret
      exact ⟨rfl, (grown_of_below (below_drawn HD.out) _).trans (Lib.grownBy_setCell wr g 1 _), by rw [← HQ.out]; exact blk_put HB1.out 1 _ rfl⟩
set_option maxHeartbeats 2000000 in
set_option maxRecDepth 100000 in
theorem ctext_c (g : Nat) (s : ByteArray) (at_ n : Nat) (w : World) (h : Cur w g s at_) (hs : at_ + n ≤ s.size) (hz : s.size < 1000000000) :
    Calls Tryz.prog 39 #[.pointer (some ⟨g, 0, none⟩), .int .i64 (n : Int)] w fun e w' => e = .returned (.string (s.extract at_ (at_ + n))) ∧ w.grownBy w' (some g) ∧ Cur w' g s (at_ + n) := by
  have c0 : w.cell? ⟨g, 0, none⟩ = some (.string s) := (blk_cell h 0).trans rfl
  have c1 : w.cell? ⟨g, 1, none⟩ = some (.int .i64 (at_ : Int)) := (blk_cell h 1).trans rfl
  have f1 := blk_frozen h 1
  obtain ⟨m, hm⟩ : ∃ m, s.size - at_ = m := ⟨_, rfl⟩
  obtain ⟨q, hq⟩ : ∃ q, q = at_ + n := ⟨_, rfl⟩
  have hw0 : IntKind.i64.wrap ((s.size : Int) - (at_ : Int)) = (m : Int) := by
    rw [i64_w, w64 (by omega) (by omega)]; omega
  have hw1 : IntKind.i64.wrap ((at_ : Int) + (n : Int)) = (q : Int) := by
    rw [i64_w, w64 (by omega) (by omega)]; omega
  have g1 : decide (m < n) = false := decide_eq_false (by omega)
  have g1' : decide ((m : Int) < (n : Int)) = false := decide_eq_false (by omega)
  have q1 : (at_ ≤ q) = True := eq_true (by omega)
  have q2 : (q ≤ s.size) = True := eq_true (by omega)
  have HB := Aside0.mk h
  have HQ := Aside0.mk hq
  clear hs hz hm h hq
  go_enter Tryz.func39, Tryz.ntmps39
  go_wp2
  go_quiet (fail)
  go_wp2
  go_quiet (fail)
  go_wp2
  go_ret
  exact ⟨by rw [← HQ.out]; rfl, (grown_of_below (pw_below_drewN (Below.refl _ _) _) _).trans (Lib.grownBy_setCell _ g 1 _), by rw [← HQ.out]; exact blk_put (blk_below HB.out (pw_below_drewN (Below.refl _ _) _)) 1 _ rfl⟩
end Go.Proofs.YtgpknomegleidaaGreatDoor.T
namespace Go.Proofs.YtgpknomegleidaaGreatDoor.T
open Go.RowKit Go.Proofs.YtgpknomegleidaaGreatDoorW.PrintWords Go.Proofs.YtgpknomegleidaaGreatDoorW.PrintLast Go.Proofs.YtgpknomegleidaaGreatDoorW.PrintMore Go.Proofs.YtgpknomegleidaaGreatDoor.PAll
set_option linter.unusedSimpArgs false
set_option linter.unusedVariables false

theorem num_le (n : Nat) : ∀ (wd : Nat), n < 256 ^ wd → num (le n wd) = n := by
  intro wd
  have h : ∀ k, num (le n k) = n % 256 ^ k := by
    intro k
    induction k with
    | zero => simp [le, num]; omega
    | succ k ih =>
      rw [le_succ, num_snoc, ih, le_length, UInt8.toNat_ofNat', show (256 : Nat) ^ (k + 1) = 256 ^ k * 256 from Nat.pow_succ 256 k, Nat.mod_mul]
  intro hn
  rw [h, Nat.mod_eq_of_lt hn]
theorem headB_len (h : Hd) : (headB h).length = 48 := by simp [headB, le_length, zeros]
theorem mid (a b c : List UInt8) (i n : Nat) (hi : a.length = i) (hn : b.length = n) : ((a ++ b ++ c).drop i).take n = b := by
  subst hi hn
  simp [List.append_assoc]
theorem gave_nil (w : World) : Calls Tryz.prog 38 #[.nilIface] w fun e w' => e = .returned (.bool false) ∧ w' = w := by
  go_enter Tryz.func38, Tryz.ntmps38
  go_wp2
  go_ret
  exact ⟨rfl, rfl⟩
theorem hof_idle (p : Addr) (w : World) :
    CallsD Tryz.prog 37 #[.pointer (some p)] .returning w fun e u' w' => e = .returned (.tuple #[]) ∧ u' = .returning ∧ w' = w := by
  refine callsD_of_wpS Tryz.func37 rfl fun c₀ cs hu => ?_
  apply wpS_seq
  apply wpS_region
  simp [wpOpsS, go_sem, recoverD, hu, Tryz.ntmps37, Exit.thenS]
  refine (gave_nil w).mono ?_
  rintro e w' ⟨rfl, rfl⟩
  simp [wpOpsS, go_sem, recoverD, hu, Tryz.ntmps37, Exit.thenS]
  refine wpS_cond (t := false) (by simp [Act.eval, Array.replicate]) ?_
  simp only [Bool.false_eq_true, if_false]
  refine wpS_of_wp (wp_skip ?_)
  cases c₀
  simp_all [bodyPostS, results]
theorem infoCur : (Tryz.prog.info? 99).map (·.size) = some 2 := by kernel_rfl
theorem infoHd : (Tryz.prog.info? 71).map (·.size) = some 8 := by kernel_rfl
set_option maxHeartbeats 4000000 in
set_option maxRecDepth 100000 in
theorem headof_c (h : Hd) (hf : h.fits) (s : ByteArray) (hs : pb s = headB h) (w : World) :
    Calls Tryz.prog 24 #[.string s] w fun e w' => e = .returned (.tuple #[headV h, .int .i64 0]) ∧ Below w.heap.size w w' := by
  have hmf : ∀ (fn : Fn) (first cap : Array Value) (w : World), (Instr.makeFunc fn first cap).run Tryz.prog w = .ok (.func fn first cap) w := fun _ _ _ _ => rfl
  have hsz : s.size = 48 := by rw [← pb_len, hs, headB_len]
  have g1 : decide ((48 : Int) < (s.size : Int)) = false := decide_eq_false (by omega)
  have g2 : decide (48 < s.size) = false := decide_eq_false (by omega)
  have HF := Aside0.mk hf
  have HS := Aside0.mk hs
  have HZ := Aside0.mk hsz
  have hu71 := Tryz.underlying71
  have hu99 := Tryz.underlying99
  clear hf hs hsz
  go_enter_defers Tryz.func24, Tryz.ntmps24
  go_wp2_with (first | ((with_reducible refine gate_dst (N := 2) rfl ?_); refine box_event ?hg (N := 2) ?hd (cs := (#[.int .i64 0, .int .i64 0, .int .i64 0, .int .i64 0, .int .i64 0, .int .i64 0, .int .i64 0, .int .i64 0] : Array Value)) (t := 71) ?hr ?_; (case hd => rfl); (case hg => rfl); (case hr => first | (go_simp; done) | (go_simp; rfl)); intro g2 hg wn hbox hb; have H2 := Aside0.mk hbox; have HB := Aside0.mk hb; have G2 := Aside0.mk (Nat.le_of_eq hg.symm : w.heap.size ≤ g2); clear hg hbox hb) | ((with_reducible refine gate_dst (N := 3) rfl ?_); refine box_event ?hg (N := 3) ?hd (cs := (#[.int .i64 0] : Array Value)) (t := 27) ?hr ?_; (case hd => rfl); (case hg => rfl); (case hr => first | (go_simp; done) | (go_simp; rfl)); intro g3 hg wn hbox hb; have n1_ := Aside0.mk (below_then HB.out HB.out.size hb); have n2_ := Aside0.mk (blk_below H2.out hb); have H3 := Aside0.mk hbox; have G3 := Aside0.mk ((by rw [hg]; exact blk_lt H2.out) : g2 < g3); clear HB H2; have HB := n1_; have H2 := n2_; clear n1_ n2_; clear hg hbox hb) | ((with_reducible refine gate_dst (N := 4) rfl ?_); refine box_event ?hg (N := 4) ?hd (cs := (#[.string (⟨#[]⟩ : ByteArray), .int .i64 0] : Array Value)) (t := 99) ?hr ?_; (case hd => rfl); (case hg => rfl); (case hr => first | (go_simp; done) | (go_simp; rfl)); intro g4 hg wn hbox hb; have n1_ := Aside0.mk (below_then HB.out HB.out.size hb); have n2_ := Aside0.mk (blk_below H2.out hb); have n3_ := Aside0.mk (blk_below H3.out hb); have H4 := Aside0.mk hbox; have G4 := Aside0.mk ((by rw [hg]; exact blk_lt H3.out) : g3 < g4); clear HB H2 H3; have HB := n1_; have H2 := n2_; have H3 := n3_; clear n1_ n2_ n3_; clear hg hbox hb) | ((with_reducible refine gate_store (t := 99) rfl ?_); refine store_at rfl _ _ _ rfl g4 0 99 _ [.string s, .int .i64 0] infoCur H4.out (Nat.le_of_ble_eq_true rfl) (by first | (go_simp; done) | (go_simp; rfl)) (by first | (go_simp; done) | (go_simp; rfl)) (by intro v hv; simp only [List.mem_cons, List.mem_nil_iff, or_false] at hv; rcases hv with rfl | rfl <;> rfl) ?_; intro w1 hs hgr; have n1_ := Aside0.mk (HB.out.grown hgr HB.out.size (fun k hk => by injection hk with hk; have := G2.out; have := G3.out; have := G4.out; omega)); have n2_ := Aside0.mk (blk_grown H2.out hgr (fun e => by injection e with e; have := G3.out; have := G4.out; omega)); have n3_ := Aside0.mk (blk_grown H3.out hgr (fun e => by injection e with e; have := G4.out; omega)); have HC : Aside0 (Cur w1 g4 s 0) := ⟨hs⟩; clear HB H2 H3 H4; have HB := n1_; have H2 := n2_; have H3 := n3_; clear n1_ n2_ n3_ hs hgr))
  have hmag : s.extract 0 (0 + 4) = ⟨#[71, 82, 80, 78]⟩ := pb_inj (by rw [ext_head, HS.out]; simp [headB]; rfl)
  have hend : s.extract 40 (40 + 8) = ⟨#[0, 0, 0, 0, 0, 0, 0, 0]⟩ := pb_inj (by
    rw [pb_ext, List.extract_eq_take_drop, HS.out]
    have := mid (([71, 82, 80, 78] : List UInt8) ++ le h.vol 6 ++ le h.addr 4 ++ le h.kind 2 ++ le h.ino 4 ++ le h.gen 4 ++ le h.index 4 ++ le h.ver 6 ++ le h.salt 6) (zeros 8) [] 40 8 (by simp [le_length]) rfl
    rw [List.append_nil] at this
    exact this)
  have HE := Aside0.mk hend
  refine (ctext_c g4 s 0 4 _ HC.out (by have := HZ.out; omega) (by have := HZ.out; omega)).mono ?_
  rintro e w2 ⟨rfl, hg, hc⟩
  rw [hmag]
  clear hmag hend
  have n1_ := Aside0.mk (HB.out.grown hg HB.out.size (fun k hk => by injection hk with hk; have := G2.out; have := G3.out; have := G4.out; omega))
  have n2_ := Aside0.mk (blk_grown H2.out hg (fun e => by injection e with e; have := G3.out; have := G4.out; omega))
  have n3_ := Aside0.mk (blk_grown H3.out hg (fun e => by injection e with e; have := G4.out; omega))
  clear HB H2 H3 HC
  have HB := n1_
  have H2 := n2_
  have H3 := n3_
  have HC := Aside0.mk hc
  clear n1_ n2_ n3_ hg hc
  go_wp2_with fail
  have hn : num (((pb s).drop 4).take 6) = h.vol := by
    rw [HS.out, show headB h = (([71, 82, 80, 78] : List UInt8)) ++ le h.vol 6 ++ (le h.addr 4 ++ le h.kind 2 ++ le h.ino 4 ++ le h.gen 4 ++ le h.index 4 ++ le h.ver 6 ++ le h.salt 6 ++ zeros 8) by simp [headB, List.append_assoc], mid _ _ _ 4 6 (by simp [le_length]) (le_length _ _)]
    exact num_le _ _ HF.out.1
  refine (take_c g4 s 4 6 _ HC.out (by decide) (by have := HZ.out; omega) (by have := HZ.out; omega)).mono ?_
  rintro e w3 ⟨rfl, hg, hc⟩
  rw [hn]
  clear hn
  have n1_ := Aside0.mk (HB.out.grown hg HB.out.size (fun k hk => by injection hk with hk; have := G2.out; have := G3.out; have := G4.out; omega))
  have n2_ := Aside0.mk (blk_grown H2.out hg (fun e => by injection e with e; have := G3.out; have := G4.out; omega))
  have n3_ := Aside0.mk (blk_grown H3.out hg (fun e => by injection e with e; have := G4.out; omega))
  clear HB H2 H3 HC
  have HB := n1_
  have H2 := n2_
  have H3 := n3_
  have HC := Aside0.mk hc
  clear n1_ n2_ n3_ hg hc
  go_wp2_with fail
  have hn : num (((pb s).drop 10).take 4) = h.addr := by
    rw [HS.out, show headB h = (([71, 82, 80, 78] : List UInt8) ++ le h.vol 6) ++ le h.addr 4 ++ (le h.kind 2 ++ le h.ino 4 ++ le h.gen 4 ++ le h.index 4 ++ le h.ver 6 ++ le h.salt 6 ++ zeros 8) by simp [headB, List.append_assoc], mid _ _ _ 10 4 (by simp [le_length]) (le_length _ _)]
    exact num_le _ _ HF.out.2.1
  refine (take_c g4 s 10 4 _ HC.out (by decide) (by have := HZ.out; omega) (by have := HZ.out; omega)).mono ?_
  rintro e w4 ⟨rfl, hg, hc⟩
  rw [hn]
  clear hn
  have n1_ := Aside0.mk (HB.out.grown hg HB.out.size (fun k hk => by injection hk with hk; have := G2.out; have := G3.out; have := G4.out; omega))
  have n2_ := Aside0.mk (blk_grown H2.out hg (fun e => by injection e with e; have := G3.out; have := G4.out; omega))
  have n3_ := Aside0.mk (blk_grown H3.out hg (fun e => by injection e with e; have := G4.out; omega))
  clear HB H2 H3 HC
  have HB := n1_
  have H2 := n2_
  have H3 := n3_
  have HC := Aside0.mk hc
  clear n1_ n2_ n3_ hg hc
  go_wp2_with fail
  have hn : num (((pb s).drop 14).take 2) = h.kind := by
    rw [HS.out, show headB h = (([71, 82, 80, 78] : List UInt8) ++ le h.vol 6 ++ le h.addr 4) ++ le h.kind 2 ++ (le h.ino 4 ++ le h.gen 4 ++ le h.index 4 ++ le h.ver 6 ++ le h.salt 6 ++ zeros 8) by simp [headB, List.append_assoc], mid _ _ _ 14 2 (by simp [le_length]) (le_length _ _)]
    exact num_le _ _ HF.out.2.2.1
  refine (take_c g4 s 14 2 _ HC.out (by decide) (by have := HZ.out; omega) (by have := HZ.out; omega)).mono ?_
  rintro e w5 ⟨rfl, hg, hc⟩
  rw [hn]
  clear hn
  have n1_ := Aside0.mk (HB.out.grown hg HB.out.size (fun k hk => by injection hk with hk; have := G2.out; have := G3.out; have := G4.out; omega))
  have n2_ := Aside0.mk (blk_grown H2.out hg (fun e => by injection e with e; have := G3.out; have := G4.out; omega))
  have n3_ := Aside0.mk (blk_grown H3.out hg (fun e => by injection e with e; have := G4.out; omega))
  clear HB H2 H3 HC
  have HB := n1_
  have H2 := n2_
  have H3 := n3_
  have HC := Aside0.mk hc
  clear n1_ n2_ n3_ hg hc
  go_wp2_with fail
  have hn : num (((pb s).drop 16).take 4) = h.ino := by
    rw [HS.out, show headB h = (([71, 82, 80, 78] : List UInt8) ++ le h.vol 6 ++ le h.addr 4 ++ le h.kind 2) ++ le h.ino 4 ++ (le h.gen 4 ++ le h.index 4 ++ le h.ver 6 ++ le h.salt 6 ++ zeros 8) by simp [headB, List.append_assoc], mid _ _ _ 16 4 (by simp [le_length]) (le_length _ _)]
    exact num_le _ _ HF.out.2.2.2.1
  refine (take_c g4 s 16 4 _ HC.out (by decide) (by have := HZ.out; omega) (by have := HZ.out; omega)).mono ?_
  rintro e w6 ⟨rfl, hg, hc⟩
  rw [hn]
  clear hn
  have n1_ := Aside0.mk (HB.out.grown hg HB.out.size (fun k hk => by injection hk with hk; have := G2.out; have := G3.out; have := G4.out; omega))
  have n2_ := Aside0.mk (blk_grown H2.out hg (fun e => by injection e with e; have := G3.out; have := G4.out; omega))
  have n3_ := Aside0.mk (blk_grown H3.out hg (fun e => by injection e with e; have := G4.out; omega))
  clear HB H2 H3 HC
  have HB := n1_
  have H2 := n2_
  have H3 := n3_
  have HC := Aside0.mk hc
  clear n1_ n2_ n3_ hg hc
  go_wp2_with fail
  have hn : num (((pb s).drop 20).take 4) = h.gen := by
    rw [HS.out, show headB h = (([71, 82, 80, 78] : List UInt8) ++ le h.vol 6 ++ le h.addr 4 ++ le h.kind 2 ++ le h.ino 4) ++ le h.gen 4 ++ (le h.index 4 ++ le h.ver 6 ++ le h.salt 6 ++ zeros 8) by simp [headB, List.append_assoc], mid _ _ _ 20 4 (by simp [le_length]) (le_length _ _)]
    exact num_le _ _ HF.out.2.2.2.2.1
  refine (take_c g4 s 20 4 _ HC.out (by decide) (by have := HZ.out; omega) (by have := HZ.out; omega)).mono ?_
  rintro e w7 ⟨rfl, hg, hc⟩
  rw [hn]
  clear hn
  have n1_ := Aside0.mk (HB.out.grown hg HB.out.size (fun k hk => by injection hk with hk; have := G2.out; have := G3.out; have := G4.out; omega))
  have n2_ := Aside0.mk (blk_grown H2.out hg (fun e => by injection e with e; have := G3.out; have := G4.out; omega))
  have n3_ := Aside0.mk (blk_grown H3.out hg (fun e => by injection e with e; have := G4.out; omega))
  clear HB H2 H3 HC
  have HB := n1_
  have H2 := n2_
  have H3 := n3_
  have HC := Aside0.mk hc
  clear n1_ n2_ n3_ hg hc
  go_wp2_with fail
  have hn : num (((pb s).drop 24).take 4) = h.index := by
    rw [HS.out, show headB h = (([71, 82, 80, 78] : List UInt8) ++ le h.vol 6 ++ le h.addr 4 ++ le h.kind 2 ++ le h.ino 4 ++ le h.gen 4) ++ le h.index 4 ++ (le h.ver 6 ++ le h.salt 6 ++ zeros 8) by simp [headB, List.append_assoc], mid _ _ _ 24 4 (by simp [le_length]) (le_length _ _)]
    exact num_le _ _ HF.out.2.2.2.2.2.1
  refine (take_c g4 s 24 4 _ HC.out (by decide) (by have := HZ.out; omega) (by have := HZ.out; omega)).mono ?_
  rintro e w8 ⟨rfl, hg, hc⟩
  rw [hn]
  clear hn
  have n1_ := Aside0.mk (HB.out.grown hg HB.out.size (fun k hk => by injection hk with hk; have := G2.out; have := G3.out; have := G4.out; omega))
  have n2_ := Aside0.mk (blk_grown H2.out hg (fun e => by injection e with e; have := G3.out; have := G4.out; omega))
  have n3_ := Aside0.mk (blk_grown H3.out hg (fun e => by injection e with e; have := G4.out; omega))
  clear HB H2 H3 HC
  have HB := n1_
  have H2 := n2_
  have H3 := n3_
  have HC := Aside0.mk hc
  clear n1_ n2_ n3_ hg hc
  go_wp2_with fail
  have hn : num (((pb s).drop 28).take 6) = h.ver := by
    rw [HS.out, show headB h = (([71, 82, 80, 78] : List UInt8) ++ le h.vol 6 ++ le h.addr 4 ++ le h.kind 2 ++ le h.ino 4 ++ le h.gen 4 ++ le h.index 4) ++ le h.ver 6 ++ (le h.salt 6 ++ zeros 8) by simp [headB, List.append_assoc], mid _ _ _ 28 6 (by simp [le_length]) (le_length _ _)]
    exact num_le _ _ HF.out.2.2.2.2.2.2.1
  refine (take_c g4 s 28 6 _ HC.out (by decide) (by have := HZ.out; omega) (by have := HZ.out; omega)).mono ?_
  rintro e w9 ⟨rfl, hg, hc⟩
  rw [hn]
  clear hn
  have n1_ := Aside0.mk (HB.out.grown hg HB.out.size (fun k hk => by injection hk with hk; have := G2.out; have := G3.out; have := G4.out; omega))
  have n2_ := Aside0.mk (blk_grown H2.out hg (fun e => by injection e with e; have := G3.out; have := G4.out; omega))
  have n3_ := Aside0.mk (blk_grown H3.out hg (fun e => by injection e with e; have := G4.out; omega))
  clear HB H2 H3 HC
  have HB := n1_
  have H2 := n2_
  have H3 := n3_
  have HC := Aside0.mk hc
  clear n1_ n2_ n3_ hg hc
  go_wp2_with fail
  have hn : num (((pb s).drop 34).take 6) = h.salt := by
    rw [HS.out, show headB h = (([71, 82, 80, 78] : List UInt8) ++ le h.vol 6 ++ le h.addr 4 ++ le h.kind 2 ++ le h.ino 4 ++ le h.gen 4 ++ le h.index 4 ++ le h.ver 6) ++ le h.salt 6 ++ (zeros 8) by simp [headB, List.append_assoc], mid _ _ _ 34 6 (by simp [le_length]) (le_length _ _)]
    exact num_le _ _ HF.out.2.2.2.2.2.2.2
  refine (take_c g4 s 34 6 _ HC.out (by decide) (by have := HZ.out; omega) (by have := HZ.out; omega)).mono ?_
  rintro e w10 ⟨rfl, hg, hc⟩
  rw [hn]
  clear hn
  have n1_ := Aside0.mk (HB.out.grown hg HB.out.size (fun k hk => by injection hk with hk; have := G2.out; have := G3.out; have := G4.out; omega))
  have n2_ := Aside0.mk (blk_grown H2.out hg (fun e => by injection e with e; have := G3.out; have := G4.out; omega))
  have n3_ := Aside0.mk (blk_grown H3.out hg (fun e => by injection e with e; have := G4.out; omega))
  clear HB H2 H3 HC
  have HB := n1_
  have H2 := n2_
  have H3 := n3_
  have HC := Aside0.mk hc
  clear n1_ n2_ n3_ hg hc
  go_wp2_with (first | ((with_reducible refine gate_dst (N := 6) rfl ?_); refine box_event ?hg (N := 6) ?hd (cs := (#[.int .i64 0, .int .i64 0, .int .i64 0, .int .i64 0, .int .i64 0, .int .i64 0, .int .i64 0, .int .i64 0] : Array Value)) (t := 71) ?hr ?_; (case hd => rfl); (case hg => rfl); (case hr => first | (go_simp; done) | (go_simp; rfl)); intro g6 hg w11 hbox hb; have n1_ := Aside0.mk (below_then HB.out HB.out.size hb); have n2_ := Aside0.mk (blk_below H2.out hb); have n3_ := Aside0.mk (blk_below H3.out hb); have n4_ : Aside0 (Cur w11 g4 s 40) := ⟨blk_below HC.out hb⟩; have H6 := Aside0.mk hbox; have G6 := Aside0.mk ((by rw [hg]; exact blk_lt HC.out) : g4 < g6); clear HB H2 H3 HC; have HB := n1_; have H2 := n2_; have H3 := n3_; have HC := n4_; clear n1_ n2_ n3_ n4_ hg hbox hb) | ((with_reducible refine gate_store (t := 71) rfl ?_); refine store_at rfl _ _ _ rfl g6 0 71 _ [.int .i64 (h.vol : Int), .int .i64 (h.addr : Int), .int .i64 (h.kind : Int), .int .i64 (h.ino : Int), .int .i64 (h.gen : Int), .int .i64 (h.index : Int), .int .i64 (h.ver : Int), .int .i64 (h.salt : Int)] infoHd H6.out (Nat.le_of_ble_eq_true rfl) (by first | (go_simp; done) | (go_simp; rfl)) (by first | (go_simp; done) | (go_simp; rfl)) (by intro v hv; simp only [List.mem_cons, List.mem_nil_iff, or_false] at hv; rcases hv with rfl | rfl | rfl | rfl | rfl | rfl | rfl | rfl <;> rfl) ?_; intro w12 hs hgr; have n1_ := Aside0.mk (HB.out.grown hgr HB.out.size (fun k hk => by injection hk with hk; have := G2.out; have := G3.out; have := G4.out; have := G6.out; omega)); have n2_ := Aside0.mk (blk_grown H2.out hgr (fun e => by injection e with e; have := G3.out; have := G4.out; have := G6.out; omega)); have n3_ := Aside0.mk (blk_grown H3.out hgr (fun e => by injection e with e; have := G4.out; have := G6.out; omega)); have n4_ : Aside0 (Cur w12 g4 s 40) := ⟨blk_grown HC.out hgr (fun e => by injection e with e; have := G6.out; omega)⟩; have n5_ : Aside0 (w12.heap[g6]? = some (.cells (#[.int .i64 (h.vol : Int), .int .i64 (h.addr : Int), .int .i64 (h.kind : Int), .int .i64 (h.ino : Int), .int .i64 (h.gen : Int), .int .i64 (h.index : Int), .int .i64 (h.ver : Int), .int .i64 (h.salt : Int)] : Array Value) 71 (0, 0))) := ⟨hs⟩; clear HB H2 H3 HC H6; have HB := n1_; have H2 := n2_; have H3 := n3_; have HC := n4_; have H6 := n5_; clear n1_ n2_ n3_ n4_ n5_ hs hgr))
  refine (ctext_c g4 s 40 8 _ HC.out (by have := HZ.out; omega) (by have := HZ.out; omega)).mono ?_
  rintro e w13 ⟨rfl, hg, hc⟩
  rw [HE.out]
  have n6_ := Aside0.mk (blk_grown H6.out hg (fun e => by injection e with e; have := G6.out; omega))
  clear H6
  have H6 := n6_
  clear n6_
  have n1_ := Aside0.mk (HB.out.grown hg HB.out.size (fun k hk => by injection hk with hk; have := G2.out; have := G3.out; have := G4.out; omega))
  have n2_ := Aside0.mk (blk_grown H2.out hg (fun e => by injection e with e; have := G3.out; have := G4.out; omega))
  have n3_ := Aside0.mk (blk_grown H3.out hg (fun e => by injection e with e; have := G4.out; omega))
  clear HB H2 H3 HC
  have HB := n1_
  have H2 := n2_
  have H3 := n3_
  have HC := Aside0.mk hc
  clear n1_ n2_ n3_ hg hc
  have d0 : w13.cell? ⟨g6, 0, none⟩ = some (.int .i64 (h.vol : Int)) := (blk_cell H6.out 0).trans rfl
  have d1 : w13.cell? ⟨g6, 1, none⟩ = some (.int .i64 (h.addr : Int)) := (blk_cell H6.out 1).trans rfl
  have d2 : w13.cell? ⟨g6, 2, none⟩ = some (.int .i64 (h.kind : Int)) := (blk_cell H6.out 2).trans rfl
  have d3 : w13.cell? ⟨g6, 3, none⟩ = some (.int .i64 (h.ino : Int)) := (blk_cell H6.out 3).trans rfl
  have d4 : w13.cell? ⟨g6, 4, none⟩ = some (.int .i64 (h.gen : Int)) := (blk_cell H6.out 4).trans rfl
  have d5 : w13.cell? ⟨g6, 5, none⟩ = some (.int .i64 (h.index : Int)) := (blk_cell H6.out 5).trans rfl
  have d6 : w13.cell? ⟨g6, 6, none⟩ = some (.int .i64 (h.ver : Int)) := (blk_cell H6.out 6).trans rfl
  have d7 : w13.cell? ⟨g6, 7, none⟩ = some (.int .i64 (h.salt : Int)) := (blk_cell H6.out 7).trans rfl
  go_wp2_with ((with_reducible refine gate_store (t := 71) rfl ?_); refine store_at rfl _ _ _ rfl g2 0 71 _ [.int .i64 (h.vol : Int), .int .i64 (h.addr : Int), .int .i64 (h.kind : Int), .int .i64 (h.ino : Int), .int .i64 (h.gen : Int), .int .i64 (h.index : Int), .int .i64 (h.ver : Int), .int .i64 (h.salt : Int)] infoHd H2.out (Nat.le_of_ble_eq_true rfl) (by first | (go_simp; done) | (go_simp; rfl)) (by first | (go_simp; done) | (go_simp; rfl)) (by intro v hv; simp only [List.mem_cons, List.mem_nil_iff, or_false] at hv; rcases hv with rfl | rfl | rfl | rfl | rfl | rfl | rfl | rfl <;> rfl) ?_; intro w14 hs hgr; have n1_ := Aside0.mk (HB.out.grown hgr HB.out.size (fun k hk => by injection hk with hk; have := G2.out; omega)); have n3_ := Aside0.mk (blk_grown H3.out hgr (fun e => by injection e with e; have := G3.out; omega)); have n2_ : Aside0 (w14.heap[g2]? = some (.cells (#[.int .i64 (h.vol : Int), .int .i64 (h.addr : Int), .int .i64 (h.kind : Int), .int .i64 (h.ino : Int), .int .i64 (h.gen : Int), .int .i64 (h.index : Int), .int .i64 (h.ver : Int), .int .i64 (h.salt : Int)] : Array Value) 71 (0, 0))) := ⟨hs⟩; clear HB H2 H3 HC H6 d0 d1 d2 d3 d4 d5 d6 d7; have HB := n1_; have H2 := n2_; have H3 := n3_; have f3 := blk_frozen H3.out 0; have c3 : w14.cell? ⟨g3, 0, none⟩ = some (.int .i64 0) := (blk_cell H3.out 0).trans rfl; clear n1_ n2_ n3_ hs hgr)
  have WS : w14.grownBy (w14.setCell ⟨g3, 0, none⟩ (.int .i64 0)) (some g3) := Lib.grownBy_setCell w14 g3 0 _
  have H2' := blk_grown H2.out WS (fun e => by injection e with e; have := G3.out; omega)
  have H3' := blk_put H3.out 0 (.int .i64 0) rfl
  have HB' := HB.out.setCell (p := ⟨g3, 0, none⟩) (by have := G2.out; have := G3.out; show w.heap.size ≤ g3; omega) (.int .i64 0)
  clear WS c3 f3
  generalize w14.setCell ⟨g3, 0, none⟩ (.int .i64 0) = w15 at H2' H3' HB' ⊢
  refine leaves_cons (f := 37) (args := #[.pointer (some ⟨g3, 0, none⟩)]) (by simp) (by simp [go_sem]) ?_
  refine (hof_idle ⟨g3, 0, none⟩ _).mono ?_
  rintro e u' w'' ⟨rfl, rfl, rfl⟩
  have d0 : w''.cell? ⟨g2, 0, none⟩ = some (.int .i64 (h.vol : Int)) := (blk_cell H2' 0).trans rfl
  have d1 : w''.cell? ⟨g2, 1, none⟩ = some (.int .i64 (h.addr : Int)) := (blk_cell H2' 1).trans rfl
  have d2 : w''.cell? ⟨g2, 2, none⟩ = some (.int .i64 (h.kind : Int)) := (blk_cell H2' 2).trans rfl
  have d3 : w''.cell? ⟨g2, 3, none⟩ = some (.int .i64 (h.ino : Int)) := (blk_cell H2' 3).trans rfl
  have d4 : w''.cell? ⟨g2, 4, none⟩ = some (.int .i64 (h.gen : Int)) := (blk_cell H2' 4).trans rfl
  have d5 : w''.cell? ⟨g2, 5, none⟩ = some (.int .i64 (h.index : Int)) := (blk_cell H2' 5).trans rfl
  have d6 : w''.cell? ⟨g2, 6, none⟩ = some (.int .i64 (h.ver : Int)) := (blk_cell H2' 6).trans rfl
  have d7 : w''.cell? ⟨g2, 7, none⟩ = some (.int .i64 (h.salt : Int)) := (blk_cell H2' 7).trans rfl
  have c3 := (blk_cell H3' 0).trans (show _ = some (Value.int .i64 0) from rfl)
  simp [Leaves, settle, results, Tryz.results24, go_sem, d0, d1, d2, d3, d4, d5, d6, d7, c3]
  exact ⟨rfl, HB'⟩
end Go.Proofs.YtgpknomegleidaaGreatDoor.T
namespace Go.Proofs.YtgpknomegleidaaGreatDoor.T
open Go.RowKit Go.Proofs.YtgpknomegleidaaGreatDoorW.PrintWords Go.Proofs.YtgpknomegleidaaGreatDoorW.PrintLast Go.Proofs.YtgpknomegleidaaGreatDoorW.PrintMore Go.Proofs.YtgpknomegleidaaGreatDoor.PAll
open Go.Maps (Keyed)
set_option linter.unusedSimpArgs false
set_option linter.unusedVariables false

def headC (h : Hd) : Array Value := #[.int .i64 (h.vol : Int), .int .i64 (h.addr : Int), .int .i64 (h.kind : Int), .int .i64 (h.ino : Int), .int .i64 (h.gen : Int), .int .i64 (h.index : Int), .int .i64 (h.ver : Int), .int .i64 (h.salt : Int)]
theorem headV_C (h : Hd) : headV h = .agg (headC h) := rfl
def nonceA (h : Hd) : ByteArray := ⟨(nonceB h).toArray⟩
def headA (h : Hd) : ByteArray := ⟨(headB h).toArray⟩
theorem nonceB_size (h : Hd) : (⟨(nonceB h).toArray⟩ : ByteArray).size = 12 := by rw [mk_size]; simp [nonceB, le_length]
/-- A block's bytes, the tag's number m. -/
def rawA (h : Hd) (body : ByteArray) (m : Nat) : ByteArray := headA h ++ (body ++ ⟨(tagB m).toArray⟩)
/-- The key under which a block is numbered. -/
def KeyIs (h : Hd) (body : ByteArray) (kl : Lit) : Prop := keyOf Tryz.prog 158 (keyV (h.salt : Int) (nonceA h) (headA h) body) = some kl
def SealP (w : World) (v i bh bs N : Nat) (f : Lit → Nat) (h : Hd) (body : ByteArray) (kl : Lit) (e : Ending) (w' : World) : Prop :=
  ∃ m f', e = .returned (.tuple #[.string (rawA h body m), .int .i64 0]) ∧ Vlt w' v i bh bs (N + 1) f' ∧ f' kl = m ∧ 1 ≤ m ∧ m ≤ N + 1 ∧ (∀ x, f x ≠ 0 → f' x = f x) ∧ Fr (VS bh bs) w w'
set_option maxHeartbeats 4000000 in
set_option maxRecDepth 100000 in
theorem bSeal_c (w : World) (v i bh bs N : Nat) (f : Lit → Nat) (h : Hd) (body : ByteArray) (kl : Lit) (hv : Vlt w v i bh bs N f) (hf : h.fits) (hN : N < 1000000) (hz : body.size = 448) (hk : KeyIs h body kl) :
    Calls Tryz.prog 67 #[.pointer (some ⟨v, 0, none⟩), headV h, .string body] w (SealP w v i bh bs N f h body kl) := by
  have HF := Aside0.mk hf
  have HN := Aside0.mk hN
  have HV := Aside0.mk hv
  have HKL := Aside0.mk hk
  have HZ := Aside0.mk hz
  have hu71 := Tryz.underlying71
  have e448 : (((body.size : Nat) : Int) != 448) = false := by rw [hz]; rfl
  clear hf hN hv hk hz
  rw [headV_C]
  unfold headC
  go_enter Tryz.func67, Tryz.ntmps67
  go_wp2_with fail
  have HB0 := Aside0.mk (below_alloc (Below.refl w.heap.size w) (.cells (headC h) 71 (0, 0)))
  have HS0 := Aside0.mk (heap_alloc_new w (.cells (headC h) 71 (0, 0)))
  refine (head_c h _ HF.out).mono ?_
  rintro e w3 ⟨rfl, hb⟩
  have HB3 := Aside0.mk (below_then HB0.out HB0.out.size hb)
  have HS3 := Aside0.mk (blk_below HS0.out hb)
  clear hb HB0 HS0
  generalize w.heap.size = g4 at HS3 ⊢
  go_wp2_with fail
  -- REGION6
  refine start_ (n := 13) (S := fun w' => w'.heap[g4]? = some (.cells (headC h) 71 (0, 0))) (ds := []) #[false, false, false, false, false, false, false, false, false, false, false, false, false] (by kernel_rfl) rfl rfl HS3.out (fun hHeld => ?_)
  have HB3' := Aside0.mk (below_drew HB3.out)
  clear HB3 HS3
  have HB3 := HB3'
  clear HB3'
  generalize w3.drew = w3d at HB3 hHeld ⊢
  refine pure_ (i := 0) (N := some 23) (v := ?_) (a' := ?_) #[true, false, false, false, false, false, false, false, false, false, false, false, false] rfl rfl (by kernel_rfl) (fun _ _ _ h => h) (Or.inl ⟨by rfl, ?_⟩) ?_ ?_
  rotate_left; · intro w'; go_simp; with_reducible rfl
  rotate_left; · simp only [Act.put, List.setIfInBounds_toArray, List.set_cons_zero, List.set_cons_succ, i64_w, i32_w]; rfl
  refine pure_ (i := 1) (N := some 24) (v := ?_) (a' := ?_) #[true, true, false, false, false, false, false, false, false, false, false, false, false] rfl rfl (by kernel_rfl) (fun _ _ _ h => h) (Or.inl ⟨by rfl, ?_⟩) ?_ ?_
  rotate_left; · intro w'; go_simp; with_reducible rfl
  rotate_left; · simp only [Act.put, List.setIfInBounds_toArray, List.set_cons_zero, List.set_cons_succ, i64_w, i32_w]; rfl
  refine pure_ (i := 5) (N := some 28) (v := ?_) (a' := ?_) #[true, true, false, false, false, true, false, false, false, false, false, false, false] rfl rfl (by kernel_rfl) (fun _ _ _ h => h) (Or.inl ⟨by rfl, ?_⟩) ?_ ?_
  rotate_left; · intro w'; go_simp; with_reducible rfl
  rotate_left; · simp only [Act.put, List.setIfInBounds_toArray, List.set_cons_zero, List.set_cons_succ, i64_w, i32_w]; rfl
  refine pure_ (i := 6) (N := some 29) (v := ?_) (a' := ?_) #[true, true, false, false, false, true, true, false, false, false, false, false, false] rfl rfl (by kernel_rfl) (fun _ _ _ h => h) (Or.inl ⟨by rfl, ?_⟩) ?_ ?_
  rotate_left; · intro w'; go_simp; with_reducible rfl
  rotate_left; · simp only [Act.put, List.setIfInBounds_toArray, List.set_cons_zero, List.set_cons_succ, i64_w, i32_w]; rfl
  refine take_ (i := 2) (N := some 25) (v := ?_) (a' := ?_) #[true, true, true, false, false, true, true, false, false, false, false, false, false] rfl rfl (by kernel_rfl) (fun _ _ _ h => h) (Or.inl ⟨by rfl, ?_⟩) hHeld ?_ ?_
  rotate_left; · rintro w' hS; have d7 : w'.cell? ⟨g4, 7, none⟩ = some (.int .i64 (h.salt : Int)) := (blk_cell hS 7).trans rfl; go_simp; with_reducible rfl
  rotate_left; · simp only [Act.put, List.setIfInBounds_toArray, List.set_cons_zero, List.set_cons_succ, i64_w, i32_w]; rfl
  refine take_ (i := 3) (N := some 26) (v := ?_) (a' := ?_) #[true, true, true, true, false, true, true, false, false, false, false, false, false] rfl rfl (by kernel_rfl) (fun _ _ _ h => h) (Or.inl ⟨by rfl, ?_⟩) hHeld ?_ ?_
  rotate_left; · rintro w' hS; have d0 : w'.cell? ⟨g4, 0, none⟩ = some (.int .i64 (h.vol : Int)) := (blk_cell hS 0).trans rfl; have d1 : w'.cell? ⟨g4, 1, none⟩ = some (.int .i64 (h.addr : Int)) := (blk_cell hS 1).trans rfl; have d2 : w'.cell? ⟨g4, 2, none⟩ = some (.int .i64 (h.kind : Int)) := (blk_cell hS 2).trans rfl; have d3 : w'.cell? ⟨g4, 3, none⟩ = some (.int .i64 (h.ino : Int)) := (blk_cell hS 3).trans rfl; have d4 : w'.cell? ⟨g4, 4, none⟩ = some (.int .i64 (h.gen : Int)) := (blk_cell hS 4).trans rfl; have d5 : w'.cell? ⟨g4, 5, none⟩ = some (.int .i64 (h.index : Int)) := (blk_cell hS 5).trans rfl; have d6 : w'.cell? ⟨g4, 6, none⟩ = some (.int .i64 (h.ver : Int)) := (blk_cell hS 6).trans rfl; have d7 : w'.cell? ⟨g4, 7, none⟩ = some (.int .i64 (h.salt : Int)) := (blk_cell hS 7).trans rfl; go_simp; with_reducible rfl
  rotate_left; · simp only [Act.put, List.setIfInBounds_toArray, List.set_cons_zero, List.set_cons_succ, i64_w, i32_w]; rfl
  refine one_ (i := 4) (N := some 27) #[true, true, true, true, true, true, true, false, false, false, false, false, false] rfl rfl (by kernel_rfl) (by decide) (fun K hK => ?_)
  refine goes_ Tryz.func42 (by kernel_rfl) rfl #[headV h] (by rfl) rfl rfl (by (try simp only [List.map_toArray, List.map_cons, List.map_nil]); first | done | rfl) ?_
  refine (nonce_c h _ HF.out).mono ?_
  rintro e w4 ⟨rfl, hb⟩
  have HB4 := Aside0.mk (below_then HB3.out HB3.out.size hb)
  have hHeld := blk_below hHeld hb
  refine ⟨_, rfl, ?_⟩
  refine hK.out _ _ hHeld (fun hHeld => ?_)
  clear hK K hb
  refine norm_ (a' := ?_) ?_ ?_
  rotate_left; · show Act.put _ (some 27) _ = _; simp only [Act.put, List.setIfInBounds_toArray, List.set_cons_zero, List.set_cons_succ, i64_w, i32_w]; rfl
  refine one_ (i := 7) (N := some 30) #[true, true, true, true, true, true, true, true, false, false, false, false, false] rfl rfl (by kernel_rfl) (by decide) (fun K hK => ?_)
  refine goes_ Tryz.func94 (by kernel_rfl) rfl #[.pointer (some ⟨v, 0, none⟩), .int .i64 (h.salt : Int), .string ⟨(nonceB h).toArray⟩, .string ⟨(headB h).toArray⟩, .string body] (by rfl) rfl rfl (by (try simp only [List.map_toArray, List.map_cons, List.map_nil]); first | done | rfl) ?_
  refine (vSeal_c _ v i bh bs N f (h.salt : Int) _ _ body kl (HV.out.below HB4.out) HN.out (by have := HZ.out; omega) (by omega) (by have := HF.out.2.2.2.2.2.2.2; omega) (nonceB_size h) HKL.out).mono ?_
  rintro e w5 ⟨m, f1, rfl, h1, h2, h3, h4, h5, h6⟩
  have HP := Aside0.mk (And.intro h1 (And.intro h2 (And.intro h3 (And.intro h4 (And.intro h5 ((Fr.below HB4.out).trans h6))))))
  have hHeld := h6.cells hHeld (vs_cells (HV.out.below HB4.out) _ _ _ _ hHeld)
  refine ⟨_, rfl, ?_⟩
  refine hK.out _ _ hHeld (fun hHeld => ?_)
  clear hK K h1 h2 h3 h4 h5 h6
  refine norm_ (a' := ?_) ?_ ?_
  rotate_left; · show Act.put _ (some 30) _ = _; simp only [Act.put, List.setIfInBounds_toArray, List.set_cons_zero, List.set_cons_succ, i64_w, i32_w]; rfl
  refine pure_ (i := 8) (N := some 22) (v := ?_) (a' := ?_) #[true, true, true, true, true, true, true, true, true, false, false, false, false] rfl rfl (by kernel_rfl) (fun _ _ _ h => h) (Or.inl ⟨by rfl, ?_⟩) ?_ ?_
  rotate_left; · intro w'; go_simp; with_reducible rfl
  rotate_left; · simp only [Act.put, List.setIfInBounds_toArray, List.set_cons_zero, List.set_cons_succ, i64_w, i32_w]; rfl
  refine pure_ (i := 9) (N := some 31) (v := ?_) (a' := ?_) #[true, true, true, true, true, true, true, true, true, true, false, false, false] rfl rfl (by kernel_rfl) (fun _ _ _ h => h) (Or.inl ⟨by rfl, ?_⟩) ?_ ?_
  rotate_left; · intro w'; go_simp; with_reducible rfl
  rotate_left; · simp only [Act.put, List.setIfInBounds_toArray, List.set_cons_zero, List.set_cons_succ, i64_w, i32_w]; rfl
  refine pure_ (i := 10) (N := some 32) (v := ?_) (a' := ?_) #[true, true, true, true, true, true, true, true, true, true, true, false, false] rfl rfl (by kernel_rfl) (fun _ _ _ h => h) (Or.inl ⟨by rfl, ?_⟩) ?_ ?_
  rotate_left; · intro w'; go_simp; with_reducible rfl
  rotate_left; · simp only [Act.put, List.setIfInBounds_toArray, List.set_cons_zero, List.set_cons_succ, i64_w, i32_w]; rfl
  refine pure_ (i := 11) (N := some 10) (v := ?_) (a' := ?_) #[true, true, true, true, true, true, true, true, true, true, true, true, false] rfl rfl (by kernel_rfl) (fun _ _ _ h => h) (Or.inl ⟨by rfl, ?_⟩) ?_ ?_
  rotate_left; · intro w'; go_simp; with_reducible rfl
  rotate_left; · simp only [Act.put, List.setIfInBounds_toArray, List.set_cons_zero, List.set_cons_succ, i64_w, i32_w]; rfl
  refine pure_ (i := 12) (N := some 9) (v := ?_) (a' := ?_) #[true, true, true, true, true, true, true, true, true, true, true, true, true] rfl rfl (by kernel_rfl) (fun _ _ _ h => h) (Or.inl ⟨by rfl, ?_⟩) ?_ ?_
  rotate_left; · intro w'; go_simp; with_reducible rfl
  rotate_left; · simp only [Act.put, List.setIfInBounds_toArray, List.set_cons_zero, List.set_cons_succ, i64_w, i32_w]; rfl
  refine done_ (by kernel_rfl) ?_
  -- END6
  have hcat : (9223372036854775807 < (headB h).length + (body.size + (tagB m).length)) = False := eq_false (by
    have e2 : (tagB m).length = 16 := by rw [tagB, List.length_append, le_length]; rfl
    rw [headB_len, e2, HZ.out]; decide)
  go_wp2_with fail
  go_ret2
  exact ⟨m, f1, rfl, HP.out⟩
end Go.Proofs.YtgpknomegleidaaGreatDoor.T
