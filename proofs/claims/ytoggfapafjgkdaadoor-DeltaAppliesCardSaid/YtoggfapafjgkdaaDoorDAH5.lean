/- delta.formed: the walk. -/
import Derived.Test.YtoggfapafjgkdaaDoorDAH1
import Derived.Test.YtoggfapafjgkdaaDoorDAH2
import Derived.Carry
import Derived.LoopTactic
import Derived.Laws.CopyRow
import Derived.Test.YtoggfapafjgkdaaDoorDAH4
import Derived.Test.YtoggfapafjgkdaaDoorDAK1
import Derived.StillTailTactics

namespace Go.Proofs.YtoggfapafjgkdaaDoor.T
open Go.RowKit Go.Proofs.YtoggfapafjgkdaaDoorW.PrintWords Go.Proofs.YtoggfapafjgkdaaDoorW.PrintLast Go.Proofs.YtoggfapafjgkdaaDoorW.PrintMore Go.Proofs.YtoggfapafjgkdaaDoor.PAll
set_option linter.unusedSimpArgs false
set_option linter.unusedVariables false
def Frst (w : World) (g : Nat) (A : Option Addr) (c : Nat) (l : List S46) : Prop :=
 ∃ b f, w.heap[g]? = some (.cells #[.slice A l.length c, .map (some b)] 74 (0, 0)) ∧ MapS w b l.length f ∧ (∀ s, f s = findI s 0 l + 1) ∧ Kd.C k46 w A l.length l ∧ l.length ≤ c
theorem Frst.below {w w' : World} {g c : Nat} {A : Option Addr} {l : List S46} (h : Frst w g A c l) (hb : Below w.heap.size w w') : Frst w' g A c l := by
 obtain ⟨b, f, h1, h2, h3, h4, h5⟩ := h
 exact ⟨b, f, blk_below h1 hb, h2.below hb, h3, Kd.C_below h4 hb, h5⟩
structure PtN (w : World) (q : Addr) (n : S46) : Prop where
 p0 : w.cell? q = some (.string n.f0)
 p1 : w.cell? ⟨q.block, q.off + 1, none⟩ = some (.int .i64 n.f1.f0)
 p3 : w.cell? ⟨q.block, q.off + 3, none⟩ = some (.int .i64 n.f1.f2)
 p6 : w.cell? ⟨q.block, q.off + 6, none⟩ = some (.string n.f2)
theorem PtN.below {w w' : World} {q : Addr} {n : S46} (h : PtN w q n) (hb : Below w.heap.size w w') : PtN w' q n :=
 ⟨(hb.cell (World.block_lt_of_cell? w _ h.p0)).trans h.p0, (hb.cell (World.block_lt_of_cell? w _ h.p1)).trans h.p1, (hb.cell (World.block_lt_of_cell? w _ h.p3)).trans h.p3, (hb.cell (World.block_lt_of_cell? w _ h.p6)).trans h.p6⟩
theorem pt_row {w : World} {ad : Addr} {n : Nat} {l : List S46} (h : Kd.C k46 w (some ad) n l) {k : Nat} (hk : k < n) : PtN w (ad.add (k * 7)) (rd_T46 l (k : Int)) := by
 obtain ⟨ad', ea, x0, x1, x2, x3, x4, x5, x6⟩ := at_T46 h (k : Int) (by omega) (by omega)
 injection ea with ea
 subst ea
 simp only [Int.toNat_natCast] at x0 x1 x2 x3 x4 x5 x6
 exact ⟨x0, x1, x3, x6⟩
theorem pt_box {w : World} {g : Nat} {n : S46} {a b c : Value} (h : w.heap[g]? = some (.cells #[.string n.f0, .int .i64 n.f1.f0, a, .int .i64 n.f1.f2, b, c, .string n.f2] 46 (0, 0))) : PtN w ⟨g, 0, none⟩ n :=
 ⟨(blk_cell h 0).trans rfl, (blk_cell h 1).trans rfl, (blk_cell h 3).trans rfl, (blk_cell h 6).trans rfl⟩
theorem below_drawn {w w' : World} (h : Drawn0 w w') : Below w.heap.size w w' := by
 obtain ⟨n, rfl⟩ := h
 exact pw_below_drewN (Below.refl _ _) n
set_option maxHeartbeats 8000000 in
set_option maxRecDepth 100000 in
theorem node_some (l : List S46) (ad : Addr) (c g : Nat) (s : ByteArray) (k : Nat) (w : World) (h : Frst w g (some ad) c l) (hl : l.length < 2147483648) (hs : s.size ≤ maxLen) (hk : k < l.length) (hi : findI (pb s) 0 l = (k : Int)) :
  Calls Tryd.prog 29 #[.pointer (some ⟨g, 0, none⟩), .string s] w fun e w' => e = .returned (.pointer (some (ad.add (k * 7)))) ∧ w' = w := by
 obtain ⟨b, f, h1, h2, h3, h4, h5⟩ := h
 have c0 : w.cell? ⟨g, 0, none⟩ = some (.slice (some ad) l.length c) := (blk_cell h1 0).trans rfl
 have c1 : w.cell? ⟨g, 1, none⟩ = some (.map (some b)) := (blk_cell h1 1).trans rfl
 have hlk := h2.look s hs
 rw [h3, hi] at hlk
 obtain ⟨v, hv⟩ : ∃ v, (k : Int) + 1 = v := ⟨_, rfl⟩
 rw [hv] at hlk
 have hw : wrap64 (v - 1) = (k : Int) := by rw [w64 (by omega) (by omega)]; omega
 have g0 : decide (0 < v) = true := decide_eq_true (by omega)
 have q1 : ((k : Int) < (l.length : Int)) = True := eq_true (by omega)
 have q2 : (k < l.length) = True := eq_true hk
 clear h1 h2 h3 h4 h5 hi hv hs hl hk
 go_enter Tryd.func29, Tryd.ntmps29
 go_wp2
 go_ret
 exact ⟨rfl, rfl⟩
set_option maxHeartbeats 8000000 in
set_option maxRecDepth 100000 in
theorem node_none (l : List S46) (A : Option Addr) (c g : Nat) (s : ByteArray) (w : World) (h : Frst w g A c l) (hs : s.size ≤ maxLen) (hi : findI (pb s) 0 l = -1) :
  Calls Tryd.prog 29 #[.pointer (some ⟨g, 0, none⟩), .string s] w fun e w' => e = .returned (.pointer none) ∧ w' = w := by
 obtain ⟨b, f, h1, h2, h3, h4, h5⟩ := h
 have c0 : w.cell? ⟨g, 0, none⟩ = some (.slice A l.length c) := (blk_cell h1 0).trans rfl
 have c1 : w.cell? ⟨g, 1, none⟩ = some (.map (some b)) := (blk_cell h1 1).trans rfl
 have hlk := h2.look s hs
 rw [h3, hi] at hlk
 have hlk : (Instr.lookup 72 (.map (some b)) (.string s) false).run Tryd.prog w = .ok (.int .i64 0) w := hlk
 clear h1 h2 h3 h4 h5 hi hs
 go_enter Tryd.func29, Tryd.ntmps29
 go_wp2
 go_ret
 exact ⟨rfl, rfl⟩
set_option maxHeartbeats 8000000 in
set_option maxRecDepth 100000 in
theorem leader_c (l : List S46) (ad : Addr) (c g : Nat) (q : Addr) (n : S46) (k : Nat) (w : World) (h : Frst w g (some ad) c l) (hl : l.length < 2147483648) (hq : PtN w q n) (hk : k < l.length) (hi : ino n = (k : Int) + 1) :
  Calls Tryd.prog 28 #[.pointer (some ⟨g, 0, none⟩), .pointer (some q)] w fun e w' => e = .returned (.string (rd_T46 l (k : Int)).f0) ∧ Drawn0 w w' := by
 obtain ⟨b, f, h1, h2, h3, h4, h5⟩ := h
 have c0 : w.cell? ⟨g, 0, none⟩ = some (.slice (some ad) l.length c) := (blk_cell h1 0).trans rfl
 have y1 := hq.p1
 have y2 := (pt_row h4 hk).p0
 have hw : wrap64 (n.f1.f0 - 1) = (k : Int) := by unfold ino at hi; rw [w64 (by omega) (by omega)]; omega
 have p1 : (0 ≤ (k : Int)) = True := eq_true (by omega)
 have q1 : ((k : Int) < (l.length : Int)) = True := eq_true (by omega)
 have q2 : (k < l.length) = True := eq_true hk
 clear h1 h2 h3 h4 h5 hi hq hl hk
 go_enter Tryd.func28, Tryd.ntmps28
 go_wp2_with fail
 go_big_quiet (fail)
 go_wp2
 go_ret
 exact ⟨rfl, _, rfl⟩
end Go.Proofs.YtoggfapafjgkdaaDoor.T
namespace Go.Proofs.YtoggfapafjgkdaaDoor.T
open Go.RowKit Go.Proofs.YtoggfapafjgkdaaDoorW.PrintWords Go.Proofs.YtoggfapafjgkdaaDoorW.PrintLast Go.Proofs.YtoggfapafjgkdaaDoorW.PrintMore Go.Proofs.YtoggfapafjgkdaaDoor.PAll
set_option linter.unusedSimpArgs false
set_option linter.unusedVariables false
theorem Frst.ad {w : World} {g c : Nat} {A : Option Addr} {l : List S46} (h : Frst w g A c l) {k : Nat} (hk : k < l.length) : ∃ ad, A = some ad := by
 obtain ⟨b, f, h1, h2, h3, h4, h5⟩ := h
 obtain ⟨ad, e, _⟩ := at_T46 h4 (k : Int) (by omega) (by omega)
 exact ⟨ad, e⟩
theorem Frst.pt {w : World} {g c : Nat} {ad : Addr} {l : List S46} (h : Frst w g (some ad) c l) {k : Nat} (hk : k < l.length) : PtN w (ad.add (k * 7)) (rd_T46 l (k : Int)) := by
 obtain ⟨b, f, h1, h2, h3, h4, h5⟩ := h
 exact pt_row h4 hk
set_option maxHeartbeats 8000000 in
set_option maxRecDepth 100000 in
theorem kept_c (a b : List S46) (A B : Option Addr) (ca cb ga gb : Nat) (s : ByteArray) (r : Bool) (w : World) (ha : Frst w ga A ca a) (hb : Frst w gb B cb b) (hla : a.length < 2147483648) (hlb : b.length < 2147483648)
  (hia : IR a) (hib : IR b) (hs : s.size ≤ maxLen) (h : staysT a b (pb s) = r) :
  Calls Tryd.prog 26 #[.pointer (some ⟨ga, 0, none⟩), .pointer (some ⟨gb, 0, none⟩), .string s] w fun e w' => e = .returned (.bool r) ∧ Drawn0 w w' := by
 have HA := Aside0.mk ha
 have HB := Aside0.mk hb
 have HLA := Aside0.mk hla
 have HLB := Aside0.mk hlb
 have HIA := Aside0.mk hia
 have HIB := Aside0.mk hib
 have HS := Aside0.mk hs
 have HH := Aside0.mk h
 clear ha hb hla hlb hia hib hs h
 go_enter Tryd.func26, Tryd.ntmps26
 rcases findI_cases (pb s) a 0 with ⟨ea, _⟩ | ⟨i, hi, ea, _⟩
 ·
  have EA := Aside0.mk ea
  have hr : r = false := by rw [← HH.out, staysT, if_pos (.inl (by rw [EA.out]; decide))]
  subst hr
  clear ea
  go_wp2_with fail
  refine (node_none a A ca ga s w HA.out HS.out EA.out).mono ?_
  rintro e w1 ⟨rfl, rfl⟩
  go_wp2_with fail
  rcases findI_cases (pb s) b 0 with ⟨eb, _⟩ | ⟨j, hj, eb, _⟩
  ·
   have EB := Aside0.mk eb
   clear eb
   refine (node_none b B cb gb s w1 HB.out HS.out EB.out).mono ?_
   rintro e w2 ⟨rfl, rfl⟩
   go_wp2_with fail
   go_big_quiet (fail)
   go_wp2
   go_ret
   exact ⟨rfl, _, rfl⟩
  ·
   have EB := Aside0.mk eb
   have HJ := Aside0.mk hj
   clear eb hj
   obtain ⟨ad, rfl⟩ := HB.out.ad HJ.out
   refine (node_some b ad cb gb s j w1 HB.out HLB.out HS.out HJ.out (by rw [EB.out, Nat.zero_add])).mono ?_
   rintro e w2 ⟨rfl, rfl⟩
   go_wp2_with fail
   go_big_quiet (fail)
   go_wp2
   go_ret
   exact ⟨rfl, _, rfl⟩
 ·
  have EA : Aside0 (findI (pb s) 0 a = (i : Int)) := ⟨by rw [ea, Nat.zero_add]⟩
  have HI := Aside0.mk hi
  clear ea hi
  obtain ⟨ad, rfl⟩ := HA.out.ad HI.out
  go_wp2_with fail
  refine (node_some a ad ca ga s i w HA.out HLA.out HS.out HI.out EA.out).mono ?_
  rintro e w1 ⟨rfl, rfl⟩
  go_wp2_with fail
  rcases findI_cases (pb s) b 0 with ⟨eb, _⟩ | ⟨j, hj, eb, _⟩
  ·
   have EB := Aside0.mk eb
   clear eb
   have hr : r = false := by rw [← HH.out, staysT, if_pos (.inr (by rw [EB.out]; decide))]
   subst hr
   refine (node_none b B cb gb s w1 HB.out HS.out EB.out).mono ?_
   rintro e w2 ⟨rfl, rfl⟩
   go_wp2_with fail
   go_big_quiet (fail)
   go_wp2
   go_ret
   exact ⟨rfl, _, rfl⟩
  ·
   have EB : Aside0 (findI (pb s) 0 b = (j : Int)) := ⟨by rw [eb, Nat.zero_add]⟩
   have HJ := Aside0.mk hj
   clear eb hj
   obtain ⟨bd, rfl⟩ := HB.out.ad HJ.out
   refine (node_some b bd cb gb s j w1 HB.out HLB.out HS.out HJ.out EB.out).mono ?_
   rintro e w2 ⟨rfl, rfl⟩
   have HX := Aside0.mk (HA.out.pt HI.out)
   have HY := Aside0.mk (HB.out.pt HJ.out)
   have HR : Aside0 ((if knd (rd_T46 a (i : Int)) ≠ knd (rd_T46 b (j : Int)) then false
    else if knd (rd_T46 a (i : Int)) = 3 then decide (dat (rd_T46 a (i : Int)) = dat (rd_T46 b (j : Int)))
    else if knd (rd_T46 a (i : Int)) = 1 then decide (pth (leadN a (rd_T46 a (i : Int))) = pth (leadN b (rd_T46 b (j : Int)))) else true) = r) := ⟨by
    have := HH.out
    unfold staysT at this
    rw [EA.out, EB.out, if_neg (by omega)] at this
    exact this⟩
   clear HH
   obtain ⟨k, hk, ek⟩ := HIA.out.at HI.out
   obtain ⟨m, hm, em⟩ := HIB.out.at HJ.out
   have HK := Aside0.mk hk
   have HM := Aside0.mk hm
   have EK := Aside0.mk ek
   have EM := Aside0.mk em
   clear hk hm ek em
   generalize ad.add (i * 7) = q at HX ⊢
   generalize bd.add (j * 7) = t at HY ⊢
   generalize rd_T46 a (i : Int) = x at *
   generalize rd_T46 b (j : Int) = y at *
   have x3 := HX.out.p3
   have y3 := HY.out.p3
   have x6 := HX.out.p6
   have y6 := HY.out.p6
   have x13 : w2.cell? ⟨q.block, q.off + 1 + 2, none⟩ = some (.int .i64 x.f1.f2) := x3
   have y13 : w2.cell? ⟨t.block, t.off + 1 + 2, none⟩ = some (.int .i64 y.f1.f2) := y3
   by_cases h1 : x.f1.f2 = y.f1.f2
   ·
    have z1 : (x.f1.f2 != y.f1.f2) = false := by simpa using h1
    have HR1 := Aside0.mk ((if_neg (fun (e : knd x ≠ knd y) => e h1)).symm.trans HR.out)
    clear h1 HR
    by_cases h3 : x.f1.f2 = 3
    ·
     have z3 : (x.f1.f2 == 3) = true := beq_iff_eq.2 h3
     have er : r = (x.f2.toList == y.f2.toList) := by
      rw [← HR1.out, if_pos (show knd x = 3 from h3), toL, toL]
      by_cases e : pb x.f2 = pb y.f2
      ·
       rw [decide_eq_true (show dat x = dat y from e)]; exact (beq_iff_eq.2 e).symm
      ·
       rw [decide_eq_false (show ¬ dat x = dat y from e)]; exact (beq_eq_false_iff_ne.2 e).symm
     clear h3 HR1
     subst er
     go_wp2_with fail
     go_big_quiet (fail)
     go_wp2_with fail
     go_big_quiet (fail)
     go_wp2
     go_ret
     exact ⟨rfl, _, World.drewN_drewN _ _ _⟩
    ·
     have z3 : (x.f1.f2 == 3) = false := beq_eq_false_iff_ne.2 h3
     have HR2 := Aside0.mk ((if_neg (show ¬ knd x = 3 from h3)).symm.trans HR1.out)
     clear h3 HR1
     by_cases h4 : x.f1.f2 = 1
     ·
      have z4 : (x.f1.f2 == 1) = true := beq_iff_eq.2 h4
      have er : r = ((rd_T46 a (k : Int)).f0.toList == (rd_T46 b (m : Int)).f0.toList) := by
       rw [← HR2.out, if_pos (show knd x = 1 from h4), toL, toL, leadN, leadN, EK.out, EM.out, Int.add_sub_cancel, Int.add_sub_cancel]
       by_cases e : pb (rd_T46 a (k : Int)).f0 = pb (rd_T46 b (m : Int)).f0
       ·
        rw [decide_eq_true (show pth (rd_T46 a (k : Int)) = pth (rd_T46 b (m : Int)) from e)]; exact (beq_iff_eq.2 e).symm
       ·
        rw [decide_eq_false (show ¬ pth (rd_T46 a (k : Int)) = pth (rd_T46 b (m : Int)) from e)]; exact (beq_eq_false_iff_ne.2 e).symm
      clear h4 HR2
      subst er
      go_wp2_with fail
      go_big_quiet (fail)
      go_wp2_with fail
      clear x3 y3 x6 y6 x13 y13
      have hd1 := pw_below_drewN (Below.refl w2.heap.size w2) nq
      refine (leader_c a ad ca ga q x k _ (HA.out.below hd1) HLA.out (HX.out.below hd1) HK.out EK.out).mono ?_
      rintro e w3 ⟨rfl, n3, rfl⟩
      go_wp2_with fail
      have hd2 := pw_below_drewN (Below.refl w2.heap.size w2) (nq + n3)
      refine (leader_c b bd cb gb t y m _ (HB.out.below hd2) HLB.out (HY.out.below hd2) HM.out EM.out).mono ?_
      rintro e w4 ⟨rfl, n4, rfl⟩
      go_wp2
      go_ret
      first | exact ⟨rfl, _, rfl⟩ | exact ⟨rfl, _, World.drewN_drewN _ _ _⟩
     ·
      have z4 : (x.f1.f2 == 1) = false := beq_eq_false_iff_ne.2 h4
      have er : r = true := by rw [← HR2.out, if_neg (show ¬ knd x = 1 from h4)]
      clear h4 HR2
      subst er
      go_wp2_with fail
      go_big_quiet (fail)
      go_wp2
      go_ret
      exact ⟨rfl, _, rfl⟩
   ·
    have z1 : (x.f1.f2 != y.f1.f2) = true := by simpa using h1
    have er : r = false := by rw [← HR.out, if_pos (show knd x ≠ knd y from h1)]
    clear h1 HR
    subst er
    go_wp2_with fail
    go_big_quiet (fail)
    go_wp2
    go_ret
    exact ⟨rfl, _, rfl⟩
end Go.Proofs.YtoggfapafjgkdaaDoor.T
namespace Go.Proofs.YtoggfapafjgkdaaDoor.T
open Go.RowKit Go.Proofs.YtoggfapafjgkdaaDoorW.PrintWords Go.Proofs.YtoggfapafjgkdaaDoorW.PrintLast Go.Proofs.YtoggfapafjgkdaaDoorW.PrintMore Go.Proofs.YtoggfapafjgkdaaDoor.PAll
set_option linter.unusedSimpArgs false
set_option linter.unusedVariables false
abbrev nodeV (n : S46) : Value := .agg #[.string n.f0, .int .i64 n.f1.f0, .int .i64 n.f1.f1, .int .i64 n.f1.f2, .int .i64 n.f1.f3, .int .i64 n.f1.f4, .string n.f2]
abbrev editV (n : S33) : Value := .agg #[.int .i64 n.f0, .string n.f1, .string n.f2, .string n.f3]
theorem info33s : ∃ i, Tryd.prog.info? 33 = some i ∧ i.size = 4 := by
 have hi := info33
 cases hq : Tryd.prog.info? 33 with
 | none => simp [hq] at hi
 | some i => exact ⟨i, rfl, by simp [hq] at hi; exact hi.2.1⟩
theorem storeVar_edit (w : World) (g : Nat) (cur : Array Value) (cells : List Value) (hg : w.heap[g]? = some (.cells cur 33 (0, 0))) (hc : cur.size = 4) (hl : cells.length = 4) (h1 : ∀ v ∈ cells, v.oneCell' = true) :
  (storeVar 33 ⟨g, 0, none⟩ (.agg cells.toArray)).run Tryd.prog w = .ok () (w.setRow g cells.toArray) := by
 have := run_storeCells_at (P := Tryd.prog) g 0 33 cells 0 cur w hg (by omega) h1
 have e : (cur.toList.take (0 + 0) ++ cells ++ cur.toList.drop (0 + 0 + cells.length)).toArray = cells.toArray := by
  rw [List.drop_eq_nil_of_le (by rw [Array.length_toList]; omega)]
  simp
 rw [e] at this
 obtain ⟨i, hq, hs⟩ := info33s
 simp [storeVar, sizeOf, typeInfo, hq, Value.cells, hs, hl, this]
theorem store_edit {op : Oper} {ops : Array Oper} {rest : List Oper} {a : Act} {w : World} {Q : Exit → Act → World → Prop} (hgd : op.guard = none) (hd : op.dst = none) (x y : Operand) (ho : op.op = .store 33 x y)
  (g : Nat) (cur : Array Value) (n : S33) (hg : w.heap[g]? = some (.cells cur 33 (0, 0))) (hc : cur.size = 4) (hx : a.eval x = .pointer (some ⟨g, 0, none⟩)) (hy : a.eval y = editV n)
  (h : ∀ w', w'.heap[g]? = some (.cells #[.int .i64 n.f0, .string n.f1, .string n.f2, .string n.f3] 33 (0, 0)) → w.grownBy w' (some g) → wpList Tryd.prog ops Q rest a w') :
  wpList Tryd.prog ops Q (op :: rest) a w := by
 have hrun := storeVar_edit w g cur [.int .i64 n.f0, .string n.f1, .string n.f2, .string n.f3] hg hc rfl (by
  intro v hv
  simp only [List.mem_cons, List.mem_nil_iff, or_false] at hv
  rcases hv with rfl | rfl | rfl | rfl <;> rfl)
 refine wpList_plain hgd fun K' hK' => ?_
 unfold Oper.wp execOp
 simp only [ho, hx, hy, Instr.storeAt, Instr.sureAddr, Sem.run_bind, Sem.run_pure, Result.andThen_ok, hrun]
 refine hK' _ _ ?_
 rw [hd]
 refine h _ ?_ ?_
 ·
  exact setRow_heap w g cur _ 33 _ hg
 ·
  exact ⟨rfl, rfl, rfl, Nat.le_of_eq (size_setRow ..).symm, fun k hk hne => setRow_other w g k _ (fun e => hne (by rw [e]))⟩
theorem info33z : (Tryd.prog.info? 33).map (·.size) = some 4 := by
 obtain ⟨i, h1, h2⟩ := info33s
 rw [h1]
 exact congrArg some h2
set_option maxHeartbeats 8000000 in
set_option maxRecDepth 100000 in
theorem made_c (b : List S46) (B : Option Addr) (cb gb : Nat) (n : S46) (r : S33) (w : World) (hb : Frst w gb B cb b) (hlb : b.length < 2147483648)
  (k : Nat) (hk : k < b.length) (hi : ino n = (k : Int) + 1) (h : madeT b n = r) :
  Calls Tryd.prog 27 #[.pointer (some ⟨gb, 0, none⟩), nodeV n] w fun e w' => e = .returned (editV r) ∧ Below w.heap.size w w' := by
 have hu46 := Tryd.underlying46
 have hu44 := Tryd.underlying44
 have hu33 := Tryd.underlying33
 have HW := Aside0.mk (Below.refl w.heap.size w)
 have HB := Aside0.mk hb
 have HLB := Aside0.mk hlb
 have HK := Aside0.mk hk
 have HI := Aside0.mk hi
 have HH := Aside0.mk h
 clear hb hlb hk hi h
 obtain ⟨bd, rfl⟩ := HB.out.ad HK.out
 obtain ⟨p, ii, g0, kd, lk, sz, d, hn⟩ : ∃ p i g kd lk sz d, n = ⟨p, ⟨i, g, kd, lk, sz⟩, d⟩ := ⟨n.f0, n.f1.f0, n.f1.f1, n.f1.f2, n.f1.f3, n.f1.f4, n.f2, rfl⟩
 subst hn
 dsimp only [nodeV] at *
 go_enter Tryd.func27, Tryd.ntmps27
 have HMn : Aside0 ((if kd = 2 then (⟨2, p, eB, eB⟩ : S33) else if kd = 3 then ⟨4, p, d, eB⟩ else if pb (rd_T46 b (k : Int)).f0 ≠ pb p then ⟨5, p, (rd_T46 b (k : Int)).f0, eB⟩ else ⟨3, p, eB, d⟩) = r) := ⟨by
  have := HH.out
  unfold madeT leadN at this
  rw [HI.out, Int.add_sub_cancel] at this
  exact this⟩
 clear HH
 by_cases h2 : kd = 2
 ·
  have z2 : (kd == 2) = true := beq_iff_eq.2 h2
  have er := (if_pos h2).symm.trans HMn.out
  subst er
  clear h2 HMn
  go_wp2_with (first | ((with_reducible refine gate_dst (N := 3) rfl ?_); refine box_event ?hg (N := 3) ?hd (cs := #[.string p, .int .i64 ii, .int .i64 g0, .int .i64 kd, .int .i64 lk, .int .i64 sz, .string d]) (t := 46) ?hr ?_; (case hd => rfl); (case hg => rfl); (case hr => first | (go_simp; done) | (go_simp; rfl)); intro g1 hg w5 hbox hb; have n1_ := Aside0.mk (below_then HW.out HW.out.size hb); have n2_ := Aside0.mk hbox; have n3_ := Aside0.mk (HB.out.below hb); clear HW HB; have HW := n1_; have BK := n2_; have HB := n3_; clear n1_ n2_ n3_ hb hbox hg) | ((with_reducible refine gate_dst (N := 4) rfl ?_); refine box_event ?hg (N := 4) ?hd (cs := #[.int .i64 0, .string (⟨#[]⟩ : ByteArray), .string (⟨#[]⟩ : ByteArray), .string (⟨#[]⟩ : ByteArray)]) (t := 33) ?hr ?_; (case hd => rfl); (case hg => rfl); (case hr => first | (go_simp; done) | (go_simp; rfl)); intro g2 hg w6 hbox hb; have n1_ := Aside0.mk (below_then HW.out HW.out.size hb); have n2_ := Aside0.mk hbox; have n3_ := Aside0.mk (HB.out.below hb); have n4_ := Aside0.mk (blk_below BK.out hb); have n5_ := Aside0.mk ((by rw [hg]; exact below_size HW.out) : w.heap.size ≤ g2); clear HW HB BK; have HW := n1_; have BE := n2_; have HB := n3_; have BK := n4_; have GE := n5_; clear n1_ n2_ n3_ n4_ n5_ hb hbox hg; have c0 : w6.cell? ⟨g1, 0, none⟩ = some (.string p) := (blk_cell BK.out 0).trans rfl; have c3 : w6.cell? ⟨g1, 1 + 2, none⟩ = some (.int .i64 kd) := (blk_cell BK.out 3).trans rfl; have c3' : w6.cell? ⟨g1, 3, none⟩ = some (.int .i64 kd) := c3; have c6 : w6.cell? ⟨g1, 6, none⟩ = some (.string d) := (blk_cell BK.out 6).trans rfl) | ((with_reducible refine gate_store (t := 33) rfl ?_); refine store_edit rfl rfl _ _ rfl g2 _ (⟨2, p, eB, eB⟩) BE.out rfl rfl rfl ?_; intro w7 hS1 hS2; have s1_ := Aside0.mk (HW.out.grown hS2 HW.out.size (fun q hq => by injection hq with hq; rw [← hq]; exact GE.out)); have s2_ := Aside0.mk hS1; clear HW BE hS1 hS2; have HW := s1_; have BE := s2_; clear s1_ s2_))
  try simp only [Exit.inBlock, Exit.then]
  refine bodyPost_ret (results_cell_row rfl _ _ g2 33 _ (0, 0) _ rfl BE.out hu33 rfl (by simpa using info33z)) rfl ?_
  exact ⟨rfl, HW.out⟩
 ·
  have z2 : (kd == 2) = false := beq_eq_false_iff_ne.2 h2
  have HM2 := Aside0.mk ((if_neg h2).symm.trans HMn.out)
  clear h2 HMn
  by_cases h3 : kd = 3
  ·
   have z3 : (kd == 3) = true := beq_iff_eq.2 h3
   have er := (if_pos h3).symm.trans HM2.out
   subst er
   clear h3 HM2
   go_wp2_with (first | ((with_reducible refine gate_dst (N := 3) rfl ?_); refine box_event ?hg (N := 3) ?hd (cs := #[.string p, .int .i64 ii, .int .i64 g0, .int .i64 kd, .int .i64 lk, .int .i64 sz, .string d]) (t := 46) ?hr ?_; (case hd => rfl); (case hg => rfl); (case hr => first | (go_simp; done) | (go_simp; rfl)); intro g1 hg w5 hbox hb; have n1_ := Aside0.mk (below_then HW.out HW.out.size hb); have n2_ := Aside0.mk hbox; have n3_ := Aside0.mk (HB.out.below hb); clear HW HB; have HW := n1_; have BK := n2_; have HB := n3_; clear n1_ n2_ n3_ hb hbox hg) | ((with_reducible refine gate_dst (N := 4) rfl ?_); refine box_event ?hg (N := 4) ?hd (cs := #[.int .i64 0, .string (⟨#[]⟩ : ByteArray), .string (⟨#[]⟩ : ByteArray), .string (⟨#[]⟩ : ByteArray)]) (t := 33) ?hr ?_; (case hd => rfl); (case hg => rfl); (case hr => first | (go_simp; done) | (go_simp; rfl)); intro g2 hg w6 hbox hb; have n1_ := Aside0.mk (below_then HW.out HW.out.size hb); have n2_ := Aside0.mk hbox; have n3_ := Aside0.mk (HB.out.below hb); have n4_ := Aside0.mk (blk_below BK.out hb); have n5_ := Aside0.mk ((by rw [hg]; exact below_size HW.out) : w.heap.size ≤ g2); clear HW HB BK; have HW := n1_; have BE := n2_; have HB := n3_; have BK := n4_; have GE := n5_; clear n1_ n2_ n3_ n4_ n5_ hb hbox hg; have c0 : w6.cell? ⟨g1, 0, none⟩ = some (.string p) := (blk_cell BK.out 0).trans rfl; have c3 : w6.cell? ⟨g1, 1 + 2, none⟩ = some (.int .i64 kd) := (blk_cell BK.out 3).trans rfl; have c3' : w6.cell? ⟨g1, 3, none⟩ = some (.int .i64 kd) := c3; have c6 : w6.cell? ⟨g1, 6, none⟩ = some (.string d) := (blk_cell BK.out 6).trans rfl) | ((with_reducible refine gate_store (t := 33) rfl ?_); refine store_edit rfl rfl _ _ rfl g2 _ (⟨4, p, d, eB⟩) BE.out rfl rfl rfl ?_; intro w7 hS1 hS2; have s1_ := Aside0.mk (HW.out.grown hS2 HW.out.size (fun q hq => by injection hq with hq; rw [← hq]; exact GE.out)); have s2_ := Aside0.mk hS1; clear HW BE hS1 hS2; have HW := s1_; have BE := s2_; clear s1_ s2_))
   try simp only [Exit.inBlock, Exit.then]
   refine bodyPost_ret (results_cell_row rfl _ _ g2 33 _ (0, 0) _ rfl BE.out hu33 rfl (by simpa using info33z)) rfl ?_
   exact ⟨rfl, HW.out⟩
  ·
   have z3 : (kd == 3) = false := beq_eq_false_iff_ne.2 h3
   have HM3 := Aside0.mk ((if_neg h3).symm.trans HM2.out)
   clear h3 HM2
   go_wp2_with (first | ((with_reducible refine gate_dst (N := 3) rfl ?_); refine box_event ?hg (N := 3) ?hd (cs := #[.string p, .int .i64 ii, .int .i64 g0, .int .i64 kd, .int .i64 lk, .int .i64 sz, .string d]) (t := 46) ?hr ?_; (case hd => rfl); (case hg => rfl); (case hr => first | (go_simp; done) | (go_simp; rfl)); intro g1 hg w5 hbox hb; have n1_ := Aside0.mk (below_then HW.out HW.out.size hb); have n2_ := Aside0.mk hbox; have n3_ := Aside0.mk (HB.out.below hb); clear HW HB; have HW := n1_; have BK := n2_; have HB := n3_; clear n1_ n2_ n3_ hb hbox hg) | ((with_reducible refine gate_dst (N := 4) rfl ?_); refine box_event ?hg (N := 4) ?hd (cs := #[.int .i64 0, .string (⟨#[]⟩ : ByteArray), .string (⟨#[]⟩ : ByteArray), .string (⟨#[]⟩ : ByteArray)]) (t := 33) ?hr ?_; (case hd => rfl); (case hg => rfl); (case hr => first | (go_simp; done) | (go_simp; rfl)); intro g2 hg w6 hbox hb; have n1_ := Aside0.mk (below_then HW.out HW.out.size hb); have n2_ := Aside0.mk hbox; have n3_ := Aside0.mk (HB.out.below hb); have n4_ := Aside0.mk (blk_below BK.out hb); have n5_ := Aside0.mk ((by rw [hg]; exact below_size HW.out) : w.heap.size ≤ g2); clear HW HB BK; have HW := n1_; have BE := n2_; have HB := n3_; have BK := n4_; have GE := n5_; clear n1_ n2_ n3_ n4_ n5_ hb hbox hg; have c0 : w6.cell? ⟨g1, 0, none⟩ = some (.string p) := (blk_cell BK.out 0).trans rfl; have c3 : w6.cell? ⟨g1, 1 + 2, none⟩ = some (.int .i64 kd) := (blk_cell BK.out 3).trans rfl; have c3' : w6.cell? ⟨g1, 3, none⟩ = some (.int .i64 kd) := c3; have c6 : w6.cell? ⟨g1, 6, none⟩ = some (.string d) := (blk_cell BK.out 6).trans rfl))
   refine (leader_c b bd cb gb ⟨g1, 0, none⟩ ⟨p, ⟨ii, g0, kd, lk, sz⟩, d⟩ k w6 HB.out HLB.out (pt_box BK.out) HK.out HI.out).mono ?_
   rintro e w8 ⟨rfl, hd8⟩
   have hb8 := below_drawn hd8
   have n1_ := Aside0.mk (below_then HW.out HW.out.size hb8)
   have n2_ := Aside0.mk (blk_below BE.out hb8)
   have n3_ := Aside0.mk (blk_below BK.out hb8)
   clear HW BE BK HB c0 c3 c3' c6 hb8 hd8
   have HW := n1_
   have BE := n2_
   have BK := n3_
   clear n1_ n2_ n3_
   have c0 : w8.cell? ⟨g1, 0, none⟩ = some (.string p) := (blk_cell BK.out 0).trans rfl
   have c6 : w8.cell? ⟨g1, 6, none⟩ = some (.string d) := (blk_cell BK.out 6).trans rfl
   by_cases h4 : pb (rd_T46 b (k : Int)).f0 = pb p
   ·
    have z4 : ((rd_T46 b (k : Int)).f0.toList == p.toList) = true := by rw [toL, toL]; exact beq_iff_eq.2 h4
    have er := (if_neg (fun q => q h4)).symm.trans HM3.out
    subst er
    clear h4 HM3
    go_wp2_with (first | ((with_reducible refine gate_store (t := 33) rfl ?_); refine store_edit rfl rfl _ _ rfl g2 _ (⟨3, p, eB, d⟩) BE.out rfl rfl rfl ?_; intro w7 hS1 hS2; have s1_ := Aside0.mk (HW.out.grown hS2 HW.out.size (fun q hq => by injection hq with hq; rw [← hq]; exact GE.out)); have s2_ := Aside0.mk hS1; clear HW BE hS1 hS2; have HW := s1_; have BE := s2_; clear s1_ s2_))
    try simp only [Exit.inBlock, Exit.then]
    refine bodyPost_ret (results_cell_row rfl _ _ g2 33 _ (0, 0) _ rfl BE.out hu33 rfl (by simpa using info33z)) rfl ?_
    exact ⟨rfl, HW.out⟩
   ·
    have z4 : ((rd_T46 b (k : Int)).f0.toList == p.toList) = false := by rw [toL, toL]; exact beq_eq_false_iff_ne.2 h4
    have er := (if_pos h4).symm.trans HM3.out
    subst er
    clear h4 HM3
    go_wp2_with (first | ((with_reducible refine gate_store (t := 33) rfl ?_); refine store_edit rfl rfl _ _ rfl g2 _ (⟨5, p, (rd_T46 b (k : Int)).f0, eB⟩) BE.out rfl rfl rfl ?_; intro w7 hS1 hS2; have s1_ := Aside0.mk (HW.out.grown hS2 HW.out.size (fun q hq => by injection hq with hq; rw [← hq]; exact GE.out)); have s2_ := Aside0.mk hS1; clear HW BE hS1 hS2; have HW := s1_; have BE := s2_; clear s1_ s2_))
    try simp only [Exit.inBlock, Exit.then]
    refine bodyPost_ret (results_cell_row rfl _ _ g2 33 _ (0, 0) _ rfl BE.out hu33 rfl (by simpa using info33z)) rfl ?_
    exact ⟨rfl, HW.out⟩
end Go.Proofs.YtoggfapafjgkdaaDoor.T
namespace Go.Proofs.YtoggfapafjgkdaaDoor.T
open Go.RowKit Go.Proofs.YtoggfapafjgkdaaDoorW.PrintWords Go.Proofs.YtoggfapafjgkdaaDoorW.PrintLast Go.Proofs.YtoggfapafjgkdaaDoorW.PrintMore Go.Proofs.YtoggfapafjgkdaaDoor.PAll
set_option linter.unusedSimpArgs false
set_option linter.unusedVariables false
def FormRet (l : List S46) (A : Option Addr) (c : Nat) (w : World) (e : Ending) (w' : World) : Prop :=
 (Formed l ∧ ∃ g, e = .returned (.tuple #[.pointer (some ⟨g, 0, none⟩), .bool true]) ∧ Frst w' g A c l ∧ Below w.heap.size w w') ∨
 (¬ Formed l ∧ e = .returned (.tuple #[.pointer none, .bool false]) ∧ Below w.heap.size w w')
set_option maxHeartbeats 8000000 in
set_option maxRecDepth 100000 in
theorem formed_c (l : List S46) (A : Option Addr) (c : Nat) (w : World) (hr0 : Kd.C k46 w A l.length l) (hc : l.length ≤ c) (hl : l.length < 2147483648) (hwf : Wf l) (hT : Tab w) :
  Calls Tryd.prog 25 #[.slice A l.length c] w fun e w' => FormRet l A c w e w' := by
 have hu46 := Tryd.underlying46
 have hu44 := Tryd.underlying44
 have HR := Aside0.mk hr0
 have HC := Aside0.mk hc
 have HL := Aside0.mk hl
 have HT := Aside0.mk hT
 have HW := Aside0.mk hwf
 clear hr0 hc hl hT hwf
 go_enter Tryd.func25, Tryd.ntmps25
 go_wp2_with fail
 refine (normal_c l A c w HR.out HC.out HL.out HW.out HT.out).mono ?_
 rintro e w1 ⟨v, rfl, hv, hb⟩
 have HB := Aside0.mk hb
 have HV := Aside0.mk hv
 clear hb hv
 rcases normT_err l with h0 | hbad
 ·
  obtain ⟨t, ht⟩ : ∃ t, normT l = (t, 0) := ⟨(normT l).1, Prod.ext rfl h0⟩
  have HN := Aside0.mk ht
  rw [ht] at HV ⊢
  have hlt : t.length < 2147483648 := by
   have := normT_len l
   rw [ht] at this
   have := HL.out
   simp only at *
   omega
  have HLT := Aside0.mk hlt
  clear h0 ht hlt
  dsimp only
  obtain ⟨A1, c1, e1⟩ := Kd.R_slice HV.out
  subst e1
  obtain ⟨r, hr⟩ : ∃ r : Bool, r = true ↔ t = l := by
   classical
   exact ⟨decide (t = l), by simp⟩
  obtain ⟨K, hK⟩ := evs_get (equal_ev t l HLT.out r hr)
  have HK := Aside0.mk hK
  have HRR := Aside0.mk hr
  have hC1 := Aside0.mk (Kd.C_below HR.out HB.out)
  clear hK hr
  cases r with
  | false =>
   have HNo : Aside0 (¬ Formed l) := ⟨fun F => by
    have e := HN.out.symm.trans ((formed_iff l).1 F)
    have := HRR.out.2 (congrArg Prod.fst e)
    cases this⟩
   go_wp2_with fail
   refine (api_Node_44.calls K A1 c1 t A c l false w1 (Kd.R_reads' HV.out).2.2 (Kd.R_reads' HV.out).2.1 hC1.out HC.out HK.out).mono ?_
   rintro e w2 ⟨rfl, hd2⟩
   have HBq := Aside0.mk (below_then HB.out HB.out.size (below_drawn hd2))
   clear hd2
   go_wp2_with fail
   go_ret2
   exact .inr ⟨HNo.out, rfl, HBq.out⟩
  | true =>
   have HF : Aside0 (Formed l) := ⟨by
    rw [formed_iff, HN.out, HRR.out.1 rfl]⟩
   go_wp2_with fail
   refine (api_Node_44.calls K A1 c1 t A c l true w1 (Kd.R_reads' HV.out).2.2 (Kd.R_reads' HV.out).2.1 hC1.out HC.out HK.out).mono ?_
   rintro e w2 ⟨rfl, hd2⟩
   have HBq := Aside0.mk (below_then HB.out HB.out.size (below_drawn hd2))
   clear hd2
   clear HB HV hC1 HK HRR HN HLT
   have hmk : ∀ W : World, (Instr.makeMap 72 none).run Tryd.prog W = .ok (.map (some W.heap.size)) (W.alloc (.map #[] 0)) := fun W => run_makeMap 72 W
   have HM0 := Aside0.mk (MapS.made w2)
   have HB0 : Aside0 (Below w.heap.size w (w2.alloc (.map #[] 0))) := ⟨below_alloc HBq.out _⟩
   have HMB : Aside0 (w.heap.size ≤ w2.heap.size) := ⟨below_size HBq.out⟩
   have HSZ : Aside0 (∀ n ∈ l, n.f0.size ≤ 255) := ⟨fun n hn => may_size (HF.out.1.may n hn)⟩
   obtain ⟨b, hb⟩ : ∃ b, b = w2.heap.size := ⟨_, rfl⟩
   rw [← hb] at HM0 HMB
   go_wp2_with (first | ((with_reducible refine gate_dst (N := 25) rfl ?_); refine box_event ?hg (N := 25) ?hd (cs := #[.slice A l.length c, .map (some b)]) (t := 74) ?hr ?_; (case hd => rfl); (case hg => rfl); (case hr => first | (rw [hb]; go_simp; done) | (rw [hb]; go_simp; rfl)); intro g1 hg w5 hbox hb5; have n1_ := Aside0.mk (below_then HB0.out HB0.out.size hb5); have n2_ := Aside0.mk hbox; have n3_ := Aside0.mk (HM0.out.below hb5); have n4_ := Aside0.mk ((by rw [hg]; exact HM0.out.lt) : b < g1); clear HB0 HM0; have HB := n1_; have BK := n2_; have HM := n3_; have HG := n4_; clear n1_ n2_ n3_ n4_ hb5 hbox hg) | fail)
   clear hb hmk HBq
   go_loopw [28] (fun i wr => ∃ (k : Nat) (f : List UInt8 → Int), k ≤ l.length ∧ i = .int .i64 k ∧ Aside0 (MapS wr b k f) ∧ Aside0 (∀ s, f s = findI s 0 (l.take k) + 1) ∧ Aside0 (wr.heap[g1]? = some (.cells #[.slice A l.length c, .map (some b)] 74 (0, 0))) ∧ Aside0 (Below w.heap.size w wr)) (fun i _ => l.length - (intOf i).toNat)
   case atStart => exact ⟨0, _, by omega, rfl, HM, ⟨fun s => rfl⟩, BK, HB⟩
   case round =>
    clear HB HM BK
    obtain ⟨k, f, hk, rfl, HM, HD, BK, HB⟩ := hrel
    by_cases hkl : k < l.length
    ·
     have HKL := Aside0.mk hkl
     obtain ⟨ad, ea, x0, x1, x2, x3, x4, x5, x6⟩ := at_T46 (Kd.C_below HR.out HB.out) (k : Int) (by omega) (by omega)
     cases ea
     simp only [Int.toNat_natCast] at x0 x1 x2 x3 x4 x5 x6
     have p1 : (0 ≤ (k : Int)) = True := eq_true (by omega)
     have q1 : ((k : Int) < (l.length : Int)) = True := eq_true (by omega)
     have hsz : (rd_T46 l (k : Int)).f0.size ≤ maxLen := by
      have : (rd_T46 l (k : Int)).f0.size ≤ 255 := HSZ.out _ (rdn_mem hkl)
      unfold maxLen
      omega
     clear hkl hk
     go_wp2_with (first | ((with_reducible refine gate_dst (N := 8) rfl ?_); refine box_event ?hg (N := 8) ?hd (cs := #[.string (⟨#[]⟩ : ByteArray), .int .i64 0, .int .i64 0, .int .i64 0, .int .i64 0, .int .i64 0, .string (⟨#[]⟩ : ByteArray)]) (t := 46) ?hr ?_; (case hd => rfl); (case hg => rfl); (case hr => first | (go_simp; done) | (go_simp; rfl)); intro gb hg w5 hbox hb; have n0_ := Aside0.mk (HM.out.below hb); have n1_ := Aside0.mk (below_then HB.out HB.out.size hb); have n2_ := Aside0.mk hbox; have n3_ := Aside0.mk ((by rw [hg]; exact below_size HB.out) : w.heap.size ≤ gb); have n4_ : Aside0 (b < gb ∧ g1 < gb) := ⟨by have := HM.out.lt; have := blk_lt BK.out; rw [hg]; omega⟩; have n5_ := Aside0.mk (blk_below BK.out hb); clear HM HB BK; have HM := n0_; have HB := n1_; have BX := n2_; have GE := n3_; have GN := n4_; have BK := n5_; clear n0_ n1_ n2_ n3_ n4_ n5_ hb hbox hg) | ((with_reducible refine gate_store (t := 46) rfl ?_); refine store_node' rfl rfl _ _ rfl gb _ (rd_T46 l (k : Int)) BX.out rfl rfl rfl ?_; intro w6 hS1 hS2; have s0_ := Aside0.mk (HM.out.kept hS2 (fun e => by have := Option.some.inj e; have := GN.out; omega)); have s1_ := Aside0.mk (HB.out.grown hS2 HB.out.size (fun q hq => by injection hq with hq; rw [← hq]; exact GE.out)); have s2_ := Aside0.mk hS1; have s3_ := Aside0.mk (blk_grown BK.out hS2 (fun e => by have := Option.some.inj e; have := GN.out; omega)); clear HM HB BK BX hS1 hS2; have HM := s0_; have HB := s1_; have BX := s2_; have BK := s3_; clear s0_ s1_ s2_ s3_))
     have hdn : Below w6.heap.size w6 w6.drew := below_drew (Below.refl _ _)
     have cm : w6.cell? ⟨g1, 1, none⟩ = some (.map (some b)) := (blk_cell BK.out 1).trans rfl
     have cx : w6.cell? ⟨gb, 0, none⟩ = some (.string (rd_T46 l (k : Int)).f0) := (blk_cell BX.out 0).trans rfl
     go_still_tail 8, (by kernel_rfl)
     change wpList _ _ _ _ _ w6.drew
     simp only [i64_w]
     have h1 := HKL.out
     have h2 := HL.out
     obtain ⟨w8, hput, hm8, hg8⟩ := (HM.out.below hdn).put (by unfold maxLen; omega) (rd_T46 l (k : Int)).f0 hsz (wrap64 ((k : Int) + 1)) (wrap64_wf _)
     have hbd := below_then HB.out HB.out.size hdn
     have m1_ := Aside0.mk (hbd.grown hg8 hbd.size (fun q hq => by injection hq with hq; have := HMB.out; omega))
     have m2_ := Aside0.mk hm8
     have m3_ := Aside0.mk (blk_grown (blk_below BK.out hdn) hg8 (fun e => by have := Option.some.inj e; have := HG.out; omega))
     clear HB HM BK BX hbd hm8 hg8 hdn cm cx h1 h2
     generalize w6.drew = w7 at hput ⊢
     go_wp2
     go_roundw
     case rel =>
      have h1 := HKL.out
      have h2 := HL.out
      have hk1 : wrap64 ((k : Int) + 1) = ((k + 1 : Nat) : Int) := by rw [w64 (by omega) (by omega)]; rfl
      rw [hk1] at m2_ ⊢
      exact ⟨k + 1, _, by omega, rfl, m2_, ⟨findI_put HF.out.1.nodup HKL.out HD.out⟩, m3_, m1_⟩
     case measure =>
      have := HKL.out
      have := HL.out
      rw [w64 (by omega) (by omega)]
      simp [intOf]
      omega
    ·
     have hke : k = l.length := by omega
     subst hke
     have q1 : ((l.length : Int) < (l.length : Int)) = False := eq_false (by omega)
     have hfr : Frst wr g1 A c l := ⟨b, f, BK.out, HM.out, fun s => by rw [HD.out, List.take_length], Kd.C_below HR.out HB.out, HC.out⟩
     have HX : Aside0 (FormRet l A c w (.returned (.tuple #[.pointer (some ⟨g1, 0, none⟩), .bool true])) wr) := ⟨.inl ⟨HF.out, g1, rfl, hfr, HB.out⟩⟩
     clear hfr hkl hk
     go_wp2_with fail
     go_ret2
     exact HX.out
 ·
  have HNo : Aside0 (¬ Formed l) := ⟨fun F => by
   have e := hbad.symm.trans ((formed_iff l).1 F)
   have := congrArg Prod.snd e
   cases this⟩
  rw [hbad] at HV ⊢
  clear hbad
  dsimp only
  go_wp2_with fail
  go_ret2
  exact .inr ⟨HNo.out, rfl, HB.out⟩
end Go.Proofs.YtoggfapafjgkdaaDoor.T
