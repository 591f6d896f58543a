/- The scrub texts, part Q2: walks through the code that the law reaches. -/
import Derived.Test.YtgpknomegleidaaGreatDoorQ1
import Derived.Lib.Builder
import Derived.Lib.UnsafeStr
import Derived.RegionTactic
import Derived.Maps.OwnOps
import Derived.Maps.OwnSet
import Derived.Maps.Views
import Derived.DeepKeys4
import Derived.Carry
import Derived.Deep.DeepAppendWide
import Derived.Shelf.Strings.Builder1
import Derived.Shelf.Strings.BuilderF
import Derived.Shelf.Strings.BuilderK
import Derived.Shelf.Strings.Repeat
import Derived.Ground.NamesProg
import Derived.Test.YtgpknomegleidaaGreatDoorProg
namespace Go.Proofs.YtgpknomegleidaaGreatDoor.T
open Go.RowKit Go.Proofs.YtgpknomegleidaaGreatDoorW.PrintWords Go.Proofs.YtgpknomegleidaaGreatDoorW.PrintLast Go.Proofs.YtgpknomegleidaaGreatDoorW.PrintMore Go.Proofs.YtgpknomegleidaaGreatDoor.PAll
set_option linter.unusedSimpArgs false
set_option linter.unusedVariables false

/-- A writer in block b, that was written (its Builder knows its own place) or not, and holds l. -/
def BldP (W : World) (base b : Nat) (p v : Value) (l : List UInt8) : Prop :=
  W.heap[b]? = some (.cells #[p, v] 111 (0, 0)) ∧ W.ownsRow base 5 1 v l.length (l.map vb)
def selfP (b : Nat) : Value := .pointer (some ⟨b, 0, none⟩)
def Bld (W : World) (base b : Nat) (l : List UInt8) : Prop := base ≤ b ∧ ∃ p v, (p = .pointer none ∨ p = selfP b) ∧ BldP W base b p v l
/-- All that is neither bytes nor a writer stays. -/
def KeepT (w w' : World) : Prop := w.heap.size ≤ w'.heap.size ∧ ∀ (g : Nat) (cs : Array Value) (t : TypeId), w.heap[g]? = some (.cells cs t (0, 0)) → t ≠ 5 → t ≠ 111 → w'.heap[g]? = some (.cells cs t (0, 0))
theorem KeepT.refl (w : World) : KeepT w w := ⟨Nat.le_refl _, fun _ _ _ h _ _ => h⟩
theorem KeepT.trans {a b c : World} (h : KeepT a b) (k : KeepT b c) : KeepT a c := ⟨Nat.le_trans h.1 k.1, fun g cs t e h1 h2 => k.2 g cs t (h.2 g cs t e h1 h2) h1 h2⟩
theorem KeepT.below {w w' : World} (h : Below w.heap.size w w') : KeepT w w' := ⟨h.size, fun _ _ _ e _ _ => blk_below e h⟩
theorem KeepT.grown {w w' : World} {row : Option Nat} (h : w.grownBy w' row) (hr : ∀ q, row = some q → ∃ cs t, w.heap[q]? = some (.cells cs t (0, 0)) ∧ (t = 5 ∨ t = 111)) : KeepT w w' := by
  refine ⟨h.size, fun g cs t e h1 h2 => blk_grown e h ?_⟩
  intro hg
  obtain ⟨cs', t', e', ht⟩ := hr g hg.symm
  rw [e] at e'
  injection e' with e'
  injection e' with _ e2
  rcases ht with rfl | rfl
  · exact h1 e2
  · exact h2 e2
theorem own_row_type {W : World} {base n : Nat} {v : Value} {xs : List Value} (h : W.ownsRow base 5 1 v n xs) : ∀ q, v.ownBlock = some q → ∃ cs t, W.heap[q]? = some (.cells cs t (0, 0)) ∧ (t = 5 ∨ t = 111) := by
  intro q hq
  rcases h.2 with ⟨rfl, _⟩ | ⟨g, cap, cur, rfl, _, hb, _⟩
  · cases hq
  · injection hq with hq
    subst hq
    exact ⟨_, _, hb, .inl rfl⟩
/-- A row of numbers of the call's own stays. -/
theorem KeepT.own {w w' : World} {base e n : Nat} {v : Value} {xs : List Value} (h : w.ownsRow base e 1 v n xs) (k : KeepT w w') (h1 : e ≠ 5) (h2 : e ≠ 111) : w'.ownsRow base e 1 v n xs := by
  refine ⟨h.1, ?_⟩
  rcases h.2 with h | ⟨g, cap, cur, e1, e2, hb, e3⟩
  · exact .inl h
  · exact .inr ⟨g, cap, cur, e1, e2, k.2 g cur e hb h1 h2, e3⟩
theorem KeepT.grownW {w w' : World} {b : Nat} {cs : Array Value} (h : w.grownBy w' (some b)) (hb : w.heap[b]? = some (.cells cs 111 (0, 0))) : KeepT w w' :=
  KeepT.grown h (fun q hq => by
    injection hq with hq
    subst hq
    exact ⟨_, _, hb, .inr rfl⟩)
theorem bld_size : (Tryz.prog.info? 111).map (·.size) = some 2 := by kernel_rfl
theorem bld_lies : liesAt Tryz.prog Tryz.prog.depth 111 (2 / Tryz.prog.cellsOf 111) 0 111 1 = true := by kernel_rfl
set_option maxHeartbeats 1000000 in
set_option maxRecDepth 100000 in
theorem check_used (b : Nat) (w : World) (h0 : w.cell? ⟨b, 0, none⟩ = some (.pointer (some ⟨b, 0, none⟩))) :
    Calls Tryz.prog 76 #[.pointer (some ⟨b, 0, none⟩)] w fun e w' => e = .returned (.tuple #[]) ∧ w' = w := by
  obtain ⟨j, hj, _⟩ := Option.map_eq_some_iff.1 bld_size
  go_enter Tryz.func76, Tryz.ntmps76
  go_wp2
  rw [Lib.run_neq_ptr_same w _ Tryz.underlying109 hj]
  go_wp2
  go_end0
  exact ⟨rfl, rfl⟩
set_option maxHeartbeats 1000000 in
set_option maxRecDepth 100000 in
theorem check_fresh (b : Nat) (w : World) (h0 : w.cell? ⟨b, 0, none⟩ = some (.pointer none)) (hsh : w.shape? b = some (111, 2)) (hfz : w.frozen? ⟨b, 0, none⟩ = false) :
    Calls Tryz.prog 76 #[.pointer (some ⟨b, 0, none⟩)] w fun e w' => e = .returned (.tuple #[]) ∧ w' = w.setCell ⟨b, 0, none⟩ (.pointer (some ⟨b, 0, none⟩)) := by
  obtain ⟨j, hj, hjs⟩ := Option.map_eq_some_iff.1 bld_size
  go_enter Tryz.func76, Tryz.ntmps76
  go_wp2
  rw [Lib.run_to_unsafe w ⟨b, 0, none⟩ Tryz.underlying109 Tryz.underlying200 hj (by rw [hjs]; decide) hsh (Nat.zero_lt_succ 1)]
  simp only [Result.andThen]
  rw [Oper.upon_value]
  go_wp2
  rw [run_callFunc_extern Tryz.func113 (by kernel_rfl) (by kernel_rfl) (by kernel_rfl) (e := Extern.AbiNoEscape.same) (by kernel_rfl)]
  rw [Lib.run_noEscape]
  simp only [Result.andThen]
  rw [Oper.upon_value]
  go_wp2
  rw [Lib.run_from_unsafe w ⟨b, 0, none⟩ Tryz.underlying200 Tryz.underlying109 hj hsh bld_lies]
  simp only [Result.andThen]
  rw [Oper.upon_value]
  go_wp2
  go_end0
  exact ⟨rfl, rfl⟩
theorem check_c (w : World) (base b : Nat) (p v : Value) (l : List UInt8) (hp : p = .pointer none ∨ p = selfP b) (h : BldP w base b p v l) (hb : base ≤ b) :
    Calls Tryz.prog 76 #[.pointer (some ⟨b, 0, none⟩)] w fun e w' => e = .returned (.tuple #[]) ∧ BldP w' base b (selfP b) v l ∧ w.grownBy w' (some b) ∧ ∀ B, B ≤ b → Below B w w' := by
  rcases hp with rfl | rfl
  · refine (check_fresh b w ((blk_cell h.1 0).trans rfl) (by simp [World.shape?, h.1]) (blk_frozen h.1 0)).mono ?_
    rintro e w' ⟨rfl, rfl⟩
    refine ⟨rfl, ⟨blk_put h.1 0 _ rfl, h.2.kept (Lib.grownBy_setCell w b 0 _) (own_not (own_ne_blk h.2 h.1 (by decide)))⟩, Lib.grownBy_setCell w b 0 _, fun B hB => (Below.refl B w).setCell (p := ⟨b, 0, none⟩) hB _⟩
  · refine (check_used b w ((blk_cell h.1 0).trans rfl)).mono ?_
    rintro e w' ⟨rfl, rfl⟩
    exact ⟨rfl, h, World.grownBy.refl _ _, fun B hB => Below.refl B _⟩
set_option maxHeartbeats 1000000 in
set_option maxRecDepth 100000 in
theorem write_c (w0 : World) (base b : Nat) (l : List UInt8) (s : ByteArray) (w : World) (h : Bld w base b l) (hB : Below base w0 w) (hlen : l.length + s.size ≤ 140737488355328) :
    Calls Tryz.prog 50 #[.pointer (some ⟨b, 0, none⟩), .string s] w fun e w' => e = .returned (.tuple #[.int .i64 s.size, .nilIface]) ∧ Bld w' base b (l ++ s.data.toList) ∧ Below base w0 w' ∧ KeepT w w' := by
  obtain ⟨hbb, p, v, hp, hP⟩ := h
  have HB := Aside0.mk hB
  have HBB := Aside0.mk hbb
  have HL := Aside0.mk hlen
  have HP := Aside0.mk hP
  have HC := Aside0.mk hp
  clear hB hbb hlen hP hp
  go_enter Tryz.func50, Tryz.ntmps50
  go_wp2_with fail
  refine (check_c w base b p v l HC.out HP.out HBB.out).mono ?_
  rintro e w1 ⟨rfl, h1, h3, h2⟩
  have HK1 : Aside0 (KeepT w w1) := ⟨KeepT.grownW h3 HP.out.1⟩
  have HP1 := Aside0.mk h1
  have HB1 : Aside0 (Below base w0 w1) := ⟨HB.out.trans (h2 base HBB.out)⟩
  have c1 := (blk_cell h1.1 1).trans (show (#[selfP b, v] : Array Value)[1]? = some v from rfl)
  clear h1 h2 h3 HP HC HB
  obtain ⟨i0, hi, hz0, hz1, hz2⟩ := info_parts infoU8
  go_wp2_with (at_builtin; go_must (refine Lib.wpList_append_own_string _ rfl _ _ 93 9 rfl base 5 i0 Tryz.underlying93 Tryz.underlying9 hi hz0 hz1 hz2 _ _ _ rfl HP1.out.2 s rfl ?c3 ?c4 ?c5 ?_; (case c3 => have := HL.out; unfold maxLen; omega); (case c4 => have := HL.out; omega); (case c5 => have := blk_lt HP1.out.1; have := HBB.out; omega); intro v2 w2 ho hg _; obtain ⟨a2, n2, d2, rfl⟩ := own_slice ho; have hb2 := blk_grown HP1.out.1 hg (own_ne_blk HP1.out.2 HP1.out.1 (by decide)); have c2 := (blk_cell hb2 1).trans (show (#[selfP b, v] : Array Value)[1]? = some v from rfl); have f2 := blk_frozen hb2 1; have HP2 := Aside0.mk hb2; have HW2 := Aside0.mk ho; have HB2 := Aside0.mk (HB1.out.grown hg (by have := blk_lt HP1.out.1; have := HBB.out; omega) (fun k hk => (HP1.out.2.lt k hk).1)); have HK2 := Aside0.mk (HK1.out.trans (KeepT.grown hg (own_row_type HP1.out.2))); clear ho hg hb2))
  go_ret2
  refine ⟨rfl, ⟨HBB.out, selfP b, .slice a2 n2 d2, .inr rfl, blk_put HP2.out 1 _ rfl, ?_⟩, HB2.out.setCell (p := ⟨b, 1, none⟩) HBB.out _, HK2.out.trans (KeepT.grownW (Lib.grownBy_setCell w2 b 1 _) HP2.out)⟩
  have h := HW2.out.kept (Lib.grownBy_setCell w2 b 1 (.slice a2 n2 d2)) (own_not (own_ne_blk HW2.out HP2.out (by decide)))
  have e : (l ++ s.data.toList).map vb = l.map vb ++ Lib.strCells s := by
    rw [List.map_append]
    rfl
  rw [e, List.length_append]
  have e2 : s.data.toList.length = s.size := by simp
  rw [e2]
  exact h
theorem own_slice' {W : World} {base e n : Nat} {v : Value} {xs : List Value} (h : W.ownsRow base e 1 v n xs) : ∃ a c, v = .slice a n c := by
  rcases h.2 with ⟨rfl, rfl⟩ | ⟨q, cap, cur, rfl, _⟩
  · exact ⟨_, _, rfl⟩
  · exact ⟨_, _, rfl⟩
set_option maxHeartbeats 1000000 in
set_option maxRecDepth 100000 in
theorem len_c (base b : Nat) (l : List UInt8) (w : World) (h : Bld w base b l) :
    Calls Tryz.prog 62 #[.pointer (some ⟨b, 0, none⟩)] w fun e w' => e = .returned (.int .i64 l.length) ∧ w = w' := by
  obtain ⟨hbb, p, v, hp, hP⟩ := h
  obtain ⟨a, c, rfl⟩ := own_slice' hP.2
  have c1 := (blk_cell hP.1 1).trans (show (#[p, .slice a l.length c] : Array Value)[1]? = some (.slice a l.length c) from rfl)
  clear hp hP hbb
  go_enter Tryz.func62, Tryz.ntmps62
  go_wp2
  go_ret
  exact ⟨rfl, rfl⟩
theorem cells_u8 : Tryz.prog.cellsOf 5 = 1 := by kernel_rfl
set_option maxHeartbeats 1000000 in
set_option maxRecDepth 100000 in
theorem string_c (w0 : World) (base b : Nat) (l : List UInt8) (w : World) (h : Bld w base b l) (h0 : l ≠ []) (hB : Below base w0 w) :
    Calls Tryz.prog 51 #[.pointer (some ⟨b, 0, none⟩)] w fun e w' => e = .returned (.string ⟨l.toArray⟩) ∧ Below base w0 w' := by
  obtain ⟨hbb, p, v, hp, hbk, hown⟩ := h
  have hl0 : l.length ≠ 0 := by simpa using h0
  obtain ⟨g, cap, cur, rfl, hbg, hg, hnc, hcm, hcs, htake⟩ : ∃ g cap cur, v = .slice (some ⟨g, 0, none⟩) l.length cap ∧ base ≤ g ∧ w.heap[g]? = some (.cells cur 5 (0, 0)) ∧ l.length ≤ cap ∧ cap ≤ maxLen ∧ cur.size = cap * 1 ∧ cur.toList.take (l.length * 1) = l.map vb := by
    rcases hown.2 with ⟨_, hz⟩ | ⟨g, cap, cur, hv, r⟩
    · exact absurd hz hl0
    · exact ⟨g, cap, cur, hv, r⟩
  have c1 : w.drew.cell? ⟨b, 1, none⟩ = some (.slice (some ⟨g, 0, none⟩) l.length cap) := (blk_cell (blk_drew hbk) 1).trans rfl
  have hSD : (Builtin.unsafeSliceData_ #[93] 155 #[.slice (some ⟨g, 0, none⟩) l.length cap]).run Tryz.prog w.drew = .ok (.pointer (some ⟨g, 0, none⟩)) w.drew :=
    Lib.run_unsafeSliceData_row _ _ _ _ _ _ (by omega)
  have hUS : (Builtin.unsafeString_ #[155, 3] 9 #[.pointer (some ⟨g, 0, none⟩), .int .i64 l.length]).run Tryz.prog w.drew = .ok (.string ⟨l.toArray⟩) (w.drew.freeze ⟨g, 0, none⟩ l.length) := by
    refine Lib.run_unsafeString_row w.drew 155 3 9 5 Tryz.underlying155 cells_u8 g cur.size (by have hg' : w.drew.heap[g]? = some (.cells cur 5 (0, 0)) := hg; simp [World.shape?, hg']) l h0 (by omega) (by unfold maxLen at hcm; omega) ?_
    intro j x hx
    exact hown.cells (g := g) rfl j (.int .u8 x.toNat) (by simp [vb, hx])
  have HB := Aside0.mk hB
  have HG := Aside0.mk hbg
  clear hp hown hbk h0 hl0 hg hnc hcm hcs htake hB hbg hbb
  go_enter Tryz.func51, Tryz.ntmps51
  go_wp2
  go_region
  all_goals (go_wp2; go_ret; exact ⟨rfl, Lib.below_freeze (below_drew1 HB.out) (p := ⟨g, 0, none⟩) HG.out _⟩)
end Go.Proofs.YtgpknomegleidaaGreatDoor.T
namespace Go.Proofs.YtgpknomegleidaaGreatDoor.T
open Go.RowKit Go.Proofs.YtgpknomegleidaaGreatDoorW.PrintWords Go.Proofs.YtgpknomegleidaaGreatDoorW.PrintLast Go.Proofs.YtgpknomegleidaaGreatDoorW.PrintMore Go.Proofs.YtgpknomegleidaaGreatDoor.PAll
set_option linter.unusedSimpArgs false
set_option linter.unusedVariables false

/-- Sixteen entries that may be, in a block. -/
def Ents (cs : Array Value) : Prop := cs.size = 48 ∧ ∀ i, i < 16 → ∃ (name : ByteArray) (ino gen : Nat), cs[i * 3]? = some (.string name) ∧ cs[i * 3 + 1]? = some (.int .i64 (ino : Int)) ∧ cs[i * 3 + 2]? = some (.int .i64 (gen : Int)) ∧
  name.size ≤ 19 ∧ ino < 4294967296 ∧ gen < 4294967296 ∧ (name.size = 0 → ino = 0 ∧ gen = 0)
theorem bld_below {w w1 : World} {base b : Nat} {l : List UInt8} (h : Bld w base b l) (hb : Below w.heap.size w w1) : Bld w1 base b l := by
  obtain ⟨h1, p, v, hp, h2, h3⟩ := h
  exact ⟨h1, p, v, hp, blk_below h2 hb, pw_own_below h3 hb⟩
set_option maxHeartbeats 4000000 in
set_option maxRecDepth 100000 in
theorem sbody_c (g : Nat) (cs : Array Value) (w : World) (hg : w.heap[g]? = some (.cells cs 179 (0, 0))) (hcs : Ents cs) :
    Calls Tryz.prog 92 #[.slice (some ⟨g, 0, none⟩) 16 16] w fun e w' => ∃ s : ByteArray, e = .returned (.tuple #[.string s, .int .i64 0]) ∧ s.size = 448 ∧ Below w.heap.size w w' := by
  have HG := Aside0.mk hg
  have HE := Aside0.mk hcs
  clear hg hcs
  have hus := Tryz.underlying179
  go_enter Tryz.func92, Tryz.ntmps92
  go_wp2_with fail
  have HBd : Aside0 (Bld (w.alloc (.cells #[.pointer none, .slice none 0 0] 111 (0, 0))) w.heap.size w.heap.size []) := ⟨⟨Nat.le_refl _, _, _, .inl rfl, heap_alloc_new _ _, rfl, .inl ⟨rfl, rfl⟩⟩⟩
  have HB := Aside0.mk (below_alloc (Below.refl w.heap.size w) (.cells #[.pointer none, .slice none 0 0] 111 (0, 0)))
  go_loopw [14] (fun i wr => ∃ (k : Nat) (l : List UInt8), k ≤ 16 ∧ i = .int .i64 k ∧ Aside0 (l.length = 28 * k) ∧ Aside0 (Bld wr w.heap.size w.heap.size l) ∧ Aside0 (Below w.heap.size w wr)) (fun i _ => 16 - (intOf i).toNat)
  case atStart => exact ⟨0, [], by decide, rfl, ⟨rfl⟩, HBd, HB⟩
  case round =>
    clear HBd HB
    obtain ⟨k, l, hk, rfl, HL, HBd, HB⟩ := hrel
    by_cases hlt : k < 16
    · obtain ⟨name, ino, gen, d0, d1, d2, hb1, hb2, hb3, hb4⟩ := HE.out.2 k hlt
      have hblk := blk_below HG.out HB.out
      have x0 : wr.cell? ⟨g, k * 3, none⟩ = some (.string name) := (blk_cell hblk _).trans d0
      have x1 : wr.cell? ⟨g, k * 3 + 1, none⟩ = some (.int .i64 (ino : Int)) := (blk_cell hblk _).trans d1
      have x2 : wr.cell? ⟨g, k * 3 + 2, none⟩ = some (.int .i64 (gen : Int)) := (blk_cell hblk _).trans d2
      have HN := Aside0.mk (And.intro hb1 (And.intro hb2 (And.intro hb3 hb4)))
      have dlt : decide ((k : Int) < 16) = true := decide_eq_true (by omega)
      clear hblk d0 d1 d2 hb1 hb2 hb3 hb4
      go_wp2_with fail
      refine (entry_c name ino gen _ HN.out.1 HN.out.2.1 HN.out.2.2.1 HN.out.2.2.2).mono ?_
      rintro e w2 ⟨s, rfl, hs, hb⟩
      have HS := Aside0.mk hs
      have hb1 := below_alloc (Below.refl wr.heap.size wr) (.cells #[.string name, .int .i64 (ino : Int), .int .i64 (gen : Int)] 179 (0, 0))
      have hb2 := below_then hb1 (by rw [alloc_sz]; omega) hb
      have HB2 := Aside0.mk (below_then HB.out HB.out.size hb2)
      have HBd2 := Aside0.mk (bld_below HBd.out hb2)
      clear hs hb hb1 hb2 x0 x1 x2 HB HBd
      go_wp2_with fail
      refine (write_c w w.heap.size w.heap.size l s _ HBd2.out HB2.out (by have := HL.out; have := HS.out; omega)).mono ?_
      rintro e w3 ⟨rfl, hb3, hb4, _⟩
      have HBd := Aside0.mk hb3
      have HB := Aside0.mk hb4
      clear hb3 hb4 HB2 HBd2
      go_wp2_with fail
      go_roundw
      case rel =>
        refine ⟨k + 1, _, by omega, by go_num, ⟨?_⟩, HBd, HB⟩
        rw [List.length_append]
        have h1 := HL.out
        have h2 := HS.out
        have h3 : s.data.toList.length = s.size := Array.length_toList
        omega
      case measure => simp [intOf]; omega
    · have : k = 16 := by omega
      subst this
      have dlt : decide (((16 : Nat) : Int) < 16) = false := rfl
      have HN0 : Aside0 (l ≠ []) := ⟨fun e => by have := HL.out; rw [e] at this; simp at this⟩
      go_wp2_with fail
      refine (string_c w w.heap.size w.heap.size l _ HBd.out HN0.out HB.out).mono ?_
      rintro e w3 ⟨rfl, hb⟩
      have HB3 := Aside0.mk hb
      clear hb
      go_wp2_with fail
      go_ret2
      exact ⟨_, rfl, by rw [mk_size]; exact HL.out, HB3.out⟩
end Go.Proofs.YtgpknomegleidaaGreatDoor.T
namespace Go.Proofs.YtgpknomegleidaaGreatDoor.T
open Go.RowKit Go.Proofs.YtgpknomegleidaaGreatDoorW.PrintWords Go.Proofs.YtgpknomegleidaaGreatDoorW.PrintLast Go.Proofs.YtgpknomegleidaaGreatDoorW.PrintMore Go.Proofs.YtgpknomegleidaaGreatDoor.PAll
open Go.Maps (Keyed)
set_option linter.unusedSimpArgs false
set_option linter.unusedVariables false

abbrev li (c : Int) : DataW Unit := .lit (.int .i64 c)
theorem li_inj {a b : Int} (h : li a = li b) : a = b := (Lit.int.inj (DataW.lit.inj h)).2
/-- Block b is a map of kt to numbers: at most n entries, each of 1 to n; f tells them (0: none). -/
def MapL (w : World) (kt : TypeId) (b n : Nat) (f : Lit → Nat) : Prop :=
  ∃ D, w.ownsMap Tryz.prog kt (plainElem Tryz.prog 3) b n D ∧ (∀ x, Maps.has D x = decide (f x ≠ 0)) ∧ (∀ x, D.atKey x (li 0) = li (f x : Int)) ∧ ∀ x, f x ≤ n
variable {w w' : World} {kt mt : TypeId} {b n : Nat} {f : Lit → Nat}
theorem MapL.made (w : World) (kt : TypeId) : MapL (w.alloc (.map #[] 0)) kt w.heap.size 0 (fun _ => 0) := ⟨_, World.ownsMap_made w Tryz.prog kt (plainElem Tryz.prog 3), fun s => rfl, fun s => rfl, fun _ => Nat.le_refl _⟩
theorem MapL.kept {row : Option Nat} (h : MapL w kt b n f) (hg : w.grownBy w' row) (hne : some b ≠ row) : MapL w' kt b n f := by
  obtain ⟨D, h1, h2⟩ := h
  exact ⟨D, h1.kept hg hne, h2⟩
theorem MapL.lt (h : MapL w kt b n f) : b < w.heap.size := by
  obtain ⟨D, h1, _⟩ := h
  exact h1.lt
theorem MapL.mono {m : Nat} (h : MapL w kt b n f) (hm : n ≤ m) : MapL w kt b m f := by
  obtain ⟨D, h1, h2, h3, h4⟩ := h
  exact ⟨D, h1.mono hm, h2, h3, fun x => Nat.le_trans (h4 x) hm⟩
theorem MapL.look (h : MapL w kt b n f) (K : Keyed Tryz.prog kt) (ht : Tryz.prog.underlying mt = some (.map kt 3)) {key : Value} {kl : Lit} (hkey : keyOf Tryz.prog kt key = some kl) :
    (Instr.lookup mt (.map (some b)) key true).run Tryz.prog w = .ok (.tuple #[.int .i64 (f kl : Int), .bool (decide (f kl ≠ 0))]) w := by
  obtain ⟨D, h1, h2, h3, h4⟩ := h
  obtain ⟨v, ps, hrun, hv⟩ := h1.look_ok K ht (Tryz.zeroValue3 w) (plainElem_int Tryz.underlying3 (by decide)) hkey
  obtain ⟨c, rfl, hc, hwc⟩ := plainElem_int_inv Tryz.underlying3 hv
  have e := li_inj ((h3 _).symm.trans (congrArg Prod.fst hc))
  rw [hrun, h2, e]
theorem MapL.len (h : MapL w kt b n f) (ht : Tryz.prog.underlying mt = some (.map kt 3)) (ty : TypeId) : ∃ k : Nat, k ≤ n ∧ (Builtin.len_ #[mt] ty #[.map (some b)]).run Tryz.prog w = .ok (.int .i64 (k : Int)) w := by
  obtain ⟨D, h1, h2, h3, h4⟩ := h
  refine ⟨_, ?_, h1.len ht ty⟩
  obtain ⟨es, clock, _, _, hs, rfl⟩ := h1
  rw [Maps.size_eq, _root_.Go.length_sorted]
  simpa using hs
open Classical in
theorem MapL.put (h : MapL w kt b n f) (K : Keyed Tryz.prog kt) (ht : Tryz.prog.underlying mt = some (.map kt 3)) (hn : n < 1000000) {key : Value} {kl : Lit} (hkey : keyOf Tryz.prog kt key = some kl) (c : Nat) (hc : 1 ≤ c) (hc2 : c ≤ n + 1) :
    ∃ w' f', (Instr.mapUpdate mt (.map (some b)) key (.int .i64 (c : Int))).run Tryz.prog w = .ok () w' ∧ MapL w' kt b (n + 1) f' ∧ (f' kl = c ∧ ∀ x, x ≠ kl → f' x = f x) ∧ w.grownBy w' (some b) := by
  obtain ⟨D, h1, h2, h3, h4⟩ := h
  obtain ⟨w', hrun, r1, r2⟩ := h1.update K ht (Nat.lt_of_lt_of_le hn (by decide)) hkey (plainElem_int (H := Unit) Tryz.underlying3 (Go.WalkArith.wf_i64 ⟨by omega, by omega⟩ : (Lit.int .i64 (c : Int)).wf = true))
  refine ⟨w', fun t => if t = kl then c else f t, hrun, ⟨_, r1, fun t => ?_, fun t => ?_, fun t => ?_⟩, ⟨if_pos rfl, fun x hx => if_neg hx⟩, r2⟩
  · show _ = decide ((if t = kl then c else f t) ≠ 0)
    by_cases e : t = kl
    · rw [if_pos e, e, Maps.has_put_same h1.isMap (K.key hkey)]
      exact (decide_eq_true (by omega)).symm
    · rw [if_neg e, Maps.has_put_other e, h2]
  · show _ = li ((if t = kl then c else f t : Nat) : Int)
    by_cases e : t = kl
    · rw [if_pos e, e, Maps.atKey_put_same h1.isMap (K.key hkey)]
    · rw [if_neg e, Maps.atKey_put_other e, h3]
  · show (if t = kl then c else f t) ≤ n + 1
    by_cases e : t = kl
    · rw [if_pos e]; exact hc2
    · rw [if_neg e]; exact Nat.le_succ_of_le (h4 t)
theorem keyed_str : Keyed Tryz.prog 9 := Maps.string_keyed Tryz.underlying9
theorem laid_out : laidOutB Tryz.prog = true := by kernel_rfl
theorem keyed_sealed : Keyed Tryz.prog 158 := Keyed.of_law (deep_law_laid laid_out (m := 2) (by decide) (of_decide_eq_true (by kernel_rfl)) (by kernel_rfl) (by kernel_rfl))
end Go.Proofs.YtgpknomegleidaaGreatDoor.T
namespace Go.Proofs.YtgpknomegleidaaGreatDoor.T
open Go.RowKit Go.Proofs.YtgpknomegleidaaGreatDoorW.PrintWords Go.Proofs.YtgpknomegleidaaGreatDoorW.PrintLast Go.Proofs.YtgpknomegleidaaGreatDoorW.PrintMore Go.Proofs.YtgpknomegleidaaGreatDoor.PAll
open Go.Maps (Keyed)
set_option linter.unusedSimpArgs false
set_option linter.unusedVariables false

/-- w' is w but for the blocks of S, and for new ones. -/
structure Fr (S : Nat → Prop) (w w' : World) : Prop where
  os : w'.os = w.os
  tape : w'.tape = w.tape
  output : w'.output = w.output
  size : w.heap.size ≤ w'.heap.size
  block : ∀ g, g < w.heap.size → ¬ S g → w'.heap[g]? = w.heap[g]?
theorem Fr.refl (S : Nat → Prop) (w : World) : Fr S w w := ⟨rfl, rfl, rfl, Nat.le_refl _, fun _ _ _ => rfl⟩
theorem Fr.trans {S : Nat → Prop} {a b c : World} (h : Fr S a b) (k : Fr S b c) : Fr S a c :=
  ⟨k.os.trans h.os, k.tape.trans h.tape, k.output.trans h.output, Nat.le_trans h.size k.size, fun g hg hs => (k.block g (Nat.lt_of_lt_of_le hg h.size) hs).trans (h.block g hg hs)⟩
theorem Fr.mono {S T : Nat → Prop} {a b : World} (h : Fr S a b) (hs : ∀ g, S g → T g) : Fr T a b := ⟨h.os, h.tape, h.output, h.size, fun g hg hn => h.block g hg (fun e => hn (hs g e))⟩
theorem Fr.below {S : Nat → Prop} {a b : World} (h : Below a.heap.size a b) : Fr S a b := ⟨h.os, h.tape, h.output, h.size, fun g hg _ => h.block g hg⟩
theorem Fr.grown {S : Nat → Prop} {a b : World} {q : Nat} (h : a.grownBy b (some q)) (hq : S q) : Fr S a b := ⟨h.os, h.tape, h.output, h.size, fun g hg hn => h.block g hg (fun e => by injection e with e; exact hn (e ▸ hq))⟩
theorem Fr.cells {S : Nat → Prop} {a b : World} {g : Nat} {o : Obj} (h : Fr S a b) (hg : a.heap[g]? = some o) (hn : ¬ S g) : b.heap[g]? = some o :=
  (h.block g (Array.getElem?_eq_some_iff.1 hg).1 hn).trans hg
/-- What count does to a map. -/
structure Cnt (kt : TypeId) (b N : Nat) (f : Lit → Nat) (kl : Lit) (m : Nat) (f' : Lit → Nat) (w w' : World) : Prop where
  map : MapL w' kt b (N + 1) f'
  one : 1 ≤ m
  le : m ≤ N + 1
  at_ : f' kl = m
  other : ∀ x, x ≠ kl → f' x = f x
  old : f kl ≠ 0 → m = f kl
  grown : w.grownBy w' (some b)
theorem Cnt.keeps {kt : TypeId} {b N : Nat} {f : Lit → Nat} {kl : Lit} {m : Nat} {f' : Lit → Nat} {w w' : World} (h : Cnt kt b N f kl m f' w w') {x : Lit} (hx : f x ≠ 0) : f' x = f x := by
  by_cases e : x = kl
  · subst e
    rw [h.at_, h.old hx]
  · exact h.other x e
set_option maxHeartbeats 1000000 in
set_option maxRecDepth 100000 in
theorem count_s (w : World) (b N : Nat) (f : Lit → Nat) (s : ByteArray) (kl : Lit) (h : MapL w 9 b N f) (hN : N < 1000000) (hk : keyOf Tryz.prog 9 (.string s) = some kl) :
    Calls Tryz.prog 120 #[.map (some b), .string s] w fun e w' => ∃ m f', e = .returned (.int .i64 ((m : Nat) : Int)) ∧ Cnt 9 b N f kl m f' w w' := by
  have hl := h.look keyed_str Tryz.underlying56 hk
  obtain ⟨k, hkN, hlen⟩ := h.len Tryz.underlying56 3
  obtain ⟨w1, f1, hput, hm1, ⟨hat, hoth⟩, hgr⟩ := h.put keyed_str Tryz.underlying56 hN hk (k + 1) (by omega) (by omega)
  have hp2 : (Instr.mapUpdate 56 (.map (some b)) (.string s) (.int .i64 ((k : Int) + 1))).run Tryz.prog w = .ok () w1 := hput
  clear hput
  have HH := Aside0.mk h
  have HP := Aside0.mk (And.intro hm1 (And.intro hat (And.intro hoth hgr)))
  have HK := Aside0.mk hkN
  have w1_ : wrap64 ((k : Int) + 1) = ((k + 1 : Nat) : Int) := by rw [w64 (by omega) (by omega)]; rfl
  clear h hm1 hat hoth hgr hkN
  go_enter Tryz.func120, Tryz.ntmps120
  by_cases h0 : f kl = 0
  · have hd : decide (f kl ≠ 0) = false := decide_eq_false (fun e => e h0)
    rw [hd] at hl
    have HZ := Aside0.mk h0
    clear h0 hd
    go_wp2_with fail
    go_ret
    exact ⟨k + 1, f1, by first | rfl | (rw [w1_]; rfl), HP.out.1, by omega, by have := HK.out; omega, HP.out.2.1, HP.out.2.2.1, fun e => absurd HZ.out e, HP.out.2.2.2⟩
  · have hd : decide (f kl ≠ 0) = true := decide_eq_true h0
    rw [hd] at hl
    have HZ := Aside0.mk h0
    clear h0 hd
    go_wp2_with fail
    go_ret
    obtain ⟨D, _, _, _, hle⟩ := HH.out
    exact ⟨f kl, f, rfl, HH.out.mono (Nat.le_succ _), by have := HZ.out; omega, Nat.le_succ_of_le (hle kl), rfl, fun _ _ => rfl, fun _ => rfl, ⟨rfl, rfl, rfl, Nat.le_refl _, fun _ _ _ => rfl⟩⟩
def keyV (salt : Int) (nonce ad s : ByteArray) : Value := .agg #[.int .i64 salt, .string nonce, .string ad, .string s]
def keyO (salt : Int) (nonce ad s : ByteArray) : Obj := .cells #[.int .i64 salt, .string nonce, .string ad, .string s] 158 (0, 0)
set_option maxHeartbeats 1000000 in
set_option maxRecDepth 100000 in
theorem count_k (w : World) (b N : Nat) (f : Lit → Nat) (salt : Int) (nonce ad s : ByteArray) (kl : Lit) (h : MapL w 158 b N f) (hN : N < 1000000) (hk : keyOf Tryz.prog 158 (keyV salt nonce ad s) = some kl) :
    Calls Tryz.prog 142 #[.map (some b), keyV salt nonce ad s] w fun e w' => ∃ m f', e = .returned (.int .i64 ((m : Nat) : Int)) ∧ Cnt 158 b N f kl m f' (w.alloc (keyO salt nonce ad s)) w' := by
  have h := h.kept (World.grownBy_alloc w (keyO salt nonce ad s) none) (by simp)
  unfold keyV keyO at *
  have hu := Tryz.underlying158
  have hl := h.look keyed_sealed Tryz.underlying58 hk
  obtain ⟨k, hkN, hlen⟩ := h.len Tryz.underlying58 3
  obtain ⟨w1, f1, hput, hm1, ⟨hat, hoth⟩, hgr⟩ := h.put keyed_sealed Tryz.underlying58 hN hk (k + 1) (by omega) (by omega)
  have hp2 : (Instr.mapUpdate 58 (.map (some b)) (.agg #[.int .i64 salt, .string nonce, .string ad, .string s]) (.int .i64 ((k : Int) + 1))).run Tryz.prog (w.alloc (.cells #[.int .i64 salt, .string nonce, .string ad, .string s] 158 (0, 0))) = .ok () w1 := hput
  clear hput
  have HH := Aside0.mk h
  have HP := Aside0.mk (And.intro hm1 (And.intro hat (And.intro hoth hgr)))
  have HK := Aside0.mk hkN
  have w1_ : wrap64 ((k : Int) + 1) = ((k + 1 : Nat) : Int) := by rw [w64 (by omega) (by omega)]; rfl
  clear h hm1 hat hoth hgr hkN
  go_enter Tryz.func142, Tryz.ntmps142
  by_cases h0 : f kl = 0
  · have hd : decide (f kl ≠ 0) = false := decide_eq_false (fun e => e h0)
    rw [hd] at hl
    have HZ := Aside0.mk h0
    clear h0 hd
    go_wp2_with fail
    go_ret
    exact ⟨k + 1, f1, by first | rfl | (rw [w1_]; rfl), HP.out.1, by omega, by have := HK.out; omega, HP.out.2.1, HP.out.2.2.1, fun e => absurd HZ.out e, HP.out.2.2.2⟩
  · have hd : decide (f kl ≠ 0) = true := decide_eq_true h0
    rw [hd] at hl
    have HZ := Aside0.mk h0
    clear h0 hd
    go_wp2_with fail
    go_ret
    obtain ⟨D, _, _, _, hle⟩ := HH.out
    exact ⟨f kl, f, rfl, HH.out.mono (Nat.le_succ _), by have := HZ.out; omega, Nat.le_succ_of_le (hle kl), rfl, fun _ _ => rfl, fun _ => rfl, ⟨rfl, rfl, rfl, Nat.le_refl _, fun _ _ _ => rfl⟩⟩
/-- The vault at v: its blocks, what it numbered. -/
structure Vlt (w : World) (v i bh bs N : Nat) (f : Lit → Nat) : Prop where
  vb : w.heap[v]? = some (.cells #[.pointer none, .pointer (some ⟨i, 0, none⟩)] 63 (0, 0))
  ib : ∃ bm, w.heap[i]? = some (.cells #[.map (some bh), .map (some bm), .map (some bs)] 60 (0, 0))
  hm : ∃ g, MapL w 9 bh N g
  sm : MapL w 158 bs N f
  ne : bh ≠ bs
def VS (bh bs : Nat) (g : Nat) : Prop := g = bh ∨ g = bs
theorem MapL.obj {w : World} {kt : TypeId} {b n : Nat} {f : Lit → Nat} (h : MapL w kt b n f) : ∃ es c, w.heap[b]? = some (.map es c) := by
  obtain ⟨D, ⟨es, clock, hb, _⟩, _⟩ := h
  exact ⟨es, clock, hb⟩
theorem MapL.ne_cells {w : World} {kt : TypeId} {b n g : Nat} {f : Lit → Nat} {cs : Array Value} {t : TypeId} {d : Nat × Nat} (h : MapL w kt b n f) (hg : w.heap[g]? = some (.cells cs t d)) : g ≠ b := by
  obtain ⟨es, c, hb⟩ := h.obj
  intro e
  rw [e, hb] at hg
  cases hg
theorem MapL.eq {w w' : World} {kt : TypeId} {b n : Nat} {f : Lit → Nat} (h : MapL w kt b n f) (e : w'.heap[b]? = w.heap[b]?) : MapL w' kt b n f := by
  obtain ⟨D, ⟨es, clock, hb, r⟩, h2⟩ := h
  exact ⟨D, ⟨es, clock, e.trans hb, r⟩, h2⟩
theorem Vlt.fr {S : Nat → Prop} {w w' : World} {v i bh bs N : Nat} {f : Lit → Nat} (h : Vlt w v i bh bs N f) (hf : Fr S w w') (hv : ¬ S v) (hi : ¬ S i) (hh : ¬ S bh) (hs : ¬ S bs) : Vlt w' v i bh bs N f := by
  obtain ⟨bm, hib⟩ := h.ib
  obtain ⟨g, hg⟩ := h.hm
  exact ⟨hf.cells h.vb hv, ⟨bm, hf.cells hib hi⟩, ⟨g, hg.eq (hf.block _ hg.lt hh)⟩, h.sm.eq (hf.block _ h.sm.lt hs), h.ne⟩
theorem Vlt.below {w w' : World} {v i bh bs N : Nat} {f : Lit → Nat} (h : Vlt w v i bh bs N f) (hb : Below w.heap.size w w') : Vlt w' v i bh bs N f := h.fr (S := fun _ => False) (Fr.below hb) id id id id
theorem Vlt.mono {w : World} {v i bh bs N M : Nat} {f : Lit → Nat} (h : Vlt w v i bh bs N f) (hm : N ≤ M) : Vlt w v i bh bs M f := ⟨h.vb, h.ib, by obtain ⟨g, hg⟩ := h.hm; exact ⟨g, hg.mono hm⟩, h.sm.mono hm, h.ne⟩
end Go.Proofs.YtgpknomegleidaaGreatDoor.T
namespace Go.Proofs.YtgpknomegleidaaGreatDoor.T
open Go.RowKit Go.Proofs.YtgpknomegleidaaGreatDoorW.PrintWords Go.Proofs.YtgpknomegleidaaGreatDoorW.PrintLast Go.Proofs.YtgpknomegleidaaGreatDoorW.PrintMore Go.Proofs.YtgpknomegleidaaGreatDoor.PAll
open Go.Maps (Keyed)
set_option linter.unusedSimpArgs false
set_option linter.unusedVariables false

theorem keyS (s : ByteArray) (hs : s.size ≤ maxLen) : keyOf Tryz.prog 9 (.string s) = some (.string (pb s)) := by
  simp [keyOf, mapKey, Tryz.underlying9, hs, pb]
theorem vlt_hash {w w1 : World} {v i bh bs N : Nat} {f g : Lit → Nat} (h : Vlt w v i bh bs N f) (hm : MapL w1 9 bh (N + 1) g) (hg : w.grownBy w1 (some bh)) : Vlt w1 v i bh bs (N + 1) f := by
  obtain ⟨bm, hib⟩ := h.ib
  obtain ⟨g0, hg0⟩ := h.hm
  have hf := Fr.grown (S := fun x => x = bh) hg rfl
  exact ⟨hf.cells h.vb (hg0.ne_cells h.vb), ⟨bm, hf.cells hib (hg0.ne_cells hib)⟩, ⟨g, hm⟩, (h.sm.eq (hf.block _ h.sm.lt (Ne.symm h.ne))).mono (Nat.le_succ _), h.ne⟩
theorem vlt_seal {w w1 : World} {v i bh bs N : Nat} {f g : Lit → Nat} (h : Vlt w v i bh bs N f) (hm : MapL w1 158 bs (N + 1) g) (hg : w.grownBy w1 (some bs)) : Vlt w1 v i bh bs (N + 1) g := by
  obtain ⟨bm, hib⟩ := h.ib
  obtain ⟨g0, hg0⟩ := h.hm
  have hf := Fr.grown (S := fun x => x = bs) hg rfl
  exact ⟨hf.cells h.vb (h.sm.ne_cells h.vb), ⟨bm, hf.cells hib (h.sm.ne_cells hib)⟩, ⟨g0, (hg0.eq (hf.block _ hg0.lt h.ne)).mono (Nat.le_succ _)⟩, hm, h.ne⟩
set_option maxHeartbeats 1000000 in
set_option maxRecDepth 100000 in
theorem ihash_c (w : World) (v i bh bs N : Nat) (f : Lit → Nat) (s : ByteArray) (h : Vlt w v i bh bs N f) (hN : N < 1000000) (hs : s.size ≤ maxLen) :
    Calls Tryz.prog 87 #[.pointer (some ⟨i, 0, none⟩), .string s] w fun e w' => ∃ t : ByteArray, e = .returned (.string t) ∧ t.size = 32 ∧ Vlt w' v i bh bs (N + 1) f ∧ Fr (VS bh bs) w w' := by
  obtain ⟨bm, hib⟩ := h.ib
  obtain ⟨g, hg⟩ := h.hm
  have HV := Aside0.mk h
  have HC := Aside0.mk (count_s w bh N g s _ hg hN (keyS s hs))
  have HN := Aside0.mk hN
  have c0 : w.cell? ⟨i, 0, none⟩ = some (.map (some bh)) := (blk_cell hib 0).trans rfl
  clear h hg hib hN hs
  go_enter Tryz.func87, Tryz.ntmps87
  go_wp2_with fail
  refine HC.out.mono ?_
  rintro e w1 ⟨m, g1, rfl, hc⟩
  have HC1 := Aside0.mk hc
  clear hc c0
  go_wp2_with fail
  refine (numbered_c m 32 _ (by have := HC1.out.le; have := HN.out; omega) (by decide) (by decide)).mono ?_
  rintro e w2 ⟨rfl, hb⟩
  have HB := Aside0.mk hb
  clear hb
  go_wp2_with fail
  go_ret
  refine ⟨_, rfl, ?_, ?_, ?_⟩
  · rw [mk_size, List.length_append, le_length]; rfl
  · exact (vlt_hash HV.out HC1.out.map HC1.out.grown).below HB.out
  · exact (Fr.grown HC1.out.grown (.inl rfl)).trans (Fr.below HB.out)
set_option maxHeartbeats 1000000 in
set_option maxRecDepth 100000 in
theorem vnone_c (w : World) (v i bh bs N : Nat) (f : Lit → Nat) (h : Vlt w v i bh bs N f) :
    Calls Tryz.prog 53 #[.pointer (some ⟨v, 0, none⟩)] w fun e w' => e = .returned (.bool false) ∧ w' = w := by
  have c0 : w.cell? ⟨v, 0, none⟩ = some (.pointer none) := (blk_cell h.vb 0).trans rfl
  have c1 : w.cell? ⟨v, 1, none⟩ = some (.pointer (some ⟨i, 0, none⟩)) := (blk_cell h.vb 1).trans rfl
  clear h
  go_enter Tryz.func53, Tryz.ntmps53
  go_wp2_with fail
  go_ret
  exact ⟨rfl, rfl⟩
set_option maxHeartbeats 1000000 in
set_option maxRecDepth 100000 in
theorem vHash_c (w : World) (v i bh bs N : Nat) (f : Lit → Nat) (s : ByteArray) (h : Vlt w v i bh bs N f) (hN : N < 1000000) (hs : s.size ≤ maxLen) :
    Calls Tryz.prog 65 #[.pointer (some ⟨v, 0, none⟩), .string s] w fun e w' => ∃ t : ByteArray, e = .returned (.string t) ∧ t.size = 32 ∧ Vlt w' v i bh bs (N + 1) f ∧ Fr (VS bh bs) w w' := by
  have HA := Aside0.mk (vnone_c w v i bh bs N f h)
  have HI := Aside0.mk (ihash_c w v i bh bs N f s h hN hs)
  have c0 : w.cell? ⟨v, 0, none⟩ = some (.pointer none) := (blk_cell h.vb 0).trans rfl
  have c1 : w.cell? ⟨v, 1, none⟩ = some (.pointer (some ⟨i, 0, none⟩)) := (blk_cell h.vb 1).trans rfl
  clear h hN hs
  go_enter Tryz.func65, Tryz.ntmps65
  go_wp2_with fail
  refine HA.out.mono ?_
  rintro e w1 ⟨rfl, rfl⟩
  go_wp2_with fail
  refine HI.out.mono ?_
  rintro e w2 ⟨t, rfl, h1, h2, h3⟩
  have HE := Aside0.mk (And.intro h1 (And.intro h2 h3))
  clear h1 h2 h3 c0 c1
  go_wp2_with fail
  go_ret
  exact ⟨_, rfl, HE.out.1, HE.out.2.1, HE.out.2.2⟩
end Go.Proofs.YtgpknomegleidaaGreatDoor.T
namespace Go.Proofs.YtgpknomegleidaaGreatDoor.T
open Go.RowKit Go.Proofs.YtgpknomegleidaaGreatDoorW.PrintWords Go.Proofs.YtgpknomegleidaaGreatDoorW.PrintLast Go.Proofs.YtgpknomegleidaaGreatDoorW.PrintMore Go.Proofs.YtgpknomegleidaaGreatDoor.PAll
open Go.Maps (Keyed)
set_option linter.unusedSimpArgs false
set_option linter.unusedVariables false

/-- A number as sixteen bytes. -/
def tagB (m : Nat) : List UInt8 := le m 6 ++ zeros 10
set_option maxHeartbeats 1000000 in
set_option maxRecDepth 100000 in
theorem iseal_c (w : World) (v i bh bs N : Nat) (f : Lit → Nat) (salt : Int) (nonce ad s : ByteArray) (kl : Lit) (h : Vlt w v i bh bs N f) (hN : N < 1000000) (hz : s.size ≤ 100000) (hk : keyOf Tryz.prog 158 (keyV salt nonce ad s) = some kl) :
    Calls Tryz.prog 126 #[.pointer (some ⟨i, 0, none⟩), .int .i64 salt, .string nonce, .string ad, .string s] w fun e w' => ∃ m f', e = .returned (.string (s ++ ⟨(tagB m).toArray⟩)) ∧ Vlt w' v i bh bs (N + 1) f' ∧ f' kl = m ∧ 1 ≤ m ∧ m ≤ N + 1 ∧ (∀ x, f x ≠ 0 → f' x = f x) ∧ Fr (VS bh bs) w w' := by
  obtain ⟨bm, hib⟩ := h.ib
  have HV := Aside0.mk h
  have HC := Aside0.mk (count_k w bs N f salt nonce ad s kl h.sm hN hk)
  have HN := Aside0.mk hN
  have hmax (m : Nat) : (9223372036854775807 < s.size + ((le m 6).length + (zeros 10).length)) = False := eq_false (by rw [le_length, show (zeros 10).length = 10 from rfl]; omega)
  have c0 : w.cell? ⟨i, 2, none⟩ = some (.map (some bs)) := (blk_cell hib 2).trans rfl
  have hu := Tryz.underlying158
  unfold keyV at HC
  clear h hib hN hk hz
  go_enter Tryz.func126, Tryz.ntmps126
  go_wp2_with fail
  refine HC.out.mono ?_
  rintro e w1 ⟨m, g1, rfl, hc⟩
  have HC1 := Aside0.mk hc
  clear hc c0
  go_wp2_with fail
  refine (numbered_c m 16 _ (by have := HC1.out.le; have := HN.out; omega) (by decide) (by decide)).mono ?_
  rintro e w2 ⟨rfl, hb⟩
  have HB := Aside0.mk hb
  clear hb
  go_wp2_with fail
  go_ret
  refine ⟨m, g1, rfl, ?_, HC1.out.at_, HC1.out.one, HC1.out.le, fun x hx => HC1.out.keeps hx, ?_⟩
  · refine (vlt_seal (HV.out.below (below_alloc (Below.refl _ w) (keyO salt nonce ad s))) HC1.out.map HC1.out.grown).below HB.out
  · exact ((Fr.below (below_alloc (Below.refl _ w) (keyO salt nonce ad s))).trans (Fr.grown HC1.out.grown (.inr rfl))).trans (Fr.below HB.out)
set_option maxHeartbeats 1000000 in
set_option maxRecDepth 100000 in
theorem wrong_c (w : World) (salt : Int) (nonce : ByteArray) (h0 : 0 ≤ salt) (h1 : salt < 281474976710656) (hn : nonce.size = 12) :
    Calls Tryz.prog 54 #[.int .i64 salt, .string nonce] w fun e w' => e = .returned (.bool false) ∧ w' = w := by
  have d0 : decide (salt < 0) = false := decide_eq_false (by omega)
  have d1 : decide (281474976710656 ≤ salt) = false := decide_eq_false (by omega)
  have d2 : ((nonce.size : Int) != 12) = false := by simp; omega
  clear h0 h1 hn
  go_enter Tryz.func54, Tryz.ntmps54
  go_wp2_with fail
  go_ret
  exact ⟨rfl, rfl⟩
set_option maxHeartbeats 1000000 in
set_option maxRecDepth 100000 in
theorem vSeal_c (w : World) (v i bh bs N : Nat) (f : Lit → Nat) (salt : Int) (nonce ad s : ByteArray) (kl : Lit) (h : Vlt w v i bh bs N f) (hN : N < 1000000) (hz : s.size ≤ 100000) (h0 : 0 ≤ salt) (h1 : salt < 281474976710656) (hn : nonce.size = 12) (hk : keyOf Tryz.prog 158 (keyV salt nonce ad s) = some kl) :
    Calls Tryz.prog 94 #[.pointer (some ⟨v, 0, none⟩), .int .i64 salt, .string nonce, .string ad, .string s] w fun e w' => ∃ m f', e = .returned (.tuple #[.string (s ++ ⟨(tagB m).toArray⟩), .int .i64 0]) ∧ Vlt w' v i bh bs (N + 1) f' ∧ f' kl = m ∧ 1 ≤ m ∧ m ≤ N + 1 ∧ (∀ x, f x ≠ 0 → f' x = f x) ∧ Fr (VS bh bs) w w' := by
  have HA := Aside0.mk (vnone_c w v i bh bs N f h)
  have HW := Aside0.mk (wrong_c w salt nonce h0 h1 hn)
  have HI := Aside0.mk (iseal_c w v i bh bs N f salt nonce ad s kl h hN hz hk)
  have c0 : w.cell? ⟨v, 0, none⟩ = some (.pointer none) := (blk_cell h.vb 0).trans rfl
  have c1 : w.cell? ⟨v, 1, none⟩ = some (.pointer (some ⟨i, 0, none⟩)) := (blk_cell h.vb 1).trans rfl
  clear h hN hz h0 h1 hn hk
  go_enter Tryz.func94, Tryz.ntmps94
  go_wp2_with fail
  refine HA.out.mono ?_
  rintro e w1 ⟨rfl, rfl⟩
  go_wp2_with fail
  refine HW.out.mono ?_
  rintro e w1 ⟨rfl, rfl⟩
  go_wp2_with fail
  refine HI.out.mono ?_
  rintro e w2 ⟨m, g, rfl, h1⟩
  have HE := Aside0.mk h1
  clear h1 c0 c1
  go_wp2_with fail
  go_ret2
  exact ⟨m, g, rfl, HE.out⟩
end Go.Proofs.YtgpknomegleidaaGreatDoor.T
namespace Go.Proofs.YtgpknomegleidaaGreatDoor.T
open Go.RowKit Go.Proofs.YtgpknomegleidaaGreatDoorW.PrintWords Go.Proofs.YtgpknomegleidaaGreatDoorW.PrintLast Go.Proofs.YtgpknomegleidaaGreatDoorW.PrintMore Go.Proofs.YtgpknomegleidaaGreatDoor.PAll
open Go.Maps (Keyed)
set_option linter.unusedSimpArgs false
set_option linter.unusedVariables false

set_option maxHeartbeats 1000000 in
set_option maxRecDepth 100000 in
theorem ideal_c (w : World) :
    Calls Tryz.prog 7 #[] w fun e w' => ∃ v i bh bs, e = .returned (.pointer (some ⟨v, 0, none⟩)) ∧ Vlt w' v i bh bs 0 (fun _ => 0) ∧ w.heap.size ≤ v ∧ w.heap.size ≤ i ∧ w.heap.size ≤ bh ∧ w.heap.size ≤ bs ∧ Below w.heap.size w w' := by
  have m1 : ∀ W : World, (Instr.makeMap 56 none).run Tryz.prog W = .ok (.map (some W.heap.size)) (W.alloc (.map #[] 0)) := fun W => run_makeMap 56 W
  have m2 : ∀ W : World, (Instr.makeMap 57 none).run Tryz.prog W = .ok (.map (some W.heap.size)) (W.alloc (.map #[] 0)) := fun W => run_makeMap 57 W
  have m3 : ∀ W : World, (Instr.makeMap 58 none).run Tryz.prog W = .ok (.map (some W.heap.size)) (W.alloc (.map #[] 0)) := fun W => run_makeMap 58 W
  have hu1 := Tryz.underlying60
  have hu2 := Tryz.underlying63
  go_enter Tryz.func7, Tryz.ntmps7
  go_wp2_with fail
  go_ret
  have k (o : Obj) (W : World) : Below w.heap.size w W → Below w.heap.size w (W.alloc o) := fun h => below_alloc h o
  have a (o : Obj) (W : World) : (W.alloc o).heap.size = W.heap.size + 1 := alloc_sz W o
  have n (o : Obj) (W : World) (q : Nat) (hq : W.heap.size = q) : (W.alloc o).heap[q]? = some o := hq ▸ heap_alloc_new W o
  have g (o : Obj) (W : World) : W.grownBy (W.alloc o) none := World.grownBy_alloc W o none
  have M (kt : TypeId) (W : World) (q : Nat) (hq : W.heap.size = q) : MapL (W.alloc (.map #[] 0)) kt q 0 (fun _ => 0) := hq ▸ MapL.made W kt
  refine ⟨_, w.heap.size + 1 + 1 + 1, w.heap.size, w.heap.size + 1 + 1, rfl, ⟨n _ _ _ (by simp only [a]), ⟨w.heap.size + 1, ?_⟩, ⟨fun _ => 0, ?_⟩, ?_, by omega⟩, by omega, by omega, Nat.le_refl _, by omega, ?_⟩
  · exact Fr.cells (S := fun _ => False) (Fr.below (below_alloc (Below.refl _ _) _)) (n _ _ _ (by simp only [a])) id
  · exact ((((M _ w _ rfl).kept (g _ _) (by simp)).kept (g _ _) (by simp)).kept (g _ _) (by simp)).kept (g _ _) (by simp)
  · exact ((M _ _ _ (by simp only [a])).kept (g _ _) (by simp)).kept (g _ _) (by simp)
  · exact k _ _ (k _ _ (k _ _ (k _ _ (k _ _ (Below.refl _ _)))))
set_option maxHeartbeats 4000000 in
set_option maxRecDepth 100000 in
theorem iopen_c (w : World) (v i bh bs N : Nat) (f : Lit → Nat) (salt : Int) (nonce ad s c : ByteArray) (kl : Lit) (h : Vlt w v i bh bs N f) (hN : N < 1000000) (hk : keyOf Tryz.prog 158 (keyV salt nonce ad s) = some kl)
    (hz : s.size ≤ 100000) (hc : c = s ++ ⟨(tagB (f kl)).toArray⟩) (h0 : f kl ≠ 0) (hle : f kl ≤ N) :
    Calls Tryz.prog 55 #[.pointer (some ⟨i, 0, none⟩), .int .i64 salt, .string nonce, .string ad, .string c] w fun e w' => e = .returned (.tuple #[.string s, .int .i64 0]) ∧ Below w.heap.size w w' := by
  obtain ⟨bm, hib⟩ := h.ib
  have hu := Tryz.underlying158
  have hl : ∀ n, (Instr.lookup 58 (.map (some bs)) (.agg #[.int .i64 salt, .string nonce, .string ad, .string s]) true).run Tryz.prog (w.drewN n) = .ok (.tuple #[.int .i64 (f kl : Int), .bool true]) (w.drewN n) := fun n => by
    have := (h.sm.eq (w' := w.drewN n) rfl).look keyed_sealed Tryz.underlying58 hk
    rw [show decide (f kl ≠ 0) = true from decide_eq_true h0] at this
    exact this
  have c0 : w.cell? ⟨i, 2, none⟩ = some (.map (some bs)) := (blk_cell hib 2).trans rfl
  obtain ⟨m, hm⟩ : ∃ m, m = f kl := ⟨_, rfl⟩
  rw [← hm] at hl hc hle
  have hts : (⟨(tagB m).toArray⟩ : ByteArray).size = 16 := by rw [mk_size, tagB, List.length_append, le_length]; rfl
  have e1 : c.size = s.size + 16 := by rw [hc, ByteArray.size_append, hts]
  have e2 : c.extract 0 s.size = s := by rw [hc, ByteArray.extract_append_eq_left rfl]
  have e3 : c.extract s.size (s.size + 16) = ⟨(tagB m).toArray⟩ := by rw [hc, ← hts]; exact ByteArray.extract_append_eq_right rfl rfl
  have q1 : ((s.size : Int) ≤ (s.size : Int) + 16) = True := eq_true (by omega)
  have w1_ : wrap64 ((c.size : Int) - 16) = (s.size : Int) := by rw [e1, w64 (by omega) (by omega)]; omega
  have HN := Aside0.mk (And.intro hN hle)
  clear h hib hk hc h0 hm hts hN hle
  go_enter Tryz.func55, Tryz.ntmps55
  go_wp2_with fail
  go_big_quiet (fail)
  clear hl c0
  go_wp2_with fail
  -- REGION3
  refine start_ (n := 10) (S := fun _ => True) (ds := []) #[false, false, false, false, false, false, false, false, false, false] (by kernel_rfl) rfl rfl trivial (fun _ => ?_)
  have HB1 : Aside0 (Below w.heap.size w (w.drewN nq).drew) := ⟨below_drew (by repeat (first | exact Below.refl _ _ | apply pw_below_drewN))⟩
  generalize (w.drewN nq).drew = w1 at HB1 ⊢
  refine pure_ (i := 0) (N := some 33) (v := ?_) (a' := ?_) #[true, false, false, false, false, false, false, false, false, false] rfl rfl (by kernel_rfl) (fun _ _ _ h => h) (Or.inl ⟨by rfl, ?_⟩) ?_ ?_
  rotate_left; · intro w'; go_simp; with_reducible rfl
  rotate_left; · simp only [Act.put, List.setIfInBounds_toArray, List.set_cons_zero, List.set_cons_succ, i64_w, i32_w]; rfl
  refine pure_ (i := 1) (N := some 34) (v := ?_) (a' := ?_) #[true, true, false, false, false, false, false, false, false, false] rfl rfl (by kernel_rfl) (fun _ _ _ h => h) (Or.inl ⟨by rfl, ?_⟩) ?_ ?_
  rotate_left; · intro w'; go_simp; with_reducible rfl
  rotate_left; · simp only [Act.put, List.setIfInBounds_toArray, List.set_cons_zero, List.set_cons_succ, i64_w, i32_w]; rfl
  refine pure_ (i := 2) (N := some 35) (v := ?_) (a' := ?_) #[true, true, true, false, false, false, false, false, false, false] rfl rfl (by kernel_rfl) (fun _ _ _ h => h) (Or.inl ⟨by rfl, ?_⟩) ?_ ?_
  rotate_left; · intro w'; go_simp; with_reducible rfl
  rotate_left; · simp only [Act.put, List.setIfInBounds_toArray, List.set_cons_zero, List.set_cons_succ, i64_w, i32_w]; rfl
  refine pure_ (i := 3) (N := some 36) (v := ?_) (a' := ?_) #[true, true, true, true, false, false, false, false, false, false] rfl rfl (by kernel_rfl) (fun _ _ _ h => h) (Or.inl ⟨by rfl, ?_⟩) ?_ ?_
  rotate_left; · intro w'; go_simp; with_reducible rfl
  rotate_left; · simp only [Act.put, List.setIfInBounds_toArray, List.set_cons_zero, List.set_cons_succ, i64_w, i32_w]; rfl
  refine pure_ (i := 4) (N := some 37) (v := ?_) (a' := ?_) #[true, true, true, true, true, false, false, false, false, false] rfl rfl (by kernel_rfl) (fun _ _ _ h => h) (Or.inl ⟨by rfl, ?_⟩) ?_ ?_
  rotate_left; · intro w'; go_simp; with_reducible rfl
  rotate_left; · simp only [Act.put, List.setIfInBounds_toArray, List.set_cons_zero, List.set_cons_succ, i64_w, i32_w]; rfl
  refine pure_ (i := 5) (N := some 38) (v := ?_) (a' := ?_) #[true, true, true, true, true, true, false, false, false, false] rfl rfl (by kernel_rfl) (fun _ _ _ h => h) (Or.inl ⟨by rfl, ?_⟩) ?_ ?_
  rotate_left; · intro w'; go_simp; with_reducible rfl
  rotate_left; · simp only [Act.put, List.setIfInBounds_toArray, List.set_cons_zero, List.set_cons_succ, i64_w, i32_w]; rfl
  refine pure_ (i := 6) (N := some 39) (v := ?_) (a' := ?_) #[true, true, true, true, true, true, true, false, false, false] rfl rfl (by kernel_rfl) (fun _ _ _ h => h) (Or.inl ⟨by rfl, ?_⟩) ?_ ?_
  rotate_left; · intro w'; go_simp; with_reducible rfl
  rotate_left; · simp only [Act.put, List.setIfInBounds_toArray, List.set_cons_zero, List.set_cons_succ, i64_w, i32_w]; rfl
  refine one_ (i := 7) (N := some 40) #[true, true, true, true, true, true, true, true, false, false] rfl rfl (by kernel_rfl) (by decide) (fun K hK => ?_)
  refine goes_ Tryz.func77 (by kernel_rfl) rfl #[.int .i64 (m : Int), .int .i64 16] (by rfl) rfl rfl (by (try simp only [List.map_toArray, List.map_cons, List.map_nil]); first | done | rfl) ?_
  refine (numbered_c m 16 _ (by have := HN.out; omega) (by decide) (by decide)).mono ?_
  rintro e w2 ⟨rfl, hb⟩
  have HB2 := Aside0.mk (below_then HB1.out HB1.out.size hb)
  refine ⟨_, rfl, ?_⟩
  refine hK.out _ _ trivial (fun _ => ?_)
  clear hK K hb
  refine norm_ (a' := ?_) ?_ ?_
  rotate_left; · show Act.put _ (some 40) _ = _; simp only [Act.put, List.setIfInBounds_toArray, List.set_cons_zero, List.set_cons_succ, i64_w, i32_w]; rfl
  refine pure_ (i := 8) (N := some 41) (v := ?_) (a' := ?_) #[true, true, true, true, true, true, true, true, true, false] rfl rfl (by kernel_rfl) (fun _ _ _ h => h) (Or.inl ⟨by rfl, ?_⟩) ?_ ?_
  rotate_left; · intro w'; go_simp; with_reducible rfl
  rotate_left; · simp only [Act.put, List.setIfInBounds_toArray, List.set_cons_zero, List.set_cons_succ, i64_w, i32_w]; rfl
  refine pure_ (i := 9) (N := some 42) (v := ?_) (a' := ?_) #[true, true, true, true, true, true, true, true, true, true] rfl rfl (by kernel_rfl) (fun _ _ _ h => h) (Or.inl ⟨by rfl, ?_⟩) ?_ ?_
  rotate_left; · intro w'; go_simp; with_reducible rfl
  rotate_left; · simp only [Act.put, List.setIfInBounds_toArray, List.set_cons_zero, List.set_cons_succ, i64_w, i32_w]; rfl
  refine done_ (by kernel_rfl) ?_
  -- END3
  have et : (!tagB m == le m 6 ++ zeros 10) = false := by
    show (!(le m 6 ++ zeros 10 == le m 6 ++ zeros 10)) = false
    rw [beq_self_eq_true]
    rfl
  rw [et]
  go_wp2_with fail
  go_ret2
  exact ⟨rfl, HB2.out⟩
end Go.Proofs.YtgpknomegleidaaGreatDoor.T
namespace Go.Proofs.YtgpknomegleidaaGreatDoor.T
open Go.RowKit Go.Proofs.YtgpknomegleidaaGreatDoorW.PrintWords Go.Proofs.YtgpknomegleidaaGreatDoorW.PrintLast Go.Proofs.YtgpknomegleidaaGreatDoorW.PrintMore Go.Proofs.YtgpknomegleidaaGreatDoor.PAll
set_option linter.unusedSimpArgs false
set_option linter.unusedVariables false

/-- w' is w but for the blocks of S, for rows of pending writes, and for new ones. -/
structure FrP (S : Nat → Prop) (w w' : World) : Prop where
  os : w'.os = w.os
  tape : w'.tape = w.tape
  output : w'.output = w.output
  size : w.heap.size ≤ w'.heap.size
  block : ∀ g, g < w.heap.size → ¬ S g → (∀ cs fr, w.heap[g]? = some (.cells cs 183 fr) → ∀ q, S q → g < q) → w'.heap[g]? = w.heap[g]?
theorem FrP.refl (S : Nat → Prop) (w : World) : FrP S w w := ⟨rfl, rfl, rfl, Nat.le_refl _, fun _ _ _ _ => rfl⟩
theorem FrP.of {S : Nat → Prop} {w w' : World} (h : Fr S w w') : FrP S w w' := ⟨h.os, h.tape, h.output, h.size, fun g hg hs _ => h.block g hg hs⟩
theorem FrP.trans {S : Nat → Prop} {a b c : World} (h : FrP S a b) (k : FrP S b c) : FrP S a c :=
  ⟨k.os.trans h.os, k.tape.trans h.tape, k.output.trans h.output, Nat.le_trans h.size k.size, fun g hg hs hp => by
    have e := h.block g hg hs hp
    exact (k.block g (Nat.lt_of_lt_of_le hg h.size) hs (fun cs fr hq => hp cs fr (e ▸ hq))).trans e⟩
theorem FrP.mono {S T : Nat → Prop} {a b : World} (h : FrP S a b) (hs : ∀ g, S g → T g) : FrP T a b := ⟨h.os, h.tape, h.output, h.size, fun g hg hn hp => h.block g hg (fun e => hn (hs g e)) (fun cs fr hq q hS => hp cs fr hq q (hs q hS))⟩
theorem FrP.below {S : Nat → Prop} {a b : World} (h : Below a.heap.size a b) : FrP S a b := FrP.of (Fr.below h)
theorem FrP.cells {S : Nat → Prop} {a b : World} {g : Nat} {cs : Array Value} {t : TypeId} {fr : Nat × Nat} (h : FrP S a b) (hg : a.heap[g]? = some (.cells cs t fr)) (hn : ¬ S g) (ht : t ≠ 183) : b.heap[g]? = some (.cells cs t fr) :=
  (h.block g (Array.getElem?_eq_some_iff.1 hg).1 hn (fun cs' fr' => by
    rw [hg]
    intro e
    injection e with e
    injection e with _ e2
    exact absurd e2 ht)).trans hg
theorem FrP.map {S : Nat → Prop} {a b : World} {kt : TypeId} {g n : Nat} {f : Lit → Nat} (h : FrP S a b) (hg : MapL a kt g n f) (hn : ¬ S g) : MapL b kt g n f :=
  hg.eq (h.block g hg.lt hn (fun cs fr e => absurd rfl (hg.ne_cells e)))
theorem FrP.set {S : Nat → Prop} {a b : World} {g : Nat} {cs cs' : Array Value} {t : TypeId} {fr : Nat × Nat} (h : a.grownBy b (some g)) (hS : S g) : FrP S a b :=
  FrP.of (Fr.grown h hS)
/-- A row of pending writes of the call's own is changed. -/
theorem FrP.pend {S : Nat → Prop} {a b : World} {base n : Nat} {v : Value} {xs : List Value} (h : a.grownBy b v.ownBlock) (hv : a.ownsRow base 183 2 v n xs) (hS : S base) : FrP S a b :=
  ⟨h.os, h.tape, h.output, h.size, fun g hg _ hp => h.block g hg (fun e => by
    rcases hv.2 with ⟨rfl, _⟩ | ⟨q, cap, cur, rfl, hbq, hq, _⟩
    · cases e
    · injection e with e
      subst e
      exact absurd (hp _ _ hq base hS) (Nat.not_lt.mpr hbq))⟩
theorem own_ne2 {W : World} {base e n sz : Nat} {v : Value} {xs : List Value} {g : Nat} {t : TypeId} {cs : Array Value} (h : W.ownsRow base e sz v n xs) (hb : W.heap[g]? = some (.cells cs t (0, 0))) (ht : e ≠ t) : some g ≠ v.ownBlock := by
  rcases h.2 with ⟨rfl, _⟩ | ⟨q, cap, cur, rfl, _, hq, _⟩
  · intro e; cases e
  · intro e
    injection e with e
    subst e
    rw [hq] at hb
    injection hb with hb
    injection hb with _ h2
    exact ht h2
theorem own_sliceN {W : World} {base e n sz : Nat} {v : Value} {xs : List Value} (h : W.ownsRow base e sz v n xs) : ∃ a c, v = .slice a n c := by
  rcases h.2 with ⟨rfl, rfl⟩ | ⟨q, cap, cur, rfl, _⟩
  · exact ⟨_, _, rfl⟩
  · exact ⟨_, _, rfl⟩
/-- A pending write's cells. -/
def encP (x : Nat × ByteArray) : List Value := [.int .i64 (x.1 : Int), .string x.2]
def heldC (n : Nat) (h : Nat → ByteArray) : Array Value := ((List.range n).map fun i => Value.string (h i)).toArray
def dumbC (n : Nat) (d : Nat → Bool) : Array Value := ((List.range n).map fun i => Value.bool (d i)).toArray
def plateC (n bh bd : Nat) (cv : Value) (rd wr : Int) : Array Value :=
  #[.int .i64 (n : Int), .slice (some ⟨bh, 0, none⟩) n n, .slice (some ⟨bd, 0, none⟩) n n, cv, .int .i64 (-1), .bool false, .int .i64 rd, .int .i64 wr]
/-- The plate at p. -/
structure PlateS (w : World) (p bh bd n : Nat) (h : Nat → ByteArray) (d : Nat → Bool) (cv : Value) (rd wr : Int) (cl : List (Nat × ByteArray)) : Prop where
  pb : w.heap[p]? = some (.cells (plateC n bh bd cv rd wr) 90 (0, 0))
  hb : w.heap[bh]? = some (.cells (heldC n h) 9 (0, 0))
  db : w.heap[bd]? = some (.cells (dumbC n d) 4 (0, 0))
  cb : w.ownsRow p 183 2 cv cl.length (cl.flatMap encP)
def PS (p bh bd : Nat) (g : Nat) : Prop := g = p ∨ g = bh ∨ g = bd
theorem heldC_at (n : Nat) (h : Nat → ByteArray) (i : Nat) (hi : i < n) : (heldC n h)[i]? = some (.string (h i)) := by
  simp [heldC, hi]
theorem dumbC_at (n : Nat) (d : Nat → Bool) (i : Nat) (hi : i < n) : (dumbC n d)[i]? = some (.bool (d i)) := by
  simp [dumbC, hi]
theorem range_set {α : Type} (n k : Nat) (f : Nat → α) (v : α) : ((List.range n).map f).set k v = (List.range n).map (fun i => if i = k then v else f i) := by
  apply List.ext_getElem?
  intro i
  simp only [List.getElem?_set, List.length_map, List.length_range, List.getElem?_map]
  by_cases e : k = i
  · subst e
    by_cases hk : k < n
    · simp [hk]
    · simp [hk]
  · rw [if_neg e]
    by_cases hi : i < n
    · simp [hi, Ne.symm e]
    · simp [hi]
theorem heldC_set (n : Nat) (h : Nat → ByteArray) (k : Nat) (s : ByteArray) : (heldC n h).setIfInBounds k (.string s) = heldC n (fun i => if i = k then s else h i) := by
  unfold heldC
  rw [List.setIfInBounds_toArray, range_set]
  congr 2
  funext i
  by_cases e : i = k
  · simp [e]
  · simp [e]
theorem dumbC_set (n : Nat) (d : Nat → Bool) (k : Nat) (s : Bool) : (dumbC n d).setIfInBounds k (.bool s) = dumbC n (fun i => if i = k then s else d i) := by
  unfold dumbC
  rw [List.setIfInBounds_toArray, range_set]
  congr 2
  funext i
  by_cases e : i = k
  · simp [e]
  · simp [e]
theorem blk_ne_type {w : World} {a b : Nat} {ca cb : Array Value} {ta tb : TypeId} {fa fb : Nat × Nat} (ha : w.heap[a]? = some (.cells ca ta fa)) (hb : w.heap[b]? = some (.cells cb tb fb)) (hn : ta ≠ tb) : a ≠ b := by
  intro e
  subst e
  rw [ha] at hb
  injection hb with hb
  injection hb with _ h2
  exact hn h2
theorem PlateS.lt {w : World} {p bh bd n : Nat} {h : Nat → ByteArray} {d : Nat → Bool} {cv : Value} {rd wr : Int} {cl : List (Nat × ByteArray)} (k : PlateS w p bh bd n h d cv rd wr cl) : ∀ g, PS p bh bd g → g < w.heap.size := by
  rintro g (rfl | rfl | rfl)
  · exact blk_lt k.pb
  · exact blk_lt k.hb
  · exact blk_lt k.db
/-- The plate stays where no block of cells is changed. -/
theorem PlateS.fr {S : Nat → Prop} {w w' : World} {p bh bd n : Nat} {h : Nat → ByteArray} {d : Nat → Bool} {cv : Value} {rd wr : Int} {cl : List (Nat × ByteArray)} (k : PlateS w p bh bd n h d cv rd wr cl) (hf : Fr S w w')
    (hS : ∀ g cs t fr, w.heap[g]? = some (.cells cs t fr) → ¬ S g) : PlateS w' p bh bd n h d cv rd wr cl := by
  refine ⟨hf.cells k.pb (hS _ _ _ _ k.pb), hf.cells k.hb (hS _ _ _ _ k.hb), hf.cells k.db (hS _ _ _ _ k.db), k.cb.1, ?_⟩
  rcases k.cb.2 with h | ⟨g, cap, cur, e1, e2, e3, e4⟩
  · exact .inl h
  · exact .inr ⟨g, cap, cur, e1, e2, hf.cells e3 (hS _ _ _ _ e3), e4⟩
theorem PlateS.below {w w' : World} {p bh bd n : Nat} {h : Nat → ByteArray} {d : Nat → Bool} {cv : Value} {rd wr : Int} {cl : List (Nat × ByteArray)} (k : PlateS w p bh bd n h d cv rd wr cl) (hb : Below w.heap.size w w') : PlateS w' p bh bd n h d cv rd wr cl :=
  k.fr (S := fun _ => False) (Fr.below hb) (fun _ _ _ _ _ => id)
theorem vs_cells {w : World} {v i bh bs N : Nat} {f : Lit → Nat} (h : Vlt w v i bh bs N f) : ∀ g cs t fr, w.heap[g]? = some (.cells cs t fr) → ¬ VS bh bs g := by
  rintro g cs t fr hg (rfl | rfl)
  · obtain ⟨q, hq⟩ := h.hm
    obtain ⟨es, c, hb⟩ := hq.obj
    rw [hb] at hg; cases hg
  · obtain ⟨es, c, hb⟩ := h.sm.obj
    rw [hb] at hg; cases hg
/-- The vault stays where the plate alone is changed. -/
theorem Vlt.frp {w w' : World} {v i vh vs N : Nat} {f : Lit → Nat} {p bh bd n : Nat} {h : Nat → ByteArray} {d : Nat → Bool} {cv : Value} {rd wr : Int} {cl : List (Nat × ByteArray)} (k : Vlt w v i vh vs N f) (hp : PlateS w p bh bd n h d cv rd wr cl)
    (hf : FrP (PS p bh bd) w w') : Vlt w' v i vh vs N f := by
  obtain ⟨bm, hib⟩ := k.ib
  obtain ⟨g, hg⟩ := k.hm
  have hm {q : Nat} {es : Array (Value × Value × Nat)} {c : Nat} : True := trivial
  have nc : ∀ q, (∃ es c, w.heap[q]? = some (.map es c)) → ¬ PS p bh bd q := by
    rintro q ⟨es, c, hq⟩ (rfl | rfl | rfl)
    · rw [hp.pb] at hq; cases hq
    · rw [hp.hb] at hq; cases hq
    · rw [hp.db] at hq; cases hq
  have nt : ∀ q cs t fr, w.heap[q]? = some (.cells cs t fr) → t ≠ 90 → t ≠ 9 → t ≠ 4 → ¬ PS p bh bd q := by
    rintro q cs t fr hq h1 h2 h3 (rfl | rfl | rfl)
    · exact blk_ne_type hq hp.pb h1 rfl
    · exact blk_ne_type hq hp.hb h2 rfl
    · exact blk_ne_type hq hp.db h3 rfl
  exact ⟨hf.cells k.vb (nt _ _ _ _ k.vb (by decide) (by decide) (by decide)) (by decide), ⟨bm, hf.cells hib (nt _ _ _ _ hib (by decide) (by decide) (by decide)) (by decide)⟩,
    ⟨g, hf.map hg (nc _ hg.obj)⟩, hf.map k.sm (nc _ k.sm.obj), k.ne⟩
end Go.Proofs.YtgpknomegleidaaGreatDoor.T
namespace Go.Proofs
open Go.Shelf
def Tryz.lays169_ren : Go.Shelf.Ren := ⟨fun | 169 => 51 | n => n, fun | 70 => 109 | 9 => 9 | 0 => 0 | 72 => 111 | 37 => 93 | 127 => 155 | 3 => 3 | 5 => 5 | n => n, fun | n => n⟩
theorem Tryz.lays169 : Go.Proofs.Lays.n169 Tryz.prog Tryz.lays169_ren := {
  mixed := by kernel_rfl
  f169 := Tryz.func51.trans (congrArg some (by kernel_rfl))
  t0 := Tryz.underlying0
  a0 := Tryz.isAgg0
  z0 := Tryz.sizeOf0
  v0 := Tryz.zeroValue0
  t3 := Tryz.underlying3
  a3 := Tryz.isAgg3
  z3 := Tryz.sizeOf3
  v3 := Tryz.zeroValue3
  t9 := Tryz.underlying9
  a9 := Tryz.isAgg9
  z9 := Tryz.sizeOf9
  v9 := Tryz.zeroValue9
  t37 := Tryz.underlying93
  a37 := Tryz.isAgg93
  z37 := Tryz.sizeOf93
  v37 := Tryz.zeroValue93
  t70 := Tryz.underlying109
  a70 := Tryz.isAgg109
  z70 := Tryz.sizeOf109
  v70 := Tryz.zeroValue109
  t72 := Tryz.underlying111
  a72 := Tryz.isAgg111
  z72 := Tryz.sizeOf111
  v72 := Tryz.zeroValue111
  t127 := Tryz.underlying155
  a127 := Tryz.isAgg155
  z127 := Tryz.sizeOf155
  v127 := Tryz.zeroValue155 }
theorem Tryz.Builder_Extra_169 : Builder.Extra Tryz.prog Tryz.lays169_ren := {
  sizeBuilder := by kernel_rfl
  liesBuilder := by kernel_rfl
  t5 := Tryz.underlying5
  a5 := Tryz.isAgg5
  z5 := Tryz.sizeOf5
  v5 := Tryz.zeroValue5
  infoByte := by kernel_rfl
  cellsByte := by kernel_rfl
  sizeByte := by kernel_rfl
  neB5 := by decide }
open Go.RowKit in
/-- (*strings.Builder).String: "String returns the accumulated string.": WHATEVER THE BUILDER HOLDS; THE FORM '_k': OVER 'Lib.IsBuilderF' (a builder that 'String()' may have read), AND WITH THE FRAME THAT REACHES ABOVE THE BUILDER: 'Lib.OthersKept': every block that is not b and is no row of uint8's stands as it stood: the iterator of a range among them. (LAID: no walk: one application.) -/
theorem Tryz.Builder_String_any_k (B b : Nat) (l : List UInt8) (w : World) (h : Lib.IsBuilderF 111 5 B b (Lib.byteCells l) w) (hBw : B ≤ w.heap.size) :
    Calls Tryz.prog 51 #[.pointer (some ⟨b, 0, none⟩)] w fun e w' => e = .returned (.string ⟨l.toArray⟩) ∧ (Lib.IsBuilderF 111 5 B b (Lib.byteCells l) w' ∧ Below B w w' ∧ Lib.OthersKept 5 (some b) w w') := Any.Builder_String_any_k Tryz.lays169 Tryz.Builder_Extra_169 B b l w h hBw
def Tryz.lays105_ren : Go.Shelf.Ren := ⟨fun | 105 => 43 | 212 => 59 | 99 => 60 | 165 => 61 | 166 => 50 | 170 => 62 | 169 => 51 | 263 => 83 | 264 => 84 | 206 => 85 | 240 => 76 | 241 => 86 | 276 => 113 | 277 => 119 | n => n, fun | 9 => 9 | 3 => 3 | 4 => 4 | 20 => 20 | 0 => 0 | 46 => 128 | 109 => 129 | 5 => 5 | 72 => 111 | 76 => 118 | 51 => 165 | 146 => 166 | 53 => 168 | 148 => 169 | 70 => 109 | 37 => 93 | 75 => 113 | 127 => 155 | 164 => 200 | 80 => 120 | n => n, fun | n => n⟩
theorem Tryz.lays105 : Go.Proofs.Lays.n105 Tryz.prog Tryz.lays105_ren := {
  mixed := by kernel_rfl
  f99 := Tryz.func60.trans (congrArg some (by kernel_rfl))
  f105 := Tryz.func43.trans (congrArg some (by kernel_rfl))
  f165 := Tryz.func61.trans (congrArg some (by kernel_rfl))
  f166 := Tryz.func50.trans (congrArg some (by kernel_rfl))
  f169 := Tryz.func51.trans (congrArg some (by kernel_rfl))
  f170 := Tryz.func62.trans (congrArg some (by kernel_rfl))
  f206 := Tryz.func85.trans (congrArg some (by kernel_rfl))
  f212 := Tryz.func59.trans (congrArg some (by kernel_rfl))
  f240 := Tryz.func76.trans (congrArg some (by kernel_rfl))
  f241 := Tryz.func86.trans (congrArg some (by kernel_rfl))
  f263 := Tryz.func83.trans (congrArg some (by kernel_rfl))
  f264 := Tryz.func84.trans (congrArg some (by kernel_rfl))
  f276 := Tryz.func113.trans (congrArg some (by kernel_rfl))
  f277 := Tryz.func119.trans (congrArg some (by kernel_rfl))
  t0 := Tryz.underlying0
  a0 := Tryz.isAgg0
  z0 := Tryz.sizeOf0
  v0 := Tryz.zeroValue0
  t3 := Tryz.underlying3
  a3 := Tryz.isAgg3
  z3 := Tryz.sizeOf3
  v3 := Tryz.zeroValue3
  t4 := Tryz.underlying4
  a4 := Tryz.isAgg4
  z4 := Tryz.sizeOf4
  v4 := Tryz.zeroValue4
  t5 := Tryz.underlying5
  a5 := Tryz.isAgg5
  z5 := Tryz.sizeOf5
  v5 := Tryz.zeroValue5
  t9 := Tryz.underlying9
  a9 := Tryz.isAgg9
  z9 := Tryz.sizeOf9
  v9 := Tryz.zeroValue9
  t20 := Tryz.underlying20
  a20 := Tryz.isAgg20
  z20 := Tryz.sizeOf20
  v20 := Tryz.zeroValue20
  t37 := Tryz.underlying93
  a37 := Tryz.isAgg93
  z37 := Tryz.sizeOf93
  v37 := Tryz.zeroValue93
  t46 := Tryz.underlying128
  a46 := Tryz.isAgg128
  z46 := Tryz.sizeOf128
  v46 := Tryz.zeroValue128
  t51 := Tryz.underlying165
  a51 := Tryz.isAgg165
  z51 := Tryz.sizeOf165
  v51 := Tryz.zeroValue165
  t53 := Tryz.underlying168
  a53 := Tryz.isAgg168
  z53 := Tryz.sizeOf168
  v53 := Tryz.zeroValue168
  t70 := Tryz.underlying109
  a70 := Tryz.isAgg109
  z70 := Tryz.sizeOf109
  v70 := Tryz.zeroValue109
  t72 := Tryz.underlying111
  a72 := Tryz.isAgg111
  z72 := Tryz.sizeOf111
  v72 := Tryz.zeroValue111
  t75 := Tryz.underlying113
  a75 := Tryz.isAgg113
  z75 := Tryz.sizeOf113
  v75 := Tryz.zeroValue113
  t76 := Tryz.underlying118
  a76 := Tryz.isAgg118
  z76 := Tryz.sizeOf118
  v76 := Tryz.zeroValue118
  t109 := Tryz.underlying129
  a109 := Tryz.isAgg129
  z109 := Tryz.sizeOf129
  v109 := Tryz.zeroValue129
  t127 := Tryz.underlying155
  a127 := Tryz.isAgg155
  z127 := Tryz.sizeOf155
  v127 := Tryz.zeroValue155
  t146 := Tryz.underlying166
  a146 := Tryz.isAgg166
  z146 := Tryz.sizeOf166
  v146 := Tryz.zeroValue166
  t148 := Tryz.underlying169
  a148 := Tryz.isAgg169
  z148 := Tryz.sizeOf169
  v148 := Tryz.zeroValue169
  t164 := Tryz.underlying200
  a164 := Tryz.isAgg200
  z164 := Tryz.sizeOf200
  v164 := Tryz.zeroValue200 }
theorem Tryz.Builder_Extra_105 : Builder.Extra Tryz.prog Tryz.lays105_ren := {
  sizeBuilder := by kernel_rfl
  liesBuilder := by kernel_rfl
  t5 := Tryz.underlying5
  a5 := Tryz.isAgg5
  z5 := Tryz.sizeOf5
  v5 := Tryz.zeroValue5
  infoByte := by kernel_rfl
  cellsByte := by kernel_rfl
  sizeByte := by kernel_rfl
  neB5 := by decide }
open Go.RowKit Go.Lib in
/-- **strings.Repeat: count ≥ 0, the result within one allocation: count copies of s.** (LAID: no walk: one application.) -/
theorem Tryz.strings_Repeat (s : ByteArray) (c : Nat) (w : World) (hc : c ≤ 9223372036854775807) (hlen : s.size * c ≤ 140737488355328) :
    Calls Tryz.prog 43 #[.string s, .int .i64 c] w fun e w' => e = .returned (.string ⟨(Lib.repeatL s.data.toList c).toArray⟩) ∧ Below w.heap.size w w' := Any.strings_Repeat Tryz.lays105 Tryz.Builder_Extra_105 s c w hc hlen
end Go.Proofs
namespace Go.Proofs.YtgpknomegleidaaGreatDoor.T
open Go.RowKit Go.Proofs.YtgpknomegleidaaGreatDoorW.PrintWords Go.Proofs.YtgpknomegleidaaGreatDoorW.PrintLast Go.Proofs.YtgpknomegleidaaGreatDoorW.PrintMore Go.Proofs.YtgpknomegleidaaGreatDoor.PAll
set_option linter.unusedSimpArgs false
set_option linter.unusedVariables false

section
variable {w : World} {p bh bd n : Nat} {h : Nat → ByteArray} {d : Nat → Bool} {cv : Value} {rd wr : Int} {cl : List (Nat × ByteArray)}
theorem PlateS.c0 (k : PlateS w p bh bd n h d cv rd wr cl) : w.cell? ⟨p, 0, none⟩ = some (.int .i64 (n : Int)) := (blk_cell k.pb 0).trans rfl
theorem PlateS.c1 (k : PlateS w p bh bd n h d cv rd wr cl) : w.cell? ⟨p, 1, none⟩ = some (.slice (some ⟨bh, 0, none⟩) n n) := (blk_cell k.pb 1).trans rfl
theorem PlateS.c2 (k : PlateS w p bh bd n h d cv rd wr cl) : w.cell? ⟨p, 2, none⟩ = some (.slice (some ⟨bd, 0, none⟩) n n) := (blk_cell k.pb 2).trans rfl
theorem PlateS.c3 (k : PlateS w p bh bd n h d cv rd wr cl) : w.cell? ⟨p, 3, none⟩ = some (cv) := (blk_cell k.pb 3).trans rfl
theorem PlateS.c4 (k : PlateS w p bh bd n h d cv rd wr cl) : w.cell? ⟨p, 4, none⟩ = some (.int .i64 (-1)) := (blk_cell k.pb 4).trans rfl
theorem PlateS.c5 (k : PlateS w p bh bd n h d cv rd wr cl) : w.cell? ⟨p, 5, none⟩ = some (.bool false) := (blk_cell k.pb 5).trans rfl
theorem PlateS.c6 (k : PlateS w p bh bd n h d cv rd wr cl) : w.cell? ⟨p, 6, none⟩ = some (.int .i64 rd) := (blk_cell k.pb 6).trans rfl
theorem PlateS.c7 (k : PlateS w p bh bd n h d cv rd wr cl) : w.cell? ⟨p, 7, none⟩ = some (.int .i64 wr) := (blk_cell k.pb 7).trans rfl
set_option maxHeartbeats 1000000 in
set_option maxRecDepth 100000 in
theorem wrongP_c (k : PlateS w p bh bd n h d cv rd wr cl) (at_ : Nat) (ha : at_ < n) :
    Calls Tryz.prog 31 #[.pointer (some ⟨p, 0, none⟩), .int .i64 (at_ : Int)] w fun e w' => e = .returned (.bool false) ∧ w' = w := by
  have c0 := k.c0
  have d0 : decide ((at_ : Int) < 0) = false := decide_eq_false (by omega)
  have d1 : decide (n ≤ at_) = false := decide_eq_false (by omega)
  clear k ha
  go_enter Tryz.func31, Tryz.ntmps31
  go_wp2_with fail
  go_ret
  exact ⟨rfl, rfl⟩
set_option maxHeartbeats 1000000 in
set_option maxRecDepth 100000 in
theorem sectors_c (k : PlateS w p bh bd n h d cv rd wr cl) :
    Calls Tryz.prog 47 #[.pointer (some ⟨p, 0, none⟩)] w fun e w' => e = .returned (.int .i64 (n : Int)) ∧ w' = w := by
  have c0 := k.c0
  clear k
  go_enter Tryz.func47, Tryz.ntmps47
  go_wp2_with fail
  go_ret
  exact ⟨rfl, rfl⟩
set_option maxHeartbeats 1000000 in
set_option maxRecDepth 100000 in
theorem up_c (k : PlateS w p bh bd n h d cv rd wr cl) :
    Calls Tryz.prog 63 #[.pointer (some ⟨p, 0, none⟩)] w fun e w' => e = .returned (.bool true) ∧ w' = w := by
  have c5 := k.c5
  clear k
  go_enter Tryz.func63, Tryz.ntmps63
  go_wp2_with fail
  go_ret
  exact ⟨rfl, rfl⟩
/-- What is read where nothing was written. -/
def z64 : ByteArray := ⟨(zeros 64).toArray⟩
def rdS (s : ByteArray) : ByteArray := if s.size = 0 then z64 else s
set_option maxHeartbeats 1000000 in
set_option maxRecDepth 100000 in
theorem held_dumb (k : PlateS w p bh bd n h d cv rd wr cl) (at_ : Nat) (ha : at_ < n) (hd : d at_ = true) :
    Calls Tryz.prog 108 #[.pointer (some ⟨p, 0, none⟩), .int .i64 (at_ : Int)] w fun e w' => e = .returned (.tuple #[.string ⟨#[]⟩, .int .i64 21]) ∧ Below w.heap.size w w' := by
  have HW := Aside0.mk (wrongP_c k at_ ha)
  have c1 := k.c1
  have c2 := k.c2
  have x1 : w.cell? ⟨bd, at_, none⟩ = some (.bool true) := (blk_cell k.db _).trans (by rw [dumbC_at n d at_ ha, hd])
  have q1 : ((at_ : Int) < (n : Int)) = True := eq_true (by omega)
  have q2 : (at_ < n) = True := eq_true ha
  clear k ha hd
  go_enter Tryz.func108, Tryz.ntmps108
  go_wp2_with fail
  refine HW.out.mono ?_
  rintro e w1 ⟨rfl, rfl⟩
  go_wp2_with fail
  go_ret2
  exact ⟨rfl, Below.refl _ _⟩
set_option maxHeartbeats 1000000 in
set_option maxRecDepth 100000 in
theorem held_c (k : PlateS w p bh bd n h d cv rd wr cl) (at_ : Nat) (ha : at_ < n) (hd : d at_ = false) :
    Calls Tryz.prog 108 #[.pointer (some ⟨p, 0, none⟩), .int .i64 (at_ : Int)] w fun e w' => e = .returned (.tuple #[.string (rdS (h at_)), .int .i64 0]) ∧ Below w.heap.size w w' := by
  have HW := Aside0.mk (wrongP_c k at_ ha)
  have c1 := k.c1
  have c2 := k.c2
  have x1 : w.cell? ⟨bd, at_, none⟩ = some (.bool false) := (blk_cell k.db _).trans (by rw [dumbC_at n d at_ ha, hd])
  have x2 : w.cell? ⟨bh, at_, none⟩ = some (.string (h at_)) := (blk_cell k.hb _).trans (heldC_at n h at_ ha)
  have q1 : ((at_ : Int) < (n : Int)) = True := eq_true (by omega)
  have q2 : (at_ < n) = True := eq_true ha
  obtain ⟨s, hs⟩ : ∃ s, s = h at_ := ⟨_, rfl⟩
  rw [← hs] at x2 ⊢
  clear k ha hd hs
  go_enter Tryz.func108, Tryz.ntmps108
  go_wp2_with fail
  refine HW.out.mono ?_
  rintro e w1 ⟨rfl, rfl⟩
  by_cases hz : s.size = 0
  · have hn : s = ⟨#[]⟩ := pb_inj (List.eq_nil_of_length_eq_zero (by rw [pb_len]; exact hz))
    have HZ : Aside0 (rdS s = z64) := ⟨if_pos hz⟩
    subst hn
    clear hz
    go_wp2_with fail
    refine (Tryz.strings_Repeat ⟨#[0]⟩ 64 _ (by decide) (by decide)).mono ?_
    rintro e w2 ⟨rfl, hb⟩
    have HB := Aside0.mk hb
    clear hb
    go_wp2_with fail
    go_ret2
    exact ⟨by rw [HZ.out]; rfl, HB.out⟩
  · have HZ : Aside0 (rdS s = s) := ⟨if_neg hz⟩
    have e3 : (s.toList = []) = False := eq_false (fun e => hz (by rw [← pb_len, ← toL, e]; rfl))
    have e1 : (s.toList == ([] : List UInt8)) = false := beq_eq_false_iff_ne.mpr (fun e => by rw [e] at e3; exact (e3 ▸ rfl : False))
    clear hz
    go_wp2_with fail
    go_ret2
    exact ⟨by rw [HZ.out]; rfl, Below.refl _ _⟩
theorem PlateS.putR (k : PlateS w p bh bd n h d cv rd wr cl) (r : Int) : PlateS (w.setCell ⟨p, 6, none⟩ (.int .i64 r)) p bh bd n h d cv r wr cl ∧ FrP (PS p bh bd) w (w.setCell ⟨p, 6, none⟩ (.int .i64 r)) := by
  have hg := Lib.grownBy_setCell w p 6 (.int .i64 r)
  exact ⟨⟨blk_put k.pb 6 _ rfl, blk_grown k.hb hg (by intro e; injection e with e; exact blk_ne_type k.hb k.pb (by decide) e), blk_grown k.db hg (by intro e; injection e with e; exact blk_ne_type k.db k.pb (by decide) e), k.cb.kept hg (own_not (own_ne2 k.cb k.pb (by decide)))⟩, FrP.of (Fr.grown hg (.inl rfl))⟩
theorem PlateS.putW (k : PlateS w p bh bd n h d cv rd wr cl) (r : Int) : PlateS (w.setCell ⟨p, 7, none⟩ (.int .i64 r)) p bh bd n h d cv rd r cl ∧ FrP (PS p bh bd) w (w.setCell ⟨p, 7, none⟩ (.int .i64 r)) := by
  have hg := Lib.grownBy_setCell w p 7 (.int .i64 r)
  exact ⟨⟨blk_put k.pb 7 _ rfl, blk_grown k.hb hg (by intro e; injection e with e; exact blk_ne_type k.hb k.pb (by decide) e), blk_grown k.db hg (by intro e; injection e with e; exact blk_ne_type k.db k.pb (by decide) e), k.cb.kept hg (own_not (own_ne2 k.cb k.pb (by decide)))⟩, FrP.of (Fr.grown hg (.inl rfl))⟩
set_option maxHeartbeats 1000000 in
set_option maxRecDepth 100000 in
theorem read_c0 (k : PlateS w p bh bd n h d cv rd wr []) (at_ : Nat) (ha : at_ < n) (R : ByteArray) (E : Int) (hH : ∀ w1 r1, PlateS w1 p bh bd n h d cv r1 wr [] → Calls Tryz.prog 108 #[.pointer (some ⟨p, 0, none⟩), .int .i64 (at_ : Int)] w1 fun e w' => e = .returned (.tuple #[.string R, .int .i64 E]) ∧ Below w1.heap.size w1 w') :
    Calls Tryz.prog 74 #[.pointer (some ⟨p, 0, none⟩), .int .i64 (at_ : Int)] w fun e w' => e = .returned (.tuple #[.string R, .int .i64 E]) ∧ ∃ r1, PlateS w' p bh bd n h d cv r1 wr [] ∧ FrP (PS p bh bd) w w' := by
  obtain ⟨A, c, hcv⟩ := own_sliceN k.cb
  subst hcv
  have HW := Aside0.mk (wrongP_c k at_ ha)
  have c5 := k.c5
  have c6 := k.c6
  have c3 : w.cell? ⟨p, 3, none⟩ = some (.slice A 0 c) := k.c3
  have f6 := blk_frozen k.pb 6
  have HK := Aside0.mk k
  have HH := Aside0.mk hH
  clear k ha hH
  go_enter Tryz.func74, Tryz.ntmps74
  go_wp2_with fail
  refine HW.out.mono ?_
  rintro e w1 ⟨rfl, rfl⟩
  go_wp2_with fail
  have H1 := HK.out.putR (wrap64 (rd + 1))
  have HK1 := Aside0.mk H1.1
  have HF1 := Aside0.mk H1.2
  clear H1 HK c5 c6 f6 c3
  generalize w1.setCell ⟨p, 6, none⟩ (.int .i64 (wrap64 (rd + 1))) = w2 at *
  go_loopw [6] (fun i wr => i = .int .i64 (-1) ∧ wr = w2) (fun _ _ => 0)
  case atStart => exact ⟨rfl, rfl⟩
  case round =>
    obtain ⟨rfl, rfl⟩ := hrel
    go_wp2_with fail
    refine (HH.out _ _ HK1.out).mono ?_
    rintro e w3 ⟨rfl, hb⟩
    have HB := Aside0.mk hb
    clear hb
    go_wp2_with fail
    go_ret2
    exact ⟨rfl, _, HK1.out.below HB.out, HF1.out.trans (FrP.below HB.out)⟩
theorem read_ok (k : PlateS w p bh bd n h d cv rd wr []) (at_ : Nat) (ha : at_ < n) (hd : d at_ = false) :
    Calls Tryz.prog 74 #[.pointer (some ⟨p, 0, none⟩), .int .i64 (at_ : Int)] w fun e w' => e = .returned (.tuple #[.string (rdS (h at_)), .int .i64 0]) ∧ ∃ r1, PlateS w' p bh bd n h d cv r1 wr [] ∧ FrP (PS p bh bd) w w' :=
  read_c0 k at_ ha _ 0 fun _ _ k1 => held_c k1 at_ ha hd
theorem read_dumb (k : PlateS w p bh bd n h d cv rd wr []) (at_ : Nat) (ha : at_ < n) (hd : d at_ = true) :
    Calls Tryz.prog 74 #[.pointer (some ⟨p, 0, none⟩), .int .i64 (at_ : Int)] w fun e w' => e = .returned (.tuple #[.string ⟨#[]⟩, .int .i64 21]) ∧ ∃ r1, PlateS w' p bh bd n h d cv r1 wr [] ∧ FrP (PS p bh bd) w w' :=
  read_c0 k at_ ha _ 21 fun _ _ k1 => held_dumb k1 at_ ha hd
end
end Go.Proofs.YtgpknomegleidaaGreatDoor.T
namespace Go.Proofs.YtgpknomegleidaaGreatDoor.T
open Go.RowKit Go.Proofs.YtgpknomegleidaaGreatDoorW.PrintWords Go.Proofs.YtgpknomegleidaaGreatDoorW.PrintLast Go.Proofs.YtgpknomegleidaaGreatDoorW.PrintMore Go.Proofs.YtgpknomegleidaaGreatDoor.PAll
set_option linter.unusedSimpArgs false
set_option linter.unusedVariables false

def upd {α : Type} (h : Nat → α) (k : Nat) (s : α) : Nat → α := fun i => if i = k then s else h i
def after (h : Nat → ByteArray) (cl : List (Nat × ByteArray)) : Nat → ByteArray := cl.foldl (fun h x => upd h x.1 x.2) h
theorem after_snoc (h : Nat → ByteArray) (cl : List (Nat × ByteArray)) (x : Nat × ByteArray) : after h (cl ++ [x]) = upd (after h cl) x.1 x.2 := by
  simp [after]
theorem infoPend : (Tryz.prog.info? 183).map (fun i => (i.zero, i.size, i.bytes)) = some (some (.agg #[.int .i64 0, .string ⟨#[]⟩]), 2, 24) := by kernel_rfl
theorem new_cells (w : World) (cs : List Value) (t : TypeId) : ∀ j u, cs[j]? = some u → (w.alloc (.cells cs.toArray t (0, 0))).cell? ((⟨w.heap.size, 0, none⟩ : Addr).add j) = some u := by
  intro j u hu
  rw [add_plain]
  exact (blk_cell (heap_alloc_new w _) j).trans (by simpa using hu)
section
variable {w : World} {p bh bd n : Nat} {h : Nat → ByteArray} {d : Nat → Bool} {cv : Value} {rd wr : Int} {cl : List (Nat × ByteArray)}
theorem encP_len (l : List (Nat × ByteArray)) : (l.flatMap encP).length = l.length * 2 := by
  induction l with
  | nil => rfl
  | cons a r ih => rw [List.flatMap_cons, List.length_append, ih, List.length_cons]; show 2 + _ = _; omega
/-- A pending write is appended. -/
theorem PlateS.app (k : PlateS w p bh bd n h d cv rd wr cl) {w1 : World} {v1 : Value} {x : Nat × ByteArray} (ho : w1.ownsRow p 183 2 v1 (cl.length + 1) (cl.flatMap encP ++ encP x)) (hg : w.grownBy w1 cv.ownBlock) :
    PlateS (w1.setCell ⟨p, 3, none⟩ v1) p bh bd n h d v1 rd wr (cl ++ [x]) ∧ FrP (PS p bh bd) w (w1.setCell ⟨p, 3, none⟩ v1) := by
  have hp1 := blk_grown k.pb hg (own_ne2 k.cb k.pb (by decide))
  have hg2 := Lib.grownBy_setCell w1 p 3 v1
  have hne (q : Nat) (cs : Array Value) (t : TypeId) (hq : w1.heap[q]? = some (.cells cs t (0, 0))) (ht : t ≠ 90) : (w1.setCell ⟨p, 3, none⟩ v1).heap[q]? = some (.cells cs t (0, 0)) :=
    blk_grown hq hg2 (by intro e; injection e with e; exact blk_ne_type hq hp1 ht e)
  refine ⟨⟨blk_put hp1 3 v1 rfl, hne _ _ _ (blk_grown k.hb hg (own_ne2 k.cb k.hb (by decide))) (by decide), hne _ _ _ (blk_grown k.db hg (own_ne2 k.cb k.db (by decide))) (by decide), ?_⟩, (FrP.pend hg k.cb (.inl rfl)).trans (FrP.of (Fr.grown hg2 (.inl rfl)))⟩
  have e1 : (cl ++ [x]).flatMap encP = cl.flatMap encP ++ encP x := by simp
  rw [e1, List.length_append]
  exact ho.kept hg2 (own_not (own_ne2 ho hp1 (by decide)))
set_option maxHeartbeats 1000000 in
set_option maxRecDepth 100000 in
theorem write_pc (k : PlateS w p bh bd n h d cv rd wr cl) (at_ : Nat) (ha : at_ < n) (s : ByteArray) (hs : s.size = 64) (hcl : cl.length ≤ 1000) :
    Calls Tryz.prog 128 #[.pointer (some ⟨p, 0, none⟩), .int .i64 (at_ : Int), .string s] w fun e w' => e = .returned (.int .i64 0) ∧ ∃ cv' wr', PlateS w' p bh bd n h d cv' rd wr' (cl ++ [(at_, s)]) ∧ FrP (PS p bh bd) w w' := by
  have HW := Aside0.mk (wrongP_c k at_ ha)
  obtain ⟨A, c, hcv⟩ := own_sliceN k.cb
  subst hcv
  have c3 : w.cell? ⟨p, 3, none⟩ = some (.slice A cl.length c) := k.c3
  have c4 := k.c4
  have c5 := k.c5
  have c7 := k.c7
  have f7 := blk_frozen k.pb 7
  have f3 := blk_frozen k.pb 3
  have e64 : (((s.size : Nat) : Int) != 64) = false := by rw [hs]; rfl
  have HK := Aside0.mk k
  have HL := Aside0.mk hcl
  obtain ⟨i0, hi, hz0, hz1, hz2⟩ := info_parts infoPend
  clear k ha hcl hs
  go_enter Tryz.func128, Tryz.ntmps128
  go_wp2_with fail
  refine HW.out.mono ?_
  rintro e w1 ⟨rfl, rfl⟩
  have H7 := HK.out.putW (wrap64 (wr + 1))
  have HK2 := Aside0.mk (H7.1.below (below_alloc (Below.refl _ _) (.cells #[.int .i64 (at_ : Int), .string s] 183 (0, 0))))
  have HF2 := Aside0.mk (H7.2.trans (FrP.below (below_alloc (Below.refl _ _) (.cells #[.int .i64 (at_ : Int), .string s] 183 (0, 0)))))
  have hN := new_cells (w1.setCell ⟨p, 7, none⟩ (.int .i64 (wrap64 (wr + 1)))) (encP (at_, s)) 183
  rw [show (w1.setCell ⟨p, 7, none⟩ (.int .i64 (wrap64 (wr + 1)))).heap.size = w1.heap.size by simp] at hN
  have HN := Aside0.mk hN
  clear hN
  clear H7 HK
  go_wp2_with (at_builtin; go_loud (refine wpList_append_own_wide _ rfl (.tmp 52) (.tmp 56) 88 rfl p 183 i0 _ 2 24 Tryz.underlying88 hi hz0 hz1 hz2 rfl (by decide) (.slice A cl.length c) cl.length (cl.flatMap encP) rfl HK2.out.cb ⟨w1.heap.size, 0, none⟩ 1 1 (encP (at_, s)) rfl rfl HN.out (by intro u hu; simp only [encP, List.mem_cons, List.not_mem_nil, or_false] at hu; rcases hu with rfl | rfl <;> rfl) (by have := HL.out; unfold maxLen; omega) (by have := HL.out; omega) (Nat.le_of_lt (blk_lt HK2.out.pb)) ?_); intro v1 w2 ho hg _; have HO := Aside0.mk ho; have HG := Aside0.mk hg; have hp2 := blk_grown HK2.out.pb hg (own_ne2 HK2.out.cb HK2.out.pb (by decide)); have f3' := blk_frozen hp2 3; have c3' : w2.cell? ⟨p, 3, none⟩ = some (.slice A cl.length c) := (blk_cell hp2 3).trans rfl; clear hp2 c3 c4 c5 c7 f7 f3; obtain ⟨A1, c1, e1⟩ := own_sliceN ho; subst e1; clear ho hg)
  go_ret
  have H3 := HK2.out.app (x := (at_, s)) HO.out HG.out
  exact ⟨rfl, _, _, H3.1, HF2.out.trans H3.2⟩
end
end Go.Proofs.YtgpknomegleidaaGreatDoor.T
namespace Go.Proofs.YtgpknomegleidaaGreatDoor.T
open Go.RowKit Go.Proofs.YtgpknomegleidaaGreatDoorW.PrintWords Go.Proofs.YtgpknomegleidaaGreatDoorW.PrintLast Go.Proofs.YtgpknomegleidaaGreatDoorW.PrintMore Go.Proofs.YtgpknomegleidaaGreatDoor.PAll
set_option linter.unusedSimpArgs false
set_option linter.unusedVariables false

theorem heldC_size (n : Nat) (h : Nat → ByteArray) : (heldC n h).size = n := by simp [heldC]
theorem dumbC_size (n : Nat) (h : Nat → Bool) : (dumbC n h).size = n := by simp [dumbC]
theorem infoStr : (Tryz.prog.info? 9).map (·.size) = some 1 := by kernel_rfl
theorem infoBool : (Tryz.prog.info? 4).map (·.size) = some 1 := by kernel_rfl
theorem exec_store1 {o : Oper} {a : Act} (w : World) (ty : TypeId) (x y : Operand) (ho : o.op = .store ty x y) (g k : Nat) (t : TypeId) (cur : Array Value) (u : Value) (hg : w.heap[g]? = some (.cells cur t (0, 0))) (hk : k < cur.size)
    (hi : (Tryz.prog.info? ty).map (·.size) = some 1) (hx : a.eval x = .pointer (some ⟨g, k, none⟩)) (hy : a.eval y = u) (hu : u.cells = #[u]) (h1 : u.oneCell' = true) :
    (execOp a.eval o).run Tryz.prog w = .ok .skip (w.setCell ⟨g, k, none⟩ u) := by
  have := run_store_run (P := Tryz.prog) (o := k) ty u [u] hg (by rw [hu]) hi (show k + 1 ≤ cur.size from hk) (by simp [h1])
  unfold execOp
  simp only [ho, hx, hy, Sem.run_bind, Sem.run_pure, Result.andThen_ok, this]
  rfl
section
variable {w : World} {p bh bd n : Nat} {h : Nat → ByteArray} {d : Nat → Bool} {cv : Value} {rd wr : Int} {cl : List (Nat × ByteArray)}
theorem PlateS.drew (k : PlateS w p bh bd n h d cv rd wr cl) : PlateS w.drew p bh bd n h d cv rd wr cl := ⟨k.pb, k.hb, k.db, k.cb⟩
theorem PlateS.putH (k : PlateS w p bh bd n h d cv rd wr cl) (i : Nat) (s : ByteArray) : PlateS (w.setCell ⟨bh, i, none⟩ (.string s)) p bh bd n (upd h i s) d cv rd wr cl ∧ FrP (PS p bh bd) w (w.setCell ⟨bh, i, none⟩ (.string s)) := by
  have hg := Lib.grownBy_setCell w bh i (.string s)
  exact ⟨⟨blk_grown k.pb hg (by intro e; injection e with e; exact blk_ne_type k.pb k.hb (by decide) e), blk_put k.hb i _ (heldC_set n h i s), blk_grown k.db hg (by intro e; injection e with e; exact blk_ne_type k.db k.hb (by decide) e), k.cb.kept hg (own_not (own_ne2 k.cb k.hb (by decide)))⟩, FrP.of (Fr.grown hg (.inr (.inl rfl)))⟩
theorem PlateS.putD (k : PlateS w p bh bd n h d cv rd wr cl) (i : Nat) (s : Bool) : PlateS (w.setCell ⟨bd, i, none⟩ (.bool s)) p bh bd n h (upd d i s) cv rd wr cl ∧ FrP (PS p bh bd) w (w.setCell ⟨bd, i, none⟩ (.bool s)) := by
  have hg := Lib.grownBy_setCell w bd i (.bool s)
  exact ⟨⟨blk_grown k.pb hg (by intro e; injection e with e; exact blk_ne_type k.pb k.db (by decide) e), blk_grown k.hb hg (by intro e; injection e with e; exact blk_ne_type k.hb k.db (by decide) e), blk_put k.db i _ (dumbC_set n d i s), k.cb.kept hg (own_not (own_ne2 k.cb k.db (by decide)))⟩, FrP.of (Fr.grown hg (.inr (.inr rfl)))⟩
set_option maxHeartbeats 1000000 in
set_option maxRecDepth 100000 in
theorem spoil_c (k : PlateS w p bh bd n h d cv rd wr cl) (at_ : Nat) (ha : at_ < n) :
    Calls Tryz.prog 20 #[.pointer (some ⟨p, 0, none⟩), .int .i64 (at_ : Int)] w fun e w' => e = .returned (.int .i64 0) ∧ PlateS w' p bh bd n (upd h at_ ⟨#[]⟩) (upd d at_ true) cv rd wr cl ∧ FrP (PS p bh bd) w w' := by
  have HW := Aside0.mk (wrongP_c k at_ ha)
  have c1 := k.c1
  have c2 := k.c2
  have fh := blk_frozen k.hb at_
  have fd := blk_frozen k.db at_
  have x1 : w.cell? ⟨bh, at_, none⟩ = some (.string (h at_)) := (blk_cell k.hb at_).trans (heldC_at n h at_ ha)
  have x2 : w.cell? ⟨bd, at_, none⟩ = some (.bool (d at_)) := (blk_cell k.db at_).trans (dumbC_at n d at_ ha)
  have HK := Aside0.mk k
  have q1 : ((at_ : Int) < (n : Int)) = True := eq_true (by omega)
  have q2 : (at_ < n) = True := eq_true ha
  clear k ha
  go_enter Tryz.func20, Tryz.ntmps20
  go_wp2_with fail
  refine HW.out.mono ?_
  rintro e w1 ⟨rfl, rfl⟩
  have H1 := HK.out.putH at_ ⟨#[]⟩
  have H2 := H1.1.putD at_ true
  have HK2 := Aside0.mk H2.1
  have HF2 := Aside0.mk (H1.2.trans H2.2)
  have c2' := H1.1.c2
  have fd' := blk_frozen H1.1.db at_
  have x2' : (w1.setCell ⟨bh, at_, none⟩ (.string ⟨#[]⟩)).cell? ⟨bd, at_, none⟩ = some (.bool (d at_)) := (blk_cell H1.1.db at_).trans (dumbC_at n d at_ (of_eq_true q2))
  clear H1 H2 HK
  go_wp2_with fail
  go_ret
  exact ⟨rfl, HK2.out, HF2.out⟩
set_option maxHeartbeats 1000000 in
set_option maxRecDepth 100000 in
theorem keep_c (k : PlateS w p bh bd n h d cv rd wr cl) (at_ : Nat) (ha : at_ < n) (s : ByteArray) :
    Calls Tryz.prog 96 #[.pointer (some ⟨p, 0, none⟩), .agg #[.int .i64 (at_ : Int), .string s]] w fun e w' => e = .returned (.tuple #[]) ∧ PlateS w' p bh bd n (upd h at_ s) (upd d at_ false) cv rd wr cl ∧ FrP (PS p bh bd) w w' := by
  have hu := Tryz.underlying183
  have HF0 := Aside0.mk (FrP.below (S := PS p bh bd) (below_alloc (Below.refl w.heap.size w) (.cells #[.int .i64 (at_ : Int), .string s] 183 (0, 0))))
  have HK1 := Aside0.mk (k.below (below_alloc (Below.refl w.heap.size w) (.cells #[.int .i64 (at_ : Int), .string s] 183 (0, 0))))
  have HXB0 := Aside0.mk (heap_alloc_new w (.cells #[.int .i64 (at_ : Int), .string s] 183 (0, 0)))
  have HX := Aside0.mk (And.intro ((blk_cell HXB0.out 0).trans (rfl : _ = some (Value.int .i64 (at_ : Int)))) ((blk_cell HXB0.out 1).trans (rfl : _ = some (Value.string s))))
  have q1 : ((at_ : Int) < (n : Int)) = True := eq_true (by omega)
  have q2 : (at_ < n) = True := eq_true ha
  clear k ha
  go_enter Tryz.func96, Tryz.ntmps96
  go_wp2_with fail
  generalize w.heap.size = gx at HX HXB0 ⊢
  generalize w.alloc (.cells #[.int .i64 (at_ : Int), .string s] 183 (0, 0)) = w1 at HF0 HK1 HX HXB0 ⊢
  -- REGION1
  refine start_ (n := 10) (S := fun w' => w'.cell? ⟨p, 1, none⟩ = some (.slice (some ⟨bh, 0, none⟩) n n) ∧ w'.cell? ⟨gx, 0, none⟩ = some (.int .i64 (at_ : Int)) ∧ w'.cell? ⟨gx, 1, none⟩ = some (.string s)) (ds := [9]) #[false, false, false, false, false, false, false, false, false, false] (by kernel_rfl) rfl rfl ⟨HK1.out.c1, HX.out.1, HX.out.2⟩ (fun hHeld => ?_)
  have HK := Aside0.mk HK1.out.drew
  have HF := Aside0.mk (HF0.out.trans (FrP.below (below_drew (Below.refl _ w1))))
  have HX2 := Aside0.mk (show w1.drew.cell? ⟨gx, 0, none⟩ = _ ∧ w1.drew.cell? ⟨gx, 1, none⟩ = _ from HX.out)
  have HXB := Aside0.mk (show w1.drew.heap[gx]? = _ from HXB0.out)
  clear HF0 HK1 HX HXB0
  generalize w1.drew = w2 at HK HF HX2 HXB hHeld ⊢
  refine pure_ (i := 0) (N := some 4) (v := ?_) (a' := ?_) #[true, false, false, false, false, false, false, false, false, false] rfl rfl (by kernel_rfl) (fun _ _ _ h => h) (Or.inl ⟨by rfl, ?_⟩) ?_ ?_
  rotate_left; · intro w'; go_simp; with_reducible rfl
  rotate_left; · simp only [Act.put, List.setIfInBounds_toArray, List.set_cons_zero, List.set_cons_succ, i64_w, i32_w]; rfl
  refine pure_ (i := 1) (N := some 5) (v := ?_) (a' := ?_) #[true, true, false, false, false, false, false, false, false, false] rfl rfl (by kernel_rfl) (fun _ _ _ h => h) (Or.inl ⟨by rfl, ?_⟩) ?_ ?_
  rotate_left; · intro w'; go_simp; with_reducible rfl
  rotate_left; · simp only [Act.put, List.setIfInBounds_toArray, List.set_cons_zero, List.set_cons_succ, i64_w, i32_w]; rfl
  refine pure_ (i := 2) (N := some 6) (v := ?_) (a' := ?_) #[true, true, true, false, false, false, false, false, false, false] rfl rfl (by kernel_rfl) (fun _ _ _ h => h) (Or.inl ⟨by rfl, ?_⟩) ?_ ?_
  rotate_left; · intro w'; go_simp; with_reducible rfl
  rotate_left; · simp only [Act.put, List.setIfInBounds_toArray, List.set_cons_zero, List.set_cons_succ, i64_w, i32_w]; rfl
  refine take_ (i := 3) (N := some 7) (v := ?_) (a' := ?_) #[true, true, true, true, false, false, false, false, false, false] rfl rfl (by kernel_rfl) (fun _ _ _ h => h) (Or.inl ⟨by rfl, ?_⟩) hHeld ?_ ?_
  rotate_left; · rintro w' ⟨h1, h2, h3⟩; go_simp; with_reducible rfl
  rotate_left; · simp only [Act.put, List.setIfInBounds_toArray, List.set_cons_zero, List.set_cons_succ, i64_w, i32_w]; rfl
  refine pure_ (i := 4) (N := some 8) (v := ?_) (a' := ?_) #[true, true, true, true, true, false, false, false, false, false] rfl rfl (by kernel_rfl) (fun _ _ _ h => h) (Or.inl ⟨by rfl, ?_⟩) ?_ ?_
  rotate_left; · intro w'; go_simp; with_reducible rfl
  rotate_left; · simp only [Act.put, List.setIfInBounds_toArray, List.set_cons_zero, List.set_cons_succ, i64_w, i32_w]; rfl
  refine take_ (i := 5) (N := some 9) (v := ?_) (a' := ?_) #[true, true, true, true, true, true, false, false, false, false] rfl rfl (by kernel_rfl) (fun _ _ _ h => h) (Or.inl ⟨by rfl, ?_⟩) hHeld ?_ ?_
  rotate_left; · rintro w' ⟨h1, h2, h3⟩; go_simp; with_reducible rfl
  rotate_left; · simp only [Act.put, List.setIfInBounds_toArray, List.set_cons_zero, List.set_cons_succ, i64_w, i32_w]; rfl
  refine pure_ (i := 6) (N := some 10) (v := ?_) (a' := ?_) #[true, true, true, true, true, true, true, false, false, false] rfl rfl (by kernel_rfl) (fun _ _ _ h => h) (Or.inl ⟨by rfl, ?_⟩) ?_ ?_
  rotate_left; · intro w'; go_simp; with_reducible rfl
  rotate_left; · simp only [Act.put, List.setIfInBounds_toArray, List.set_cons_zero, List.set_cons_succ, i64_w, i32_w]; rfl
  refine take_ (i := 7) (N := some 11) (v := ?_) (a' := ?_) #[true, true, true, true, true, true, true, true, false, false] rfl rfl (by kernel_rfl) (fun _ _ _ h => h) (Or.inl ⟨by rfl, ?_⟩) hHeld ?_ ?_
  rotate_left; · rintro w' ⟨h1, h2, h3⟩; go_simp; with_reducible rfl
  rotate_left; · simp only [Act.put, List.setIfInBounds_toArray, List.set_cons_zero, List.set_cons_succ, i64_w, i32_w]; rfl
  refine pure_ (i := 8) (N := some 12) (v := ?_) (a' := ?_) #[true, true, true, true, true, true, true, true, true, false] rfl rfl (by kernel_rfl) (fun _ _ _ h => h) (Or.inl ⟨by rfl, ?_⟩) ?_ ?_
  rotate_left; · intro w'; go_simp; with_reducible rfl
  rotate_left; · simp only [Act.put, List.setIfInBounds_toArray, List.set_cons_zero, List.set_cons_succ, i64_w, i32_w]; rfl
  refine last_ (i := 9) (N := none) #[true, true, true, true, true, true, true, true, true, true] rfl rfl (by kernel_rfl) (by decide) (fun K hK => ?_)
  refine skip_ (by rfl) rfl (exec_store1 w2 9 (.tmp 12) (.tmp 11) rfl bh at_ 9 (heldC n h) (.string s) HK.out.hb (by rw [heldC_size]; exact of_eq_true q2) infoStr rfl rfl rfl rfl) ?_
  refine hK.out _ _ ?_
  clear hK K
  have H1 := HK.out.putH at_ s
  have HK1 := Aside0.mk H1.1
  have HF1 := Aside0.mk (HF.out.trans H1.2)
  have HXB0 := Aside0.mk (blk_grown HXB.out (Lib.grownBy_setCell w2 bh at_ (.string s)) (by intro e; injection e with e; exact blk_ne_type HXB.out HK.out.hb (by decide) e))
  clear H1 HK HF hHeld HX2 HXB
  generalize w2.setCell ⟨bh, at_, none⟩ (.string s) = w3 at HK1 HF1 HXB0 ⊢
  refine done_ (by kernel_rfl) ?_
  go_wp2_with fail
  refine start_ (n := 8) (S := fun w' => w'.cell? ⟨p, 2, none⟩ = some (.slice (some ⟨bd, 0, none⟩) n n) ∧ w'.cell? ⟨gx, 0, none⟩ = some (.int .i64 (at_ : Int)) ∧ w'.cell? ⟨gx, 1, none⟩ = some (.string s)) (ds := [7]) #[false, false, false, false, false, false, false, false] (by kernel_rfl) rfl rfl ⟨HK1.out.c2, (blk_cell HXB0.out 0).trans rfl, (blk_cell HXB0.out 1).trans rfl⟩ (fun hHeld => ?_)
  have HK := Aside0.mk HK1.out.drew
  have HF := Aside0.mk (HF1.out.trans (FrP.below (below_drew (Below.refl _ w3))))
  clear HF1 HK1 HXB0
  generalize w3.drew = w4 at HK HF hHeld ⊢
  refine pure_ (i := 0) (N := some 13) (v := ?_) (a' := ?_) #[true, false, false, false, false, false, false, false] rfl rfl (by kernel_rfl) (fun _ _ _ h => h) (Or.inl ⟨by rfl, ?_⟩) ?_ ?_
  rotate_left; · intro w'; go_simp; with_reducible rfl
  rotate_left; · simp only [Act.put, List.setIfInBounds_toArray, List.set_cons_zero, List.set_cons_succ, i64_w, i32_w]; rfl
  refine pure_ (i := 1) (N := some 14) (v := ?_) (a' := ?_) #[true, true, false, false, false, false, false, false] rfl rfl (by kernel_rfl) (fun _ _ _ h => h) (Or.inl ⟨by rfl, ?_⟩) ?_ ?_
  rotate_left; · intro w'; go_simp; with_reducible rfl
  rotate_left; · simp only [Act.put, List.setIfInBounds_toArray, List.set_cons_zero, List.set_cons_succ, i64_w, i32_w]; rfl
  refine pure_ (i := 2) (N := some 15) (v := ?_) (a' := ?_) #[true, true, true, false, false, false, false, false] rfl rfl (by kernel_rfl) (fun _ _ _ h => h) (Or.inl ⟨by rfl, ?_⟩) ?_ ?_
  rotate_left; · intro w'; go_simp; with_reducible rfl
  rotate_left; · simp only [Act.put, List.setIfInBounds_toArray, List.set_cons_zero, List.set_cons_succ, i64_w, i32_w]; rfl
  refine take_ (i := 3) (N := some 16) (v := ?_) (a' := ?_) #[true, true, true, true, false, false, false, false] rfl rfl (by kernel_rfl) (fun _ _ _ h => h) (Or.inl ⟨by rfl, ?_⟩) hHeld ?_ ?_
  rotate_left; · rintro w' ⟨h1, h2, h3⟩; go_simp; with_reducible rfl
  rotate_left; · simp only [Act.put, List.setIfInBounds_toArray, List.set_cons_zero, List.set_cons_succ, i64_w, i32_w]; rfl
  refine pure_ (i := 4) (N := some 17) (v := ?_) (a' := ?_) #[true, true, true, true, true, false, false, false] rfl rfl (by kernel_rfl) (fun _ _ _ h => h) (Or.inl ⟨by rfl, ?_⟩) ?_ ?_
  rotate_left; · intro w'; go_simp; with_reducible rfl
  rotate_left; · simp only [Act.put, List.setIfInBounds_toArray, List.set_cons_zero, List.set_cons_succ, i64_w, i32_w]; rfl
  refine take_ (i := 5) (N := some 18) (v := ?_) (a' := ?_) #[true, true, true, true, true, true, false, false] rfl rfl (by kernel_rfl) (fun _ _ _ h => h) (Or.inl ⟨by rfl, ?_⟩) hHeld ?_ ?_
  rotate_left; · rintro w' ⟨h1, h2, h3⟩; go_simp; with_reducible rfl
  rotate_left; · simp only [Act.put, List.setIfInBounds_toArray, List.set_cons_zero, List.set_cons_succ, i64_w, i32_w]; rfl
  refine pure_ (i := 6) (N := some 19) (v := ?_) (a' := ?_) #[true, true, true, true, true, true, true, false] rfl rfl (by kernel_rfl) (fun _ _ _ h => h) (Or.inl ⟨by rfl, ?_⟩) ?_ ?_
  rotate_left; · intro w'; go_simp; with_reducible rfl
  rotate_left; · simp only [Act.put, List.setIfInBounds_toArray, List.set_cons_zero, List.set_cons_succ, i64_w, i32_w]; rfl
  refine last_ (i := 7) (N := none) #[true, true, true, true, true, true, true, true] rfl rfl (by kernel_rfl) (by decide) (fun K hK => ?_)
  refine skip_ (by rfl) rfl (exec_store1 w4 4 (.tmp 19) (.const (.bool false)) rfl bd at_ 4 (dumbC n d) (.bool false) HK.out.db (by rw [dumbC_size]; exact of_eq_true q2) infoBool rfl rfl rfl rfl) ?_
  refine hK.out _ _ ?_
  clear hK K
  have H1 := HK.out.putD at_ false
  have HK1 := Aside0.mk H1.1
  have HF1 := Aside0.mk (HF.out.trans H1.2)
  clear H1 HK HF hHeld
  generalize w4.setCell ⟨bd, at_, none⟩ (.bool false) = w5 at HK1 HF1 ⊢
  refine done_ (by kernel_rfl) ?_
  -- END1
  go_end0
  exact ⟨rfl, HK1.out, HF1.out⟩
end
end Go.Proofs.YtgpknomegleidaaGreatDoor.T
namespace Go.Proofs.YtgpknomegleidaaGreatDoor.T
open Go.RowKit Go.Proofs.YtgpknomegleidaaGreatDoorW.PrintWords Go.Proofs.YtgpknomegleidaaGreatDoorW.PrintLast Go.Proofs.YtgpknomegleidaaGreatDoorW.PrintMore Go.Proofs.YtgpknomegleidaaGreatDoor.PAll
set_option linter.unusedSimpArgs false
set_option linter.unusedVariables false

theorem flat_at (l : List (Nat × ByteArray)) (k : Nat) (x : Nat × ByteArray) (hx : l[k]? = some x) : (l.flatMap encP)[k * 2]? = some (.int .i64 (x.1 : Int)) ∧ (l.flatMap encP)[k * 2 + 1]? = some (.string x.2) := by
  induction l generalizing k with
  | nil => simp at hx
  | cons a r ih =>
    cases k with
    | zero =>
      simp only [List.getElem?_cons_zero, Option.some.injEq] at hx
      subst hx
      exact ⟨rfl, rfl⟩
    | succ k =>
      simp only [List.getElem?_cons_succ] at hx
      have := ih k hx
      rw [List.flatMap_cons, show (k + 1) * 2 = (encP a).length + k * 2 by show _ = 2 + _; omega, Nat.add_assoc]
      rw [List.getElem?_append_right (Nat.le_add_right _ _), List.getElem?_append_right (Nat.le_add_right _ _), Nat.add_sub_cancel_left, Nat.add_sub_cancel_left]
      exact this
theorem own_some {W : World} {base e n sz : Nat} {A : Option Addr} {c m : Nat} {xs : List Value} (h : W.ownsRow base e sz (.slice A m c) n xs) (hn : n ≠ 0) : ∃ g, A = some ⟨g, 0, none⟩ := by
  rcases h.2 with ⟨_, h⟩ | ⟨g, cap, cur, hv, _⟩
  · exact absurd h hn
  · injection hv with h1 _ _
    exact ⟨g, h1⟩
section
variable {w : World} {p bh bd n : Nat} {h : Nat → ByteArray} {d : Nat → Bool} {cv : Value} {rd wr : Int} {cl : List (Nat × ByteArray)}
theorem PlateS.nil (k : PlateS w p bh bd n h d cv rd wr cl) : PlateS (w.setCell ⟨p, 3, none⟩ (.slice none 0 0)) p bh bd n h d (.slice none 0 0) rd wr [] ∧ FrP (PS p bh bd) w (w.setCell ⟨p, 3, none⟩ (.slice none 0 0)) := by
  have hg := Lib.grownBy_setCell w p 3 (.slice none 0 0)
  exact ⟨⟨blk_put k.pb 3 _ rfl, blk_grown k.hb hg (by intro e; injection e with e; exact blk_ne_type k.hb k.pb (by decide) e), blk_grown k.db hg (by intro e; injection e with e; exact blk_ne_type k.db k.pb (by decide) e), World.ownsRow_nil _ _ _ _⟩, FrP.of (Fr.grown hg (.inl rfl))⟩
set_option maxHeartbeats 1000000 in
set_option maxRecDepth 100000 in
theorem flush_c (k : PlateS w p bh bd n h d cv rd wr cl) (hd : ∀ i, d i = false) (hcl : ∀ x ∈ cl, x.1 < n) (hL : cl.length ≤ 1000) :
    Calls Tryz.prog 69 #[.pointer (some ⟨p, 0, none⟩)] w fun e w' => e = .returned (.int .i64 0) ∧ PlateS w' p bh bd n (after h cl) d (.slice none 0 0) rd wr [] ∧ FrP (PS p bh bd) w w' := by
  obtain ⟨A, c, hcv⟩ := own_sliceN k.cb
  subst hcv
  have c3 : w.cell? ⟨p, 3, none⟩ = some (.slice A cl.length c) := k.c3
  have c5 := k.c5
  have hu := Tryz.underlying183
  have HK0 := Aside0.mk k
  have HD := Aside0.mk hd
  have HC := Aside0.mk (And.intro hcl hL)
  clear k hd hcl hL
  obtain ⟨L, hLL⟩ : ∃ L, L = cl.length := ⟨_, rfl⟩
  have HL := Aside0.mk hLL
  rw [← hLL] at c3
  clear hLL
  go_enter Tryz.func69, Tryz.ntmps69
  go_wp2_with fail
  clear c3 c5
  go_loopw [16] (fun i wq => ∃ k : Nat, k ≤ L ∧ i = .int .i64 k ∧ Aside0 (PlateS wq p bh bd n (after h (cl.take k)) d (.slice A cl.length c) rd wr cl) ∧ Aside0 (FrP (PS p bh bd) w wq)) (fun i _ => L - (intOf i).toNat)
  case atStart => exact ⟨0, Nat.zero_le _, rfl, HK0, ⟨FrP.refl _ _⟩⟩
  case round =>
    clear HK0
    obtain ⟨k, hk, rfl, HK, HF⟩ := hrel
    by_cases hlt : k < L
    · have hlt2 : k < cl.length := by have := HL.out; omega
      obtain ⟨x, hx⟩ : ∃ x, cl[k]? = some x := ⟨_, List.getElem?_eq_getElem hlt2⟩
      obtain ⟨q, rfl⟩ := own_some HK.out.cb (by omega)
      have hfa := flat_at cl k x hx
      have x0 := HK.out.cb.cells (g := q) rfl _ _ hfa.1
      have x1 := HK.out.cb.cells (g := q) rfl _ _ hfa.2
      rw [add_plain] at x0 x1
      have hxn : x.1 < n := HC.out.1 x (List.mem_of_getElem? hx)
      have HX := Aside0.mk (And.intro hx hxn)
      obtain ⟨a, s⟩ := x
      have dlt : decide ((k : Int) < (L : Int)) = true := decide_eq_true (by omega)
      have dlt2 : ((k : Int) < (L : Int)) = True := eq_true (by omega)
      have dlt3 : (k < L) = True := eq_true hlt
      clear hfa hx hxn hlt2 hlt
      go_wp2_with fail
      have hb0 := below_alloc (Below.refl wr.heap.size wr) (.cells #[.int .i64 (a : Int), .string s] 183 (0, 0))
      have HF1 := Aside0.mk (HF.out.trans (FrP.below hb0))
      have HK1 := Aside0.mk (HK.out.below hb0)
      clear hb0
      refine (keep_c HK1.out a HX.out.2 s).mono ?_
      rintro e w2 ⟨rfl, h1, h2⟩
      have hdd : upd d a false = d := by
        funext i
        unfold upd
        by_cases e : i = a
        · rw [if_pos e, HD.out]
        · rw [if_neg e]
      have hta : upd (after h (cl.take k)) a s = after h (cl.take (k + 1)) := by
        rw [List.take_add_one, HX.out.1]
        exact (after_snoc h (cl.take k) (a, s)).symm
      rw [hdd, hta] at h1
      clear HK HF x0 x1
      have HK := Aside0.mk h1
      have HF := Aside0.mk (HF1.out.trans h2)
      clear h1 h2 hdd hta HK1 HF1
      go_wp2_with fail
      have hB : k < 1000 := by have := of_eq_true dlt3; have := HC.out.2; have := HL.out; omega
      have w1_ : wrap64 ((k : Int) + 1) = ((k + 1 : Nat) : Int) := by rw [w64 (by omega) (by omega)]; rfl
      go_roundw
      case rel => exact ⟨k + 1, of_eq_true dlt3, by rw [w1_], HK, HF⟩
      case measure =>
        have := of_eq_true dlt3
        rw [w1_]
        simp only [intOf, Int.toNat_natCast]
        omega
    · have : k = L := by omega
      subst this
      have dlt : decide ((k : Int) < (k : Int)) = false := decide_eq_false (by omega)
      have f3 := blk_frozen HK.out.pb 3
      have c3 := HK.out.c3
      clear hlt hk
      go_wp2_with fail
      go_ret
      have H3 := HK.out.nil
      rw [HL.out, List.take_length] at H3
      exact ⟨rfl, H3.1, HF.out.trans H3.2⟩
end
end Go.Proofs.YtgpknomegleidaaGreatDoor.T
namespace Go.Proofs.YtgpknomegleidaaGreatDoor.T
open Go.RowKit Go.Proofs.YtgpknomegleidaaGreatDoorW.PrintWords Go.Proofs.YtgpknomegleidaaGreatDoorW.PrintLast Go.Proofs.YtgpknomegleidaaGreatDoorW.PrintMore Go.Proofs.YtgpknomegleidaaGreatDoor.PAll
set_option linter.unusedSimpArgs false
set_option linter.unusedVariables false

theorem gives_ {P : Program} {ops : Array Oper} {Q : Exit → Act → World → Prop} {oi : Oper} {N : Option Tmp} {a : Act} {w w1 : World} {v : Value} {K : Act → World → Prop} (hw : Region.wanted oi (yielded ops a.tmps) = true) (hN : oi.dst = N)
    (hrun : (execOp a.eval oi).run P w = .ok (.value v) w1) (h : K (a.put N v) w1) : if Region.wanted oi (yielded ops a.tmps) = true then Oper.wp P oi a w K Q else K (a.put N undef) w := by
  rw [if_pos hw]
  unfold Oper.wp
  rw [hrun]
  show K (a.put oi.dst v) w1
  rw [hN]
  exact h
theorem exec_make {P : Program} {oi : Oper} {a : Act} (w : World) (t : TypeId) (l c : Operand) (ho : oi.op = .makeSlice t l c) (n : Nat) (hl : a.eval l = .int .i64 (n : Int)) (hc : a.eval c = .int .i64 (n : Int)) (w' : World) (v : Value)
    (hrun : (Instr.makeSlice t (.int .i64 (n : Int)) (.int .i64 (n : Int))).run P w = .ok v w') : (execOp a.eval oi).run P w = .ok (.value v) w' := by
  unfold execOp
  simp [ho, hl, hc, hrun, Result.andThen]
theorem infoStr3 : (Tryz.prog.info? 9).map (fun i => (i.zero, i.size, i.bytes)) = some (some (.string ⟨#[]⟩), 1, 16) := by kernel_rfl
theorem infoBool3 : (Tryz.prog.info? 4).map (fun i => (i.zero, i.size, i.bytes)) = some (some (.bool false), 1, 1) := by kernel_rfl
theorem own_all {W : World} {base : Nat} {e : TypeId} {g n : Nat} {xs : List Value} (h : W.ownsRow base e 1 (.slice (some ⟨g, 0, none⟩) n n) n xs) : W.heap[g]? = some (.cells xs.toArray e (0, 0)) := by
  rcases h.2 with ⟨h1, _⟩ | ⟨q, cap, cur, hv, _, hq, _, _, hs, ht⟩
  · cases h1
  · injection hv with h1 h2 h3
    injection h1 with h1
    injection h1 with h1
    subst h1
    subst h3
    rw [hq, ← ht, List.take_of_length_le (by rw [Array.length_toList, hs]; exact Nat.le_refl _)]
theorem grown_none {w w' : World} (h : w.grownBy w' none) : Below w.heap.size w w' := ⟨h.os, h.tape, h.output, h.size, fun k hk => h.block k hk (by simp)⟩
theorem made_held (n : Nat) : (madeCells (Value.string ⟨#[]⟩).cells (n * 1)).toList.toArray = heldC n fun _ => ⟨#[]⟩ := by
  apply Array.ext'
  rw [Nat.mul_one]
  refine List.ext_getElem? fun i => ?_
  by_cases hi : i < n
  · simp [heldC, madeCells, Value.cells, hi, Nat.mod_one]
  · simp [heldC, madeCells, Value.cells, hi]
theorem made_dumb (n : Nat) : (madeCells (Value.bool false).cells (n * 1)).toList.toArray = dumbC n fun _ => false := by
  apply Array.ext'
  rw [Nat.mul_one]
  refine List.ext_getElem? fun i => ?_
  by_cases hi : i < n
  · simp [dumbC, madeCells, Value.cells, hi, Nat.mod_one]
  · simp [dumbC, madeCells, Value.cells, hi]
theorem made_h (w : World) (n : Nat) (hn : n ≤ 32768) : ∃ w', (Instr.makeSlice 34 (.int .i64 (n : Int)) (.int .i64 (n : Int))).run Tryz.prog w = .ok (.slice (some ⟨w.heap.size, 0, none⟩) n n) w' ∧ w'.heap[w.heap.size]? = some (.cells (heldC n fun _ => ⟨#[]⟩) 9 (0, 0)) ∧ Below w.heap.size w w' := by
  obtain ⟨i, h1, h2, h3, h4⟩ := info_parts infoStr3
  obtain ⟨w', hr, ho, hg⟩ := run_make_full (P := Tryz.prog) w 0 34 9 i _ 1 Tryz.underlying34 h1 h2 h3 .i64 .i64 n (by rw [h4]; omega) (by unfold maxLen; omega) (Nat.zero_le _)
  refine ⟨w', hr, ?_, grown_none hg⟩
  rw [own_all ho, made_held]
theorem made_d (w : World) (n : Nat) (hn : n ≤ 32768) : ∃ w', (Instr.makeSlice 49 (.int .i64 (n : Int)) (.int .i64 (n : Int))).run Tryz.prog w = .ok (.slice (some ⟨w.heap.size, 0, none⟩) n n) w' ∧ w'.heap[w.heap.size]? = some (.cells (dumbC n fun _ => false) 4 (0, 0)) ∧ Below w.heap.size w w' := by
  obtain ⟨i, h1, h2, h3, h4⟩ := info_parts infoBool3
  obtain ⟨w', hr, ho, hg⟩ := run_make_full (P := Tryz.prog) w 0 49 4 i _ 1 Tryz.underlying49 h1 h2 h3 .i64 .i64 n (by rw [h4]; omega) (by unfold maxLen; omega) (Nat.zero_le _)
  refine ⟨w', hr, ?_, grown_none hg⟩
  rw [own_all ho, made_dumb]
def NewP (w : World) (n : Nat) (e : Ending) (w' : World) : Prop := ∃ p bh bd, e = .returned (.tuple #[.pointer (some ⟨p, 0, none⟩), .int .i64 0]) ∧ PlateS w' p bh bd n (fun _ => ⟨#[]⟩) (fun _ => false) (.slice none 0 0) 0 0 [] ∧ w.heap.size ≤ p ∧ w.heap.size ≤ bh ∧ w.heap.size ≤ bd ∧ Below w.heap.size w w'
set_option maxHeartbeats 4000000 in
set_option maxRecDepth 100000 in
theorem new_c (w : World) (n : Nat) (hn : n ≤ 32768) :
    Calls Tryz.prog 44 #[.int .i64 (n : Int)] w (NewP w n) := by
  have d0 : decide ((n : Int) < 0) = false := decide_eq_false (by omega)
  have d1 : decide ((32768 : Int) < (n : Int)) = false := decide_eq_false (by omega)
  have d2 : decide (32768 < n) = false := decide_eq_false (by omega)
  have hu := Tryz.underlying90
  go_enter Tryz.func44, Tryz.ntmps44
  go_wp2_with fail
  -- REGION3
  refine start_ (n := 9) (S := fun _ => True) (ds := []) #[false, false, false, false, false, false, false, false, false] (by kernel_rfl) rfl rfl trivial (fun _ => ?_)
  have HB0 : Aside0 (Below w.heap.size w w.drew) := ⟨below_drew (Below.refl _ _)⟩
  generalize w.drew = w1 at HB0 ⊢
  refine pure_ (i := 0) (N := some 10) (v := ?_) (a' := ?_) #[true, false, false, false, false, false, false, false, false] rfl rfl (by kernel_rfl) (fun _ _ _ h => h) (Or.inl ⟨by rfl, ?_⟩) ?_ ?_
  rotate_left; · intro w'; go_simp; with_reducible rfl
  rotate_left; · simp only [Act.put, List.setIfInBounds_toArray, List.set_cons_zero, List.set_cons_succ, i64_w, i32_w]; rfl
  refine pure_ (i := 1) (N := some 11) (v := ?_) (a' := ?_) #[true, true, false, false, false, false, false, false, false] rfl rfl (by kernel_rfl) (fun _ _ _ h => h) (Or.inl ⟨by rfl, ?_⟩) ?_ ?_
  rotate_left; · intro w'; go_simp; with_reducible rfl
  rotate_left; · simp only [Act.put, List.setIfInBounds_toArray, List.set_cons_zero, List.set_cons_succ, i64_w, i32_w]; rfl
  refine pure_ (i := 3) (N := some 13) (v := ?_) (a' := ?_) #[true, true, false, true, false, false, false, false, false] rfl rfl (by kernel_rfl) (fun _ _ _ h => h) (Or.inl ⟨by rfl, ?_⟩) ?_ ?_
  rotate_left; · intro w'; go_simp; with_reducible rfl
  rotate_left; · simp only [Act.put, List.setIfInBounds_toArray, List.set_cons_zero, List.set_cons_succ, i64_w, i32_w]; rfl
  refine join_ (σ := Nat × Nat) 4 #[true, true, true, true, true, false, false, false, false] (fun s => [(12, .slice (some ⟨s.1, 0, none⟩) n n), (14, .slice (some ⟨s.2, 0, none⟩) n n)]) (fun s w' => w'.heap[s.1]? = some (.cells (heldC n fun _ => ⟨#[]⟩) 9 (0, 0)) ∧ w'.heap[s.2]? = some (.cells (dumbC n fun _ => false) 4 (0, 0)) ∧ w.heap.size ≤ s.1 ∧ w.heap.size ≤ s.2 ∧ Below w.heap.size w w') ?_ ?_
  · rintro ⟨b1, b2⟩ w2 ⟨h1, h2, h3, h4, h5⟩
    have H := Aside0.mk (And.intro h1 (And.intro h2 (And.intro h3 (And.intro h4 h5))))
    clear h1 h2 h3 h4 h5
    refine norm_ (a' := ?_) ?_ ?_
    rotate_left; · show putAll _ [(12, _), (14, _)] = _; simp only [putAll, Act.put, List.setIfInBounds_toArray, List.set_cons_zero, List.set_cons_succ, i64_w, i32_w]; rfl
    refine pure_ (i := 5) (N := some 15) (v := ?_) (a' := ?_) #[true, true, true, true, true, true, false, false, false] rfl rfl (by kernel_rfl) (fun _ _ _ h => h) (Or.inl ⟨by rfl, ?_⟩) ?_ ?_
    rotate_left; · intro w'; go_simp; with_reducible rfl
    rotate_left; · simp only [Act.put, List.setIfInBounds_toArray, List.set_cons_zero, List.set_cons_succ, i64_w, i32_w]; rfl
    refine one_ (i := 6) (N := some 16) #[true, true, true, true, true, true, true, false, false] rfl rfl (by kernel_rfl) (by decide) (fun K hK => ?_)
    refine gives_ (w1 := w2.alloc (.cells (plateC n b1 b2 (.slice none 0 0) 0 0) 90 (0, 0))) (by rfl) rfl (by go_simp; exact ⟨rfl, rfl⟩) ?_
    refine hK.out _ _ trivial (fun _ => ?_)
    clear hK K
    refine norm_ (a' := ?_) ?_ ?_
    rotate_left; · show Act.put _ (some 16) _ = _; simp only [Act.put, List.setIfInBounds_toArray, List.set_cons_zero, List.set_cons_succ, i64_w, i32_w]; rfl
    refine pure_ (i := 7) (N := some 2) (v := ?_) (a' := ?_) #[true, true, true, true, true, true, true, true, false] rfl rfl (by kernel_rfl) (fun _ _ _ h => h) (Or.inl ⟨by rfl, ?_⟩) ?_ ?_
    rotate_left; · intro w'; go_simp; with_reducible rfl
    rotate_left; · simp only [Act.put, List.setIfInBounds_toArray, List.set_cons_zero, List.set_cons_succ, i64_w, i32_w]; rfl
    refine pure_ (i := 8) (N := some 3) (v := ?_) (a' := ?_) #[true, true, true, true, true, true, true, true, true] rfl rfl (by kernel_rfl) (fun _ _ _ h => h) (Or.inl ⟨by rfl, ?_⟩) ?_ ?_
    rotate_left; · intro w'; go_simp; with_reducible rfl
    rotate_left; · simp only [Act.put, List.setIfInBounds_toArray, List.set_cons_zero, List.set_cons_succ, i64_w, i32_w]; rfl
    refine done_ (by kernel_rfl) ?_
    have HN := Aside0.mk (heap_alloc_new w2 (.cells (plateC n b1 b2 (.slice none 0 0) 0 0) 90 (0, 0)))
    have HA := Aside0.mk (below_alloc (Below.refl w2.heap.size w2) (.cells (plateC n b1 b2 (.slice none 0 0) 0 0) 90 (0, 0)))
    generalize w2.alloc (.cells (plateC n b1 b2 (.slice none 0 0) 0 0) 90 (0, 0)) = w3 at HN HA ⊢
    generalize hg3 : w2.heap.size = g3 at HN ⊢
    go_wp2_with fail
    go_ret2
    refine ⟨g3, b1, b2, rfl, ⟨HN.out, blk_below H.out.1 HA.out, blk_below H.out.2.1 HA.out, World.ownsRow_nil _ _ _ _⟩, by rw [← hg3]; exact H.out.2.2.2.2.size, H.out.2.2.1, H.out.2.2.2.1, below_then H.out.2.2.2.2 H.out.2.2.2.2.size HA.out⟩
  · intro hJ
    have HJ := Aside0.mk hJ
    clear hJ
    refine two_ (i := 2) (j := 4) (Ni := some 12) (Nj := some 14) #[true, true, true, true, false, false, false, false, false] #[true, true, false, true, true, false, false, false, false] rfl rfl rfl rfl (by kernel_rfl) (by decide) (by decide) (fun K hK => ?_) (fun K hK => ?_)
    · obtain ⟨w2, hr, hm, hb⟩ := made_h w1 n hn
      refine gives_ (by rfl) rfl (exec_make _ _ _ _ rfl n rfl rfl _ _ hr) ?_
      refine hK.out _ _ trivial (fun _ => ?_)
      clear hK K hr
      refine one_ (i := 4) (N := some 14) #[true, true, true, true, true, false, false, false, false] rfl rfl (by kernel_rfl) (by decide) (fun K hK => ?_)
      obtain ⟨w3, hr2, hm2, hb2⟩ := made_d w2 n hn
      refine gives_ (by rfl) rfl (exec_make _ _ _ _ rfl n rfl rfl _ _ hr2) ?_
      refine hK.out _ _ trivial (fun _ => ?_)
      clear hK K hr2
      have e1 := below_then HB0.out HB0.out.size hb
      have e2 := below_then e1 e1.size hb2
      have hj := HJ.out (w1.heap.size, w2.heap.size) w3 ⟨blk_below hm hb2, hm2, HB0.out.size, e1.size, e2⟩
      refine norm_ (a' := _) ?_ hj
      simp only [putAll, Act.put, List.setIfInBounds_toArray, List.set_cons_zero, List.set_cons_succ]
    · obtain ⟨w2, hr, hm, hb⟩ := made_d w1 n hn
      refine gives_ (by rfl) rfl (exec_make _ _ _ _ rfl n rfl rfl _ _ hr) ?_
      refine hK.out _ _ trivial (fun _ => ?_)
      clear hK K hr
      refine one_ (i := 2) (N := some 12) #[true, true, true, true, true, false, false, false, false] rfl rfl (by kernel_rfl) (by decide) (fun K hK => ?_)
      obtain ⟨w3, hr2, hm2, hb2⟩ := made_h w2 n hn
      refine gives_ (by rfl) rfl (exec_make _ _ _ _ rfl n rfl rfl _ _ hr2) ?_
      refine hK.out _ _ trivial (fun _ => ?_)
      clear hK K hr2
      have e1 := below_then HB0.out HB0.out.size hb
      have e2 := below_then e1 e1.size hb2
      have hj := HJ.out (w2.heap.size, w1.heap.size) w3 ⟨hm2, blk_below hm hb2, e1.size, HB0.out.size, e2⟩
      refine norm_ (a' := _) ?_ hj
      simp only [putAll, Act.put, List.setIfInBounds_toArray, List.set_cons_zero, List.set_cons_succ]
  -- END3
end Go.Proofs.YtgpknomegleidaaGreatDoor.T
