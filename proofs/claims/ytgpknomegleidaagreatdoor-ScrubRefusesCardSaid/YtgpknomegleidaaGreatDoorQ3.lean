/- The scrub texts, part Q3: walks through the code that the law reaches. -/
import Derived.Test.YtgpknomegleidaaGreatDoorQ2
import Derived.Test.YtgpknomegleidaaGreatDoorQ1
namespace Go.Proofs.YtgpknomegleidaaGreatDoor.T
open Go.RowKit Go.Proofs.YtgpknomegleidaaGreatDoorW.PrintWords Go.Proofs.YtgpknomegleidaaGreatDoorW.PrintLast Go.Proofs.YtgpknomegleidaaGreatDoorW.PrintMore Go.Proofs.YtgpknomegleidaaGreatDoor.PAll
set_option linter.unusedSimpArgs false
set_option linter.unusedVariables false

/-- The plate at p; F is what it will hold. -/
def PlateP (w : World) (p bh bd n K : Nat) (F : Nat → ByteArray) : Prop := ∃ h cv rd wr cl, PlateS w p bh bd n h (fun _ => false) cv rd wr cl ∧ after h cl = F ∧ cl.length ≤ K ∧ ∀ x ∈ cl, x.1 < n
theorem PlateP.of {w : World} {p bh bd n : Nat} {h : Nat → ByteArray} {cv : Value} {rd wr : Int} (k : PlateS w p bh bd n h (fun _ => false) cv rd wr []) (K : Nat) : PlateP w p bh bd n K h := ⟨h, cv, rd, wr, [], k, rfl, Nat.zero_le _, by simp⟩
theorem PlateP.fr {S : Nat → Prop} {w w' : World} {p bh bd n K : Nat} {F : Nat → ByteArray} (k : PlateP w p bh bd n K F) (hf : Fr S w w') (hS : ∀ g cs t fr, w.heap[g]? = some (.cells cs t fr) → ¬ S g) : PlateP w' p bh bd n K F := by
  obtain ⟨h, cv, rd, wr, cl, k1, r⟩ := k
  exact ⟨h, cv, rd, wr, cl, k1.fr hf hS, r⟩
theorem PlateP.below {w w' : World} {p bh bd n K : Nat} {F : Nat → ByteArray} (k : PlateP w p bh bd n K F) (hb : Below w.heap.size w w') : PlateP w' p bh bd n K F :=
  k.fr (S := fun _ => False) (Fr.below hb) (fun _ _ _ _ _ => id)
theorem PlateP.lt {w : World} {p bh bd n K : Nat} {F : Nat → ByteArray} (k : PlateP w p bh bd n K F) : ∀ g, PS p bh bd g → g < w.heap.size := by
  obtain ⟨h, cv, rd, wr, cl, k1, r⟩ := k
  exact k1.lt
theorem PlateP.mono {w : World} {p bh bd n K L : Nat} {F : Nat → ByteArray} (k : PlateP w p bh bd n K F) (h : K ≤ L) : PlateP w p bh bd n L F := by
  obtain ⟨h1, cv, rd, wr, cl, k1, r1, r2, r3⟩ := k
  exact ⟨h1, cv, rd, wr, cl, k1, r1, Nat.le_trans r2 h, r3⟩
theorem Vlt.frpP {w w' : World} {v i vh vs N : Nat} {f : Lit → Nat} {p bh bd n K : Nat} {F : Nat → ByteArray} (k : Vlt w v i vh vs N f) (hp : PlateP w p bh bd n K F) (hf : FrP (PS p bh bd) w w') : Vlt w' v i vh vs N f := by
  obtain ⟨h1, cv, rd, wr, cl, k1, _⟩ := hp
  exact k.frp k1 hf
section
variable {w : World} {p bh bd n K : Nat} {F : Nat → ByteArray}
theorem write_p (k : PlateP w p bh bd n K F) (hK : K ≤ 1000) (at_ : Nat) (ha : at_ < n) (s : ByteArray) (hs : s.size = 64) :
    Calls Tryz.prog 128 #[.pointer (some ⟨p, 0, none⟩), .int .i64 (at_ : Int), .string s] w fun e w' => e = .returned (.int .i64 0) ∧ PlateP w' p bh bd n (K + 1) (upd F at_ s) ∧ FrP (PS p bh bd) w w' := by
  obtain ⟨h, cv, rd, wr, cl, k1, r1, r2, r3⟩ := k
  refine (write_pc k1 at_ ha s hs (Nat.le_trans r2 hK)).mono ?_
  rintro e w' ⟨rfl, cv', wr', k2, hf⟩
  refine ⟨rfl, ⟨h, cv', rd, wr', cl ++ [(at_, s)], k2, by rw [after_snoc, r1], by rw [List.length_append]; exact Nat.succ_le_succ r2, ?_⟩, hf⟩
  intro x hx
  rw [List.mem_append, List.mem_singleton] at hx
  rcases hx with hx | rfl
  · exact r3 x hx
  · exact ha
theorem flush_p (k : PlateP w p bh bd n K F) (hK : K ≤ 1000) :
    Calls Tryz.prog 69 #[.pointer (some ⟨p, 0, none⟩)] w fun e w' => e = .returned (.int .i64 0) ∧ (∃ rd wr, PlateS w' p bh bd n F (fun _ => false) (.slice none 0 0) rd wr []) ∧ FrP (PS p bh bd) w w' := by
  obtain ⟨h, cv, rd, wr, cl, k1, r1, r2, r3⟩ := k
  refine (flush_c k1 (fun _ => rfl) r3 (Nat.le_trans r2 hK)).mono ?_
  rintro e w' ⟨rfl, k2, hf⟩
  exact ⟨rfl, ⟨rd, wr, by rw [← r1]; exact k2⟩, hf⟩
set_option maxHeartbeats 1000000 in
set_option maxRecDepth 100000 in
theorem blocks_c {h : Nat → ByteArray} {d : Nat → Bool} {cv : Value} {rd wr : Int} {cl : List (Nat × ByteArray)} (k : PlateS w p bh bd n h d cv rd wr cl) (hn : n ≤ 32768) :
    Calls Tryz.prog 29 #[.pointer (some ⟨p, 0, none⟩)] w fun e w' => e = .returned (.int .i64 ((n / 8 : Nat) : Int)) ∧ w' = w := by
  have HS := Aside0.mk (sectors_c k)
  have q8 : Int.tdiv (n : Int) 8 = ((n / 8 : Nat) : Int) := rfl
  have w8 : wrap64 ((n / 8 : Nat) : Int) = ((n / 8 : Nat) : Int) := w64 (by omega) (by omega)
  clear k hn
  go_enter Tryz.func29, Tryz.ntmps29
  go_wp2_with fail
  refine HS.out.mono ?_
  rintro e w1 ⟨rfl, rfl⟩
  go_wp2_with fail
  go_ret
  exact ⟨by first | rfl | (rw [← w8]; rfl), rfl⟩
set_option maxHeartbeats 1000000 in
set_option maxRecDepth 100000 in
theorem numnil_c (w : World) : Calls Tryz.prog 49 #[.nilIface] w fun e w' => e = .returned (.int .i64 0) ∧ w' = w := by
  go_enter Tryz.func49, Tryz.ntmps49
  go_wp2_with fail
  go_ret
  exact ⟨rfl, rfl⟩
set_option maxHeartbeats 1000000 in
set_option maxRecDepth 100000 in
theorem tag_c (w : World) (raw : ByteArray) (hz : raw.size = 512) : Calls Tryz.prog 101 #[.string raw] w fun e w' => e = .returned (.string (raw.extract 496 512)) ∧ w' = w := by
  have e512 : (((raw.size : Nat) : Int) != 512) = false := by rw [hz]; rfl
  have q1 : (496 ≤ raw.size) = True := eq_true (by omega)
  have q2 : ((496 : Int) ≤ (raw.size : Int)) = True := eq_true (by omega)
  go_enter Tryz.func101, Tryz.ntmps101
  go_wp2_with fail
  go_ret
  exact ⟨by rw [← hz]; rfl, rfl⟩
/-- What a block that can't be had is. -/
def z512 : ByteArray := ⟨(zeros 512).toArray⟩
set_option maxHeartbeats 1000000 in
set_option maxRecDepth 100000 in
theorem blank_c (w : World) : Calls Tryz.prog 26 #[] w fun e w' => e = .returned (.tuple #[.string z512, .int .i64 255]) ∧ Below w.heap.size w w' := by
  go_enter Tryz.func26, Tryz.ntmps26
  go_wp2_with fail
  refine (Tryz.strings_Repeat ⟨#[0]⟩ 512 _ (by decide) (by decide)).mono ?_
  rintro e w2 ⟨rfl, hb⟩
  have HB := Aside0.mk hb
  have hz : (⟨(Lib.repeatL [0] 512).toArray⟩ : ByteArray) = z512 := by unfold z512; congr 2
  clear hb
  rw [show (⟨#[0]⟩ : ByteArray).data.toList = [0] from rfl, hz]
  clear hz
  go_wp2_with fail
  go_ret2
  exact ⟨rfl, HB.out⟩
/-- The piece j of a block. -/
def piece (raw : ByteArray) (j : Nat) : ByteArray := raw.extract (j * 64) ((j + 1) * 64)
def layN (F : Nat → ByteArray) (a : Nat) (raw : ByteArray) (i : Nat) : Nat → ByteArray := fun k => if k / 8 = a ∧ k % 8 < i then piece raw (k % 8) else F k
def putB (F : Nat → ByteArray) (a : Nat) (raw : ByteArray) : Nat → ByteArray := fun k => if k / 8 = a then piece raw (k % 8) else F k
theorem layN_zero (F : Nat → ByteArray) (a : Nat) (raw : ByteArray) : layN F a raw 0 = F := by
  funext k
  unfold layN
  rw [if_neg (by omega)]
theorem layN_succ (F : Nat → ByteArray) (a : Nat) (raw : ByteArray) (i : Nat) (hi : i < 8) : upd (layN F a raw i) (a * 8 + i) (piece raw i) = layN F a raw (i + 1) := by
  funext k
  unfold upd layN
  by_cases h : k = a * 8 + i
  · rw [if_pos h, if_pos (by omega)]
    congr 1
    omega
  · rw [if_neg h]
    by_cases h2 : k / 8 = a ∧ k % 8 < i
    · rw [if_pos h2, if_pos (by omega)]
    · rw [if_neg h2, if_neg (by omega)]
theorem layN_all (F : Nat → ByteArray) (a : Nat) (raw : ByteArray) : layN F a raw 8 = putB F a raw := by
  funext k
  unfold putB layN
  by_cases h : k / 8 = a
  · rw [if_pos (by omega), if_pos h]
  · rw [if_neg (by omega), if_neg h]
theorem piece_size (raw : ByteArray) (hz : raw.size = 512) (j : Nat) (hj : j < 8) : (piece raw j).size = 64 := by
  rw [piece, ByteArray.size_extract, hz]
  omega
set_option maxHeartbeats 1000000 in
set_option maxRecDepth 100000 in
theorem lay_c (k : PlateP w p bh bd n K F) (hK : K + 8 ≤ 1000) (a : Nat) (ha : a * 8 + 8 ≤ n) (hn : n ≤ 32768) (raw : ByteArray) (hz : raw.size = 512) :
    Calls Tryz.prog 95 #[.pointer (some ⟨p, 0, none⟩), .int .i64 (a : Int), .string raw] w fun e w' => e = .returned .nilIface ∧ PlateP w' p bh bd n (K + 8) (putB F a raw) ∧ FrP (PS p bh bd) w w' := by
  have HK0 := Aside0.mk k
  have HC := Aside0.mk (And.intro hK (And.intro ha (And.intro hn hz)))
  clear k hK ha hn hz
  go_enter Tryz.func95, Tryz.ntmps95
  go_wp2_with fail
  go_loopw [9] (fun i wq => ∃ j : Nat, j ≤ 8 ∧ i = .int .i64 j ∧ Aside0 (PlateP wq p bh bd n (K + j) (layN F a raw j)) ∧ Aside0 (FrP (PS p bh bd) w wq)) (fun i _ => 8 - (intOf i).toNat)
  case atStart => exact ⟨0, by decide, rfl, ⟨by rw [layN_zero]; exact HK0.out⟩, ⟨FrP.refl _ _⟩⟩
  case round =>
    clear HK0
    obtain ⟨j, hj, rfl, HK, HF⟩ := hrel
    by_cases hlt : j < 8
    · have HJ := Aside0.mk hlt
      have hh := HC.out
      have w1_ : wrap64 ((a : Int) * 8) = (a : Int) * 8 := w64 (by omega) (by omega)
      have w2_ : wrap64 ((a : Int) * 8 + (j : Int)) = (a : Int) * 8 + (j : Int) := w64 (by omega) (by omega)
      have w3_ : wrap64 ((j : Int) * 64) = (j : Int) * 64 := w64 (by omega) (by omega)
      have w4_ : wrap64 ((j : Int) + 1) = (j : Int) + 1 := w64 (by omega) (by omega)
      have w5_ : wrap64 (((j : Int) + 1) * 64) = ((j : Int) + 1) * 64 := w64 (by omega) (by omega)
      have d0 : decide ((j : Int) < 8) = true := decide_eq_true (by omega)
      have hs : ∀ W, (Instr.slice 9 (.string raw) (some (.int .i64 ((j : Int) * 64))) (some (.int .i64 (((j : Int) + 1) * 64))) none).run Tryz.prog W = .ok (.string (piece raw j)) W := fun W => by
        rw [run_slice_string W 9 raw .i64 .i64 _ _ Tryz.underlying9 (by omega) (by omega) (by omega)]
        unfold piece
        congr 3 <;> omega
      clear hlt hh hj
      go_wp2_with fail
      clear w1_ w2_ w3_ w5_ hs
      rw [show (a : Int) * 8 + (j : Int) = ((a * 8 + j : Nat) : Int) by push_cast; rfl]
      refine (write_p HK.out (by have := HC.out.1; have := HJ.out; omega) (a * 8 + j) (by have := HC.out.2.1; have := HJ.out; omega) (piece raw j) (piece_size raw HC.out.2.2.2 j HJ.out)).mono ?_
      rintro e w2 ⟨rfl, h1, h2⟩
      rw [layN_succ F a raw j HJ.out] at h1
      have HK2 := Aside0.mk h1
      have HF2 := Aside0.mk (HF.out.trans h2)
      clear h1 h2 HK HF
      go_wp2_with fail
      go_roundw
      case rel => exact ⟨j + 1, HJ.out, by rw [w4_]; rfl, HK2, HF2⟩
      case measure =>
        have := HJ.out
        rw [w4_]
        simp only [intOf]
        omega
    · have : j = 8 := by omega
      subst this
      have d0 : decide (((8 : Nat) : Int) < 8) = false := rfl
      clear hlt hj
      go_wp2_with fail
      go_ret
      exact ⟨rfl, by rw [← layN_all]; exact HK.out, HF.out⟩
set_option maxHeartbeats 1000000 in
set_option maxRecDepth 100000 in
theorem bPut_c (k : PlateP w p bh bd n K F) (hK : K + 8 ≤ 1000) (a : Nat) (ha : a * 8 + 8 ≤ n) (hn : n ≤ 32768) (raw : ByteArray) (hz : raw.size = 512) :
    Calls Tryz.prog 68 #[.pointer (some ⟨p, 0, none⟩), .int .i64 (a : Int), .string raw] w fun e w' => e = .returned (.int .i64 0) ∧ PlateP w' p bh bd n (K + 8) (putB F a raw) ∧ FrP (PS p bh bd) w w' := by
  have HL := Aside0.mk (lay_c k hK a ha hn raw hz)
  obtain ⟨h1, cv, rd, wr, cl, k1, _⟩ := k
  have HB := Aside0.mk (blocks_c k1 hn)
  have e512 : (((raw.size : Nat) : Int) != 512) = false := by rw [hz]; rfl
  have d0 : decide ((a : Int) < 0) = false := decide_eq_false (by omega)
  have d1 : decide ((n : Int) / 8 ≤ (a : Int)) = false := decide_eq_false (by omega)
  have d2 : decide (n / 8 ≤ a) = false := decide_eq_false (by omega)
  clear hK ha hn hz k1
  go_enter Tryz.func68, Tryz.ntmps68
  go_wp2_with fail
  refine HB.out.mono ?_
  rintro e w1 ⟨rfl, rfl⟩
  go_wp2_with fail
  refine HL.out.mono ?_
  rintro e w2 ⟨rfl, h1, h2⟩
  have HP := Aside0.mk (And.intro h1 h2)
  clear h1 h2
  go_wp2_with fail
  refine (numnil_c _).mono ?_
  rintro e w3 ⟨rfl, rfl⟩
  go_wp2_with fail
  go_ret
  exact ⟨rfl, HP.out.1, HP.out.2⟩
end
end Go.Proofs.YtgpknomegleidaaGreatDoor.T
namespace Go.Proofs.YtgpknomegleidaaGreatDoor.T
open Go.RowKit Go.Proofs.YtgpknomegleidaaGreatDoorW.PrintWords Go.Proofs.YtgpknomegleidaaGreatDoorW.PrintLast Go.Proofs.YtgpknomegleidaaGreatDoorW.PrintMore Go.Proofs.YtgpknomegleidaaGreatDoor.PAll
set_option linter.unusedSimpArgs false
set_option linter.unusedVariables false

theorem freeze_other (w : World) (a : Addr) (n g : Nat) (h : g ≠ a.block) : (w.freeze a n).heap[g]? = w.heap[g]? := by
  unfold World.freeze
  split
  · rfl
  · simp [Array.getElem?_modify, Ne.symm h]
theorem freeze_size (w : World) (a : Addr) (n : Nat) : (w.freeze a n).heap.size = w.heap.size := by
  unfold World.freeze
  split
  · rfl
  · simp
set_option maxHeartbeats 1000000 in
set_option maxRecDepth 100000 in
theorem string_k (base b : Nat) (l : List UInt8) (w : World) (h : Bld w base b l) (h0 : l ≠ []) :
    Calls Tryz.prog 51 #[.pointer (some ⟨b, 0, none⟩)] w fun e w' => e = .returned (.string ⟨l.toArray⟩) ∧ Below base w w' ∧ KeepT w w' := by
  obtain ⟨hbb, p, v, hp, hbk, hown⟩ := h
  have hl0 : l.length ≠ 0 := by simpa using h0
  obtain ⟨g, cap, cur, rfl, hbg, hg, hnc, hcm, hcs, htake⟩ : ∃ g cap cur, v = .slice (some ⟨g, 0, none⟩) l.length cap ∧ base ≤ g ∧ w.heap[g]? = some (.cells cur 5 (0, 0)) ∧ l.length ≤ cap ∧ cap ≤ maxLen ∧ cur.size = cap * 1 ∧ cur.toList.take (l.length * 1) = l.map vb := by
    rcases hown.2 with ⟨_, hz⟩ | ⟨g, cap, cur, hv, r⟩
    · exact absurd hz hl0
    · exact ⟨g, cap, cur, hv, r⟩
  have c1 : w.drew.cell? ⟨b, 1, none⟩ = some (.slice (some ⟨g, 0, none⟩) l.length cap) := (blk_cell (blk_drew hbk) 1).trans rfl
  have hSD : (Builtin.unsafeSliceData_ #[93] 155 #[.slice (some ⟨g, 0, none⟩) l.length cap]).run Tryz.prog w.drew = .ok (.pointer (some ⟨g, 0, none⟩)) w.drew :=
    Lib.run_unsafeSliceData_row _ _ _ _ _ _ (by omega)
  have hUS : (Builtin.unsafeString_ #[155, 3] 9 #[.pointer (some ⟨g, 0, none⟩), .int .i64 l.length]).run Tryz.prog w.drew = .ok (.string ⟨l.toArray⟩) (w.drew.freeze ⟨g, 0, none⟩ l.length) := by
    refine Lib.run_unsafeString_row w.drew 155 3 9 5 Tryz.underlying155 cells_u8 g cur.size (by have hg' : w.drew.heap[g]? = some (.cells cur 5 (0, 0)) := hg; simp [World.shape?, hg']) l h0 (by omega) (by unfold maxLen at hcm; omega) ?_
    intro j x hx
    exact hown.cells (g := g) rfl j (.int .u8 x.toNat) (by simp [vb, hx])
  have HG := Aside0.mk hbg
  have HKT : Aside0 (KeepT w (w.drew.freeze ⟨g, 0, none⟩ l.length)) := ⟨⟨by rw [freeze_size]; exact Nat.le_refl _, fun q cs t e h1 h2 => by
    rw [freeze_other _ _ _ _ (show q ≠ g from fun eq => by
      subst eq
      rw [hg] at e
      injection e with e
      injection e with _ e2
      exact h1 e2.symm)]
    exact e⟩⟩
  clear hp hown hbk h0 hl0 hg hnc hcm hcs htake hbg hbb
  go_enter Tryz.func51, Tryz.ntmps51
  go_wp2
  go_region
  all_goals (go_wp2; go_ret; exact ⟨rfl, Lib.below_freeze (below_drew1 (Below.refl _ _)) (p := ⟨g, 0, none⟩) HG.out _, HKT.out⟩)
theorem or01 : bits BinOp.or IntKind.i64 0 (wrap64 1) = 1 := by kernel_rfl
theorem infoInt : (Tryz.prog.info? 3).map (·.size) = some 1 := by kernel_rfl
section
variable {w : World} {p bh bd n : Nat} {h : Nat → ByteArray} {d : Nat → Bool} {cv : Value} {rd wr : Int} {cl : List (Nat × ByteArray)}
def PT (t : TypeId) : Prop := t = 90 ∨ t = 9 ∨ t = 4 ∨ t = 183
instance (t : TypeId) : Decidable (PT t) := by unfold PT; infer_instance
theorem PlateS.frT {S : Nat → Prop} {w' : World} (k : PlateS w p bh bd n h d cv rd wr cl) (hf : Fr S w w') (hS : ∀ g cs t fr, w.heap[g]? = some (.cells cs t fr) → PT t → ¬ S g) : PlateS w' p bh bd n h d cv rd wr cl := by
  refine ⟨hf.cells k.pb (hS _ _ _ _ k.pb (by decide)), hf.cells k.hb (hS _ _ _ _ k.hb (by decide)), hf.cells k.db (hS _ _ _ _ k.db (by decide)), k.cb.1, ?_⟩
  rcases k.cb.2 with h | ⟨g, cap, cur, e1, e2, e3, e4⟩
  · exact .inl h
  · exact .inr ⟨g, cap, cur, e1, e2, hf.cells e3 (hS _ _ _ _ e3 (by decide)), e4⟩
set_option maxHeartbeats 1000000 in
set_option maxRecDepth 100000 in
theorem sector_ok (k : PlateS w p bh bd n h d cv rd wr []) (at_ : Nat) (ha : at_ < n) (hd : d at_ = false) (gm : Nat) (bit : Int) :
    Calls Tryz.prog 48 #[.pointer (some ⟨p, 0, none⟩), .int .i64 (at_ : Int), .pointer (some ⟨gm, 0, none⟩), .int .i64 bit] w fun e w' => e = .returned (.tuple #[.string (rdS (h at_)), .nilIface]) ∧ ∃ r1, PlateS w' p bh bd n h d cv r1 wr [] ∧ FrP (PS p bh bd) w w' := by
  have HR := Aside0.mk (read_ok k at_ ha hd)
  clear k ha hd
  go_enter Tryz.func48, Tryz.ntmps48
  go_wp2_with fail
  refine HR.out.mono ?_
  rintro e w1 ⟨rfl, r1, h1, h2⟩
  have HP := Aside0.mk (And.intro h1 h2)
  clear h1 h2
  go_wp2_with fail
  go_ret2
  exact ⟨rfl, r1, HP.out⟩
set_option maxHeartbeats 1000000 in
set_option maxRecDepth 100000 in
theorem sector_dumb (k : PlateS w p bh bd n h d cv rd wr []) (at_ : Nat) (ha : at_ < n) (hd : d at_ = true) (gm : Nat) (hm : w.heap[gm]? = some (.cells #[.int .i64 0] 3 (0, 0))) :
    Calls Tryz.prog 48 #[.pointer (some ⟨p, 0, none⟩), .int .i64 (at_ : Int), .pointer (some ⟨gm, 0, none⟩), .int .i64 0] w fun e w' => e = .returned (.tuple #[.string z64, .nilIface]) ∧ ∃ r1, PlateS w' p bh bd n h d cv r1 wr [] ∧ w'.heap[gm]? = some (.cells #[.int .i64 1] 3 (0, 0)) ∧ FrP (fun g => PS p bh bd g ∨ g = gm) w w' := by
  have HR := Aside0.mk (read_dumb k at_ ha hd)
  have HM := Aside0.mk hm
  have HPM : Aside0 (¬ PS p bh bd gm) := ⟨by
    rintro (e | e | e)
    · exact blk_ne_type hm k.pb (by decide) e
    · exact blk_ne_type hm k.hb (by decide) e
    · exact blk_ne_type hm k.db (by decide) e⟩
  clear k ha hd hm
  go_enter Tryz.func48, Tryz.ntmps48
  go_wp2_with fail
  refine HR.out.mono ?_
  rintro e w1 ⟨rfl, r1, h1, h2⟩
  have hm1 := h2.cells HM.out HPM.out (by decide)
  have HP := Aside0.mk (And.intro h1 h2)
  clear h1 h2
  go_wp2_with fail
  -- REGION6
  have HP' := Aside0.mk (And.intro HP.out.1.drew (HP.out.2.trans (FrP.below (below_drew (Below.refl _ w1)))))
  refine start_ (n := 8) (S := fun w' => w'.heap[gm]? = some (.cells #[.int .i64 0] 3 (0, 0))) (ds := [7]) #[false, false, false, false, false, false, false, false] (by kernel_rfl) rfl rfl (show w1.drew.heap[gm]? = _ from hm1) (fun hHeld => ?_)
  clear hm1 HP
  generalize w1.drew = w2 at HP' hHeld ⊢
  refine pure_ (i := 0) (N := some 24) (v := ?_) (a' := ?_) #[true, false, false, false, false, false, false, false] rfl rfl (by kernel_rfl) (fun _ _ _ h => h) (Or.inl ⟨by rfl, ?_⟩) ?_ ?_
  rotate_left; · intro w'; go_simp; with_reducible rfl
  rotate_left; · simp only [Act.put, List.setIfInBounds_toArray, List.set_cons_zero, List.set_cons_succ, i64_w, i32_w]; rfl
  refine pure_ (i := 1) (N := some 25) (v := ?_) (a' := ?_) #[true, true, false, false, false, false, false, false] rfl rfl (by kernel_rfl) (fun _ _ _ h => h) (Or.inl ⟨by rfl, ?_⟩) ?_ ?_
  rotate_left; · intro w'; go_simp; with_reducible rfl
  rotate_left; · simp only [Act.put, List.setIfInBounds_toArray, List.set_cons_zero, List.set_cons_succ, i64_w, i32_w]; rfl
  refine take_ (i := 2) (N := some 26) (v := ?_) (a' := ?_) #[true, true, true, false, false, false, false, false] rfl rfl (by kernel_rfl) (fun _ _ _ h => h) (Or.inl ⟨by rfl, ?_⟩) hHeld ?_ ?_
  rotate_left; · rintro w' hS; have d0 : w'.cell? ⟨gm, 0, none⟩ = some (.int .i64 0) := (blk_cell hS 0).trans rfl; go_simp; with_reducible rfl
  rotate_left; · simp only [Act.put, List.setIfInBounds_toArray, List.set_cons_zero, List.set_cons_succ, i64_w, i32_w]; rfl
  refine pure_ (i := 3) (N := some 27) (v := ?_) (a' := ?_) #[true, true, true, true, false, false, false, false] rfl rfl (by kernel_rfl) (fun _ _ _ h => h) (Or.inl ⟨by rfl, ?_⟩) ?_ ?_
  rotate_left; · intro w'; go_simp; with_reducible rfl
  rotate_left; · simp only [Act.put, List.setIfInBounds_toArray, List.set_cons_zero, List.set_cons_succ, i64_w, i32_w]; rfl
  refine pure_ (i := 4) (N := some 28) (v := ?_) (a' := ?_) #[true, true, true, true, true, false, false, false] rfl rfl (by kernel_rfl) (fun _ _ _ h => h) (Or.inl ⟨by rfl, ?_⟩) ?_ ?_
  rotate_left; · intro w'; go_simp; with_reducible rfl
  rotate_left; · simp only [Act.put, List.setIfInBounds_toArray, List.set_cons_zero, List.set_cons_succ, i64_w, i32_w]; rfl
  refine pure_ (i := 5) (N := some 29) (v := ?_) (a' := ?_) #[true, true, true, true, true, true, false, false] rfl rfl (by kernel_rfl) (fun _ _ _ h => h) (Or.inl ⟨by rfl, ?_⟩) ?_ ?_
  rotate_left; · intro w'; go_simp; with_reducible rfl
  rotate_left; · simp only [Act.put, List.setIfInBounds_toArray, List.set_cons_zero, List.set_cons_succ, i64_w, i32_w]; rfl
  refine pure_ (i := 6) (N := some 30) (v := ?_) (a' := ?_) #[true, true, true, true, true, true, true, false] rfl rfl (by kernel_rfl) (fun _ _ _ h => h) (Or.inl ⟨by rfl, ?_⟩) ?_ ?_
  rotate_left; · intro w'; go_simp; with_reducible rfl
  rotate_left; · simp only [Act.put, List.setIfInBounds_toArray, List.set_cons_zero, List.set_cons_succ, i64_w, i32_w]; rfl
  refine last_ (i := 7) (N := none) #[true, true, true, true, true, true, true, true] rfl rfl (by kernel_rfl) (by decide) (fun K hK => ?_)
  refine skip_ (by rfl) rfl (exec_store1 w2 3 (.tmp 30) (.tmp 29) rfl gm 0 3 _ (.int .i64 1) hHeld (by decide) infoInt rfl (congrArg (Value.int .i64) or01) rfl rfl) ?_
  refine hK.out _ _ ?_
  clear hK K
  have hg := Lib.grownBy_setCell w2 gm 0 (.int .i64 1)
  have HM2 : Aside0 ((w2.setCell ⟨gm, 0, none⟩ (.int .i64 1)).heap[gm]? = some (.cells #[.int .i64 1] 3 (0, 0))) := ⟨blk_put hHeld 0 _ rfl⟩
  have HP2 := Aside0.mk (And.intro (HP'.out.1.frT (S := fun g => g = gm) (Fr.grown hg rfl) (fun g cs t fr hq ht e => by
    subst e
    rw [hHeld] at hq
    injection hq with hq
    injection hq with _ h2
    subst h2
    revert ht
    decide)) ((HP'.out.2.mono (T := fun g => PS p bh bd g ∨ g = gm) (fun _ e => .inl e)).trans (FrP.of (Fr.grown hg (.inr rfl)))))
  clear hg hHeld HP'
  generalize w2.setCell ⟨gm, 0, none⟩ (.int .i64 1) = w3 at HM2 HP2 ⊢
  refine done_ (by kernel_rfl) ?_
  -- END6
  go_wp2_with fail
  refine (Tryz.strings_Repeat ⟨#[0]⟩ 64 _ (by decide) (by decide)).mono ?_
  rintro e w4 ⟨rfl, hb⟩
  have HB := Aside0.mk hb
  clear hb
  go_wp2_with fail
  go_ret2
  exact ⟨rfl, r1, HP2.out.1.below HB.out, blk_below HM2.out HB.out, HP2.out.2.trans (FrP.below HB.out)⟩
end
end Go.Proofs.YtgpknomegleidaaGreatDoor.T
namespace Go.Proofs.YtgpknomegleidaaGreatDoor.T
open Go.RowKit Go.Proofs.YtgpknomegleidaaGreatDoorW.PrintWords Go.Proofs.YtgpknomegleidaaGreatDoorW.PrintLast Go.Proofs.YtgpknomegleidaaGreatDoorW.PrintMore Go.Proofs.YtgpknomegleidaaGreatDoor.PAll
set_option linter.unusedSimpArgs false
set_option linter.unusedVariables false

/-- Below B w' is w but for S and rows of pending writes. -/
structure FrB (B : Nat) (S : Nat → Prop) (w w' : World) : Prop where
  os : w'.os = w.os
  tape : w'.tape = w.tape
  output : w'.output = w.output
  size : w.heap.size ≤ w'.heap.size
  block : ∀ g, g < B → ¬ S g → (∀ cs fr, w.heap[g]? = some (.cells cs 183 fr) → ∀ q, S q → g < q) → w'.heap[g]? = w.heap[g]?
theorem FrB.refl (B : Nat) (S : Nat → Prop) (w : World) : FrB B S w w := ⟨rfl, rfl, rfl, Nat.le_refl _, fun _ _ _ _ => rfl⟩
theorem FrB.step {B : Nat} {S T : Nat → Prop} {a b c : World} (h : FrB B S a b) (hB : B ≤ b.heap.size) (k : FrP T b c) (hT : ∀ g, T g → g < B → S g) : FrB B S a c :=
  ⟨k.os.trans h.os, k.tape.trans h.tape, k.output.trans h.output, Nat.le_trans h.size k.size, fun g hg hs hp => by
    have e := h.block g hg hs hp
    exact (k.block g (Nat.lt_of_lt_of_le hg hB) (fun ht => hs (hT g ht hg)) (fun cs fr hq q hT2 => by
      rcases Nat.lt_or_ge q B with hlt | hge
      · exact hp cs fr (e ▸ hq) q (hT q hT2 hlt)
      · exact Nat.lt_of_lt_of_le hg hge)).trans e⟩
theorem FrB.below {B : Nat} {S : Nat → Prop} {a b c : World} (h : FrB B S a b) (k : Below B b c) (hs : b.heap.size ≤ c.heap.size) : FrB B S a c :=
  ⟨k.os.trans h.os, k.tape.trans h.tape, k.output.trans h.output, Nat.le_trans h.size hs, fun g hg hs hp => (k.block g hg).trans (h.block g hg hs hp)⟩
theorem FrB.frp {S : Nat → Prop} {w w' : World} (h : FrB w.heap.size S w w') : FrP S w w' := ⟨h.os, h.tape, h.output, h.size, h.block⟩
theorem Bld.frp {S : Nat → Prop} {w w' : World} {B b : Nat} {l : List UInt8} (h : Bld w B b l) (hf : FrP S w w') (hS : ∀ q cs t, w.heap[q]? = some (.cells cs t (0, 0)) → (t = 5 ∨ t = 111) → ¬ S q) : Bld w' B b l := by
  obtain ⟨h1, p, v, hp, h2, h3⟩ := h
  refine ⟨h1, p, v, hp, hf.cells h2 (hS _ _ _ h2 (.inr rfl)) (by decide), h3.1, ?_⟩
  rcases h3.2 with h | ⟨g, cap, cur, e1, e2, e3, e4⟩
  · exact .inl h
  · exact .inr ⟨g, cap, cur, e1, e2, hf.cells e3 (hS _ _ _ e3 (.inl rfl)) (by decide), e4⟩
/-- What is read of a block, up to a sector. -/
def getL (h : Nat → ByteArray) (d : Nat → Bool) (a : Nat) : Nat → List UInt8
  | 0 => []
  | j + 1 => getL h d a j ++ pb (if d (a * 8 + j) then z64 else rdS (h (a * 8 + j)))
def mskN (d : Nat → Bool) (a j : Nat) : Int := if d (a * 8) = true ∧ 0 < j then 1 else 0
def H64 (h : Nat → ByteArray) : Prop := ∀ k, (h k).size = 0 ∨ (h k).size = 64
theorem z64_size : z64.size = 64 := by rw [z64, mk_size]; rfl
theorem rdS_size {h : Nat → ByteArray} (H : H64 h) (k : Nat) : (rdS (h k)).size = 64 := by
  unfold rdS
  rcases H k with e | e
  · rw [if_pos e]; exact z64_size
  · rw [if_neg (by omega)]; exact e
theorem getL_len {h : Nat → ByteArray} (d : Nat → Bool) (a : Nat) (H : H64 h) : ∀ j, (getL h d a j).length = 64 * j
  | 0 => rfl
  | j + 1 => by
    rw [getL, List.length_append, getL_len d a H j, pb_len]
    by_cases hd : d (a * 8 + j) = true
    · rw [if_pos hd, z64_size]; omega
    · rw [if_neg hd, rdS_size H]; omega
section
variable {w : World} {p bh bd n : Nat} {h : Nat → ByteArray} {d : Nat → Bool} {cv : Value} {rd wr : Int} {cl : List (Nat × ByteArray)}
theorem PlateS.low {B : Nat} {w' : World} (k : PlateS w p bh bd n h d (.slice none 0 0) rd wr []) (hb : Below B w w') (hl : ∀ g, PS p bh bd g → g < B) : PlateS w' p bh bd n h d (.slice none 0 0) rd wr [] :=
  ⟨(hb.block _ (hl _ (.inl rfl))).trans k.pb, (hb.block _ (hl _ (.inr (.inl rfl)))).trans k.hb, (hb.block _ (hl _ (.inr (.inr rfl)))).trans k.db, World.ownsRow_nil _ _ _ _⟩
theorem PlateS.notT (k : PlateS w p bh bd n h d cv rd wr cl) {q : Nat} {cs : Array Value} {t : TypeId} {fr : Nat × Nat} (hq : w.heap[q]? = some (.cells cs t fr)) (ht : ¬ PT t) : ¬ PS p bh bd q := by
  rintro (e | e | e)
  · exact blk_ne_type hq k.pb (fun e => ht (.inl e)) e
  · exact blk_ne_type hq k.hb (fun e => ht (.inr (.inl e))) e
  · exact blk_ne_type hq k.db (fun e => ht (.inr (.inr (.inl e)))) e
theorem sector_any {wt : Int} (k : PlateS w p bh bd n h d (.slice none 0 0) rd wt []) (a j : Nat) (hj : j < 8) (ha : a * 8 + 8 ≤ n) (hd : ∀ j, 0 < j → j < 8 → d (a * 8 + j) = false) (gm : Nat) (hm : w.heap[gm]? = some (.cells #[.int .i64 (mskN d a j)] 3 (0, 0))) :
    Calls Tryz.prog 48 #[.pointer (some ⟨p, 0, none⟩), .int .i64 ((a * 8 + j : Nat) : Int), .pointer (some ⟨gm, 0, none⟩), .int .i64 (j : Int)] w fun e w' => e = .returned (.tuple #[.string (if d (a * 8 + j) = true then z64 else rdS (h (a * 8 + j))), .nilIface]) ∧ ∃ r1, PlateS w' p bh bd n h d (.slice none 0 0) r1 wt [] ∧ w'.heap[gm]? = some (.cells #[.int .i64 (mskN d a (j + 1))] 3 (0, 0)) ∧ FrP (fun g => PS p bh bd g ∨ g = gm) w w' := by
  by_cases hdd : d (a * 8 + j) = true
  · have hj0 : j = 0 := by
      rcases Nat.eq_zero_or_pos j with e | e
      · exact e
      · rw [hd j e hj] at hdd; cases hdd
    subst hj0
    have e1 : mskN d a 0 = 0 := if_neg (by omega)
    have e2 : mskN d a (0 + 1) = 1 := if_pos ⟨hdd, by omega⟩
    rw [e1] at hm
    rw [e2, if_pos hdd]
    exact sector_dumb k (a * 8 + 0) (by omega) hdd gm hm
  · rw [if_neg hdd]
    refine (sector_ok k (a * 8 + j) (by omega) (by simpa using hdd) gm j).mono ?_
    rintro e w' ⟨rfl, r1, h1, h2⟩
    refine ⟨rfl, r1, h1, ?_, h2.mono (fun _ e => .inl e)⟩
    have e1 : mskN d a (j + 1) = mskN d a j := by
      unfold mskN
      by_cases h0 : d (a * 8) = true
      · have : 0 < j := by
          rcases Nat.eq_zero_or_pos j with e | e
          · subst e; exact absurd h0 hdd
          · exact e
        rw [if_pos ⟨h0, by omega⟩, if_pos ⟨h0, this⟩]
      · rw [if_neg (fun e => h0 e.1), if_neg (fun e => h0 e.1)]
    rw [e1]
    exact h2.cells hm (k.notT hm (by decide)) (by decide)
set_option maxHeartbeats 4000000 in
set_option maxRecDepth 100000 in
theorem get_c {wt : Int} (k : PlateS w p bh bd n h d (.slice none 0 0) rd wt []) (H : H64 h) (hn : n ≤ 32768) (a : Nat) (ha : a * 8 + 8 ≤ n) (hd : ∀ j, 0 < j → j < 8 → d (a * 8 + j) = false) :
    Calls Tryz.prog 30 #[.pointer (some ⟨p, 0, none⟩), .int .i64 (a : Int)] w fun e w' => e = .returned (.tuple #[.string ⟨(getL h d a 8).toArray⟩, .int .i64 (mskN d a 8), .int .i64 0]) ∧ ∃ r1, PlateS w' p bh bd n h d (.slice none 0 0) r1 wt [] ∧ FrP (PS p bh bd) w w' := by
  have hu111 := Tryz.underlying111
  have HBL := Aside0.mk (blocks_c k hn)
  have HC := Aside0.mk (And.intro ha (And.intro hn hd))
  have HH := Aside0.mk H
  have HLT := Aside0.mk k.lt
  have d0 : decide ((a : Int) < 0) = false := decide_eq_false (by omega)
  have d1 : decide ((n : Int) / 8 ≤ (a : Int)) = false := decide_eq_false (by omega)
  have hb0 := below_alloc (Below.refl w.heap.size w) (.cells #[.pointer none, .slice none 0 0] 111 (0, 0))
  have hb1 := below_alloc hb0 (.cells #[.int .i64 0] 3 (0, 0))
  have HP0 := Aside0.mk (k.below hb1)
  have HF0 : Aside0 (FrB w.heap.size (PS p bh bd) w _) := ⟨(FrB.refl w.heap.size (PS p bh bd) w).below hb1 hb1.size⟩
  have HM0 : Aside0 (((w.alloc (.cells #[.pointer none, .slice none 0 0] 111 (0, 0))).alloc (.cells #[.int .i64 0] 3 (0, 0))).heap[w.heap.size + 1]? = some (.cells #[.int .i64 (mskN d a 0)] 3 (0, 0))) := ⟨by
    have := heap_alloc_new (w.alloc (.cells #[.pointer none, .slice none 0 0] 111 (0, 0))) (.cells #[.int .i64 0] 3 (0, 0))
    rw [alloc_sz] at this
    rw [this, mskN, if_neg (by omega)]⟩
  have HBd0 : Aside0 (Bld _ w.heap.size w.heap.size []) := ⟨bld_below ⟨Nat.le_refl _, _, _, .inl rfl, heap_alloc_new w (.cells #[.pointer none, .slice none 0 0] 111 (0, 0)), rfl, .inl ⟨rfl, rfl⟩⟩ (below_alloc (Below.refl _ _) (.cells #[.int .i64 0] 3 (0, 0)))⟩
  clear k H hn ha hd hb0 hb1
  go_enter Tryz.func30, Tryz.ntmps30
  go_wp2_with fail
  refine HBL.out.mono ?_
  rintro e w1 ⟨rfl, rfl⟩
  go_wp2_with fail
  generalize (w1.alloc (.cells #[.pointer none, .slice none 0 0] 111 (0, 0))).alloc (.cells #[.int .i64 0] 3 (0, 0)) = w2 at HP0 HF0 HM0 HBd0 ⊢
  obtain ⟨B, hB⟩ : ∃ B, B = w1.heap.size := ⟨_, rfl⟩
  have HBB := Aside0.mk (And.intro hB (show B ≤ w2.heap.size by rw [hB]; exact HF0.out.size))
  rw [← hB] at HF0 HM0 HBd0 HLT ⊢
  clear hB
  go_loopw [22] (fun i wq => ∃ (j : Nat) (rr : Int), j ≤ 8 ∧ i = .int .i64 j ∧ Aside0 (Bld wq B B (getL h d a j)) ∧ Aside0 (wq.heap[B + 1]? = some (.cells #[.int .i64 (mskN d a j)] 3 (0, 0))) ∧ Aside0 (PlateS wq p bh bd n h d (.slice none 0 0) rr wt []) ∧ Aside0 (FrB B (PS p bh bd) w1 wq) ∧ Aside0 (B ≤ wq.heap.size)) (fun i _ => 8 - (intOf i).toNat)
  case atStart => exact ⟨0, rd, by decide, rfl, HBd0, HM0, HP0, HF0, ⟨HBB.out.2⟩⟩
  case round =>
    clear HBd0 HM0 HP0 HF0
    obtain ⟨j, rr, hj, rfl, HBd, HM, HP, HF, HS⟩ := hrel
    by_cases hlt : j < 8
    · have HJ := Aside0.mk hlt
      have hh := HC.out
      have w1_ : wrap64 ((a : Int) * 8) = (a : Int) * 8 := w64 (by omega) (by omega)
      have w2_ : wrap64 ((a : Int) * 8 + (j : Int)) = (a : Int) * 8 + (j : Int) := w64 (by omega) (by omega)
      have w4_ : wrap64 ((j : Int) + 1) = (j : Int) + 1 := w64 (by omega) (by omega)
      have e0 : decide ((j : Int) < 8) = true := decide_eq_true (by omega)
      clear hlt hh hj
      go_wp2_with fail
      clear w1_ w2_
      rw [show (a : Int) * 8 + (j : Int) = ((a * 8 + j : Nat) : Int) by push_cast; rfl]
      refine (sector_any HP.out a j HJ.out HC.out.1 HC.out.2.2 (B + 1) HM.out).mono ?_
      rintro e w3 ⟨rfl, r1, h1, h2, h3⟩
      have hbs : ∀ q cs t, wr.heap[q]? = some (.cells cs t (0, 0)) → (t = 5 ∨ t = 111) → ¬ (PS p bh bd q ∨ q = B + 1) := by
        rintro q cs t hq ht (e | e)
        · refine HP.out.notT hq ?_ e
          rcases ht with rfl | rfl <;> decide
        · subst e
          rw [HM.out] at hq
          injection hq with hq
          injection hq with _ h2
          subst h2
          revert ht
          decide
      have HBd2 := Aside0.mk (HBd.out.frp h3 hbs)
      have HF2 := Aside0.mk (HF.out.step HS.out h3 (fun g hg hlt => hg.elim id (fun e => by omega)))
      have HS2 := Aside0.mk (Nat.le_trans HS.out h3.size)
      have HP2 := Aside0.mk h1
      have HM2 := Aside0.mk h2
      clear h1 h2 h3 hbs HP HM HBd HF HS
      generalize hgs : (if d (a * 8 + j) = true then z64 else rdS (h (a * 8 + j))) = s
      have HSV := Aside0.mk hgs
      clear hgs
      go_wp2_with fail
      refine (write_c w3 B B (getL h d a j) s _ HBd2.out (Below.refl _ _) (by
        rw [getL_len d a HH.out, ← HSV.out]
        have := HJ.out
        by_cases hdd : d (a * 8 + j) = true
        · rw [if_pos hdd, z64_size]; omega
        · rw [if_neg hdd, rdS_size HH.out]; omega)).mono ?_
      rintro e w4 ⟨rfl, h1, h2, h3⟩
      have HBd := Aside0.mk h1
      have HM := Aside0.mk (h3.2 _ _ _ HM2.out (by decide) (by decide))
      have HP := Aside0.mk (HP2.out.low h2 HLT.out)
      have HF := Aside0.mk (HF2.out.below h2 h3.1)
      have HS := Aside0.mk (Nat.le_trans HS2.out h3.1)
      clear h1 h2 h3 HBd2 HM2 HP2 HF2 HS2
      go_wp2_with fail
      go_roundw
      case rel => exact ⟨j + 1, r1, HJ.out, by rw [w4_]; rfl, ⟨by rw [getL, HSV.out]; exact HBd.out⟩, HM, HP, HF, HS⟩
      case measure =>
        have := HJ.out
        rw [w4_]
        simp only [intOf]
        omega
    · have : j = 8 := by omega
      subst this
      have e0 : decide (((8 : Nat) : Int) < 8) = false := rfl
      clear hlt hj
      go_wp2_with fail
      -- REGION15
      refine start_ (n := 5) (S := fun w' => w'.heap[B + 1]? = some (.cells #[.int .i64 (mskN d a 8)] 3 (0, 0))) (ds := []) #[false, false, false, false, false] (by kernel_rfl) rfl rfl (show wr.drew.heap[B + 1]? = _ from HM.out) (fun hHeld => ?_)
      have HBd' := Aside0.mk (show Bld wr.drew B B (getL h d a 8) from HBd.out)
      have HP' := Aside0.mk HP.out.drew
      have HF' := Aside0.mk (HF.out.below (below_drew (Below.refl B wr)) (Nat.le_refl _))
      clear HBd HM HP HF HS
      have HBd := HBd'
      have HP := HP'
      have HF := HF'
      clear HBd' HP' HF'
      generalize wr.drew = w3 at HBd HP HF hHeld ⊢
      refine take_ (i := 1) (N := some 43) (v := ?_) (a' := ?_) #[false, true, false, false, false] rfl rfl (by kernel_rfl) (fun _ _ _ h => h) (Or.inl ⟨by rfl, ?_⟩) hHeld ?_ ?_
      rotate_left; · rintro w' hS; have x0 : w'.cell? ⟨B + 1, 0, none⟩ = some (.int .i64 (mskN d a 8)) := (blk_cell hS 0).trans rfl; go_simp; with_reducible rfl
      rotate_left; · simp only [Act.put, List.setIfInBounds_toArray, List.set_cons_zero, List.set_cons_succ, i64_w, i32_w]; rfl
      refine one_ (i := 0) (N := some 42) #[true, true, false, false, false] rfl rfl (by kernel_rfl) (by decide) (fun K hK => ?_)
      refine goes_ Tryz.func51 (by kernel_rfl) rfl #[.pointer (some ⟨B, 0, none⟩)] (by rfl) rfl rfl (by (try simp only [List.map_toArray, List.map_cons, List.map_nil]); first | done | rfl) ?_
      refine (string_k B B (getL h d a 8) _ HBd.out (fun e => by have := getL_len d a HH.out 8; rw [e] at this; cases this)).mono ?_
      rintro e w4 ⟨rfl, h1, h2⟩
      have hHeld := h2.2 _ _ _ hHeld (by decide) (by decide)
      have HP2 := Aside0.mk (HP.out.low h1 HLT.out)
      have HF2 := Aside0.mk (HF.out.below h1 h2.1)
      refine ⟨_, rfl, ?_⟩
      refine hK.out _ _ hHeld (fun hHeld => ?_)
      clear hK K h1 h2
      refine norm_ (a' := ?_) ?_ ?_
      rotate_left; · show Act.put _ (some 42) _ = _; simp only [Act.put, List.setIfInBounds_toArray, List.set_cons_zero, List.set_cons_succ, i64_w, i32_w]; rfl
      refine pure_ (i := 2) (N := some 4) (v := ?_) (a' := ?_) #[true, true, true, false, false] rfl rfl (by kernel_rfl) (fun _ _ _ h => h) (Or.inl ⟨by rfl, ?_⟩) ?_ ?_
      rotate_left; · intro w'; go_simp; with_reducible rfl
      rotate_left; · simp only [Act.put, List.setIfInBounds_toArray, List.set_cons_zero, List.set_cons_succ, i64_w, i32_w]; rfl
      refine pure_ (i := 3) (N := some 5) (v := ?_) (a' := ?_) #[true, true, true, true, false] rfl rfl (by kernel_rfl) (fun _ _ _ h => h) (Or.inl ⟨by rfl, ?_⟩) ?_ ?_
      rotate_left; · intro w'; go_simp; with_reducible rfl
      rotate_left; · simp only [Act.put, List.setIfInBounds_toArray, List.set_cons_zero, List.set_cons_succ, i64_w, i32_w]; rfl
      refine pure_ (i := 4) (N := some 6) (v := ?_) (a' := ?_) #[true, true, true, true, true] rfl rfl (by kernel_rfl) (fun _ _ _ h => h) (Or.inl ⟨by rfl, ?_⟩) ?_ ?_
      rotate_left; · intro w'; go_simp; with_reducible rfl
      rotate_left; · simp only [Act.put, List.setIfInBounds_toArray, List.set_cons_zero, List.set_cons_succ, i64_w, i32_w]; rfl
      refine done_ (by kernel_rfl) ?_
      -- END15
      go_wp2_with fail
      go_ret3
      exact ⟨rfl, rr, HP2.out, by have := HBB.out.1; subst this; exact HF2.out.frp⟩
end
end Go.Proofs.YtgpknomegleidaaGreatDoor.T
namespace Go.Proofs.YtgpknomegleidaaGreatDoor.T
open Go.RowKit Go.Proofs.YtgpknomegleidaaGreatDoorW.PrintWords Go.Proofs.YtgpknomegleidaaGreatDoorW.PrintLast Go.Proofs.YtgpknomegleidaaGreatDoorW.PrintMore Go.Proofs.YtgpknomegleidaaGreatDoor.PAll
set_option linter.unusedSimpArgs false
set_option linter.unusedVariables false

theorem results_c {P : Program} {fn : Func} {p : Tmp} {ty : TypeId} (h : fn.results = #[.cell p ty]) (tmps : Array Value) (w : World) (g : Nat) (t : TypeId) (cs : Array Value) (fr : Nat × Nat) (d : TypeDesc)
    (hp : tmps.getD p undef = .pointer (some ⟨g, 0, none⟩)) (hg : w.heap[g]? = some (.cells cs t fr))
    (hu : P.underlying ty = some d) (hd : (match d with | .struct _ | .array _ _ => true | _ => false) = true) (hi : (P.info? ty).map (·.size) = some cs.size) :
    (results fn tmps).run P w = .ok (.agg cs) w := by
  have hp' : tmps[p]?.getD undef = .pointer (some ⟨g, 0, none⟩) := by simpa using hp
  simp [results, h, hp', asAddr, run_loadVar_row w g t ty cs fr d hg hu hd hi]
/-- One element of one cell is appended to a row of one's own. -/
theorem wpList_app1 {ops : Array Oper} {rest : List Oper} {o : Oper} {a : Act} {Q : Exit → Act → World → Prop} (hgd : o.guard = none) (sl x : Operand) (t : TypeId) (ho : o.op = .call { callee := .builtin .append, args := #[sl, x], argTypes := #[t, t] })
    (B : Nat) (e : TypeId) (z : Value) (bytes : Nat) (ht : Tryz.prog.underlying t = some (.slice e)) (hinfo : (Tryz.prog.info? e).map (fun i => (i.zero, i.size, i.bytes)) = some (some z, 1, bytes)) (hz : z.cells.size = 1) (hb : bytes ≤ 64)
    (W : World) (v u : Value) (n : Nat) (xs : List Value) (hs : a.eval sl = v) (hx : a.eval x = .slice (some ⟨W.heap.size, 0, none⟩) 1 1) (hown : W.ownsRow B e 1 v n xs) (hu : u.oneCell' = true) (hn : n ≤ 100000) (hB : B ≤ W.heap.size)
    (h : ∀ v' w', w'.ownsRow B e 1 v' (n + 1) (xs ++ [u]) → (W.alloc (.cells #[u] e (0, 0))).grownBy w' v.ownBlock → wpList Tryz.prog ops Q rest (a.put o.dst v') w') : wpList Tryz.prog ops Q (o :: rest) a (W.alloc (.cells #[u] e (0, 0))) := by
  obtain ⟨i0, hi, hz0, hz1, hz2⟩ := info_parts hinfo
  refine wpList_append_own_wide _ hgd sl x t ho B e i0 z 1 bytes ht hi hz0 hz1 hz2 hz (by decide) v n xs hs (pw_own_below hown (below_alloc (Below.refl _ _) _)) ⟨W.heap.size, 0, none⟩ 1 1 [u] hx rfl (new_cells W [u] e) (by simpa using hu) (by unfold maxLen; omega) ?_ (by rw [alloc_sz]; omega) (fun v' w' h1 h2 _ => h v' w' h1 h2)
  refine Nat.le_trans (Nat.mul_le_mul_left _ hb) ?_
  omega
theorem own_frp {S : Nat → Prop} {w w' : World} {base n sz : Nat} {e : TypeId} {v : Value} {xs : List Value} (h : w.ownsRow base e sz v n xs) (hf : FrP S w w') (hb : ∀ g, S g → g < base) (he : e ≠ 183) : w'.ownsRow base e sz v n xs := by
  refine ⟨h.1, ?_⟩
  rcases h.2 with h | ⟨g, cap, cur, e1, e2, e3, e4⟩
  · exact .inl h
  · exact .inr ⟨g, cap, cur, e1, e2, hf.cells e3 (fun hs => by have := hb g hs; omega) he, e4⟩
theorem below_own {w w' : World} {base n sz B : Nat} {e : TypeId} {v : Value} {xs : List Value} (h : w.ownsRow base e sz v n xs) (hg : w.grownBy w' v.ownBlock) (hb : B ≤ base) (hB : B ≤ w.heap.size) : Below B w w' :=
  ⟨hg.os, hg.tape, hg.output, hg.size, fun g hgl => hg.block g (by omega) (fun eq => by
    rcases h.2 with ⟨rfl, _⟩ | ⟨q, cap, cur, rfl, e2, _⟩
    · cases eq
    · injection eq with eq
      have : g = q := eq
      omega)⟩
def rawsL (raw : Nat → ByteArray) (N : Nat) : List Value := (List.range N).map fun a => Value.string (raw a)
def msksL (msk : Nat → Int) (N : Nat) : List Value := (List.range N).map fun a => Value.int .i64 (msk a)
theorem rawsL_succ (raw : Nat → ByteArray) (N : Nat) : rawsL raw (N + 1) = rawsL raw N ++ [.string (raw N)] := by simp [rawsL, List.range_succ]
theorem msksL_succ (msk : Nat → Int) (N : Nat) : msksL msk (N + 1) = msksL msk N ++ [.int .i64 (msk N)] := by simp [msksL, List.range_succ]
/-- An image: its rows are of one's own. -/
structure ImgS (w : World) (base : Nat) (vr vm : Value) (N : Nat) (raw : Nat → ByteArray) (msk : Nat → Int) : Prop where
  raws : w.ownsRow base 9 1 vr N (rawsL raw N)
  msks : w.ownsRow base 3 1 vm N (msksL msk N)
theorem ImgS.below {w w' : World} {base N : Nat} {vr vm : Value} {raw : Nat → ByteArray} {msk : Nat → Int} (h : ImgS w base vr vm N raw msk) (hb : Below w.heap.size w w') : ImgS w' base vr vm N raw msk := ⟨pw_own_below h.raws hb, pw_own_below h.msks hb⟩
theorem ImgS.frp {S : Nat → Prop} {w w' : World} {base N : Nat} {vr vm : Value} {raw : Nat → ByteArray} {msk : Nat → Int} (h : ImgS w base vr vm N raw msk) (hf : FrP S w w') (hb : ∀ g, S g → g < base) : ImgS w' base vr vm N raw msk := ⟨own_frp h.raws hf hb (by decide), own_frp h.msks hf hb (by decide)⟩
def imgC (vr vm : Value) : Array Value := #[vr, vm]
theorem infoImg : (Tryz.prog.info? 37).map (·.size) = some 2 := by kernel_rfl
theorem infoInt3 : (Tryz.prog.info? 3).map (fun i => (i.zero, i.size, i.bytes)) = some (some (.int .i64 0), 1, 8) := by kernel_rfl
section
variable {w : World} {p bh bd n : Nat} {h : Nat → ByteArray} {d : Nat → Bool}
def getR (h : Nat → ByteArray) (d : Nat → Bool) (a : Nat) : ByteArray := ⟨(getL h d a 8).toArray⟩
def mskR (d : Nat → Bool) (a : Nat) : Int := mskN d a 8
/-- What stands while an image is gathered. -/
structure AllI (w wq : World) (B p bh bd n : Nat) (h : Nat → ByteArray) (d : Nat → Bool) (wt : Int) (vr : Value) (nx : Nat) (xs : List Value) (vm : Value) (ny : Nat) (ys : List Value) (rr : Int) : Prop where
  raws : wq.ownsRow B 9 1 vr nx xs
  msks : wq.ownsRow B 3 1 vm ny ys
  res : wq.heap[B]? = some (.cells #[.slice none 0 0, .slice none 0 0] 37 (0, 0))
  im : wq.heap[B + 1]? = some (.cells #[vr, vm] 37 (0, 0))
  pl : PlateS wq p bh bd n h d (.slice none 0 0) rr wt []
  fr : FrB B (PS p bh bd) w wq
  le : B ≤ wq.heap.size
section
variable {wq : World} {B : Nat} {wt rr : Int} {vr vm : Value} {nx ny : Nat} {xs ys : List Value}
theorem AllI.got (k : AllI w wq B p bh bd n h d wt vr nx xs vm ny ys rr) (hl : ∀ g, PS p bh bd g → g < B) {w3 : World} {r1 : Int} (hp : PlateS w3 p bh bd n h d (.slice none 0 0) r1 wt []) (hf : FrP (PS p bh bd) wq w3) : AllI w w3 B p bh bd n h d wt vr nx xs vm ny ys r1 :=
  ⟨own_frp k.raws hf hl (by decide), own_frp k.msks hf hl (by decide), hf.cells k.res (k.pl.notT k.res (by decide)) (by decide), hf.cells k.im (k.pl.notT k.im (by decide)) (by decide), hp, k.fr.step k.le hf (fun _ h _ => h), Nat.le_trans k.le hf.size⟩
theorem AllI.low (k : AllI w wq B p bh bd n h d wt vr nx xs vm ny ys rr) (hl : ∀ g, PS p bh bd g → g < B) {w4 : World} (hb : Below B wq w4) (hs : wq.heap.size ≤ w4.heap.size) : PlateS w4 p bh bd n h d (.slice none 0 0) rr wt [] ∧ FrB B (PS p bh bd) w w4 ∧ B ≤ w4.heap.size :=
  ⟨k.pl.low hb hl, k.fr.below hb hs, Nat.le_trans k.le hs⟩
theorem AllI.raw (k : AllI w wq B p bh bd n h d wt vr nx xs vm ny ys rr) (hl : ∀ g, PS p bh bd g → g < B) {u v1 : Value} {w4 : World} (ho : w4.ownsRow B 9 1 v1 (nx + 1) (xs ++ [u])) (hg : (wq.alloc (.cells #[u] 9 (0, 0))).grownBy w4 vr.ownBlock) :
    w4.heap[B + 1]? = some (.cells #[vr, vm] 37 (0, 0)) ∧ AllI w (w4.setCell ⟨B + 1, 0, none⟩ v1) B p bh bd n h d wt v1 (nx + 1) (xs ++ [u]) vm ny ys rr := by
  have hW := below_alloc (Below.refl wq.heap.size wq) (.cells #[u] 9 (0, 0))
  have ho0 := pw_own_below k.raws hW
  have i4 := blk_grown (blk_below k.im hW) hg (own_ne2 ho0 (blk_below k.im hW) (by decide))
  have r4 := blk_grown (blk_below k.res hW) hg (own_ne2 ho0 (blk_below k.res hW) (by decide))
  have m4 := (pw_own_below k.msks hW).kept hg (own_type_ne (pw_own_below k.msks hW) ho0 (by decide))
  have hb : Below B wq w4 := (hW.mono k.le).trans (below_own ho0 hg (Nat.le_refl _) (Nat.le_trans k.le hW.size))
  have hg2 := Lib.grownBy_setCell w4 (B + 1) 0 v1
  have hb2 : Below B wq (w4.setCell ⟨B + 1, 0, none⟩ v1) := hb.setCell (p := ⟨B + 1, 0, none⟩) (Nat.le_succ _) v1
  obtain ⟨q1, q2, q3⟩ := k.low hl hb2 (Nat.le_trans (Nat.le_trans hW.size hg.size) hg2.size)
  exact ⟨i4, ho.kept hg2 (own_not (own_ne2 ho i4 (by decide))), m4.kept hg2 (own_not (own_ne2 m4 i4 (by decide))), blk_grown r4 hg2 (by intro e; injection e with e; omega), blk_put i4 0 v1 rfl, q1, q2, q3⟩
theorem AllI.msk (k : AllI w wq B p bh bd n h d wt vr nx xs vm ny ys rr) (hl : ∀ g, PS p bh bd g → g < B) {u v1 : Value} {w4 : World} (ho : w4.ownsRow B 3 1 v1 (ny + 1) (ys ++ [u])) (hg : (wq.alloc (.cells #[u] 3 (0, 0))).grownBy w4 vm.ownBlock) :
    w4.heap[B + 1]? = some (.cells #[vr, vm] 37 (0, 0)) ∧ AllI w (w4.setCell ⟨B + 1, 1, none⟩ v1) B p bh bd n h d wt vr nx xs v1 (ny + 1) (ys ++ [u]) rr := by
  have hW := below_alloc (Below.refl wq.heap.size wq) (.cells #[u] 3 (0, 0))
  have ho0 := pw_own_below k.msks hW
  have i4 := blk_grown (blk_below k.im hW) hg (own_ne2 ho0 (blk_below k.im hW) (by decide))
  have r4 := blk_grown (blk_below k.res hW) hg (own_ne2 ho0 (blk_below k.res hW) (by decide))
  have m4 := (pw_own_below k.raws hW).kept hg (own_type_ne (pw_own_below k.raws hW) ho0 (by decide))
  have hb : Below B wq w4 := (hW.mono k.le).trans (below_own ho0 hg (Nat.le_refl _) (Nat.le_trans k.le hW.size))
  have hg2 := Lib.grownBy_setCell w4 (B + 1) 1 v1
  have hb2 : Below B wq (w4.setCell ⟨B + 1, 1, none⟩ v1) := hb.setCell (p := ⟨B + 1, 1, none⟩) (Nat.le_succ _) v1
  obtain ⟨q1, q2, q3⟩ := k.low hl hb2 (Nat.le_trans (Nat.le_trans hW.size hg.size) hg2.size)
  exact ⟨i4, m4.kept hg2 (own_not (own_ne2 m4 i4 (by decide))), ho.kept hg2 (own_not (own_ne2 ho i4 (by decide))), blk_grown r4 hg2 (by intro e; injection e with e; omega), blk_put i4 1 v1 rfl, q1, q2, q3⟩
end
def AllP (w : World) (p bh bd n : Nat) (h : Nat → ByteArray) (d : Nat → Bool) (wt : Int) (e : Ending) (w' : World) : Prop :=
  ∃ vr vm r1, e = .returned (.agg #[vr, vm]) ∧ ImgS w' w.heap.size vr vm (n / 8) (getR h d) (mskR d) ∧ PlateS w' p bh bd n h d (.slice none 0 0) r1 wt [] ∧ FrP (PS p bh bd) w w'
set_option maxHeartbeats 4000000 in
set_option maxRecDepth 100000 in
theorem all_c {rd wt : Int} (k : PlateS w p bh bd n h d (.slice none 0 0) rd wt []) (H : H64 h) (hn : n ≤ 32768) (hd : ∀ q, d q = true → q % 8 = 0) :
    Calls Tryz.prog 19 #[.pointer (some ⟨p, 0, none⟩)] w (AllP w p bh bd n h d wt) := by
  have hu37 := Tryz.underlying37
  have HC := Aside0.mk (And.intro hn hd)
  have HH := Aside0.mk H
  have HLT := Aside0.mk k.lt
  have hb0 := below_alloc (Below.refl w.heap.size w) (.cells (imgC (.slice none 0 0) (.slice none 0 0)) 37 (0, 0))
  have hb1 := below_alloc hb0 (.cells (imgC (.slice none 0 0) (.slice none 0 0)) 37 (0, 0))
  have HP0 := Aside0.mk (k.below hb1)
  have HF0 : Aside0 (FrB w.heap.size (PS p bh bd) w _) := ⟨(FrB.refl w.heap.size (PS p bh bd) w).below hb1 hb1.size⟩
  have HR0 := Aside0.mk (blk_alloc (heap_alloc_new w (.cells (imgC (.slice none 0 0) (.slice none 0 0)) 37 (0, 0))) (.cells (imgC (.slice none 0 0) (.slice none 0 0)) 37 (0, 0)))
  have hI := heap_alloc_new (w.alloc (.cells (imgC (.slice none 0 0) (.slice none 0 0)) 37 (0, 0))) (.cells (imgC (.slice none 0 0) (.slice none 0 0)) 37 (0, 0))
  rw [alloc_sz] at hI
  have HI0 := Aside0.mk hI
  clear k H hn hd hb0 hb1 hI
  unfold imgC at HP0 HF0 HR0 HI0
  go_enter Tryz.func19, Tryz.ntmps19
  go_wp2_with fail
  generalize (w.alloc (.cells #[.slice none 0 0, .slice none 0 0] 37 (0, 0))).alloc (.cells #[.slice none 0 0, .slice none 0 0] 37 (0, 0)) = w2 at HP0 HF0 HR0 HI0 ⊢
  refine (blocks_c HP0.out HC.out.1).mono ?_
  rintro e w1 ⟨rfl, rfl⟩
  go_wp2_with fail
  obtain ⟨B, hB⟩ : ∃ B, B = w.heap.size := ⟨_, rfl⟩
  have HBB := Aside0.mk (And.intro hB (show B ≤ w1.heap.size by rw [hB]; exact HF0.out.size))
  rw [← hB] at HF0 HR0 HI0 HLT ⊢
  clear hB
  go_loopw [10] (fun i wq => ∃ (j : Nat) (vr vm : Value) (rr : Int), j ≤ n / 8 ∧ i = .int .i64 j ∧ Aside0 (AllI w wq B p bh bd n h d wt vr j (rawsL (getR h d) j) vm j (msksL (mskR d) j) rr)) (fun i _ => n / 8 - (intOf i).toNat)
  case atStart => exact ⟨0, _, _, rd, Nat.zero_le _, rfl, ⟨⟨World.ownsRow_nil _ _ _ _, World.ownsRow_nil _ _ _ _, HR0.out, HI0.out, HP0.out, HF0.out, HBB.out.2⟩⟩⟩
  case round =>
    clear HR0 HI0 HP0 HF0
    obtain ⟨j, vr, vm, rr, hj, rfl, HM⟩ := hrel
    by_cases hlt : j < n / 8
    · have HJ := Aside0.mk hlt
      have hh := HC.out.1
      have HJ2 := Aside0.mk (show j ≤ 100000 by omega)
      have w4_ : wrap64 ((j : Int) + 1) = (j : Int) + 1 := w64 (by omega) (by omega)
      have e0 : decide ((j : Int) < ((n / 8 : Nat) : Int)) = true := decide_eq_true (by omega)
      have e1 : decide ((j : Int) < (n : Int) / 8) = true := decide_eq_true (by omega)
      clear hlt hh hj
      go_wp2_with fail
      refine (get_c HM.out.pl HH.out HC.out.1 j (by have := HJ.out; omega) (fun q h0 h8 => by
        by_cases hq : d (j * 8 + q) = true
        · have := HC.out.2 _ hq; omega
        · simpa using hq)).mono ?_
      rintro e w3 ⟨rfl, r1, h1, h2⟩
      have HM3 := Aside0.mk (HM.out.got HLT.out h1 h2)
      clear h1 h2 HM
      obtain ⟨Ar, cr, er⟩ := own_sliceN HM3.out.raws
      subst er
      obtain ⟨Am, cm, em⟩ := own_sliceN HM3.out.msks
      subst em
      have c0 : w3.cell? ⟨B + 1, 0, none⟩ = some (.slice Ar j cr) := (blk_cell HM3.out.im 0).trans rfl
      have hgr : (⟨(getL h d j 8).toArray⟩ : ByteArray) = getR h d j := rfl
      have hmr : mskN d j 8 = mskR d j := rfl
      rw [hgr, hmr]
      clear hgr hmr
      generalize hr : getR h d j = raw
      generalize hm : mskR d j = msk
      have HRM := Aside0.mk (And.intro hr hm)
      clear hr hm
      go_upto_region 9 with (at_builtin; go_loud (refine wpList_app1 rfl (.tmp 27) (.tmp 29) 34 rfl B 9 (.string ⟨#[]⟩) 16 Tryz.underlying34 infoStr3 rfl (by decide) w3 (.slice Ar j cr) (.string raw) j _ rfl rfl HM3.out.raws rfl HJ2.out HM3.out.le ?_); intro v1 w4 ho hg; have HQ := Aside0.mk (HM3.out.raw HLT.out ho hg); have f0 := blk_frozen HQ.out.1 0; have c0' : w4.cell? ⟨B + 1, 0, none⟩ = some (.slice Ar j cr) := (blk_cell HQ.out.1 0).trans rfl; clear c0; obtain ⟨A1, c1, e1'⟩ := own_sliceN ho; subst e1'; clear ho hg HM3)
      have HM5 := Aside0.mk HQ.out.2
      clear HQ f0 c0'
      generalize w4.setCell ⟨B + 1, 0, none⟩ (.slice A1 (j + 1) c1) = w5 at HM5 ⊢
      have c1' : w5.cell? ⟨B + 1, 1, none⟩ = some (.slice Am j cm) := (blk_cell HM5.out.im 1).trans rfl
      go_wp2_with (at_builtin; go_loud (refine wpList_app1 rfl (.tmp 33) (.tmp 35) 35 rfl B 3 (.int .i64 0) 8 Tryz.underlying35 infoInt3 rfl (by decide) w5 (.slice Am j cm) (.int .i64 msk) j _ rfl rfl HM5.out.msks rfl HJ2.out HM5.out.le ?_); intro v1 w6 ho hg; have HQ := Aside0.mk (HM5.out.msk HLT.out ho hg); have f1 := blk_frozen HQ.out.1 1; have c1'' : w6.cell? ⟨B + 1, 1, none⟩ = some (.slice Am j cm) := (blk_cell HQ.out.1 1).trans rfl; clear c1'; obtain ⟨A2, c2, e2'⟩ := own_sliceN ho; subst e2'; clear ho hg HM5)
      have HM7 := Aside0.mk HQ.out.2
      clear HQ f1 c1''
      generalize w6.setCell ⟨B + 1, 1, none⟩ (.slice A2 (j + 1) c2) = w7 at HM7 ⊢
      go_roundw
      case rel => exact ⟨j + 1, _, _, r1, HJ.out, by rw [w4_]; rfl, ⟨by rw [rawsL_succ, msksL_succ, HRM.out.1, HRM.out.2]; exact HM7.out⟩⟩
      case measure =>
        have := HJ.out
        rw [w4_]
        simp only [intOf]
        omega
    · have : j = n / 8 := by omega
      subst this
      have e0 : decide (((n / 8 : Nat) : Int) < ((n / 8 : Nat) : Int)) = false := decide_eq_false (by omega)
      have e1 : decide ((n : Int) / 8 < (n : Int) / 8) = false := decide_eq_false (by omega)
      have c0 : wr.cell? ⟨B + 1, 0, none⟩ = some vr := (blk_cell HM.out.im 0).trans rfl
      have c1 : wr.cell? ⟨B + 1, 1, none⟩ = some vm := (blk_cell HM.out.im 1).trans rfl
      obtain ⟨Ar, cr, er⟩ := own_sliceN HM.out.raws
      subst er
      obtain ⟨Am, cm, em⟩ := own_sliceN HM.out.msks
      subst em
      clear hlt hj
      go_wp2_with ((with_reducible refine gate_store (t := 37) rfl ?_); refine store_at rfl _ _ _ rfl B 0 37 _ [.slice Ar (n / 8) cr, .slice Am (n / 8) cm] infoImg HM.out.res (Nat.le_of_ble_eq_true rfl) (by first | (go_simp; done) | (go_simp; rfl)) (by first | (go_simp; done) | (go_simp; rfl)) (by intro u hu; simp only [List.mem_cons, List.not_mem_nil, or_false] at hu; rcases hu with rfl | rfl <;> rfl) ?_; intro ws hs hgr; have HW := Aside0.mk hs; have HG := Aside0.mk hgr; clear hs hgr c0 c1)
      (try simp only [Exit.inBlock, Exit.then])
      refine bodyPost_ret (results_c rfl _ _ B 37 #[.slice Ar (n / 8) cr, .slice Am (n / 8) cm] (0, 0) _ rfl HW.out hu37 rfl infoImg) rfl ?_
      have hbs : Below B wr ws := ⟨HG.out.os, HG.out.tape, HG.out.output, HG.out.size, fun g hg => HG.out.block g (Nat.lt_of_lt_of_le hg HM.out.le) (fun e => by injection e with e; omega)⟩
      obtain ⟨q1, q2, q3⟩ := HM.out.low HLT.out hbs HG.out.size
      have hB := HBB.out.1
      subst hB
      exact ⟨_, _, rr, rfl, ⟨HM.out.raws.kept HG.out (own_not (own_ne2 HM.out.raws HM.out.res (by decide))), HM.out.msks.kept HG.out (own_not (own_ne2 HM.out.msks HM.out.res (by decide)))⟩, q1, q2.frp⟩
end
end Go.Proofs.YtgpknomegleidaaGreatDoor.T
namespace Go.Proofs.YtgpknomegleidaaGreatDoor.T
open Go.RowKit Go.Proofs.YtgpknomegleidaaGreatDoorW.PrintWords Go.Proofs.YtgpknomegleidaaGreatDoorW.PrintLast Go.Proofs.YtgpknomegleidaaGreatDoorW.PrintMore Go.Proofs.YtgpknomegleidaaGreatDoor.PAll
set_option linter.unusedSimpArgs false
set_option linter.unusedVariables false

/-- What a hash leaves. -/
def HashP (w : World) (v i bh bs N : Nat) (f : Lit → Nat) (e : Ending) (w' : World) : Prop := ∃ t : ByteArray, e = .returned (.string t) ∧ t.size = 32 ∧ Vlt w' v i bh bs (N + 1) f ∧ Fr (VS bh bs) w w'
set_option maxHeartbeats 1000000 in
set_option maxRecDepth 100000 in
theorem leaf_c (w : World) (v i bh bs N : Nat) (f : Lit → Nat) (s : ByteArray) (h : Vlt w v i bh bs N f) (hN : N < 1000000) (hs : s.size ≤ 1000) :
    Calls Tryz.prog 97 #[.pointer (some ⟨v, 0, none⟩), .string s] w (HashP w v i bh bs N f) := by
  have HH := Aside0.mk (vHash_c w v i bh bs N f (⟨#[0]⟩ ++ s) h hN (by rw [ByteArray.size_append]; show 1 + s.size ≤ maxLen; unfold maxLen; omega))
  have hcat : (9223372036854775807 < 1 + s.size) = False := eq_false (by omega)
  clear h hN hs
  go_enter Tryz.func97, Tryz.ntmps97
  go_wp2_with fail
  refine HH.out.mono ?_
  rintro e w1 ⟨t, rfl, h1, h2, h3⟩
  have HE := Aside0.mk (And.intro h1 (And.intro h2 h3))
  clear h1 h2 h3
  go_wp2_with fail
  go_ret
  exact ⟨t, rfl, HE.out⟩
set_option maxHeartbeats 1000000 in
set_option maxRecDepth 100000 in
theorem root_c (w : World) (v i bh bs N : Nat) (f : Lit → Nat) (n : Nat) (top : ByteArray) (h : Vlt w v i bh bs N f) (hN : N < 1000000) (hn : n < 1000000) (hs : top.size ≤ 1000) :
    Calls Tryz.prog 103 #[.pointer (some ⟨v, 0, none⟩), .int .i64 (n : Int), .string top] w (HashP w v i bh bs N f) := by
  have HP := Aside0.mk (put_c n 6 (n : Int) 6 w rfl rfl (by decide) (by decide) (by omega) (Nat.div_eq_of_lt (by omega)))
  have HV := Aside0.mk h
  have HN := Aside0.mk (And.intro hN (And.intro hn hs))
  have hcat : (9223372036854775807 < 1 + (le n 6).length) = False := eq_false (by rw [le_length]; decide)
  have hcat2 : (9223372036854775807 < 1 + (le n 6).length + top.size) = False := eq_false (by rw [le_length]; omega)
  clear h hN hn hs
  go_enter Tryz.func103, Tryz.ntmps103
  go_wp2_with fail
  refine HP.out.mono ?_
  rintro e w1 ⟨rfl, hb⟩
  have HV1 := Aside0.mk (HV.out.below hb)
  have HB := Aside0.mk hb
  clear hb HP HV
  go_wp2_with fail
  refine (vHash_c w1 v i bh bs N f _ HV1.out HN.out.1 (by rw [ByteArray.size_append, ByteArray.size_append, mk_size (le n 6), le_length]; show 1 + 6 + top.size ≤ maxLen; have := HN.out.2.2; unfold maxLen; omega)).mono ?_
  rintro e w2 ⟨t, rfl, h1, h2, h3⟩
  have HE := Aside0.mk (And.intro h1 (And.intro h2 ((Fr.below HB.out).trans h3)))
  clear h1 h2 h3
  go_wp2_with fail
  go_ret
  exact ⟨t, rfl, HE.out⟩
attribute [local go_sem] max2_int min2_int max_two min_two
theorem cells_bel {w W : World} {ad : Addr} {q : Value} (hb : Below w.heap.size w W) (h : w.cell? ad = some q) : W.cell? ad = some q := (World.cell?_of_block (hb.block _ (World.block_lt_of_cell? w ad h))).trans h
/-- A slice whose elements are texts of 32 bytes. -/
def StrS (W : World) (v : Value) (k : Nat) : Prop := ∃ b o c, v = .slice (some ⟨b, o, none⟩) k c ∧ k ≤ c ∧ ∀ j, j < k → ∃ s : ByteArray, W.cell? ⟨b, o + j, none⟩ = some (.string s) ∧ s.size = 32
set_option maxHeartbeats 1000000 in
set_option maxRecDepth 100000 in
theorem group_c (w : World) (g L c i : Nat) (hi : 4 * i < L) (hL : L ≤ 1000) (hc : L ≤ c) (hs : ∀ j, j < L → ∃ s : ByteArray, w.cell? ⟨g, j, none⟩ = some (.string s) ∧ s.size = 32) :
    Calls Tryz.prog 99 #[.slice (some ⟨g, 0, none⟩) L c, .int .i64 (i : Int)] w fun e w' => (∃ u k, e = .returned u ∧ k ≤ 4 ∧ StrS w u k) ∧ w' = w := by
  have w1_ : wrap64 (4 * (i : Int)) = 4 * (i : Int) := w64 (by omega) (by omega)
  have w2_ : wrap64 (4 * (i : Int) + 4) = 4 * (i : Int) + 4 := w64 (by omega) (by omega)
  have HS := Aside0.mk (And.intro hi (And.intro hL (And.intro hc hs)))
  have b1 : (L ≤ c) = True := eq_true hc
  have b2 : (0 ≤ 4 * (i : Int) ∧ 4 * (i : Int) ≤ (L : Int)) = True := eq_true (by omega)
  have b3 : (c = 4 * i) = False := eq_false (by omega)
  by_cases hm : (L : Int) < 4 * (i : Int) + 4
  · have hm' : ((L : Int) < 4 * (i : Int) + 4) = True := eq_true hm
    have HM := Aside0.mk hm
    clear hi hL hc hs hm
    go_enter Tryz.func99, Tryz.ntmps99
    go_wp2_with fail
    · exfalso
      have := HS.out.1
      have := HS.out.2.2.1
      omega
    go_ret
    refine ⟨⟨_, rfl, L - 4 * i, by have := HM.out; omega, g, 4 * i, c - 4 * i, rfl, by have := HS.out.2.2.1; omega, fun j hj => HS.out.2.2.2 _ (by omega)⟩, rfl⟩
  · have hm' : ((L : Int) < 4 * (i : Int) + 4) = False := eq_false hm
    have HM := Aside0.mk hm
    have b4 : (4 * i + 4 ≤ c) = True := eq_true (by omega)
    have b5 : (0 ≤ 4 * (i : Int) + 4 ∧ 4 * (i : Int) + 4 ≤ (c : Int)) = True := eq_true (by omega)
    have b6 : (0 ≤ 4 * (i : Int) ∧ 4 * (i : Int) ≤ 4 * (i : Int) + 4) = True := eq_true (by omega)
    have b7 : (4 * (i : Int) + 4 ≤ (c : Int)) = True := eq_true (by omega)
    clear hi hL hc hs hm
    go_enter Tryz.func99, Tryz.ntmps99
    go_wp2_with fail
    go_ret
    exact ⟨⟨_, rfl, 4, Nat.le_refl _, g, 4 * i, c - 4 * i, rfl, by have := HS.out.2.2.1; have := HS.out.1; have := HM.out; omega, fun j hj => HS.out.2.2.2 _ (by have := HM.out; omega)⟩, rfl⟩
theorem own_str {W : World} {base : Nat} {v : Value} {l : List UInt8} (h : W.ownsRow base 5 1 v l.length (l.map vb)) (h0 : l ≠ []) : (convert 93 9 v).run Tryz.prog W = .ok (.string ⟨l.toArray⟩) W := by
  rcases h.2 with ⟨_, hz⟩ | ⟨g, cap, cur, rfl, _, hg, hn, hm, hs, ht⟩
  · exact absurd (List.eq_nil_of_length_eq_zero hz) h0
  · exact BRow.str ⟨cur, (0, 0), hg, hn, hm, by rw [hs, Nat.mul_one], by rw [← ht, Nat.mul_one], .inl rfl⟩
set_option maxHeartbeats 4000000 in
set_option maxRecDepth 100000 in
theorem node_c (w : World) (v i bh bs N : Nat) (f : Lit → Nat) (u : Value) (k : Nat) (hu : StrS w u k) (hk : k ≤ 4) (h : Vlt w v i bh bs N f) (hN : N < 1000000) :
    Calls Tryz.prog 98 #[.pointer (some ⟨v, 0, none⟩), u] w (HashP w v i bh bs N f) := by
  obtain ⟨b, o, c, rfl, hkc, hcell⟩ := hu
  have HV := Aside0.mk h
  have HC := Aside0.mk (And.intro hk (And.intro hN hcell))
  have hb0 := below_alloc (Below.refl w.heap.size w) (.cells #[.int .u8 1] 5 (0, 0))
  have HB0 := Aside0.mk hb0
  have HR0 : Aside0 ((w.alloc (.cells #[.int .u8 1] 5 (0, 0))).ownsRow w.heap.size 5 1 (.slice (some ⟨w.heap.size, 0, none⟩) 1 1) ([1] : List UInt8).length (([1] : List UInt8).map vb)) := ⟨⟨rfl, .inr ⟨w.heap.size, 1, _, rfl, Nat.le_refl _, heap_alloc_new w _, Nat.le_refl _, by decide, rfl, rfl⟩⟩⟩
  obtain ⟨i0, hi, hz0, hz1, hz2⟩ := info_parts infoU8
  clear h hN hk hcell hb0
  go_enter Tryz.func98, Tryz.ntmps98
  go_wp2_with fail
  go_loopw [5, 11] (fun x i wq => ∃ (j : Nat) (l : List UInt8), j ≤ k ∧ i = .int .i64 j ∧ Aside0 (l.length = 1 + 32 * j) ∧ Aside0 (wq.ownsRow w.heap.size 5 1 x l.length (l.map vb)) ∧ Aside0 (Below w.heap.size w wq)) (fun _ i _ => k - (intOf i).toNat)
  case atStart => exact ⟨0, [1], Nat.zero_le _, rfl, ⟨rfl⟩, HR0, HB0⟩
  case round =>
    clear HR0 HB0
    obtain ⟨j, l, hj, rfl, HL, HR, HB⟩ := hrel
    by_cases hlt : j < k
    · have HJ := Aside0.mk hlt
      have hh := HC.out.1
      have w4_ : wrap64 ((j : Int) + 1) = (j : Int) + 1 := w64 (by omega) (by omega)
      have e0 : decide ((j : Int) < (k : Int)) = true := decide_eq_true (by omega)
      have e1 : decide (j < k) = true := decide_eq_true (by omega)
      have q1 : ((j : Int) < (k : Int)) = True := eq_true (by omega)
      have q2 : (j < k) = True := eq_true hlt
      obtain ⟨s, hs, hsz⟩ := HC.out.2.2 j hlt
      have x0 : wr.cell? ⟨b, o + j, none⟩ = some (.string s) := cells_bel HB.out hs
      have HSZ := Aside0.mk hsz
      obtain ⟨A1, c1, ev⟩ := own_sliceN HR.out
      subst ev
      clear hlt hh hj hs hsz
      go_wp2_with (at_builtin; go_loud (refine Lib.wpList_append_own_string wr rfl (.tmp 15) (.tmp 16) 93 9 rfl w.heap.size 5 i0 Tryz.underlying93 Tryz.underlying9 hi hz0 hz1 hz2 _ l.length _ rfl HR.out s rfl (by have := HL.out; have := HJ.out; have := HC.out.1; have := HSZ.out; unfold maxLen; omega) (by have := HL.out; have := HJ.out; have := HC.out.1; have := HSZ.out; omega) HB.out.size ?_); intro v1 w4 ho hg _; have HQ := Aside0.mk ho; have HBQ := Aside0.mk (HB.out.trans (below_own HR.out hg (Nat.le_refl _) HB.out.size)); obtain ⟨A2, c2, e2⟩ := own_sliceN ho; subst e2; clear ho hg x0)
      go_roundw
      case rel =>
        refine ⟨j + 1, l ++ pb s, HJ.out, by rw [w4_]; rfl, ⟨?_⟩, ⟨?_⟩, HBQ⟩
        · rw [List.length_append, pb_len, HL.out, HSZ.out]; omega
        · rw [List.length_append, pb_len, List.map_append]
          exact HQ.out
      case measure =>
        have := HJ.out
        rw [w4_]
        simp only [intOf]
        omega
    · have : j = k := by omega
      subst this
      have e0 : decide ((j : Int) < (j : Int)) = false := decide_eq_false (by omega)
      have hcv := own_str HR.out (fun e => by have := HL.out; rw [e] at this; simp at this; omega)
      obtain ⟨A1, c1, ev⟩ := own_sliceN HR.out
      subst ev
      clear hlt hj
      go_wp2_with fail
      refine (vHash_c wr v i bh bs N f _ (HV.out.below HB.out) HC.out.2.1 (by rw [mk_size, HL.out]; have := HC.out.1; unfold maxLen; omega)).mono ?_
      rintro e w2 ⟨t, rfl, h1, h2, h3⟩
      have HE := Aside0.mk (And.intro h1 (And.intro h2 ((Fr.below HB.out).trans h3)))
      clear h1 h2 h3
      go_wp2_with fail
      go_ret
      exact ⟨t, rfl, HE.out⟩
end Go.Proofs.YtgpknomegleidaaGreatDoor.T
namespace Go.Proofs.YtgpknomegleidaaGreatDoor.T
open Go.RowKit Go.Proofs.YtgpknomegleidaaGreatDoorW.PrintWords Go.Proofs.YtgpknomegleidaaGreatDoorW.PrintLast Go.Proofs.YtgpknomegleidaaGreatDoorW.PrintMore Go.Proofs.YtgpknomegleidaaGreatDoor.PAll
set_option linter.unusedSimpArgs false
set_option linter.unusedVariables false

theorem infoRow3 : (Tryz.prog.info? 34).map (fun i => (i.zero, i.size, i.bytes)) = some (some (.slice none 0 0), 1, 24) := by kernel_rfl
theorem own_frc {S : Nat → Prop} {w w' : World} {base n sz : Nat} {e : TypeId} {v : Value} {xs : List Value} (h : w.ownsRow base e sz v n xs) (hf : FrP S w w') (hS : ∀ g cs t fr, w.heap[g]? = some (.cells cs t fr) → ¬ S g) (he : e ≠ 183) : w'.ownsRow base e sz v n xs := by
  refine ⟨h.1, ?_⟩
  rcases h.2 with h | ⟨g, cap, cur, e1, e2, e3, e4⟩
  · exact .inl h
  · exact .inr ⟨g, cap, cur, e1, e2, hf.cells e3 (hS _ _ _ _ e3) he, e4⟩
theorem own_lower {W : World} {base base' n sz : Nat} {e : TypeId} {v : Value} {xs : List Value} (h : W.ownsRow base e sz v n xs) (hb : base' ≤ base) : W.ownsRow base' e sz v n xs :=
  ⟨h.1, h.2.imp id (fun ⟨g, cap, cur, e1, e2, r⟩ => ⟨g, cap, cur, e1, Nat.le_trans hb e2, r⟩)⟩
def strV (xs : List ByteArray) : List Value := xs.map Value.string
def All32 (xs : List ByteArray) : Prop := ∀ s ∈ xs, s.size = 32
/-- What stands while a tree is made. -/
structure TreeI (w wq : World) (B gt v i bh bs N : Nat) (f : Lit → Nat) (vR : Value) (R : List Value) : Prop where
  box : wq.heap[gt]? = some (.cells #[.pointer (some ⟨v, 0, none⟩), vR] 187 (0, 0))
  rows : wq.ownsRow B 34 1 vR R.length R
  short : ∀ r ∈ R, ∃ A n c, r = .slice A n c ∧ n ≤ 1000
  vlt : Vlt wq v i bh bs N f
  fr : FrB B (VS bh bs) w wq
  le : B ≤ wq.heap.size
section
variable {w wq : World} {B gt v i bh bs N : Nat} {f : Lit → Nat} {vR : Value} {R : List Value}
theorem TreeI.hash (k : TreeI w wq B gt v i bh bs N f vR R) {w' : World} (hv : Vlt w' v i bh bs (N + 1) f) (hf : Fr (VS bh bs) wq w') : TreeI w w' B gt v i bh bs (N + 1) f vR R :=
  ⟨hf.cells k.box (vs_cells k.vlt _ _ _ _ k.box), own_frc k.rows (FrP.of hf) (vs_cells k.vlt) (by decide), k.short, hv, k.fr.step k.le (FrP.of hf) (fun _ h _ => h), Nat.le_trans k.le hf.size⟩
theorem TreeI.below (k : TreeI w wq B gt v i bh bs N f vR R) {w' : World} (hb : Below wq.heap.size wq w') : TreeI w w' B gt v i bh bs N f vR R :=
  ⟨blk_below k.box hb, pw_own_below k.rows hb, k.short, k.vlt.below hb, k.fr.step k.le (FrP.below (S := VS bh bs) hb) (fun _ h _ => h), Nat.le_trans k.le hb.size⟩
theorem TreeI.keep (k : TreeI w wq B gt v i bh bs N f vR R) {row : Option Nat} {w' : World} (hg : wq.grownBy w' row) (hrow : ∀ q, row = some q → B ≤ q ∧ ∃ cs fr t, wq.heap[q]? = some (.cells cs t fr) ∧ (t = 9)) : TreeI w w' B gt v i bh bs N f vR R := by
  have hne : ∀ (q : Nat) (o : Obj), wq.heap[q]? = some o → (∀ cs fr, o ≠ .cells cs 9 fr) → w'.heap[q]? = some o := fun q o hq ho => blk_grown hq hg (fun e => by
    obtain ⟨_, cs, fr, t, h1, rfl⟩ := hrow q e.symm
    rw [h1] at hq
    injection hq with hq
    exact ho _ _ hq.symm)
  obtain ⟨bm, hib⟩ := k.vlt.ib
  obtain ⟨qg, hqg⟩ := k.vlt.hm
  obtain ⟨e3, c3, h3⟩ := hqg.obj
  obtain ⟨e4, c4, h4⟩ := k.vlt.sm.obj
  refine ⟨hne _ _ k.box (by intro cs fr e; injection e with _ e; revert e; decide), ?_, k.short,
    ⟨hne _ _ k.vlt.vb (by intro cs fr e; injection e with _ e; revert e; decide), ⟨bm, hne _ _ hib (by intro cs fr e; injection e with _ e; revert e; decide)⟩, ⟨qg, hqg.eq ((hne _ _ h3 (by intro cs fr e; cases e)).trans h3.symm)⟩, k.vlt.sm.eq ((hne _ _ h4 (by intro cs fr e; cases e)).trans h4.symm), k.vlt.ne⟩,
    k.fr.below ⟨hg.os, hg.tape, hg.output, hg.size, fun q hq => hg.block q (Nat.lt_of_lt_of_le hq k.le) (fun e => by have := (hrow q e.symm).1; omega)⟩ hg.size, Nat.le_trans k.le hg.size⟩
  refine ⟨k.rows.1, k.rows.2.imp id (fun ⟨g, cap, cur, e1, e2, e3, r⟩ => ⟨g, cap, cur, e1, e2, hne _ _ e3 (by intro cs fr e; injection e with _ e; revert e; decide), r⟩)⟩
theorem own_row {W : World} {base n sz : Nat} {e : TypeId} {v : Value} {xs : List Value} (h : W.ownsRow base e sz v n xs) : ∀ q, v.ownBlock = some q → base ≤ q ∧ ∃ cs fr t, W.heap[q]? = some (.cells cs t fr) ∧ t = e := by
  intro q hq
  rcases h.2 with ⟨rfl, _⟩ | ⟨g, cap, cur, rfl, e2, e3, _⟩
  · cases hq
  · injection hq with hq
    have : g = q := hq
    subst this
    exact ⟨e2, _, _, _, e3, rfl⟩
theorem TreeI.push (k : TreeI w wq B gt v i bh bs N f vR R) (hgt : B ≤ gt) {u v1 : Value} {w4 : World} (hu : ∃ A n c, u = .slice A n c ∧ n ≤ 1000) (ho : w4.ownsRow B 34 1 v1 (R.length + 1) (R ++ [u])) (hg : (wq.alloc (.cells #[u] 34 (0, 0))).grownBy w4 vR.ownBlock) :
    w4.heap[gt]? = some (.cells #[.pointer (some ⟨v, 0, none⟩), vR] 187 (0, 0)) ∧ TreeI w (w4.setCell ⟨gt, 1, none⟩ v1) B gt v i bh bs N f v1 (R ++ [u]) := by
  have hW := below_alloc (Below.refl wq.heap.size wq) (.cells #[u] 34 (0, 0))
  have k2 := k.below hW
  have b4 := blk_grown k2.box hg (own_ne2 k2.rows k2.box (by decide))
  have hb4 : Below B _ w4 := below_own k2.rows hg (Nat.le_refl _) k2.le
  have hg2 := Lib.grownBy_setCell w4 gt 1 v1
  have hb5 : Below B _ (w4.setCell ⟨gt, 1, none⟩ v1) := hb4.setCell (p := ⟨gt, 1, none⟩) hgt v1
  have hne : ∀ (q : Nat) (o : Obj), (wq.alloc (.cells #[u] 34 (0, 0))).heap[q]? = some o → (∀ cs fr, o ≠ .cells cs 34 fr) → (∀ cs fr, o ≠ .cells cs 187 fr) → (w4.setCell ⟨gt, 1, none⟩ v1).heap[q]? = some o := fun q o hq ho1 ho2 => by
    have h1 := blk_grown hq hg (fun e => by
      obtain ⟨_, cs, fr, t, h1, rfl⟩ := own_row k2.rows q e.symm
      rw [h1] at hq
      injection hq with hq
      exact ho1 _ _ hq.symm)
    exact blk_grown h1 hg2 (fun e => by
      injection e with e
      subst e
      rw [b4] at h1
      injection h1 with h1
      exact ho2 _ _ h1.symm)
  obtain ⟨bm, hib⟩ := k2.vlt.ib
  obtain ⟨qg, hqg⟩ := k2.vlt.hm
  obtain ⟨e3, c3, h3⟩ := hqg.obj
  obtain ⟨e4, c4, h4⟩ := k2.vlt.sm.obj
  refine ⟨b4, blk_put b4 1 v1 rfl, ?_, ?_, ⟨hne _ _ k2.vlt.vb (by intro cs fr e; injection e with _ e; revert e; decide) (by intro cs fr e; injection e with _ e; revert e; decide), ⟨bm, hne _ _ hib (by intro cs fr e; injection e with _ e; revert e; decide) (by intro cs fr e; injection e with _ e; revert e; decide)⟩,
    ⟨qg, hqg.eq ((hne _ _ h3 (by intro cs fr e; cases e) (by intro cs fr e; cases e)).trans h3.symm)⟩, k2.vlt.sm.eq ((hne _ _ h4 (by intro cs fr e; cases e) (by intro cs fr e; cases e)).trans h4.symm), k2.vlt.ne⟩, k2.fr.below hb5 (Nat.le_trans hg.size hg2.size), Nat.le_trans k2.le (Nat.le_trans hg.size hg2.size)⟩
  · rw [List.length_append]
    exact ho.kept hg2 (own_not (own_ne2 ho b4 (by decide)))
  · intro r hr
    rw [List.mem_append, List.mem_singleton] at hr
    rcases hr with hr | rfl
    · exact k.short r hr
    · exact hu
end
def lenOf : Value → Nat
  | .slice _ n _ => n
  | _ => 0
/-- A tree that was made. -/
structure TreeS (w : World) (gt v : Nat) : Prop where
  tree : ∃ base vR R A L c, w.heap[gt]? = some (.cells #[.pointer (some ⟨v, 0, none⟩), vR] 187 (0, 0)) ∧ w.ownsRow base 34 1 vR (R.length + 1) (R ++ [.slice A L c]) ∧ R.length ≤ 1001 ∧
    (∀ r ∈ R ++ [.slice A L c], ∃ A n c, r = .slice A n c ∧ n ≤ 1000) ∧ (0 < L → ∃ b s, A = some ⟨b, 0, none⟩ ∧ w.cell? ⟨b, 0, none⟩ = some (.string s) ∧ s.size = 32)
def TreeP (w : World) (v i bh bs N : Nat) (f : Lit → Nat) (e : Ending) (w' : World) : Prop := ∃ gt, e = .returned (.pointer (some ⟨gt, 0, none⟩)) ∧ TreeS w' gt v ∧ Vlt w' v i bh bs N f ∧ FrP (VS bh bs) w w'
set_option maxHeartbeats 4000000 in
set_option maxRecDepth 100000 in
theorem tree_new (w : World) (v i bh bs N : Nat) (f : Lit → Nat) (gl n c : Nat) (cs : Array Value) (hv : Vlt w v i bh bs N f) (hN : N < 900000) (hn : n ≤ 1000) (hl : w.heap[gl]? = some (.cells cs 9 (0, 0))) (hcs : ∀ j, j < n → ∃ s : ByteArray, cs[j]? = some (.string s) ∧ s.size ≤ 1000) :
    Calls Tryz.prog 70 #[.pointer (some ⟨v, 0, none⟩), .slice (some ⟨gl, 0, none⟩) n c] w (TreeP w v i bh bs (N + 3 * n) f) := by
  have hu187 := Tryz.underlying187
  have hb0 := below_alloc (Below.refl w.heap.size w) (.cells #[.pointer (some ⟨v, 0, none⟩), .slice none 0 0] 187 (0, 0))
  have HI0 := Aside0.mk (TreeI.mk (w := w) (B := w.heap.size) (R := []) (heap_alloc_new w (.cells #[.pointer (some ⟨v, 0, none⟩), .slice none 0 0] 187 (0, 0))) (World.ownsRow_nil _ _ _ _) (by simp) (hv.below hb0) ((FrB.refl _ (VS bh bs) w).below hb0 hb0.size) (by rw [alloc_sz]; omega))
  have HC := Aside0.mk (And.intro hN (And.intro hn hcs))
  have HGL := Aside0.mk (And.intro hl (vs_cells hv _ _ _ _ hl))
  clear hb0 hv hN hn hl hcs
  go_enter Tryz.func70, Tryz.ntmps70
  go_wp2_with fail
  generalize w.alloc (.cells #[.pointer (some ⟨v, 0, none⟩), .slice none 0 0] 187 (0, 0)) = w1 at HI0 ⊢
  obtain ⟨B, hB⟩ : ∃ B, B = w.heap.size := ⟨_, rfl⟩
  have HBB := Aside0.mk hB
  rw [← hB] at HI0 ⊢
  clear hB
  go_loopw [6, 16] (fun x i' wq => ∃ (j : Nat) (xs : List ByteArray), j ≤ n ∧ i' = .int .i64 j ∧ Aside0 (TreeI w wq B B v i bh bs (N + j) f (.slice none 0 0) []) ∧ Aside0 (xs.length = j ∧ All32 xs) ∧ Aside0 (wq.ownsRow B 9 1 x j (strV xs))) (fun _ i' _ => n - (intOf i').toNat)
  case atStart => exact ⟨0, [], Nat.zero_le _, rfl, HI0, ⟨rfl, by intro s hs; cases hs⟩, ⟨World.ownsRow_nil _ _ _ _⟩⟩
  case round =>
    clear HI0
    obtain ⟨j, xs, hj, rfl, HI, HX, HR⟩ := hrel
    obtain ⟨A1, c1, ev⟩ := own_sliceN HR.out
    subst ev
    by_cases hlt : j < n
    · have HJ := Aside0.mk hlt
      have hh := HC.out.2.1
      have HJ2 := Aside0.mk (show j ≤ 100000 by omega)
      have w4_ : wrap64 ((j : Int) + 1) = (j : Int) + 1 := w64 (by omega) (by omega)
      have e0 : decide ((j : Int) < (n : Int)) = true := decide_eq_true (by omega)
      have e1 : decide (j < n) = true := decide_eq_true (by omega)
      have q1 : ((j : Int) < (n : Int)) = True := eq_true (by omega)
      have q2 : (j < n) = True := eq_true hlt
      obtain ⟨s, hs, hsz⟩ := HC.out.2.2 j hlt
      have hgl : wr.heap[gl]? = some (.cells cs 9 (0, 0)) := (HI.out.fr.block gl (by rw [HBB.out]; exact blk_lt HGL.out.1) HGL.out.2 (fun cs' fr' e => by rw [HGL.out.1] at e; injection e with e; injection e with _ e2; exact absurd e2 (by decide))).trans HGL.out.1
      have x0 : wr.cell? ⟨gl, j, none⟩ = some (.string s) := (blk_cell hgl j).trans hs
      have HSZ := Aside0.mk hsz
      clear hlt hh hj hs hsz hgl
      go_wp2_with fail
      refine (leaf_c wr v i bh bs (N + j) f s HI.out.vlt (by have := HC.out; have := HJ.out; omega) HSZ.out).mono ?_
      rintro e w2 ⟨t, rfl, h1, h2, h3⟩
      have HI2 := Aside0.mk (HI.out.hash h2 h3)
      have HR2 := Aside0.mk (own_frc HR.out (FrP.of h3) (vs_cells HI.out.vlt) (by decide))
      have HT := Aside0.mk h1
      clear h1 h2 h3 HI HR x0
      go_wp2_with (at_builtin; go_loud (refine wpList_app1 rfl (.tmp 20) (.tmp 24) 34 rfl B 9 (.string ⟨#[]⟩) 16 Tryz.underlying34 infoStr3 rfl (by decide) w2 (.slice A1 j c1) (.string t) j _ rfl rfl HR2.out rfl HJ2.out HI2.out.le ?_); intro v1 w4 ho hg; have HQ := Aside0.mk ho; have HG := Aside0.mk hg; obtain ⟨A2, c2, e2⟩ := own_sliceN ho; subst e2; clear ho hg)
      have hW := below_alloc (Below.refl w2.heap.size w2) (.cells #[.string t] 9 (0, 0))
      have HI3 : Aside0 (TreeI w w4 B B v i bh bs (N + (j + 1)) f (.slice none 0 0) []) := ⟨(HI2.out.below hW).keep HG.out (own_row (pw_own_below HR2.out hW))⟩
      clear hW HG
      go_roundw
      case rel => exact ⟨j + 1, xs ++ [t], HJ.out, by rw [w4_]; rfl, HI3, ⟨by rw [List.length_append, HX.out.1]; rfl, by
        intro s hs
        rw [List.mem_append, List.mem_singleton] at hs
        rcases hs with hs | rfl
        · exact HX.out.2 s hs
        · exact HT.out⟩, ⟨by unfold strV; rw [List.map_append]; exact HQ.out⟩⟩
      case measure =>
        have := HJ.out
        rw [w4_]
        simp only [intOf]
        omega
    · have : j = n := by omega
      subst this
      have e0 : decide ((j : Int) < (j : Int)) = false := decide_eq_false (by omega)
      clear hlt hj
      go_wp2_with fail
      have HP := Aside0.mk (show (N + j) + 2 * xs.length ≤ N + 3 * j ∧ xs.length ≤ 1000 ∧ (([] : List Value).length + xs.length ≤ 1001) by have := HX.out.1; have := HC.out; simp only [List.length_nil]; omega)
      have HR' : Aside0 (wr.ownsRow B 9 1 (.slice A1 j c1) xs.length (strV xs)) := ⟨by rw [HX.out.1]; exact HR.out⟩
      have HX' := Aside0.mk HX.out.2
      clear HR HX
      go_loopw [6] (fun x wq => ∃ (xs : List ByteArray) (vR : Value) (R : List Value) (M : Nat), Aside0 (TreeI w wq B B v i bh bs M f vR R) ∧ Aside0 (All32 xs) ∧ Aside0 (wq.ownsRow B 9 1 x xs.length (strV xs)) ∧ Aside0 (M + 2 * xs.length ≤ N + 3 * j ∧ xs.length ≤ 1000 ∧ R.length + xs.length ≤ 1001)) (fun x _ => lenOf x)
      case atStart => exact ⟨xs, _, [], N + j, HI, HX', HR', HP⟩
      case round =>
        clear HI HX' HR' HP
        obtain ⟨xs, vR, R, M, HI, HX, HR, HP⟩ := hrel
        obtain ⟨A6, c6, ev6⟩ := own_sliceN HR.out
        subst ev6
        obtain ⟨AR, cR, evR⟩ := own_sliceN HI.out.rows
        subst evR
        generalize hL : xs.length = L at HR HP
        have HL := Aside0.mk hL
        clear hL
        have x1 : wr.cell? ⟨B, 1, none⟩ = some (.slice AR R.length cR) := (blk_cell HI.out.box 1).trans rfl
        have HRN := Aside0.mk (show R.length ≤ 100000 by have := HP.out.2.2; omega)
        go_upto_region 9 with (at_builtin; go_loud (refine wpList_app1 rfl (.tmp 31) (.tmp 33) 185 rfl B 34 (.slice none 0 0) 24 Tryz.underlying185 infoRow3 rfl (by decide) wr (.slice AR R.length cR) (.slice A6 L c6) R.length _ rfl rfl HI.out.rows rfl HRN.out HI.out.le ?_); intro v1 w4 ho hg; have HQ := Aside0.mk (HI.out.push (Nat.le_refl _) ⟨A6, L, c6, rfl, HP.out.2.1⟩ ho hg); have f1 := blk_frozen HQ.out.1 1; have x1' : w4.cell? ⟨B, 1, none⟩ = some (.slice AR R.length cR) := (blk_cell HQ.out.1 1).trans rfl; have HR4 := Aside0.mk ((pw_own_below HR.out (below_alloc (Below.refl wr.heap.size wr) (.cells #[.slice A6 L c6] 34 (0, 0)))).kept hg (own_type_ne (pw_own_below HR.out (below_alloc (Below.refl wr.heap.size wr) (.cells #[.slice A6 L c6] 34 (0, 0)))) (pw_own_below HI.out.rows (below_alloc (Below.refl wr.heap.size wr) (.cells #[.slice A6 L c6] 34 (0, 0)))) (by decide))); obtain ⟨A2, c2, e2⟩ := own_sliceN ho; subst e2; clear x1 ho hg)
        have HI5 := Aside0.mk HQ.out.2
        have HR5 := Aside0.mk (HR4.out.kept (Lib.grownBy_setCell w4 B 1 (.slice A2 (R.length + 1) c2)) (own_not (own_ne2 HR4.out HQ.out.1 (by decide))))
        clear HQ HR4 f1 x1' HI HR
        generalize w4.setCell ⟨B, 1, none⟩ (.slice A2 (R.length + 1) c2) = w5 at HI5 HR5 ⊢
        by_cases hL2 : L < 2
        · have d0 : decide ((L : Int) < 2) = true := decide_eq_true (by omega)
          have d0' : decide (L < 2) = true := decide_eq_true hL2
          have HL2 := Aside0.mk hL2
          clear hL2
          go_wp2_with fail
          go_ret
          refine ⟨B, rfl, ⟨B, _, R, A6, L, c6, HI5.out.box, ?_, by have := HP.out.2.2; omega, HI5.out.short, ?_⟩, ?_, ?_⟩
          · have := HI5.out.rows
            rw [List.length_append] at this
            exact this
          · intro h0
            obtain ⟨g, rfl⟩ := own_some HR5.out (by omega)
            have h1 : (strV xs)[0]? = some (.string (xs.getD 0 ⟨#[]⟩)) := by
              have := HL.out
              cases xs with
              | nil => simp at this; omega
              | cons a r => rfl
            have h2 : (xs.getD 0 ⟨#[]⟩).size = 32 := by
              have := HL.out
              cases xs with
              | nil => simp at this; omega
              | cons a r => exact HX.out a (List.mem_cons_self ..)
            have := HR5.out.cells (g := g) rfl 0 _ h1
            rw [add_plain] at this
            exact ⟨g, _, rfl, this, h2⟩
          · exact HI5.out.vlt.mono (by have := HP.out.1; omega)
          · have := HI5.out.fr
            rw [HBB.out] at this
            exact this.frp
        · have d0 : decide ((L : Int) < 2) = false := decide_eq_false (by omega)
          have d0' : decide (L < 2) = false := decide_eq_false hL2
          have hh := HP.out
          have w1_ : wrap64 ((L : Int) + 4) = (L : Int) + 4 := w64 (by omega) (by omega)
          have w2_ : wrap64 ((L : Int) + 4 - 1) = (L : Int) + 4 - 1 := w64 (by omega) (by omega)
          have HL2 := Aside0.mk hL2
          have w3_ : wrap64 (((L : Int) + 4 - 1).tdiv 4) = (((L + 3) / 4 : Nat) : Int) := by
            rw [show (L : Int) + 4 - 1 = ((L + 3 : Nat) : Int) by omega]
            rw [show Int.tdiv ((L + 3 : Nat) : Int) 4 = (((L + 3) / 4 : Nat) : Int) from rfl]
            exact w64 (by omega) (by omega)
          clear hL2 hh
          go_wp2_with fail
          rw [w3_]
          obtain ⟨U, hU⟩ : ∃ U, U = (L + 3) / 4 := ⟨_, rfl⟩
          have HU := Aside0.mk hU
          rw [← hU]
          clear hU w1_ w2_ w3_
          go_loopw [9, 46] (fun y i' wq => ∃ (k : Nat) (ys : List ByteArray), k ≤ U ∧ i' = .int .i64 k ∧ Aside0 (TreeI w wq B B v i bh bs (M + k) f (.slice A2 (R.length + 1) c2) (R ++ [.slice A6 L c6])) ∧ Aside0 (ys.length = k ∧ All32 ys) ∧ Aside0 (wq.ownsRow w5.heap.size 9 1 y k (strV ys)) ∧ Aside0 (FrP (VS bh bs) w5 wq)) (fun _ i' _ => U - (intOf i').toNat)
          case atStart => exact ⟨0, [], Nat.zero_le _, rfl, HI5, ⟨rfl, by intro s hs; cases hs⟩, ⟨World.ownsRow_nil _ _ _ _⟩, ⟨FrP.refl _ _⟩⟩
          case round =>
            obtain ⟨k, ys, hk, rfl, HI, HY, HR, HF⟩ := hrel
            obtain ⟨A9, c9, ev9⟩ := own_sliceN HR.out
            subst ev9
            by_cases hlt : k < U
            · have HJ := Aside0.mk hlt
              have hh := HP.out
              have hh2 := HU.out
              have HJ2 := Aside0.mk (show k ≤ 100000 by omega)
              have w4_ : wrap64 ((k : Int) + 1) = (k : Int) + 1 := w64 (by omega) (by omega)
              have e0' : decide ((k : Int) < (U : Int)) = true := decide_eq_true (by omega)
              have e1' : decide (k < U) = true := decide_eq_true (by omega)
              have H4 := Aside0.mk (show 4 * k < L by omega)
              clear hlt hh hh2 hk
              have HR6 := Aside0.mk (own_frc HR5.out HF.out (vs_cells HI5.out.vlt) (by decide))
              obtain ⟨g6, hg6⟩ := own_some HR6.out (by have := HL2.out; omega)
              go_wp2_with fail
              subst hg6
              refine (group_c wr g6 L c6 k H4.out HP.out.2.1 (own_le HR6.out) (fun q hq => by
                have h1 : (strV xs)[q]? = some (.string (xs.getD q ⟨#[]⟩)) := by
                  have hlen : q < xs.length := by rw [HL.out]; exact hq
                  simp [strV, List.getElem?_eq_getElem hlen, List.getD_eq_getElem?_getD]
                have h2 : (xs.getD q ⟨#[]⟩).size = 32 := by
                  have hlen : q < xs.length := by rw [HL.out]; exact hq
                  rw [List.getD_eq_getElem?_getD, List.getElem?_eq_getElem hlen]
                  exact HX.out _ (List.getElem_mem hlen)
                have := HR6.out.cells (g := g6) rfl q _ h1
                rw [add_plain] at this
                exact ⟨_, this, h2⟩)).mono ?_
              rintro e w6 ⟨⟨u, kk, rfl, hk4, hstr⟩, rfl⟩
              have hstr' := hstr
              obtain ⟨bq, oq, cq, rfl, _, _⟩ := hstr'
              have HST := Aside0.mk (And.intro hstr hk4)
              clear hstr hk4
              go_wp2_with fail
              refine (node_c w6 v i bh bs (M + k) f _ kk HST.out.1 HST.out.2 HI.out.vlt (by have := HC.out; have := HP.out.1; have := HJ.out; have := HU.out; omega)).mono ?_
              rintro e w7 ⟨t, rfl, h1, h2, h3⟩
              have HI2 := Aside0.mk (HI.out.hash h2 h3)
              have HR2 := Aside0.mk (own_frc HR.out (FrP.of h3) (vs_cells HI.out.vlt) (by decide))
              have HF2 := Aside0.mk (HF.out.trans (FrP.of h3))
              have HT := Aside0.mk h1
              clear h1 h2 h3 HI HR HF HR6
              go_wp2_with (at_builtin; go_loud (refine wpList_app1 rfl (.tmp 49) (.tmp 55) 34 rfl w5.heap.size 9 (.string ⟨#[]⟩) 16 Tryz.underlying34 infoStr3 rfl (by decide) w7 (.slice A9 k c9) (.string t) k _ rfl rfl HR2.out rfl HJ2.out HF2.out.size ?_); intro v1 w4 ho hg; have HQ := Aside0.mk ho; have HG := Aside0.mk hg; obtain ⟨A10, c10, e10⟩ := own_sliceN ho; subst e10; clear ho hg)
              have hW := below_alloc (Below.refl w7.heap.size w7) (.cells #[.string t] 9 (0, 0))
              have hrow := own_row (pw_own_below HR2.out hW)
              have HI3 : Aside0 (TreeI w w4 B B v i bh bs (M + (k + 1)) f (.slice A2 (R.length + 1) c2) (R ++ [.slice (some ⟨g6, 0, none⟩) L c6])) := ⟨(HI2.out.below hW).keep HG.out (fun q hq => ⟨Nat.le_trans HI5.out.le (hrow q hq).1, (hrow q hq).2⟩)⟩
              have HF3 : Aside0 (FrP (VS bh bs) w5 w4) := ⟨by
                have hbb : Below w5.heap.size _ w4 := below_own (pw_own_below HR2.out hW) HG.out (Nat.le_refl _) (Nat.le_trans HF2.out.size hW.size)
                have h1 : FrB w5.heap.size (VS bh bs) w5 w7 := ⟨HF2.out.os, HF2.out.tape, HF2.out.output, HF2.out.size, HF2.out.block⟩
                exact ((h1.below (hW.mono HF2.out.size) hW.size).below hbb HG.out.size).frp⟩
              clear hW hrow HG
              go_roundw
              case rel => exact ⟨k + 1, ys ++ [t], HJ.out, by rw [w4_]; rfl, HI3, ⟨by rw [List.length_append, HY.out.1]; rfl, by
                intro s hs
                rw [List.mem_append, List.mem_singleton] at hs
                rcases hs with hs | rfl
                · exact HY.out.2 s hs
                · exact HT.out⟩, ⟨by unfold strV; rw [List.map_append]; exact HQ.out⟩, HF3⟩
              case measure =>
                have := HJ.out
                rw [w4_]
                simp only [intOf]
                omega
            · have : k = U := by omega
              subst this
              have e0' : decide ((k : Int) < (k : Int)) = false := decide_eq_false (by omega)
              clear hlt hk
              go_wp2_with fail
              go_roundw
              case rel => exact ⟨ys, _, _, M + k, HI, ⟨HY.out.2⟩, ⟨by rw [HY.out.1]; exact own_lower HR.out HI5.out.le⟩, ⟨by
                rw [HY.out.1, List.length_append]
                have h1 := HP.out
                have h2 := HU.out
                have h3 := HL2.out
                simp only [List.length_cons, List.length_nil]
                omega⟩⟩
              case measure =>
                have h2 := HU.out
                have h3 := HL2.out
                simp only [lenOf]
                omega
end Go.Proofs.YtgpknomegleidaaGreatDoor.T
namespace Go.Proofs.YtgpknomegleidaaGreatDoor.T
open Go.RowKit Go.Proofs.YtgpknomegleidaaGreatDoorW.PrintWords Go.Proofs.YtgpknomegleidaaGreatDoorW.PrintLast Go.Proofs.YtgpknomegleidaaGreatDoorW.PrintMore Go.Proofs.YtgpknomegleidaaGreatDoor.PAll
set_option linter.unusedSimpArgs false
set_option linter.unusedVariables false

theorem rawsL_at (raw : Nat → ByteArray) (N j : Nat) (hj : j < N) : (rawsL raw N)[j]? = some (.string (raw j)) := by simp [rawsL, hj]
theorem msksL_at (msk : Nat → Int) (N j : Nat) (hj : j < N) : (msksL msk N)[j]? = some (.int .i64 (msk j)) := by simp [msksL, hj]
set_option maxHeartbeats 1000000 in
set_option maxRecDepth 100000 in
theorem at_none (w : World) (a : Nat) : Calls Tryz.prog 16 #[.agg #[.slice none 0 0, .slice none 0 0], .int .i64 (a : Int)] w fun e w' => e = .returned (.tuple #[.string z512, .int .i64 255]) ∧ Below w.heap.size w w' := by
  have hu37 := Tryz.underlying37
  have d0 : decide ((a : Int) < 0) = false := decide_eq_false (by omega)
  have d1 : decide ((0 : Int) ≤ (a : Int)) = true := decide_eq_true (by omega)
  have d2 : decide (0 ≤ a) = true := decide_eq_true (by omega)
  have HB := Aside0.mk (below_alloc (Below.refl w.heap.size w) (.cells #[.slice none 0 0, .slice none 0 0] 37 (0, 0)))
  go_enter Tryz.func16, Tryz.ntmps16
  go_wp2_with fail
  refine (blank_c _).mono ?_
  rintro e w2 ⟨rfl, hb⟩
  have HB2 := Aside0.mk (below_then HB.out HB.out.size hb)
  clear hb
  go_wp2_with fail
  go_ret2
  exact ⟨rfl, HB2.out⟩
set_option maxHeartbeats 4000000 in
set_option maxRecDepth 100000 in
theorem at_c (w : World) (base N : Nat) (vr vm : Value) (raw : Nat → ByteArray) (msk : Nat → Int) (k : ImgS w base vr vm N raw msk) (a : Nat) (ha : a < N) (hz : (raw a).size = 512) :
    Calls Tryz.prog 16 #[.agg #[vr, vm], .int .i64 (a : Int)] w fun e w' => e = .returned (.tuple #[.string (raw a), .int .i64 (msk a)]) ∧ Below w.heap.size w w' := by
  have hu37 := Tryz.underlying37
  obtain ⟨Ar, cr, er⟩ := own_sliceN k.raws
  subst er
  obtain ⟨Am, cm, em⟩ := own_sliceN k.msks
  subst em
  obtain ⟨gr, rfl⟩ := own_some k.raws (by omega)
  obtain ⟨gm, rfl⟩ := own_some k.msks (by omega)
  have HB := Aside0.mk (below_alloc (Below.refl w.heap.size w) (.cells #[.slice (some ⟨gr, 0, none⟩) N cr, .slice (some ⟨gm, 0, none⟩) N cm] 37 (0, 0)))
  have k2 := k.below HB.out
  have x0 := k2.raws.cells (g := gr) rfl _ _ (rawsL_at raw N a ha)
  have x1 := k2.msks.cells (g := gm) rfl _ _ (msksL_at msk N a ha)
  rw [add_plain] at x0 x1
  have d0 : decide ((a : Int) < 0) = false := decide_eq_false (by omega)
  have d1 : decide ((N : Int) ≤ (a : Int)) = false := decide_eq_false (by omega)
  have d2 : decide (N ≤ a) = false := decide_eq_false (by omega)
  have q1 : ((a : Int) < (N : Int)) = True := eq_true (by omega)
  have q2 : (a < N) = True := eq_true ha
  have e512 : ((((raw a).size : Nat) : Int) != 512) = false := by rw [hz]; rfl
  generalize raw a = r at *
  generalize msk a = m at *
  clear k k2 ha hz
  go_enter Tryz.func16, Tryz.ntmps16
  go_wp2_with fail
  go_big_quiet (fail)
  go_wp2_with fail
  go_ret2
  refine ⟨rfl, ?_⟩
  apply pw_below_drewN
  exact HB.out
end Go.Proofs.YtgpknomegleidaaGreatDoor.T
namespace Go.Proofs.YtgpknomegleidaaGreatDoor.T
open Go.RowKit Go.Proofs.YtgpknomegleidaaGreatDoorW.PrintWords Go.Proofs.YtgpknomegleidaaGreatDoorW.PrintLast Go.Proofs.YtgpknomegleidaaGreatDoorW.PrintMore Go.Proofs.YtgpknomegleidaaGreatDoor.PAll
set_option linter.unusedSimpArgs false
set_option linter.unusedVariables false

/-- A layout's numbers. -/
def layL (n : Nat) : List Int := [(n : Int), 2, 3, 27, 28, 29, ((n / 8 : Nat) : Int), ((29 + n / 8 : Nat) : Int), (((n / 8 + 15) / 16 : Nat) : Int), ((29 + n / 8 + (n / 8 + 15) / 16 : Nat) : Int), ((30 + n / 8 + (n / 8 + 15) / 16 : Nat) : Int), (n : Int), ((n + 1 : Nat) : Int), (((n + 63) / 64 : Nat) : Int), ((n + 1 + (n + 63) / 64 : Nat) : Int), ((2 * n + 1 + (n + 63) / 64 : Nat) : Int)]
def zeroL : List Int := [0, 0, 0, 0, 0, 0, 0, 0, 0, 0, 0, 0, 0, 0, 0, 0]
abbrev numsL (l : List Int) : List Value := l.map (.int .i64)
theorem one_nums (l : List Int) : ∀ v ∈ numsL l, v.oneCell' = true := by
  intro v hv
  obtain ⟨x, _, rfl⟩ := List.mem_map.1 hv
  rfl
def numsA (l : List Int) : Array Value := (l.map (.int .i64)).toArray
/-- What chart.Layout answers. -/
def layR (live : Int) : List Int × Int := if live < 48 ∨ 1024 < live then (zeroL, 1) else (layL live.toNat, 0)
theorem infoIntL : (Tryz.prog.info? 3).map (·.size) = some 1 := by kernel_rfl
theorem infoLay : (Tryz.prog.info? 26).map (·.size) = some 16 := by kernel_rfl
theorem td (a b : Nat) : Int.tdiv (a : Int) (b : Int) = ((a / b : Nat) : Int) := by
  rw [Int.tdiv_eq_ediv_of_nonneg (by omega)]
  rfl
set_option maxHeartbeats 4000000 in
set_option maxRecDepth 100000 in
theorem layout_c (live : Int) (w : World) : Calls Tryz.prog 17 #[.int .i64 live] w fun e w' => e = .returned (.tuple #[.agg (numsA (layR live).1), .int .i64 (layR live).2]) ∧ Below w.heap.size w w' := by
  have hu26 := Tryz.underlying26
  by_cases hbad : live < 48 ∨ 1024 < live
  · have HR : Aside0 (layR live = (zeroL, 1)) := ⟨by unfold layR; rw [if_pos hbad]⟩
    have g1 : decide (live < 48) = true ∨ decide (live < 48) = false := by cases decide (live < 48) <;> simp
    have HG : Aside0 (decide (live < 48) = false → decide (1024 < live) = true) := ⟨fun h => by
      have h' : ¬ live < 48 := of_decide_eq_false h
      exact decide_eq_true (hbad.resolve_left h')⟩
    clear hbad
    rcases g1 with g1 | g1
    · clear HG
      go_enter Tryz.func17, Tryz.ntmps17
      go_wp2_with (first | ((with_reducible refine gate_dst (N := 2) rfl ?_); refine box_event ?hg (N := 2) ?hd (cs := (#[.int .i64 0, .int .i64 0, .int .i64 0, .int .i64 0, .int .i64 0, .int .i64 0, .int .i64 0, .int .i64 0, .int .i64 0, .int .i64 0, .int .i64 0, .int .i64 0, .int .i64 0, .int .i64 0, .int .i64 0, .int .i64 0] : Array Value)) (t := 26) ?hr ?_; (case hd => rfl); (case hg => rfl); (case hr => first | (go_simp; done) | (go_simp; rfl)); intro g2_ hg wn hbox hb; have H2 := Aside0.mk hbox; have HB := Aside0.mk hb; have G2 := Aside0.mk (Nat.le_of_eq hg.symm : w.heap.size ≤ g2_); clear hg hbox hb) | ((with_reducible refine gate_store (t := 26) rfl ?_); refine store_at rfl _ _ _ rfl g2_ 0 26 _ (numsL zeroL) infoLay H2.out (Nat.le_of_ble_eq_true rfl) (by first | (go_simp; done) | (go_simp; rfl)) (by first | (go_simp; done) | (go_simp; rfl)) (one_nums _) ?_; intro w_ hs hgr; have n1_ := Aside0.mk (HB.out.grown hgr HB.out.size (fun k hk => by injection hk with hk; have := G2.out; omega)); clear HB H2; have HB := n1_; have H2 : Aside0 (w_.heap[g2_]? = some (.cells (#[.int .i64 0, .int .i64 0, .int .i64 0, .int .i64 0, .int .i64 0, .int .i64 0, .int .i64 0, .int .i64 0, .int .i64 0, .int .i64 0, .int .i64 0, .int .i64 0, .int .i64 0, .int .i64 0, .int .i64 0, .int .i64 0] : Array Value) 26 (0, 0))) := ⟨hs⟩; clear n1_ hgr hs))
      (try simp only [Exit.inBlock, Exit.then])
      refine bodyPost_ret (results_ct rfl _ _ g2_ 26 (#[.int .i64 0, .int .i64 0, .int .i64 0, .int .i64 0, .int .i64 0, .int .i64 0, .int .i64 0, .int .i64 0, .int .i64 0, .int .i64 0, .int .i64 0, .int .i64 0, .int .i64 0, .int .i64 0, .int .i64 0, .int .i64 0] : Array Value) (0, 0) _ rfl H2.out hu26 rfl infoLay) rfl ?_
      exact ⟨by rw [HR.out]; rfl, HB.out⟩
    · have g2 := HG.out g1
      clear HG
      go_enter Tryz.func17, Tryz.ntmps17
      go_wp2_with (first | ((with_reducible refine gate_dst (N := 2) rfl ?_); refine box_event ?hg (N := 2) ?hd (cs := (#[.int .i64 0, .int .i64 0, .int .i64 0, .int .i64 0, .int .i64 0, .int .i64 0, .int .i64 0, .int .i64 0, .int .i64 0, .int .i64 0, .int .i64 0, .int .i64 0, .int .i64 0, .int .i64 0, .int .i64 0, .int .i64 0] : Array Value)) (t := 26) ?hr ?_; (case hd => rfl); (case hg => rfl); (case hr => first | (go_simp; done) | (go_simp; rfl)); intro g2_ hg wn hbox hb; have H2 := Aside0.mk hbox; have HB := Aside0.mk hb; have G2 := Aside0.mk (Nat.le_of_eq hg.symm : w.heap.size ≤ g2_); clear hg hbox hb) | ((with_reducible refine gate_store (t := 26) rfl ?_); refine store_at rfl _ _ _ rfl g2_ 0 26 _ (numsL zeroL) infoLay H2.out (Nat.le_of_ble_eq_true rfl) (by first | (go_simp; done) | (go_simp; rfl)) (by first | (go_simp; done) | (go_simp; rfl)) (one_nums _) ?_; intro w_ hs hgr; have n1_ := Aside0.mk (HB.out.grown hgr HB.out.size (fun k hk => by injection hk with hk; have := G2.out; omega)); clear HB H2; have HB := n1_; have H2 : Aside0 (w_.heap[g2_]? = some (.cells (#[.int .i64 0, .int .i64 0, .int .i64 0, .int .i64 0, .int .i64 0, .int .i64 0, .int .i64 0, .int .i64 0, .int .i64 0, .int .i64 0, .int .i64 0, .int .i64 0, .int .i64 0, .int .i64 0, .int .i64 0, .int .i64 0] : Array Value) 26 (0, 0))) := ⟨hs⟩; clear n1_ hgr hs))
      (try simp only [Exit.inBlock, Exit.then])
      refine bodyPost_ret (results_ct rfl _ _ g2_ 26 (#[.int .i64 0, .int .i64 0, .int .i64 0, .int .i64 0, .int .i64 0, .int .i64 0, .int .i64 0, .int .i64 0, .int .i64 0, .int .i64 0, .int .i64 0, .int .i64 0, .int .i64 0, .int .i64 0, .int .i64 0, .int .i64 0] : Array Value) (0, 0) _ rfl H2.out hu26 rfl infoLay) rfl ?_
      exact ⟨by rw [HR.out]; rfl, HB.out⟩
  have g1 : decide (live < 48) = false := decide_eq_false (by omega)
  have g2 : decide (1024 < live) = false := decide_eq_false (by omega)
  obtain ⟨n, hn⟩ : ∃ n : Nat, live = (n : Int) := ⟨live.toNat, by omega⟩
  subst hn
  obtain ⟨q, hq⟩ : ∃ q, q = n / 8 := ⟨_, rfl⟩
  obtain ⟨q6, hq6⟩ : ∃ q6, q6 = q + 16 := ⟨_, rfl⟩
  obtain ⟨q5, hq5⟩ : ∃ q5, q5 = q + 15 := ⟨_, rfl⟩
  obtain ⟨lost, hlost⟩ : ∃ lost, lost = 29 + q := ⟨_, rfl⟩
  obtain ⟨lb, hlb⟩ : ∃ lb, lb = (q + 15) / 16 := ⟨_, rfl⟩
  obtain ⟨root, hroot⟩ : ∃ root, root = lost + lb := ⟨_, rfl⟩
  obtain ⟨data, hdata⟩ : ∃ data, data = root + 1 := ⟨_, rfl⟩
  obtain ⟨p1, hp1⟩ : ∃ p1, p1 = n + 1 := ⟨_, rfl⟩
  obtain ⟨n6, hn6⟩ : ∃ n6, n6 = n + 63 := ⟨_, rfl⟩
  obtain ⟨l2, hl2⟩ : ∃ l2, l2 = (n + 63) / 64 := ⟨_, rfl⟩
  obtain ⟨old, hold⟩ : ∃ old, old = p1 + l2 := ⟨_, rfl⟩
  obtain ⟨tot, htot⟩ : ∃ tot, tot = old + n := ⟨_, rfl⟩
  have W1 : Aside0 (wrap64 ((n : Int) / 8) = (q : Int)) := ⟨by rw [w64 (by omega) (by omega)]; omega⟩
  have W2 : Aside0 (IntKind.i64.wrap (29 + (q : Int)) = (lost : Int)) := ⟨by rw [wi (by omega) (by omega)]; omega⟩
  have W3 : Aside0 (IntKind.i64.wrap ((q : Int) + 16) = (q6 : Int)) := ⟨by rw [wi (by omega) (by omega)]; omega⟩
  have W4 : Aside0 (IntKind.i64.wrap ((q6 : Int) - 1) = (q5 : Int)) := ⟨by rw [wi (by omega) (by omega)]; omega⟩
  have W5 : Aside0 (wrap64 ((q5 : Int) / 16) = (lb : Int)) := ⟨by rw [w64 (by omega) (by omega)]; omega⟩
  have W6 : Aside0 (IntKind.i64.wrap ((lost : Int) + (lb : Int)) = (root : Int)) := ⟨by rw [wi (by omega) (by omega)]; omega⟩
  have W7 : Aside0 (IntKind.i64.wrap ((root : Int) + 1) = (data : Int)) := ⟨by rw [wi (by omega) (by omega)]; omega⟩
  have W8 : Aside0 (IntKind.i64.wrap ((n : Int) + 1) = (p1 : Int)) := ⟨by rw [wi (by omega) (by omega)]; omega⟩
  have W9 : Aside0 (IntKind.i64.wrap ((n : Int) + 63) = (n6 : Int)) := ⟨by rw [wi (by omega) (by omega)]; omega⟩
  have W10 : Aside0 (wrap64 ((n6 : Int) / 64) = (l2 : Int)) := ⟨by rw [w64 (by omega) (by omega)]; omega⟩
  have W11 : Aside0 (IntKind.i64.wrap ((p1 : Int) + (l2 : Int)) = (old : Int)) := ⟨by rw [wi (by omega) (by omega)]; omega⟩
  have W12 : Aside0 (IntKind.i64.wrap ((old : Int) + (n : Int)) = (tot : Int)) := ⟨by rw [wi (by omega) (by omega)]; omega⟩
  have v1 : IntKind.i64.wrap (3 + 24) = 27 := by decide
  have v2 : IntKind.i64.wrap (27 + 1) = 28 := by decide
  have v3 : IntKind.i64.wrap (28 + 1) = 29 := by decide
  have HR : Aside0 (layR (n : Int) = ([(n : Int), 2, 3, 27, 28, 29, (q : Int), (lost : Int), (lb : Int), (root : Int), (data : Int), (n : Int), (p1 : Int), (l2 : Int), (old : Int), (tot : Int)], 0)) := ⟨by
    unfold layR
    rw [if_neg hbad]
    show (layL n, (0 : Int)) = _
    unfold layL
    rw [← hq, show 29 + q = lost from hlost.symm, show (q + 15) / 16 = lb from hlb.symm, show lost + lb = root from hroot.symm, show 30 + q + lb = data by omega, show n + 1 = p1 from hp1.symm, show (n + 63) / 64 = l2 from hl2.symm, show p1 + l2 = old from hold.symm, show 2 * n + 1 + l2 = tot by omega]⟩
  clear hbad hq hq6 hq5 hlost hlb hroot hdata hp1 hn6 hl2 hold htot
  have w1 := W1.out
  have w2 := W2.out
  have w3 := W3.out
  have w4 := W4.out
  have w5 := W5.out
  have w6 := W6.out
  have w7 := W7.out
  have w8 := W8.out
  have w9 := W9.out
  have w10 := W10.out
  have w11 := W11.out
  have w12 := W12.out
  clear W1 W2 W3 W4 W5 W6 W7 W8 W9 W10 W11 W12
  go_enter Tryz.func17, Tryz.ntmps17
  go_wp2_with (first | ((with_reducible refine gate_dst (N := 2) rfl ?_); refine box_event ?hg (N := 2) ?hd (cs := (#[.int .i64 0, .int .i64 0, .int .i64 0, .int .i64 0, .int .i64 0, .int .i64 0, .int .i64 0, .int .i64 0, .int .i64 0, .int .i64 0, .int .i64 0, .int .i64 0, .int .i64 0, .int .i64 0, .int .i64 0, .int .i64 0] : Array Value)) (t := 26) ?hr ?_; (case hd => rfl); (case hg => rfl); (case hr => first | (go_simp; done) | (go_simp; rfl)); intro g2_ hg wn hbox hb; have H2 := Aside0.mk hbox; have HB := Aside0.mk hb; have G2 := Aside0.mk (Nat.le_of_eq hg.symm : w.heap.size ≤ g2_); clear hg hbox hb) | ((with_reducible refine gate_dst (N := 4) rfl ?_); refine box_event ?hg (N := 4) ?hd (cs := (#[.int .i64 0, .int .i64 0, .int .i64 0, .int .i64 0, .int .i64 0, .int .i64 0, .int .i64 0, .int .i64 0, .int .i64 0, .int .i64 0, .int .i64 0, .int .i64 0, .int .i64 0, .int .i64 0, .int .i64 0, .int .i64 0] : Array Value)) (t := 26) ?hr ?_; (case hd => rfl); (case hg => rfl); (case hr => first | (go_simp; done) | (go_simp; rfl)); intro g4_ hg wn hbox hb; have n1_ := Aside0.mk (below_then HB.out HB.out.size hb); have n2_ := Aside0.mk (blk_below H2.out hb); have H4 := Aside0.mk hbox; have G4 := Aside0.mk ((by rw [hg]; exact blk_lt H2.out) : g2_ < g4_); clear HB H2 hg hbox hb; have HB := n1_; have H2 := n2_; clear n1_ n2_) | ((with_reducible refine gate_store (t := 26) rfl ?_); refine store_at rfl _ _ _ rfl g4_ 0 26 _ (numsL [(n : Int), 2, 3, 0, 0, 0, 0, 0, 0, 0, 0, 0, 0, 0, 0, 0]) infoLay H4.out (Nat.le_of_ble_eq_true rfl) (by first | (go_simp; done) | (go_simp; rfl)) (by first | (go_simp; done) | (go_simp; rfl)) (one_nums _) ?_; intro w_ hs hgr; have n1_ := Aside0.mk (HB.out.grown hgr HB.out.size (fun k hk => by injection hk with hk; have := G2.out; have := G4.out; omega)); have n2_ := Aside0.mk (blk_grown H2.out hgr (fun e => by injection e with e; have := G4.out; omega)); clear HB H2 H4; have HB := n1_; have H2 := n2_; clear n1_ n2_ hgr; have H4 : Aside0 (w_.heap[g4_]? = some (.cells #[.int .i64 (n : Int), .int .i64 2, .int .i64 3, .int .i64 0, .int .i64 0, .int .i64 0, .int .i64 0, .int .i64 0, .int .i64 0, .int .i64 0, .int .i64 0, .int .i64 0, .int .i64 0, .int .i64 0, .int .i64 0, .int .i64 0] 26 (0, 0))) := ⟨hs⟩; clear hs; have c2 : w_.cell? ⟨g4_, 2, none⟩ = some (.int .i64 3) := (blk_cell H4.out 2).trans rfl)  | ((with_reducible refine gate_store (t := 3) rfl ?_); refine store_at rfl _ _ _ rfl g4_ 3 26 _ (numsL [27]) infoIntL H4.out (Nat.le_of_ble_eq_true rfl) (by first | (go_simp; done) | (go_simp; rfl)) (by first | (go_simp; done) | (go_simp; rfl)) (one_nums _) ?_; intro w_ hs hgr; clear c2; have n1_ := Aside0.mk (HB.out.grown hgr HB.out.size (fun k hk => by injection hk with hk; have := G2.out; have := G4.out; omega)); have n2_ := Aside0.mk (blk_grown H2.out hgr (fun e => by injection e with e; have := G4.out; omega)); clear HB H2 H4; have HB := n1_; have H2 := n2_; clear n1_ n2_ hgr; have H4 : Aside0 (w_.heap[g4_]? = some (.cells #[.int .i64 (n : Int), .int .i64 2, .int .i64 3, .int .i64 27, .int .i64 0, .int .i64 0, .int .i64 0, .int .i64 0, .int .i64 0, .int .i64 0, .int .i64 0, .int .i64 0, .int .i64 0, .int .i64 0, .int .i64 0, .int .i64 0] 26 (0, 0))) := ⟨hs⟩; clear hs; have c3 : w_.cell? ⟨g4_, 3, none⟩ = some (.int .i64 27) := (blk_cell H4.out 3).trans rfl) | ((with_reducible refine gate_store (t := 3) rfl ?_); refine store_at rfl _ _ _ rfl g4_ 4 26 _ (numsL [28]) infoIntL H4.out (Nat.le_of_ble_eq_true rfl) (by first | (go_simp; done) | (go_simp; rfl)) (by first | (go_simp; done) | (go_simp; rfl)) (one_nums _) ?_; intro w_ hs hgr; clear c3; have n1_ := Aside0.mk (HB.out.grown hgr HB.out.size (fun k hk => by injection hk with hk; have := G2.out; have := G4.out; omega)); have n2_ := Aside0.mk (blk_grown H2.out hgr (fun e => by injection e with e; have := G4.out; omega)); clear HB H2 H4; have HB := n1_; have H2 := n2_; clear n1_ n2_ hgr; have H4 : Aside0 (w_.heap[g4_]? = some (.cells #[.int .i64 (n : Int), .int .i64 2, .int .i64 3, .int .i64 27, .int .i64 28, .int .i64 0, .int .i64 0, .int .i64 0, .int .i64 0, .int .i64 0, .int .i64 0, .int .i64 0, .int .i64 0, .int .i64 0, .int .i64 0, .int .i64 0] 26 (0, 0))) := ⟨hs⟩; clear hs; have c4 : w_.cell? ⟨g4_, 4, none⟩ = some (.int .i64 28) := (blk_cell H4.out 4).trans rfl) | ((with_reducible refine gate_store (t := 3) rfl ?_); refine store_at rfl _ _ _ rfl g4_ 5 26 _ (numsL [29]) infoIntL H4.out (Nat.le_of_ble_eq_true rfl) (by first | (go_simp; done) | (go_simp; rfl)) (by first | (go_simp; done) | (go_simp; rfl)) (one_nums _) ?_; intro w_ hs hgr; clear c4; have n1_ := Aside0.mk (HB.out.grown hgr HB.out.size (fun k hk => by injection hk with hk; have := G2.out; have := G4.out; omega)); have n2_ := Aside0.mk (blk_grown H2.out hgr (fun e => by injection e with e; have := G4.out; omega)); clear HB H2 H4; have HB := n1_; have H2 := n2_; clear n1_ n2_ hgr; have H4 : Aside0 (w_.heap[g4_]? = some (.cells #[.int .i64 (n : Int), .int .i64 2, .int .i64 3, .int .i64 27, .int .i64 28, .int .i64 29, .int .i64 0, .int .i64 0, .int .i64 0, .int .i64 0, .int .i64 0, .int .i64 0, .int .i64 0, .int .i64 0, .int .i64 0, .int .i64 0] 26 (0, 0))) := ⟨hs⟩; clear hs) | ((with_reducible refine gate_store (t := 3) rfl ?_); refine store_at rfl _ _ _ rfl g4_ 6 26 _ (numsL [(q : Int)]) infoIntL H4.out (Nat.le_of_ble_eq_true rfl) (by first | (go_simp; done) | (go_simp; rfl)) (by first | (go_simp; done) | (go_simp; rfl)) (one_nums _) ?_; intro w_ hs hgr; have n1_ := Aside0.mk (HB.out.grown hgr HB.out.size (fun k hk => by injection hk with hk; have := G2.out; have := G4.out; omega)); have n2_ := Aside0.mk (blk_grown H2.out hgr (fun e => by injection e with e; have := G4.out; omega)); clear HB H2 H4; have HB := n1_; have H2 := n2_; clear n1_ n2_ hgr; have H4 : Aside0 (w_.heap[g4_]? = some (.cells #[.int .i64 (n : Int), .int .i64 2, .int .i64 3, .int .i64 27, .int .i64 28, .int .i64 29, .int .i64 (q : Int), .int .i64 0, .int .i64 0, .int .i64 0, .int .i64 0, .int .i64 0, .int .i64 0, .int .i64 0, .int .i64 0, .int .i64 0] 26 (0, 0))) := ⟨hs⟩; clear hs; have c5 : w_.cell? ⟨g4_, 5, none⟩ = some (.int .i64 29) := (blk_cell H4.out 5).trans rfl; have c6 : w_.cell? ⟨g4_, 6, none⟩ = some (.int .i64 (q : Int)) := (blk_cell H4.out 6).trans rfl) | ((with_reducible refine gate_store (t := 3) rfl ?_); refine store_at rfl _ _ _ rfl g4_ 7 26 _ (numsL [(lost : Int)]) infoIntL H4.out (Nat.le_of_ble_eq_true rfl) (by first | (go_simp; done) | (go_simp; rfl)) (by first | (go_simp; done) | (go_simp; rfl)) (one_nums _) ?_; intro w_ hs hgr; clear c5 c6; have n1_ := Aside0.mk (HB.out.grown hgr HB.out.size (fun k hk => by injection hk with hk; have := G2.out; have := G4.out; omega)); have n2_ := Aside0.mk (blk_grown H2.out hgr (fun e => by injection e with e; have := G4.out; omega)); clear HB H2 H4; have HB := n1_; have H2 := n2_; clear n1_ n2_ hgr; have H4 : Aside0 (w_.heap[g4_]? = some (.cells #[.int .i64 (n : Int), .int .i64 2, .int .i64 3, .int .i64 27, .int .i64 28, .int .i64 29, .int .i64 (q : Int), .int .i64 (lost : Int), .int .i64 0, .int .i64 0, .int .i64 0, .int .i64 0, .int .i64 0, .int .i64 0, .int .i64 0, .int .i64 0] 26 (0, 0))) := ⟨hs⟩; clear hs; have c6 : w_.cell? ⟨g4_, 6, none⟩ = some (.int .i64 (q : Int)) := (blk_cell H4.out 6).trans rfl) | ((with_reducible refine gate_store (t := 3) rfl ?_); refine store_at rfl _ _ _ rfl g4_ 8 26 _ (numsL [(lb : Int)]) infoIntL H4.out (Nat.le_of_ble_eq_true rfl) (by first | (go_simp; done) | (go_simp; rfl)) (by first | (go_simp; done) | (go_simp; rfl)) (one_nums _) ?_; intro w_ hs hgr; clear c6; have n1_ := Aside0.mk (HB.out.grown hgr HB.out.size (fun k hk => by injection hk with hk; have := G2.out; have := G4.out; omega)); have n2_ := Aside0.mk (blk_grown H2.out hgr (fun e => by injection e with e; have := G4.out; omega)); clear HB H2 H4; have HB := n1_; have H2 := n2_; clear n1_ n2_ hgr; have H4 : Aside0 (w_.heap[g4_]? = some (.cells #[.int .i64 (n : Int), .int .i64 2, .int .i64 3, .int .i64 27, .int .i64 28, .int .i64 29, .int .i64 (q : Int), .int .i64 (lost : Int), .int .i64 (lb : Int), .int .i64 0, .int .i64 0, .int .i64 0, .int .i64 0, .int .i64 0, .int .i64 0, .int .i64 0] 26 (0, 0))) := ⟨hs⟩; clear hs; have c7 : w_.cell? ⟨g4_, 7, none⟩ = some (.int .i64 (lost : Int)) := (blk_cell H4.out 7).trans rfl; have c8 : w_.cell? ⟨g4_, 8, none⟩ = some (.int .i64 (lb : Int)) := (blk_cell H4.out 8).trans rfl) | ((with_reducible refine gate_store (t := 3) rfl ?_); refine store_at rfl _ _ _ rfl g4_ 9 26 _ (numsL [(root : Int)]) infoIntL H4.out (Nat.le_of_ble_eq_true rfl) (by first | (go_simp; done) | (go_simp; rfl)) (by first | (go_simp; done) | (go_simp; rfl)) (one_nums _) ?_; intro w_ hs hgr; clear c7 c8; have n1_ := Aside0.mk (HB.out.grown hgr HB.out.size (fun k hk => by injection hk with hk; have := G2.out; have := G4.out; omega)); have n2_ := Aside0.mk (blk_grown H2.out hgr (fun e => by injection e with e; have := G4.out; omega)); clear HB H2 H4; have HB := n1_; have H2 := n2_; clear n1_ n2_ hgr; have H4 : Aside0 (w_.heap[g4_]? = some (.cells #[.int .i64 (n : Int), .int .i64 2, .int .i64 3, .int .i64 27, .int .i64 28, .int .i64 29, .int .i64 (q : Int), .int .i64 (lost : Int), .int .i64 (lb : Int), .int .i64 (root : Int), .int .i64 0, .int .i64 0, .int .i64 0, .int .i64 0, .int .i64 0, .int .i64 0] 26 (0, 0))) := ⟨hs⟩; clear hs; have c9 : w_.cell? ⟨g4_, 9, none⟩ = some (.int .i64 (root : Int)) := (blk_cell H4.out 9).trans rfl) | ((with_reducible refine gate_store (t := 3) rfl ?_); refine store_at rfl _ _ _ rfl g4_ 10 26 _ (numsL [(data : Int)]) infoIntL H4.out (Nat.le_of_ble_eq_true rfl) (by first | (go_simp; done) | (go_simp; rfl)) (by first | (go_simp; done) | (go_simp; rfl)) (one_nums _) ?_; intro w_ hs hgr; clear c9; have n1_ := Aside0.mk (HB.out.grown hgr HB.out.size (fun k hk => by injection hk with hk; have := G2.out; have := G4.out; omega)); have n2_ := Aside0.mk (blk_grown H2.out hgr (fun e => by injection e with e; have := G4.out; omega)); clear HB H2 H4; have HB := n1_; have H2 := n2_; clear n1_ n2_ hgr; have H4 : Aside0 (w_.heap[g4_]? = some (.cells #[.int .i64 (n : Int), .int .i64 2, .int .i64 3, .int .i64 27, .int .i64 28, .int .i64 29, .int .i64 (q : Int), .int .i64 (lost : Int), .int .i64 (lb : Int), .int .i64 (root : Int), .int .i64 (data : Int), .int .i64 0, .int .i64 0, .int .i64 0, .int .i64 0, .int .i64 0] 26 (0, 0))) := ⟨hs⟩; clear hs) | ((with_reducible refine gate_store (t := 3) rfl ?_); refine store_at rfl _ _ _ rfl g4_ 11 26 _ (numsL [(n : Int)]) infoIntL H4.out (Nat.le_of_ble_eq_true rfl) (by first | (go_simp; done) | (go_simp; rfl)) (by first | (go_simp; done) | (go_simp; rfl)) (one_nums _) ?_; intro w_ hs hgr; have n1_ := Aside0.mk (HB.out.grown hgr HB.out.size (fun k hk => by injection hk with hk; have := G2.out; have := G4.out; omega)); have n2_ := Aside0.mk (blk_grown H2.out hgr (fun e => by injection e with e; have := G4.out; omega)); clear HB H2 H4; have HB := n1_; have H2 := n2_; clear n1_ n2_ hgr; have H4 : Aside0 (w_.heap[g4_]? = some (.cells #[.int .i64 (n : Int), .int .i64 2, .int .i64 3, .int .i64 27, .int .i64 28, .int .i64 29, .int .i64 (q : Int), .int .i64 (lost : Int), .int .i64 (lb : Int), .int .i64 (root : Int), .int .i64 (data : Int), .int .i64 (n : Int), .int .i64 0, .int .i64 0, .int .i64 0, .int .i64 0] 26 (0, 0))) := ⟨hs⟩; clear hs) | ((with_reducible refine gate_store (t := 3) rfl ?_); refine store_at rfl _ _ _ rfl g4_ 12 26 _ (numsL [(p1 : Int)]) infoIntL H4.out (Nat.le_of_ble_eq_true rfl) (by first | (go_simp; done) | (go_simp; rfl)) (by first | (go_simp; done) | (go_simp; rfl)) (one_nums _) ?_; intro w_ hs hgr; have n1_ := Aside0.mk (HB.out.grown hgr HB.out.size (fun k hk => by injection hk with hk; have := G2.out; have := G4.out; omega)); have n2_ := Aside0.mk (blk_grown H2.out hgr (fun e => by injection e with e; have := G4.out; omega)); clear HB H2 H4; have HB := n1_; have H2 := n2_; clear n1_ n2_ hgr; have H4 : Aside0 (w_.heap[g4_]? = some (.cells #[.int .i64 (n : Int), .int .i64 2, .int .i64 3, .int .i64 27, .int .i64 28, .int .i64 29, .int .i64 (q : Int), .int .i64 (lost : Int), .int .i64 (lb : Int), .int .i64 (root : Int), .int .i64 (data : Int), .int .i64 (n : Int), .int .i64 (p1 : Int), .int .i64 0, .int .i64 0, .int .i64 0] 26 (0, 0))) := ⟨hs⟩; clear hs) | ((with_reducible refine gate_store (t := 3) rfl ?_); refine store_at rfl _ _ _ rfl g4_ 13 26 _ (numsL [(l2 : Int)]) infoIntL H4.out (Nat.le_of_ble_eq_true rfl) (by first | (go_simp; done) | (go_simp; rfl)) (by first | (go_simp; done) | (go_simp; rfl)) (one_nums _) ?_; intro w_ hs hgr; have n1_ := Aside0.mk (HB.out.grown hgr HB.out.size (fun k hk => by injection hk with hk; have := G2.out; have := G4.out; omega)); have n2_ := Aside0.mk (blk_grown H2.out hgr (fun e => by injection e with e; have := G4.out; omega)); clear HB H2 H4; have HB := n1_; have H2 := n2_; clear n1_ n2_ hgr; have H4 : Aside0 (w_.heap[g4_]? = some (.cells #[.int .i64 (n : Int), .int .i64 2, .int .i64 3, .int .i64 27, .int .i64 28, .int .i64 29, .int .i64 (q : Int), .int .i64 (lost : Int), .int .i64 (lb : Int), .int .i64 (root : Int), .int .i64 (data : Int), .int .i64 (n : Int), .int .i64 (p1 : Int), .int .i64 (l2 : Int), .int .i64 0, .int .i64 0] 26 (0, 0))) := ⟨hs⟩; clear hs; have c12 : w_.cell? ⟨g4_, 12, none⟩ = some (.int .i64 (p1 : Int)) := (blk_cell H4.out 12).trans rfl; have c13 : w_.cell? ⟨g4_, 13, none⟩ = some (.int .i64 (l2 : Int)) := (blk_cell H4.out 13).trans rfl) | ((with_reducible refine gate_store (t := 3) rfl ?_); refine store_at rfl _ _ _ rfl g4_ 14 26 _ (numsL [(old : Int)]) infoIntL H4.out (Nat.le_of_ble_eq_true rfl) (by first | (go_simp; done) | (go_simp; rfl)) (by first | (go_simp; done) | (go_simp; rfl)) (one_nums _) ?_; intro w_ hs hgr; clear c12 c13; have n1_ := Aside0.mk (HB.out.grown hgr HB.out.size (fun k hk => by injection hk with hk; have := G2.out; have := G4.out; omega)); have n2_ := Aside0.mk (blk_grown H2.out hgr (fun e => by injection e with e; have := G4.out; omega)); clear HB H2 H4; have HB := n1_; have H2 := n2_; clear n1_ n2_ hgr; have H4 : Aside0 (w_.heap[g4_]? = some (.cells #[.int .i64 (n : Int), .int .i64 2, .int .i64 3, .int .i64 27, .int .i64 28, .int .i64 29, .int .i64 (q : Int), .int .i64 (lost : Int), .int .i64 (lb : Int), .int .i64 (root : Int), .int .i64 (data : Int), .int .i64 (n : Int), .int .i64 (p1 : Int), .int .i64 (l2 : Int), .int .i64 (old : Int), .int .i64 0] 26 (0, 0))) := ⟨hs⟩; clear hs; have c14 : w_.cell? ⟨g4_, 14, none⟩ = some (.int .i64 (old : Int)) := (blk_cell H4.out 14).trans rfl) | ((with_reducible refine gate_store (t := 3) rfl ?_); refine store_at rfl _ _ _ rfl g4_ 15 26 _ (numsL [(tot : Int)]) infoIntL H4.out (Nat.le_of_ble_eq_true rfl) (by first | (go_simp; done) | (go_simp; rfl)) (by first | (go_simp; done) | (go_simp; rfl)) (one_nums _) ?_; intro w_ hs hgr; clear c14; have n1_ := Aside0.mk (HB.out.grown hgr HB.out.size (fun k hk => by injection hk with hk; have := G2.out; have := G4.out; omega)); have n2_ := Aside0.mk (blk_grown H2.out hgr (fun e => by injection e with e; have := G4.out; omega)); clear HB H2 H4; have HB := n1_; have H2 := n2_; clear n1_ n2_ hgr; have H4 : Aside0 (w_.heap[g4_]? = some (.cells #[.int .i64 (n : Int), .int .i64 2, .int .i64 3, .int .i64 27, .int .i64 28, .int .i64 29, .int .i64 (q : Int), .int .i64 (lost : Int), .int .i64 (lb : Int), .int .i64 (root : Int), .int .i64 (data : Int), .int .i64 (n : Int), .int .i64 (p1 : Int), .int .i64 (l2 : Int), .int .i64 (old : Int), .int .i64 (tot : Int)] 26 (0, 0))) := ⟨hs⟩; clear hs; have c0 : w_.cell? ⟨g4_, 0, none⟩ = some (.int .i64 (n : Int)) := (blk_cell H4.out 0).trans rfl; have c1 : w_.cell? ⟨g4_, 1, none⟩ = some (.int .i64 2) := (blk_cell H4.out 1).trans rfl; have c2 : w_.cell? ⟨g4_, 2, none⟩ = some (.int .i64 3) := (blk_cell H4.out 2).trans rfl; have c3 : w_.cell? ⟨g4_, 3, none⟩ = some (.int .i64 27) := (blk_cell H4.out 3).trans rfl; have c4 : w_.cell? ⟨g4_, 4, none⟩ = some (.int .i64 28) := (blk_cell H4.out 4).trans rfl; have c5 : w_.cell? ⟨g4_, 5, none⟩ = some (.int .i64 29) := (blk_cell H4.out 5).trans rfl; have c6 : w_.cell? ⟨g4_, 6, none⟩ = some (.int .i64 (q : Int)) := (blk_cell H4.out 6).trans rfl; have c7 : w_.cell? ⟨g4_, 7, none⟩ = some (.int .i64 (lost : Int)) := (blk_cell H4.out 7).trans rfl; have c8 : w_.cell? ⟨g4_, 8, none⟩ = some (.int .i64 (lb : Int)) := (blk_cell H4.out 8).trans rfl; have c9 : w_.cell? ⟨g4_, 9, none⟩ = some (.int .i64 (root : Int)) := (blk_cell H4.out 9).trans rfl; have c10 : w_.cell? ⟨g4_, 10, none⟩ = some (.int .i64 (data : Int)) := (blk_cell H4.out 10).trans rfl; have c11 : w_.cell? ⟨g4_, 11, none⟩ = some (.int .i64 (n : Int)) := (blk_cell H4.out 11).trans rfl; have c12 : w_.cell? ⟨g4_, 12, none⟩ = some (.int .i64 (p1 : Int)) := (blk_cell H4.out 12).trans rfl; have c13 : w_.cell? ⟨g4_, 13, none⟩ = some (.int .i64 (l2 : Int)) := (blk_cell H4.out 13).trans rfl; have c14 : w_.cell? ⟨g4_, 14, none⟩ = some (.int .i64 (old : Int)) := (blk_cell H4.out 14).trans rfl; have c15 : w_.cell? ⟨g4_, 15, none⟩ = some (.int .i64 (tot : Int)) := (blk_cell H4.out 15).trans rfl) | ((with_reducible refine gate_store (t := 26) rfl ?_); refine store_at rfl _ _ _ rfl g2_ 0 26 _ (numsL [(n : Int), 2, 3, 27, 28, 29, (q : Int), (lost : Int), (lb : Int), (root : Int), (data : Int), (n : Int), (p1 : Int), (l2 : Int), (old : Int), (tot : Int)]) infoLay H2.out (Nat.le_of_ble_eq_true rfl) (by first | (go_simp; done) | (go_simp; rfl)) (by first | (go_simp; done) | (go_simp; rfl)) (one_nums _) ?_; intro w_ hs hgr; clear c0 c1 c2 c3 c4 c5 c6 c7 c8 c9 c10 c11 c12 c13 c14 c15; have n1_ := Aside0.mk (HB.out.grown hgr HB.out.size (fun k hk => by injection hk with hk; have := G2.out; omega)); clear HB H2 H4; have HB := n1_; have H2 : Aside0 (w_.heap[g2_]? = some (.cells (#[.int .i64 (n : Int), .int .i64 2, .int .i64 3, .int .i64 27, .int .i64 28, .int .i64 29, .int .i64 (q : Int), .int .i64 (lost : Int), .int .i64 (lb : Int), .int .i64 (root : Int), .int .i64 (data : Int), .int .i64 (n : Int), .int .i64 (p1 : Int), .int .i64 (l2 : Int), .int .i64 (old : Int), .int .i64 (tot : Int)] : Array Value) 26 (0, 0))) := ⟨hs⟩; clear n1_ hgr hs))
  (try simp only [Exit.inBlock, Exit.then])
  refine bodyPost_ret (results_ct rfl _ _ g2_ 26 (#[.int .i64 (n : Int), .int .i64 2, .int .i64 3, .int .i64 27, .int .i64 28, .int .i64 29, .int .i64 (q : Int), .int .i64 (lost : Int), .int .i64 (lb : Int), .int .i64 (root : Int), .int .i64 (data : Int), .int .i64 (n : Int), .int .i64 (p1 : Int), .int .i64 (l2 : Int), .int .i64 (old : Int), .int .i64 (tot : Int)] : Array Value) (0, 0) _ rfl H2.out hu26 rfl infoLay) rfl ?_
  exact ⟨by rw [HR.out]; rfl, HB.out⟩
end Go.Proofs.YtgpknomegleidaaGreatDoor.T
