/- A node's stat is stored in a row of the call's own. -/
import Derived.Test.YtkhblpmjmkhiiaaGreatDoorQH1
import Derived.Laws.RangeAny
import Derived.LoopTactic
import Derived.Test.YtkhblpmjmkhiiaaGreatDoorProg
import Derived.Ground.NamesProg
import Derived.Shelf.Strings.Split
import Derived.Ground.SlsfProg
import Derived.Shelf.SlGeneric
import Derived.Shelf.SlSortCmp.WholeK
import Derived.Deep.MidRow
import Derived.Maps.OwnOps
import Derived.Maps.OwnSet
import Derived.Maps.Views
import Derived.Shelf.SlSortCmp.NoneTotal
namespace Go.Proofs.YtkhblpmjmkhiiaaGreatDoor.T
open Go.RowKit Go.Proofs.YtkhblpmjmkhiiaaGreatDoorW.PrintWords Go.Proofs.YtkhblpmjmkhiiaaGreatDoorW.PrintLast Go.Proofs.YtkhblpmjmkhiiaaGreatDoorW.PrintMore Go.Proofs.YtkhblpmjmkhiiaaGreatDoor.PAll
set_option linter.unusedSimpArgs false
set_option linter.unusedVariables false
def NmRel (s : ByteArray) (pos : Nat) : Prop := pos ≤ s.size ∧ ((pb s).take pos).all okB = true
theorem NmRel.zero (s : ByteArray) : NmRel s 0 := ⟨Nat.zero_le _, Z23⟩
theorem pb_at {s : ByteArray} {pos : Nat} (hp : pos < s.size) : (pb s).getD pos 0 = s[pos]'hp := by
 have hl : pos < (pb s).length := by rw [pb_len]; exact hp
 rw [List.getD_eq_getElem?_getD, List.getElem?_eq_getElem hl]
 simp [pb]
 rfl
theorem NmRel.step {s : ByteArray} {pos : Nat} (h : NmRel s pos) (hp : pos < s.size) (hk : okB ((pb s).getD pos 0) = true) : NmRel s (pos + 1) := by
 refine ⟨hp, ?_⟩
 rw [List.take_add_one, List.all_append, h.2, Bool.true_and]
 have hl : pos < (pb s).length := by rw [pb_len]; exact hp
 rw [List.getD_eq_getElem?_getD, List.getElem?_eq_getElem hl] at hk
 rw [List.getElem?_eq_getElem hl]
 simpa using hk
theorem nm_bad {s : ByteArray} {pos : Nat} (hp : pos < s.size) (hk : okB ((pb s).getD pos 0) = false) : (pb s).all okB = false := by
 have hl : pos < (pb s).length := by rw [pb_len]; exact hp
 rw [List.getD_eq_getElem?_getD, List.getElem?_eq_getElem hl] at hk
 rw [Bool.eq_false_iff]
 intro e
 have := List.all_eq_true.1 e _ (List.getElem_mem hl)
 simp_all
theorem nm_next {s : ByteArray} {pos : Nat} (hp : pos < s.size) : ∃ c wd : Nat, Utf8.decode s pos = (c, wd) ∧ 1 ≤ wd ∧
  ((c = ((pb s).getD pos 0).toNat ∧ wd = 1) ∨ (128 ≤ c ∧ 128 ≤ ((pb s).getD pos 0).toNat)) := by
 rw [pb_at hp]
 by_cases ha : (s[pos]'hp).toNat < 128
 ·
  exact ⟨_, 1, decode_ascii s pos hp ha, Nat.le_refl _, .inl ⟨rfl, rfl⟩⟩
 ·
  obtain ⟨h1, h2⟩ := decode_high s pos hp Z3
  exact ⟨_, _, rfl, h2, .inr ⟨h1, Z3⟩⟩
theorem nm_b47 {b : UInt8} (h : b.toNat = 47) : b = 47 := UInt8.toNat_inj.1 (by rw [h]; rfl)
theorem nm_no {b : UInt8} {c wd : Nat} (h : (c = b.toNat ∧ wd = 1) ∨ (128 ≤ c ∧ 128 ≤ b.toNat)) (hb : c < 33 ∨ 126 < c ∨ c = 47) : okB b = false := by
 rw [Bool.eq_false_iff]
 intro e
 simp only [okB, Bool.and_eq_true, decide_eq_true_eq] at e
 have : ¬ b.toNat = 47 := fun q => e.2 (nm_b47 q)
 omega
theorem nm_yes {b : UInt8} {c wd : Nat} (h : (c = b.toNat ∧ wd = 1) ∨ (128 ≤ c ∧ 128 ≤ b.toNat)) (h1 : ¬ c < 33) (h2 : ¬ 126 < c) (h3 : ¬ c = 47) : okB b = true ∧ wd = 1 := by
 have hc : c = b.toNat ∧ wd = 1 := by omega
 refine ⟨?_, hc.2⟩
 simp only [okB, Bool.and_eq_true, decide_eq_true_eq]
 refine ⟨⟨Z3, Z3⟩, fun e => h3 ?_⟩
 rw [hc.1, e]
 rfl
theorem nm_end {s : ByteArray} {pos : Nat} (h : NmRel s pos) (hp : ¬ pos < s.size) : (pb s).all okB = true := by
 have := h.2
 rwa [List.take_of_length_le Z37] at this
def nmOdd (s : ByteArray) : Bool := (s.toList == ([] : List UInt8)) || (s.toList == ([46] : List UInt8)) || (s.toList == ([46, 46] : List UInt8))
theorem nameE_odd {s : ByteArray} (h : ¬ (s.size : Int) > 19) (ho : nmOdd s = true) : nameE (pb s) = 40 := by
 unfold nameE
 unfold nmOdd at ho
 simp only [toL, Bool.or_eq_true, beq_iff_eq] at ho
 rw [if_neg Z37, if_pos (by rcases ho with (e | e) | e; exact .inl e; exact .inr (.inl e); exact .inr (.inr e))]
theorem nameE_even {s : ByteArray} (h : ¬ (s.size : Int) > 19) (ho : nmOdd s = false) : nameE (pb s) = if (pb s).all okB then 0 else 40 := by
 unfold nameE
 have ho : ¬ nmOdd s = true := by rw [ho]; decide
 unfold nmOdd at ho
 simp only [toL, Bool.or_eq_true, beq_iff_eq] at ho
 rw [if_neg Z37, if_neg (by rintro (e | e | e); exact ho (.inl (.inl e)); exact ho (.inl (.inr e)); exact ho (.inr e))]
set_option maxHeartbeats 4000000 in
set_option maxRecDepth 100000 in
theorem name_c (s : ByteArray) (r : Int) (w : World) (h : nameE (pb s) = r) :
  Calls Tryz.prog 75 #[.string s] w fun e w' => e = .returned (.int .i64 r) ∧ Below w.heap.size w w' := by
 have HR := Aside0.mk h
 clear h
 by_cases c2 : (s.size : Int) > 19
 ·
  have c2b0 : decide (19 < (s.size : Int)) = true := decide_eq_true c2
  have c2b1 : decide (19 < s.size) = true := decide_eq_true Z3
  have e4 : r = 4 := by rw [← HR.out]; unfold nameE; rw [if_pos Z37]
  clear HR c2
  subst e4
  go_enter Tryz.func75, Tryz.ntmps75
  go_wp2
  go_ret
  exact ⟨rfl, Below.refl _ _⟩
 ·
  have c2b0 : decide (19 < (s.size : Int)) = false := decide_eq_false c2
  have c2b1 : decide (19 < s.size) = false := decide_eq_false Z3
  have HS := Aside0.mk c2
  clear c2
  go_enter Tryz.func75, Tryz.ntmps75
  go_upto_region 3 with (fail)
  go_cut [17] (fun v17 wc => v17 = .bool (nmOdd s) ∧ Aside0 (Drawn0 w wc))
  case first =>
   by_cases c4 : s.toList = ([] : List UInt8)
   ·
    have c4b0 : (s.toList == ([] : List UInt8)) = true := beq_iff_eq.mpr c4
    have HO := Aside0.mk (show nmOdd s = true by unfold nmOdd; rw [c4b0]; rfl)
    clear c4
    (first | rw [c4b0] | (simp only [i64_w, i32_w]; rw [c4b0]) | skip)
    go_wp2
    go_meet
    case rel => exact ⟨by rw [HO.out], ⟨Z9⟩⟩
   ·
    have c4b0 : (s.toList == ([] : List UInt8)) = false := beq_eq_false_iff_ne.mpr c4
    clear c4
    (first | rw [c4b0] | (simp only [i64_w, i32_w]; rw [c4b0]) | skip)
    by_cases c5 : s.toList = ([46] : List UInt8)
    ·
     have c5b0 : (s.toList == ([46] : List UInt8)) = true := beq_iff_eq.mpr c5
     have HO := Aside0.mk (show nmOdd s = true by unfold nmOdd; rw [c4b0, c5b0]; rfl)
     clear c5
     go_wp2
     go_meet
     case rel => exact ⟨by rw [HO.out], ⟨Z9⟩⟩
    ·
     have c5b0 : (s.toList == ([46] : List UInt8)) = false := beq_eq_false_iff_ne.mpr c5
     have HO := Aside0.mk (show nmOdd s = (s.toList == ([46, 46] : List UInt8)) by unfold nmOdd; rw [c4b0, c5b0]; rfl)
     clear c5
     go_wp2
     go_meet
     case rel => exact ⟨by rw [HO.out], ⟨Z9⟩⟩
  case rest =>
   obtain ⟨rfl, HD⟩ := hcut
   obtain ⟨⟨mc, rfl⟩⟩ := HD
   cases ho : nmOdd s with
   | true =>
    have e4 : r = 40 := by rw [← HR.out]; exact nameE_odd HS.out ho
    clear HR HS
    subst e4
    go_wp2
    go_ret
    exact ⟨rfl, Z41⟩
   | false =>
    have HE := Aside0.mk (show r = if (pb s).all okB then 0 else 40 by rw [← HR.out]; exact nameE_even HS.out ho)
    clear HR HS
    have HB : Aside0 (Below w.heap.size w (w.drewN mc)) := ⟨Z41⟩
    generalize w.drewN mc = w1 at HB ⊢
    clear ho c2b0 c2b1
    go_wp2
    go_loopw [] (fun w' => ∃ pos, w' = w1.iter s pos ∧ Aside0 (NmRel s pos)) (fun w' => s.size - w'.iterPos w1.heap.size)
    case atStart => exact ⟨0, rfl, ⟨NmRel.zero s⟩⟩
    case round =>
     obtain ⟨pos, rfl, HN⟩ := hrel
     by_cases hp : pos < s.size
     ·
      have HP := Aside0.mk hp
      obtain ⟨c, wd, hd, hw, hc⟩ := nm_next hp
      have HW := Aside0.mk hw
      have HC := Aside0.mk hc
      have hnx : ∀ ty, (Instr.next (.pointer (some ⟨w1.heap.size, 0, none⟩)) true ty).run Tryz.prog (w1.iter s pos) = .ok (.tuple #[.bool true, .int .i64 pos, .int .i32 c]) (w1.iter s (pos + wd)) := fun ty => by rw [run_next_any w1 s pos ty hp, hd]
      clear hp hw hc hd
      by_cases h1 : (c : Int) < 33
      ·
       have b1 : decide ((c : Int) < 33) = true := decide_eq_true h1
       have HX : Aside0 (c < 33 ∨ 126 < c ∨ c = 47) := ⟨Z3⟩
       clear h1
       go_wp2
       go_ret
       exact ⟨by rw [HE.out, nm_bad HP.out (nm_no HC.out HX.out)]; rfl, HB.out.alloc HB.out.size _⟩
      ·
       have b1 : decide ((c : Int) < 33) = false := decide_eq_false h1
       have N1 : Aside0 (¬ c < 33) := ⟨Z3⟩
       clear h1
       by_cases h2 : 126 < (c : Int)
       ·
        have b2 : decide (126 < (c : Int)) = true := decide_eq_true h2
        have HX : Aside0 (c < 33 ∨ 126 < c ∨ c = 47) := ⟨Z3⟩
        clear h2
        go_wp2
        go_ret
        exact ⟨by rw [HE.out, nm_bad HP.out (nm_no HC.out HX.out)]; rfl, HB.out.alloc HB.out.size _⟩
       ·
        have b2 : decide (126 < (c : Int)) = false := decide_eq_false h2
        have N2 : Aside0 (¬ 126 < c) := ⟨Z3⟩
        clear h2
        by_cases h3 : (c : Int) = 47
        ·
         have b3 : ((c : Int) == 47) = true := beq_iff_eq.2 h3
         have HX : Aside0 (c < 33 ∨ 126 < c ∨ c = 47) := ⟨Z3⟩
         clear h3
         go_wp2
         go_ret
         exact ⟨by rw [HE.out, nm_bad HP.out (nm_no HC.out HX.out)]; rfl, HB.out.alloc HB.out.size _⟩
        ·
         have b3 : ((c : Int) == 47) = false := beq_eq_false_iff_ne.2 h3
         have N3 : Aside0 (¬ c = 47) := ⟨Z3⟩
         clear h3
         go_wp2
         have hy := nm_yes HC.out N1.out N2.out N3.out
         go_roundw
         case rel => exact ⟨_, rfl, ⟨by rw [hy.2]; exact HN.out.step HP.out hy.1⟩⟩
         case measure =>
          have := HP.out
          have := HW.out
          simp
          omega
     ·
      have hnx : ∀ ty, (Instr.next (.pointer (some ⟨w1.heap.size, 0, none⟩)) true ty).run Tryz.prog (w1.iter s pos) = _ := fun ty => run_next_end w1 s pos ty hp
      have HP := Aside0.mk hp
      clear hp
      go_wp2
      go_ret
      exact ⟨by rw [HE.out, nm_end HN.out HP.out]; rfl, HB.out.alloc HB.out.size _⟩
end Go.Proofs.YtkhblpmjmkhiiaaGreatDoor.T
namespace Go.Proofs
open Go.Shelf
def Tryz.laysSplit_ren : Go.Shelf.Ren := ⟨fun | 146 => 74 | 221 => 93 | 268 => 103 | 138 => 104 | 143 => 105 | 195 => 107 | 197 => 108 | 218 => 109 | 219 => 110 | 260 => 111 | 217 => 112 | 225 => 113 | 224 => 114 | 267 => 115 | 266 => 116 | 314 => 117 | n => n, fun | 9 => 9 | 31 => 72 | 3 => 3 | 4 => 4 | 0 => 0 | 105 => 148 | 21 => 21 | 5 => 5 | 46 => 85 | 119 => 150 | 139 => 153 | 138 => 152 | 146 => 154 | 51 => 104 | n => n, fun | 1 => 0 | 3 => 1 | 4 => 2 | n => n⟩
theorem Tryz.laysSplit : Go.Proofs.Lays.n146 Tryz.prog Tryz.laysSplit_ren := {
 mixed := by kernel_rfl
 f138 := Tryz.func104.trans (congrArg some (by kernel_rfl))
 f143 := Tryz.func105.trans (congrArg some (by kernel_rfl))
 f146 := Tryz.func74.trans (congrArg some (by kernel_rfl))
 f195 := Tryz.func107.trans (congrArg some (by kernel_rfl))
 f197 := Tryz.func108.trans (congrArg some (by kernel_rfl))
 f217 := Tryz.func112.trans (congrArg some (by kernel_rfl))
 f218 := Tryz.func109.trans (congrArg some (by kernel_rfl))
 f219 := Tryz.func110.trans (congrArg some (by kernel_rfl))
 f221 := Tryz.func93.trans (congrArg some (by kernel_rfl))
 f224 := Tryz.func114.trans (congrArg some (by kernel_rfl))
 f225 := Tryz.func113.trans (congrArg some (by kernel_rfl))
 f260 := Tryz.func111.trans (congrArg some (by kernel_rfl))
 f266 := Tryz.func116.trans (congrArg some (by kernel_rfl))
 f267 := Tryz.func115.trans (congrArg some (by kernel_rfl))
 f268 := Tryz.func103.trans (congrArg some (by kernel_rfl))
 f314 := Tryz.func117.trans (congrArg some (by kernel_rfl))
 t0 := Tryz.underlying0
 a0 := Tryz.isAgg0
 z0 := Tryz.sizeOf0
 v0 := Tryz.zeroValue0
 t3 := Tryz.underlying3
 a3 := Tryz.isAgg3
 z3 := Tryz.sizeOf3
 v3 := Tryz.zeroValue3
 t4 := Tryz.underlying4
 a4 := Tryz.isAgg4
 z4 := Tryz.sizeOf4
 v4 := Tryz.zeroValue4
 t5 := Tryz.underlying5
 a5 := Tryz.isAgg5
 z5 := Tryz.sizeOf5
 v5 := Tryz.zeroValue5
 t9 := Tryz.underlying9
 a9 := Tryz.isAgg9
 z9 := Tryz.sizeOf9
 v9 := Tryz.zeroValue9
 t21 := Tryz.underlying21
 a21 := Tryz.isAgg21
 z21 := Tryz.sizeOf21
 v21 := Tryz.zeroValue21
 t31 := Tryz.underlying72
 a31 := Tryz.isAgg72
 z31 := Tryz.sizeOf72
 v31 := Tryz.zeroValue72
 t46 := Tryz.underlying85
 a46 := Tryz.isAgg85
 z46 := Tryz.sizeOf85
 v46 := Tryz.zeroValue85
 t51 := Tryz.underlying104
 a51 := Tryz.isAgg104
 z51 := Tryz.sizeOf104
 v51 := Tryz.zeroValue104
 t105 := Tryz.underlying148
 a105 := Tryz.isAgg148
 z105 := Tryz.sizeOf148
 v105 := Tryz.zeroValue148
 t119 := Tryz.underlying150
 a119 := Tryz.isAgg150
 z119 := Tryz.sizeOf150
 t138 := Tryz.underlying152
 a138 := Tryz.isAgg152
 z138 := Tryz.sizeOf152
 v138 := Tryz.zeroValue152
 t139 := Tryz.underlying153
 a139 := Tryz.isAgg153
 z139 := Tryz.sizeOf153
 v139 := Tryz.zeroValue153
 t146 := Tryz.underlying154
 a146 := Tryz.isAgg154
 z146 := Tryz.sizeOf154
 v146 := Tryz.zeroValue154
 g1 := by kernel_rfl
 g3 := by kernel_rfl
 g4 := by kernel_rfl }
end Go.Proofs
namespace Go.Proofs.YtkhblpmjmkhiiaaGreatDoor.T
open Go.RowKit Go.Proofs.YtkhblpmjmkhiiaaGreatDoorW.PrintWords Go.Proofs.YtkhblpmjmkhiiaaGreatDoorW.PrintLast Go.Proofs.YtkhblpmjmkhiiaaGreatDoorW.PrintMore Go.Proofs.YtkhblpmjmkhiiaaGreatDoor.PAll
set_option linter.unusedSimpArgs false
set_option linter.unusedVariables false
theorem splitK_cutW : ∀ (s : List UInt8), ∃ h t, Lib.splitK [47] 0 (s.count 47) s = h :: t ∧ ∀ cur, cutW cur s = (cur ++ h) :: t
 | [] => ⟨[], [], rfl, fun cur => by simp [cutW]⟩
 | b :: r => by
  obtain ⟨h, t, e, hc⟩ := splitK_cutW r
  by_cases hb : b = 47
  ·
   subst hb
   refine ⟨[], h :: t, ?_, fun cur => ?_⟩
   ·
    rw [List.count_cons_self, Lib.splitK]
    have hi : Lib.index (47 :: r) [47] = 0 := by simp [Lib.index]
    rw [hi]
    simp only [show ((0 : Int) == -1) = false from rfl, Bool.false_eq_true, if_false]
    simpa using e
   ·
    rw [cutW, if_pos rfl, hc []]
    simp
  ·
   refine ⟨b :: h, t, ?_, fun cur => ?_⟩
   ·
    rw [List.count_cons_of_ne (fun e => hb e)]
    have hi : Lib.index (b :: r) [47] = if Lib.index r [47] == -1 then -1 else Lib.index r [47] + 1 := by
     have : (47 == b) = false := by simpa using fun e : (47 : UInt8) = b => hb e.symm
     rw [Lib.index]
     have h2 : List.isPrefixOf [47] (b :: r) = false := by rw [List.isPrefixOf, this, Bool.false_and]
     rw [h2]
     simp only [Bool.false_eq_true, if_false]
    cases hk : r.count 47 with
    | zero =>
     rw [hk] at e
     simp only [Lib.splitK, List.cons.injEq] at e ⊢
     exact ⟨⟨trivial, e.1⟩, e.2⟩
    | succ k =>
     rw [hk] at e
     rw [Lib.splitK, hi]
     rw [Lib.splitK] at e
     by_cases hm : (Lib.index r [47] == -1) = true
     ·
      rw [if_pos hm] at e
      simp only [hm, if_true, beq_self_eq_true]
      simp only [List.cons.injEq] at e ⊢
      exact ⟨⟨trivial, e.1⟩, e.2⟩
     ·
      rw [if_neg hm] at e
      have hge : 0 ≤ Lib.index r [47] := by
       have := Lib.indexByte_ge r 47
       rw [← Lib.index_one] at this
       have : ¬ Lib.index r [47] = -1 := by simpa using hm
       omega
      obtain ⟨n, hn⟩ : ∃ n : Nat, Lib.index r [47] = n := ⟨(Lib.index r [47]).toNat, Z3⟩
      rw [hn] at e
      simp only [Bool.not_eq_true] at hm
      have hm2 : ((n : Int) == -1) = false := by rw [← hn]; exact hm
      have hm3 : ((n : Int) + 1 == -1) = false := by simp; omega
      simp only [hn, hm2, hm3, Bool.false_eq_true, if_false]
      have e1 : ((n : Int) + 1).toNat = n + 1 := by omega
      rw [e1]
      simp only [Int.toNat_natCast, Nat.add_zero, List.length_cons, List.length_nil, Nat.zero_add, List.cons.injEq] at e ⊢
      refine ⟨by rw [List.take_succ_cons, e.1], ?_⟩
      rw [List.drop_succ_cons]
      exact e.2
   ·
    rw [cutW, if_neg hb, hc]
    simp
def pcs (s : ByteArray) : List ByteArray := Lib.splitB ⟨#[47]⟩ 0 (Lib.countB s ⟨#[47]⟩) s
theorem pcs_cut (s : ByteArray) : (pcs s).map pb = cutW [] (pb s) := by
 have h1 : (pcs s).map pb = Lib.splitK [47] 0 (Lib.countB s ⟨#[47]⟩) (pb s) := Lib.splitB_data ⟨#[47]⟩ 0 _ s
 have h2 : Lib.countB s ⟨#[47]⟩ = (pb s).count 47 := Lib.count_one 47 (pb s)
 rw [h1, h2]
 obtain ⟨h, t, e, hc⟩ := splitK_cutW (pb s)
 rw [e, hc []]
 rfl
theorem pcs_len (s : ByteArray) : (pcs s).length = Lib.countB s ⟨#[47]⟩ + 1 := Lib.splitB_all ⟨#[47]⟩ (Nat.le_refl _) 0 _ s rfl
theorem countB_le (s : ByteArray) : Lib.countB s ⟨#[47]⟩ ≤ s.size := Lib.countB_le ⟨#[47]⟩ (Nat.le_refl _) _ s (Nat.le_refl _)
def Tab (w : World) : Prop := ∃ m, w.cell? ⟨0, 0, none⟩ = some (.int .i64 m)
theorem Tab.below {w w' : World} (h : Tab w) (k : Below w.heap.size w w') : Tab w' := by
 obtain ⟨m, hm⟩ := h
 exact ⟨m, (k.cell (World.block_lt_of_cell? w _ hm)).trans hm⟩
def SpRet (r : Int) (w : World) (e : Ending) (w' : World) : Prop := (∃ v, e = .returned (.tuple #[v, .int .i64 r])) ∧ Below w.heap.size w w'
theorem splitB_c (s : ByteArray) (m : Int) (w : World) (hs : s.size < 4294967281) (hm : w.cell? ⟨0, 0, none⟩ = some (.int .i64 m)) :
  Calls Tryz.prog 74 #[.string s, .string ⟨#[47]⟩] w fun e w' =>
   e = .returned (.slice (some ⟨w.heap.size, 0, none⟩) (Lib.countB s ⟨#[47]⟩ + 1) (Lib.countB s ⟨#[47]⟩ + 1)) ∧ w' = w.alloc (.cells ((pcs s).map Value.string).toArray 9) :=
 Any.strings_Split Tryz.laysSplit Z13 s ⟨#[47]⟩ m w hs hm (Nat.le_refl _)
theorem bnd_c (s : ByteArray) (w : World) (hT : Aside0 (Tab w)) (hs : Aside0 (s.size < 4294967281)) :
  Calls Tryz.prog 74 #[.string s, .string ⟨#[47]⟩] w fun e w' => ∃ n : Nat, e = .returned (.slice (some ⟨w.heap.size, 0, none⟩) n n) ∧ Aside0 (n = (pcs s).length) ∧ Aside0 (n < 4294967291) ∧ Aside0 (Below w.heap.size w w') ∧
   Aside0 (∀ i (h : i < (pcs s).length), w'.cell? ⟨w.heap.size, i, none⟩ = some (.string (pcs s)[i])) := by
 obtain ⟨m, hm⟩ := hT.out
 refine (splitB_c s m w hs.out hm).mono ?_
 rintro e w' ⟨rfl, rfl⟩
 refine ⟨_, rfl, ⟨(pcs_len s).symm⟩, ⟨?_⟩, ⟨below_alloc (Below.refl _ _) _⟩, ⟨fun i hi => ?_⟩⟩
 ·
  have := countB_le s
  have := hs.out
  omega
 ·
  rw [World.cell?_alloc_new]
  simp [hi]
theorem split_big {s : ByteArray} (h : (s.size : Int) > 255) : splitE (pb s) = 4 := by
 unfold splitE
 rw [if_pos Z37]
theorem split_none {s : ByteArray} (h : s.toList = []) : splitE (pb s) = 40 := by
 rw [toL] at h
 rw [h]
 rfl
theorem split_odd {s : ByteArray} (h : ¬ (s.size : Int) > 255) (h0 : 0 < s.size) (hb : (bt s 0 != 47) = true) : splitE (pb s) = 40 := by
 unfold splitE
 rw [if_neg Z37]
 have h1 := bt_pb (s := s) (i := 0) h0
 cases hp : pb s with
 | nil => rfl
 | cons b t =>
  rw [hp] at h1
  have h2 : bt s 0 = (b.toNat : Int) := h1
  simp only
  rw [if_pos (by rintro rfl; rw [h2] at hb; exact absurd hb Z11)]
theorem split_root {s : ByteArray} (h : s.toList = [47]) : splitE (pb s) = 0 := by
 rw [toL] at h
 rw [h]
 rfl
theorem split_pcs {s : ByteArray} (h : ¬ (s.size : Int) > 255) (h0 : 0 < s.size) (hb : (bt s 0 != 47) = false) (hr : ¬ s.toList = [47]) : splitE (pb s) = namesE ((pcs (s.extract 1 s.size)).map pb) := by
 rw [pcs_cut, pb_ext]
 unfold splitE
 rw [if_neg Z37]
 have h1 := bt_pb (s := s) (i := 0) h0
 have hsz := pb_len s
 rw [toL] at hr
 cases hp : pb s with
 | nil => rw [hp] at hsz; simp at hsz; omega
 | cons b t =>
  rw [hp] at h1 hr hsz
  have h2 : bt s 0 = (b.toNat : Int) := h1
  have hb47 : b = 47 := by
   rw [h2] at hb
   have hb2 : (b.toNat : Int) = 47 := by simpa using hb
   exact nm_b47 Z3
  subst hb47
  have ht : ¬ t = [] := by rintro rfl; exact hr rfl
  simp only [ne_eq, not_true_eq_false, if_false, ht]
  rw [List.extract_eq_take_drop, List.drop_succ_cons, List.drop_zero, List.take_of_length_le (by simp at hsz; omega)]
theorem namesE_step {l : List (List UInt8)} {i : Nat} (h : i < l.length) : namesE (l.drop i) = if nameE l[i] = 0 then namesE (l.drop (i + 1)) else nameE l[i] := by
 rw [List.drop_eq_getElem_cons h, namesE]
set_option maxHeartbeats 4000000 in
set_option maxRecDepth 100000 in
theorem split_c (s : ByteArray) (r : Int) (w : World) (hT : Tab w) (h : splitE (pb s) = r) :
  Calls Tryz.prog 55 #[.string s] w fun e w' => SpRet r w e w' := by
 have HR := Aside0.mk h
 have HT := Aside0.mk hT
 clear h hT
 by_cases c2 : (s.size : Int) > 255
 ·
  have c2b0 : decide (255 < (s.size : Int)) = true := decide_eq_true c2
  have c2b1 : decide (255 < s.size) = true := decide_eq_true Z3
  have e4 : r = 4 := by rw [← HR.out]; exact split_big c2
  clear HR c2
  subst e4
  go_enter Tryz.func55, Tryz.ntmps55
  go_wp2
  go_ret2
  exact ⟨⟨_, rfl⟩, Below.refl _ _⟩
 ·
  have c2b0 : decide (255 < (s.size : Int)) = false := decide_eq_false c2
  have c2b1 : decide (255 < s.size) = false := decide_eq_false Z3
  have HS := Aside0.mk c2
  clear c2
  by_cases c4 : s.toList = ([] : List UInt8)
  ·
   have c4b0 : (s.toList == ([] : List UInt8)) = true := beq_iff_eq.mpr c4
   have e4 : r = 40 := by rw [← HR.out]; exact split_none c4
   clear HR c4
   subst e4
   go_enter Tryz.func55, Tryz.ntmps55
   go_wp2
   go_ret2
   exact ⟨⟨_, rfl⟩, Z41⟩
  ·
   have c4b0 : (s.toList == ([] : List UInt8)) = false := beq_eq_false_iff_ne.mpr c4
   have h0 : 0 < s.size := by
    rw [toL] at c4
    have := pb_len s
    cases hp : pb s with
    | nil => exact absurd hp c4
    | cons b t => rw [hp] at this; simp at this; omega
   clear c4
   go_enter Tryz.func55, Tryz.ntmps55
   have H0 := Aside0.mk h0
   go_upto_region 3 with (fail)
   go_cut [17] (fun v17 wc => v17 = .bool (bt s 0 != 47) ∧ Aside0 (Drawn0 w wc))
   case first =>
    have c5b0 : decide (0 < (s.size : Int)) = true := decide_eq_true (by have := H0.out; omega)
    have c5b1 : decide (0 < s.size) = true := decide_eq_true H0.out
    have hx6 : ∀ h : 0 < s.size, ((s[0]'h).toNat : Int) = bt s 0 := bt_at s 0
    have qi6 : (0 < (s.size : Int)) = True := eq_true (by have := H0.out; omega)
    have q6 : (0 < s.size) = True := eq_true H0.out
    clear h0
    go_wp2
    go_meet
    case rel => exact ⟨rfl, ⟨Z9⟩⟩
   case rest =>
    obtain ⟨rfl, HD⟩ := hcut
    obtain ⟨⟨mc, rfl⟩⟩ := HD
    have HB : Aside0 (Below w.heap.size w (w.drewN mc)) := ⟨Z41⟩
    have HT1 := Aside0.mk (HT.out.below HB.out)
    generalize w.drewN mc = w1 at HB HT1 ⊢
    clear h0 c4b0
    cases hb : (bt s 0 != 47) with
    | true =>
     have e4 : r = 40 := by rw [← HR.out]; exact split_odd HS.out H0.out hb
     clear HR HS H0 hb
     subst e4
     go_wp2
     go_ret2
     exact ⟨⟨_, rfl⟩, HB.out⟩
    | false =>
     by_cases c6 : s.toList = ([47] : List UInt8)
     ·
      have c6b0 : (s.toList == ([47] : List UInt8)) = true := beq_iff_eq.mpr c6
      have e4 : r = 0 := by rw [← HR.out]; exact split_root c6
      clear HR HS H0 hb c6
      subst e4
      go_wp2
      go_ret2
      exact ⟨⟨_, rfl⟩, HB.out⟩
     ·
      have c6b0 : (s.toList == ([47] : List UInt8)) = false := beq_eq_false_iff_ne.mpr c6
      have HE := Aside0.mk (show r = namesE ((pcs (s.extract 1 s.size)).map pb) by rw [← HR.out]; exact split_pcs HS.out H0.out hb c6)
      have HX := Aside0.mk (show (s.extract 1 s.size).size < 4294967281 by
       have := HS.out
       simp [ByteArray.size_extract]
       omega)
      have s1 : decide ((1 : Int) ≤ (s.size : Int)) = true := decide_eq_true (by have := H0.out; omega)
      have s2 : (1 ≤ s.size) = True := eq_true H0.out
      have s3 : ((1 : Int) ≤ (s.size : Int)) = True := eq_true (by have := H0.out; omega)
      have hcon := bnd_c (s.extract 1 s.size) w1 HT1 HX
      have HCON := Aside0.mk hcon
      clear HR HS H0 hb c6 hcon c2b0 c2b1
      go_wp2_with fail
      refine HCON.out.mono ?_
      rintro e w2 ⟨n, rfl, HL, HN, HB2, HC⟩
      have HB3 := Aside0.mk (below_then HB.out HB.out.size HB2.out)
      clear HCON s1 s2 s3 c6b0 HX HT1 HT
      generalize pcs (s.extract 1 s.size) = ps at HE HL HC
      generalize w1.heap.size = bk at HC ⊢
      go_wp2_with fail
      go_loopw [25] (fun i wr => ∃ k : Nat, k ≤ n ∧ i = .int .i64 k ∧ Aside0 (r = namesE ((ps.map pb).drop k)) ∧ Aside0 (Below w2.heap.size w2 wr)) (fun i _ => n - (intOf i).toNat)
      case atStart => exact ⟨0, Z3, rfl, ⟨by rw [HE.out, List.drop_zero]⟩, ⟨Below.refl _ _⟩⟩
      case round =>
       obtain ⟨k, hk, rfl, HE2, HB4⟩ := hrel
       have HN' := HN.out
       by_cases hkn : k < n
       ·
        have hkl : k < ps.length := by rw [← HL.out]; exact hkn
        have hc := HC.out k hkl
        have hc2 := (HB4.out.cell (World.block_lt_of_cell? w2 _ hc)).trans hc
        have hnm := fun W => name_c ps[k] (nameE (pb ps[k])) W rfl
        have HNM := Aside0.mk hnm
        have HSt := Aside0.mk (namesE_step (l := ps.map pb) (i := k) (by simpa using hkl))
        clear hc hnm
        generalize hx : ps[k] = x at hc2 HNM
        have HX := Aside0.mk hx
        clear hx
        go_wp2_with fail
        refine (HNM.out _).mono ?_
        rintro e w4 ⟨rfl, hb5⟩
        have HB5 := Aside0.mk (below_then HB4.out HB4.out.size hb5)
        clear hb5 hc2 HNM
        by_cases hz : nameE (pb x) = 0
        ·
         have z1 : (nameE (pb x) != 0) = false := by simpa using hz
         have HZ := Aside0.mk hz
         clear hz
         go_wp2_with fail
         go_roundw
         case rel => exact ⟨k + 1, Z3, by go_num, ⟨by
          have := HSt.out
          rw [List.getElem_map, HX.out, if_pos HZ.out] at this
          rw [HE2.out, this]⟩, HB5⟩
         case measure => simp [intOf]; omega
        ·
         have z1 : (nameE (pb x) != 0) = true := by simpa using hz
         have HZ := Aside0.mk hz
         clear hz
         have er : r = nameE (pb x) := by
          have := HSt.out
          rw [List.getElem_map, HX.out, if_neg HZ.out] at this
          rw [HE2.out, this]
         clear HE2 HE HSt
         subst er
         go_wp2_with fail
         go_ret2
         exact ⟨⟨_, rfl⟩, below_then HB3.out HB3.out.size HB5.out⟩
       ·
        have hkn' : k = n := by omega
        subst hkn'
        have er : r = 0 := by
         rw [HE2.out, List.drop_eq_nil_of_le (by rw [List.length_map, ← HL.out]; exact Nat.le_refl _)]
         rfl
        clear HE2 HE
        subst er
        go_wp2_with fail
        go_ret2
        exact ⟨⟨_, rfl⟩, below_then HB3.out HB3.out.size HB4.out⟩
set_option maxHeartbeats 4000000 in
set_option maxRecDepth 100000 in
theorem may_c (n : S38) (r : Bool) (w : World) (hT : Tab w) (h : mayN n = r) :
  Calls Tryz.prog 29 #[.agg #[.string n.f0, .int .i64 n.f1.f0, .int .i64 n.f1.f1, .int .i64 n.f1.f2, .int .i64 n.f1.f3, .int .i64 n.f1.f4, .string n.f2]] w fun e w' => e = .returned (.bool r) ∧ Below w.heap.size w w' := by
 have hu46 := Tryz.underlying38
 have hu44 := Tryz.underlying36
 have HB := Aside0.mk (Below.refl w.heap.size w)
 have HT := Aside0.mk hT
 have HR : Aside0 ((if splitE (pb n.f0) = 0 then if n.f1.f2 = 2 then decide (pb n.f2 = []) else if n.f1.f2 = 1 ∧ (pb n.f2).length ≤ 5675264 then true else if n.f1.f2 = 3 then decide (splitE (pb n.f2) = 0) else false else false) = r) := ⟨h⟩
 clear h hT
 obtain ⟨p, i, g, kd, lk, sz, d, hn⟩ : ∃ p i g kd lk sz d, n = ⟨p, ⟨i, g, kd, lk, sz⟩, d⟩ := ⟨n.f0, n.f1.f0, n.f1.f1, n.f1.f2, n.f1.f3, n.f1.f4, n.f2, rfl⟩
 subst hn
 simp only at HR ⊢
 go_enter Tryz.func29, Tryz.ntmps29
 go_wp2_with (first | ((with_reducible refine gate_dst (N := 1) rfl ?_); (try (refine gate_guard (by rfl) ?_; dsimp only)); refine box_event ?hg (N := 1) ?hd (cs := #[.string p, .int .i64 i, .int .i64 g, .int .i64 kd, .int .i64 lk, .int .i64 sz, .string d]) (t := 38) ?hr ?_; (case hd => rfl); (case hg => rfl); (case hr => first | (go_simp; done) | (go_simp; rfl)); intro gb hg w5 hbox hb; have n0_ := Aside0.mk (below_step HB.out hb); have n1_ := Aside0.mk (hbox); have n2_ := Aside0.mk (HT.out.below hb); clear HB HT; have HB := n0_; have BK := n1_; have HT := n2_; clear n0_ n1_ n2_ hb hbox hg; have c0 : w5.cell? ⟨gb, 0, none⟩ = some (.string p) := (blk_cell BK.out 0).trans rfl; have c3 : w5.cell? ⟨gb, 3, none⟩ = some (.int .i64 kd) := (blk_cell BK.out 3).trans rfl; have c6 : w5.cell? ⟨gb, 6, none⟩ = some (.string d) := (blk_cell BK.out 6).trans rfl))
 refine (split_c p _ w5 HT.out rfl).mono ?_
 rintro e w6 ⟨⟨v, rfl⟩, hb6⟩
 have BK6 := Aside0.mk (blk_below BK.out hb6)
 have HT6 := Aside0.mk (HT.out.below hb6)
 have HB6 := Aside0.mk (below_then HB.out HB.out.size hb6)
 clear c0 c3 c6 hb6 HB HT BK
 have c3 : w6.cell? ⟨gb, 3, none⟩ = some (.int .i64 kd) := (blk_cell BK6.out 3).trans rfl
 have c6 : w6.cell? ⟨gb, 6, none⟩ = some (.string d) := (blk_cell BK6.out 6).trans rfl
 by_cases h1 : splitE (pb p) = 0
 ·
  have z1 : (splitE (pb p) != 0) = false := by simpa using h1
  have HR1 := Aside0.mk ((if_pos h1).symm.trans HR.out)
  clear h1 HR
  by_cases h2 : kd = 2
  ·
   have e1 : r = decide (pb d = []) := by rw [← HR1.out, if_pos h2]
   have z2 : (kd == 2) = true := by simpa using h2
   have e2 : (d.toList == ([] : List UInt8)) = decide (pb d = []) := by
    rw [toL]
    by_cases e : pb d = []
    ·
     rw [decide_eq_true e, e]; rfl
    ·
     rw [decide_eq_false e]; simpa using e
   rw [← e2] at e1
   clear e2 HR1 h2
   subst e1
   go_wp2_with fail
   go_ret
   exact ⟨Z23, HB6.out⟩
  ·
   have HR2 := Aside0.mk ((if_neg h2).symm.trans HR1.out)
   have z2 : (kd == 2) = false := by simpa using h2
   clear h2 HR1
   by_cases h3 : kd = 3
   ·
    have e1 : r = decide (splitE (pb d) = 0) := by rw [← HR2.out, if_neg Z3, if_pos h3]
    have z3 : (kd == 3) = true := by simpa using h3
    clear h3 HR2
    go_wp2_with fail
    refine (split_c d _ w6 HT6.out rfl).mono ?_
    rintro e w7 ⟨⟨v7, rfl⟩, hb7⟩
    have HB7 := Aside0.mk (below_then HB6.out HB6.out.size hb7)
    have e2 : (splitE (pb d) == 0) = decide (splitE (pb d) = 0) := by
     by_cases e : splitE (pb d) = 0
     ·
      rw [decide_eq_true e, e]; rfl
     ·
      rw [decide_eq_false e]; simpa using e
    rw [← e2] at e1
    clear e2 hb7 c3 c6
    subst e1
    go_wp2_with fail
    go_ret
    exact ⟨rfl, HB7.out⟩
   ·
    have z3 : (kd == 3) = false := by simpa using h3
    have HN := Aside0.mk h3
    clear h3
    by_cases h4 : kd = 1
    ·
     have e1 : r = decide ((pb d).length ≤ 5675264) := by
      rw [← HR2.out, if_neg HN.out]
      by_cases e : (pb d).length ≤ 5675264
      ·
       rw [if_pos ⟨h4, e⟩, decide_eq_true e]
      ·
       rw [if_neg (fun q => e q.2), decide_eq_false e]
     have z4 : (kd == 1) = true := by simpa using h4
     have e2 : decide ((d.size : Int) ≤ 5675264) = decide ((pb d).length ≤ 5675264) := decide_eq_decide.2 Z37
     rw [← e2] at e1
     clear e2 HR2 HN h4
     subst e1
     go_wp2_with fail
     go_ret
     exact ⟨rfl, HB6.out⟩
    ·
     have z4 : (kd == 1) = false := by simpa using h4
     have e1 : r = false := by rw [← HR2.out, if_neg (fun e => h4 e.1), if_neg HN.out]
     clear HR2 HN h4
     subst e1
     go_wp2_with fail
     go_ret
     exact ⟨rfl, HB6.out⟩
 ·
  have z1 : (splitE (pb p) != 0) = true := by simpa using h1
  have e1 : r = false := by rw [← HR.out, if_neg h1]
  clear h1 HR
  subst e1
  go_wp2_with fail
  go_ret
  exact ⟨rfl, HB6.out⟩
attribute [local go_sem] max2_int min2_int max_two min_two max_three min_three max_four min_four
theorem nm47 {b : UInt8} (h : b.toNat = 47) : b = 47 := UInt8.toNat_inj.1 (by rw [h]; rfl)
theorem ord_end {a b : ByteArray} {k : Nat} (ha : k ≤ a.size) (hb : k ≤ b.size) (h : k = a.size ∨ k = b.size) : ordL ((pb a).drop k) ((pb b).drop k) = (a.size : Int) - (b.size : Int) := by
 have la : ((pb a).drop k).length = a.size - k := by rw [List.length_drop, pb_len]
 have lb : ((pb b).drop k).length = b.size - k := by rw [List.length_drop, pb_len]
 generalize (pb a).drop k = x at la ⊢
 generalize (pb b).drop k = y at lb ⊢
 cases x with
 | nil =>
  simp only [List.length_nil] at la
  cases y <;> simp only [ordL, List.length_nil, List.length_cons] at lb ⊢ <;> omega
 | cons u x =>
  cases y with
  | nil =>
   simp only [ordL, List.length_nil, List.length_cons] at la lb ⊢
   omega
  | cons v y =>
   simp only [List.length_cons] at la lb
   omega
theorem ord_step {a b : ByteArray} {k : Nat} (ha : k < a.size) (hb : k < b.size) : ordL ((pb a).drop k) ((pb b).drop k) = if (pb a).getD k 0 = (pb b).getD k 0 then ordL ((pb a).drop (k + 1)) ((pb b).drop (k + 1)) else (kb ((pb a).getD k 0) : Int) - kb ((pb b).getD k 0) := by
 rw [drop_cons (l := pb a) (by rw [pb_len]; exact ha), drop_cons (l := pb b) (by rw [pb_len]; exact hb), ordL]
set_option maxHeartbeats 4000000 in
set_option maxRecDepth 100000 in
theorem order_c (a b : ByteArray) (r : Int) (w : World) (ha : a.size < 4294967296) (hb : b.size < 4294967296) (h : ordL (pb a) (pb b) = r) :
  Calls Tryz.prog 32 #[.string a, .string b] w fun e w' => e = .returned (.int .i64 r) ∧ Drawn0 w w' := by
 have HB := Aside0.mk (Drawn0.refl w)
 have HR := Aside0.mk h
 have HA := Aside0.mk ha
 have HBs := Aside0.mk hb
 clear h
 obtain ⟨m, hm, hm2, hm3⟩ : ∃ m : Nat, (if (b.size : Int) < (a.size : Int) then (b.size : Int) else (a.size : Int)) = (m : Int) ∧ (m ≤ a.size ∧ m ≤ b.size) ∧ (m = a.size ∨ m = b.size) := by
  by_cases h : (b.size : Int) < (a.size : Int)
  ·
   exact ⟨b.size, by rw [if_pos h], ⟨Z3, Nat.le_refl _⟩, .inr rfl⟩
  ·
   exact ⟨a.size, by rw [if_neg h], ⟨Nat.le_refl _, Z3⟩, .inl rfl⟩
 have M2 := Aside0.mk hm2
 have M3 := Aside0.mk hm3
 clear hm2 hm3
 go_enter Tryz.func32, Tryz.ntmps32
 go_upto_region 1 with (fail)
 go_cut [12, 13] (fun v12 v13 wc => v12 = .int .i64 m ∧ v13 = .int .i64 0 ∧ Aside0 (Drawn0 w wc))
 case first =>
  go_wp2
  ·
   go_meet
   case rel => exact ⟨by rw [← hm, if_pos Z3], rfl, HB⟩
  ·
   go_meet
   case rel => exact ⟨by rw [← hm, if_neg Z3], rfl, HB⟩
 case rest =>
  obtain ⟨rfl, rfl, HB0⟩ := hcut
  clear hm ha hb HB
  go_wp2
  go_loopw [13] (fun i wr => ∃ k : Int, 0 ≤ k ∧ k ≤ m ∧ i = .int .i64 k ∧ Aside0 (ordL ((pb a).drop k.toNat) ((pb b).drop k.toNat) = r) ∧ Aside0 (Drawn0 w wr)) (fun i _ => m - (intOf i).toNat)
  case atStart => exact ⟨0, Z3, Z3, rfl, ⟨by simpa using HR.out⟩, HB0⟩
  case round =>
   obtain ⟨k, hk0, hk, rfl, HE, HB1⟩ := hrel
   have K0 := Aside0.mk hk0
   have K1 := Aside0.mk hk
   clear HR
   by_cases hkm : k < m
   ·
    have K2 := Aside0.mk hkm
    have ka : k.toNat < a.size := by have := M2.out; omega
    have kb' : k.toNat < b.size := by have := M2.out; omega
    have HST := Aside0.mk (ord_step ka kb')
    have hba := bt_pb ka
    have hbb := bt_pb kb'
    rw [Int.toNat_of_nonneg hk0] at hba hbb
    have HBA := Aside0.mk hba
    have HBB := Aside0.mk hbb
    have c4b0 : decide (k < (m : Int)) = true := decide_eq_true hkm
    have p7 : (0 ≤ k) = True := eq_true hk0
    have q7 : (k < (a.size : Int)) = True := eq_true (by have := M2.out; omega)
    have q9 : (k < (b.size : Int)) = True := eq_true (by have := M2.out; omega)
    have hx7 := bt_at a k
    have hx9 := bt_at b k
    clear hkm hk hk0 ka kb' hba hbb
    by_cases e : bt a k = bt b k
    ·
     have c10b0 : (bt a k == bt b k) = true := beq_iff_eq.mpr e
     have E1 := Aside0.mk e
     clear e
     go_wp2
     repeat (go_quiet (fail); try go_wp2)
     go_roundw
     case rel =>
      have h0 := K0.out
      have h2 := K2.out
      have h3 := M2.out
      have h4 := HA.out
      have hw : wrap64 (k + 1) = k + 1 := w64 Z3 Z3
      exact ⟨k + 1, Z3, Z3, by rw [hw], ⟨by
       have := HST.out
       rw [if_pos (UInt8.toNat_inj.1 (by have e1 := E1.out; rw [HBA.out, HBB.out] at e1; exact_mod_cast e1))] at this
       rw [show (k + 1).toNat = k.toNat + 1 by omega, ← this]
       exact HE.out⟩, ⟨by repeat (first | exact HB1.out | apply Drawn0.step)⟩⟩
     case measure =>
      have h0 := K0.out
      have h2 := K2.out
      have h3 := M2.out
      have h4 := HA.out
      have hw : wrap64 (k + 1) = k + 1 := w64 Z3 Z3
      simp [intOf, hw]
      omega
    ·
     have c10b0 : (bt a k == bt b k) = false := beq_eq_false_iff_ne.mpr e
     have hra := bt_range a k
     have hrb := bt_range b k
     have er : r = (if bt a k = 47 then 0 else bt a k) - (if bt b k = 47 then 0 else bt b k) := by
      rw [← HE.out, HST.out, if_neg (fun q => e (by rw [HBA.out, HBB.out, q]))]
      have aux : ∀ (z : UInt8) (v : Int), v = (z.toNat : Int) → ((kb z : Nat) : Int) = if v = 47 then 0 else v := by
       intro z v hv
       unfold kb
       by_cases hz : z = 47
       ·
        rw [if_pos hz, if_pos (by rw [hv, hz]; rfl)]; rfl
       ·
        rw [if_neg hz, if_neg (fun q => hz (nm47 Z3)), hv]
      rw [aux _ _ HBA.out, aux _ _ HBB.out]
     have RA := Aside0.mk hra
     have RB := Aside0.mk hrb
     clear e hra hrb HE HST
     by_cases e1 : bt a k = 47
     ·
      have c11b0 : (bt a k == 47) = true := beq_iff_eq.mpr e1
      by_cases e2 : bt b k = 47
      ·
       have c12b0 : (bt b k == 47) = true := beq_iff_eq.mpr e2
       have er2 : r = 0 - 0 := by rw [er, if_pos e1, if_pos e2]
       clear er e1 e2
       subst er2
       go_wp2
       repeat (go_quiet (fail); try go_wp2)
       go_ret
       exact ⟨by first | rfl | simp, by repeat (first | exact HB1.out | apply Drawn0.step)⟩
      ·
       have c12b0 : (bt b k == 47) = false := beq_eq_false_iff_ne.mpr e2
       have er2 : r = 0 - bt b k := by rw [er, if_pos e1, if_neg e2]
       have hw : wrap64 (0 - bt b k) = 0 - bt b k := w64 (by have := RB.out; omega) (by have := RB.out; omega)
       have HW := Aside0.mk hw
       clear er e1 e2 hw
       subst er2
       go_wp2
       repeat (go_quiet (fail); try go_wp2)
       go_ret
       refine ⟨?_, by repeat (first | exact HB1.out | apply Drawn0.step)⟩
       exact congrArg (fun z => Ending.returned (.int .i64 z)) (show wrap64 (-wrap64 (bt b k)) = 0 - bt b k by have := RB.out; rw [w64 (x := bt b k) Z3 Z3, w64 Z3 Z3]; omega)
     ·
      have c11b0 : (bt a k == 47) = false := beq_eq_false_iff_ne.mpr e1
      by_cases e2 : bt b k = 47
      ·
       have c12b0 : (bt b k == 47) = true := beq_iff_eq.mpr e2
       have er2 : r = bt a k - 0 := by rw [er, if_neg e1, if_pos e2]
       clear er e1 e2
       subst er2
       go_wp2
       repeat (go_quiet (fail); try go_wp2)
       go_ret
       refine ⟨?_, by repeat (first | exact HB1.out | apply Drawn0.step)⟩
       exact congrArg (fun z => Ending.returned (.int .i64 z)) (show wrap64 (wrap64 (bt a k)) = bt a k - 0 by have := RA.out; rw [w64 (x := bt a k) Z3 Z3, w64 Z3 Z3]; omega)
      ·
       have c12b0 : (bt b k == 47) = false := beq_eq_false_iff_ne.mpr e2
       have er2 : r = bt a k - bt b k := by rw [er, if_neg e1, if_neg e2]
       clear er e1 e2
       subst er2
       go_wp2
       repeat (go_quiet (fail); try go_wp2)
       go_ret
       refine ⟨?_, by repeat (first | exact HB1.out | apply Drawn0.step)⟩
       exact congrArg (fun z => Ending.returned (.int .i64 z)) (show wrap64 (wrap64 (bt a k) - wrap64 (bt b k)) = bt a k - bt b k by have := RA.out; have := RB.out; rw [w64 (x := bt a k) Z3 Z3, w64 (x := bt b k) Z3 Z3, w64 Z3 Z3])
   ·
    have hkm' : k = m := by omega
    have er : r = (a.size : Int) - (b.size : Int) := by
     have := M2.out
     rw [← HE.out, ord_end Z3 Z3 (by have := M3.out; omega)]
    have c4b0 : decide (k < (m : Int)) = false := decide_eq_false hkm
    clear hkm hkm' HE hk hk0
    subst er
    go_wp2
    go_ret
    refine ⟨?_, HB1.out⟩
    exact congrArg (fun z => Ending.returned (.int .i64 z)) (w64 (by have := HA.out; have := HBs.out; omega) (by have := HA.out; have := HBs.out; omega))
end Go.Proofs.YtkhblpmjmkhiiaaGreatDoor.T
namespace Go.Proofs
open Go.Shelf
def Tryz.sortNodes_ren : Go.Shelf.Ren := ⟨fun | 6 => 30 | 15 => 57 | 14 => 56 | 28 => 84 | 29 => 85 | 20 => 76 | 21 => 77 | 22 => 78 | 23 => 79 | 24 => 80 | 25 => 81 | 26 => 82 | 27 => 83 | 46 => 94 | 47 => 95 | 48 => 96 | 49 => 97 | 50 => 98 | 57 => 106 | n => n, fun | 22 => 22 | 24 => 38 | 25 => 62 | 3 => 3 | 39 => 85 | 0 => 0 | 53 => 104 | 55 => 107 | 4 => 4 | 46 => 115 | 45 => 114 | 50 => 119 | 5 => 5 | 9 => 9 | 66 => 131 | 70 => 135 | 76 => 141 | 77 => 142 | n => n, fun | n => n⟩
theorem Tryz.sortNodes : Go.Proofs.SlLaysF0.n6 Tryz.prog Tryz.sortNodes_ren := {
 mixed := by kernel_rfl
 f6 := ⟨Tryz.f30.name, by decide, Tryz.func30.trans (congrArg some (by kernel_rfl))⟩
 f14 := ⟨Tryz.f56.name, by decide, Tryz.func56.trans (congrArg some (by kernel_rfl))⟩
 f15 := Tryz.func57.trans (congrArg some (by kernel_rfl))
 f20 := ⟨Tryz.f76.name, by decide, Tryz.func76.trans (congrArg some (by kernel_rfl))⟩
 f21 := ⟨Tryz.f77.name, by decide, Tryz.func77.trans (congrArg some (by kernel_rfl))⟩
 f22 := ⟨Tryz.f78.name, by decide, Tryz.func78.trans (congrArg some (by kernel_rfl))⟩
 f23 := ⟨Tryz.f79.name, by decide, Tryz.func79.trans (congrArg some (by kernel_rfl))⟩
 f24 := ⟨Tryz.f80.name, by decide, Tryz.func80.trans (congrArg some (by kernel_rfl))⟩
 f25 := ⟨Tryz.f81.name, by decide, Tryz.func81.trans (congrArg some (by kernel_rfl))⟩
 f26 := ⟨Tryz.f82.name, by decide, Tryz.func82.trans (congrArg some (by kernel_rfl))⟩
 f27 := ⟨Tryz.f83.name, by decide, Tryz.func83.trans (congrArg some (by kernel_rfl))⟩
 f28 := Tryz.func84.trans (congrArg some (by kernel_rfl))
 f29 := Tryz.func85.trans (congrArg some (by kernel_rfl))
 f46 := ⟨Tryz.f94.name, by decide, Tryz.func94.trans (congrArg some (by kernel_rfl))⟩
 f47 := Tryz.func95.trans (congrArg some (by kernel_rfl))
 f48 := Tryz.func96.trans (congrArg some (by kernel_rfl))
 f49 := ⟨Tryz.f97.name, by decide, Tryz.func97.trans (congrArg some (by kernel_rfl))⟩
 f50 := ⟨Tryz.f98.name, by decide, Tryz.func98.trans (congrArg some (by kernel_rfl))⟩
 f57 := ⟨Tryz.f106.name, by decide, Tryz.func106.trans (congrArg some (by kernel_rfl))⟩
 t0 := Tryz.underlying0
 a0 := Tryz.isAgg0
 z0 := Tryz.sizeOf0
 v0 := Tryz.zeroValue0
 t3 := Tryz.underlying3
 a3 := Tryz.isAgg3
 z3 := Tryz.sizeOf3
 v3 := Tryz.zeroValue3
 t4 := Tryz.underlying4
 a4 := Tryz.isAgg4
 z4 := Tryz.sizeOf4
 v4 := Tryz.zeroValue4
 t5 := Tryz.underlying5
 a5 := Tryz.isAgg5
 z5 := Tryz.sizeOf5
 v5 := Tryz.zeroValue5
 t9 := Tryz.underlying9
 a9 := Tryz.isAgg9
 z9 := Tryz.sizeOf9
 v9 := Tryz.zeroValue9
 t22 := Tryz.underlying22
 a22 := Tryz.isAgg22
 z22 := Tryz.sizeOf22
 v22 := Tryz.zeroValue22
 t25 := Tryz.underlying62
 a25 := Tryz.isAgg62
 z25 := Tryz.sizeOf62
 v25 := Tryz.zeroValue62
 t39 := Tryz.underlying85
 a39 := Tryz.isAgg85
 z39 := Tryz.sizeOf85
 v39 := Tryz.zeroValue85
 t45 := Tryz.underlying114
 a45 := Tryz.isAgg114
 z45 := Tryz.sizeOf114
 v45 := Tryz.zeroValue114
 t46 := Tryz.underlying115
 a46 := Tryz.isAgg115
 z46 := Tryz.sizeOf115
 v46 := Tryz.zeroValue115
 t50 := Tryz.underlying119
 a50 := Tryz.isAgg119
 z50 := Tryz.sizeOf119
 v50 := Tryz.zeroValue119
 t53 := Tryz.underlying104
 a53 := Tryz.isAgg104
 z53 := Tryz.sizeOf104
 v53 := Tryz.zeroValue104
 t55 := Tryz.underlying107
 a55 := Tryz.isAgg107
 z55 := Tryz.sizeOf107
 v55 := Tryz.zeroValue107
 t66 := Tryz.underlying131
 a66 := Tryz.isAgg131
 z66 := Tryz.sizeOf131
 v66 := Tryz.zeroValue131
 t70 := Tryz.underlying135
 a70 := Tryz.isAgg135
 z70 := Tryz.sizeOf135
 v70 := Tryz.zeroValue135
 t76 := Tryz.underlying141
 a76 := Tryz.isAgg141
 z76 := Tryz.sizeOf141
 v76 := Tryz.zeroValue141
 t77 := Tryz.underlying142
 a77 := Tryz.isAgg142
 z77 := Tryz.sizeOf142
 v77 := Tryz.zeroValue142 }
end Go.Proofs
namespace Go.Proofs.YtkhblpmjmkhiiaaGreatDoor.T
open Go.RowKit Go.Proofs.YtkhblpmjmkhiiaaGreatDoorW.PrintWords Go.Proofs.YtkhblpmjmkhiiaaGreatDoorW.PrintLast Go.Proofs.YtkhblpmjmkhiiaaGreatDoorW.PrintMore Go.Proofs.YtkhblpmjmkhiiaaGreatDoor.PAll
open Go.Sort (grow alloc_eq_grow grow_grow SWO PermIn SortedIn putCells mapBlock onCells flatK size_flatK get_flatK HoldsK)
open Go.Shelf
set_option linter.unusedSimpArgs false
set_option linter.unusedVariables false
def encN (n : S38) : List Value := [.string n.f0, .int .i64 n.f1.f0, .int .i64 n.f1.f1, .int .i64 n.f1.f2, .int .i64 n.f1.f3, .int .i64 n.f1.f4, .string n.f2]
set_option maxHeartbeats 1000000 in
theorem clos_c (x y : S38) (hx : x.f0.size < 4294967296) (hy : y.f0.size < 4294967296) (w : World) :
  Calls Tryz.prog 31 #[.agg #[.string x.f0, .int .i64 x.f1.f0, .int .i64 x.f1.f1, .int .i64 x.f1.f2, .int .i64 x.f1.f3, .int .i64 x.f1.f4, .string x.f2], .agg #[.string y.f0, .int .i64 y.f1.f0, .int .i64 y.f1.f1, .int .i64 y.f1.f2, .int .i64 y.f1.f3, .int .i64 y.f1.f4, .string y.f2]] w
   fun e w' => e = .returned (.int .i64 (ordL (pth x) (pth y))) ∧ ∃ q os', w' = grow (w.drewN q) os' := by
 have hcon := fun W => order_c x.f0 y.f0 _ W hx hy rfl
 have HC := Aside0.mk hcon
 clear hcon
 unfold pth
 have hu46 := Tryz.underlying38
 have hu44 := Tryz.underlying36
 go_enter Tryz.func31, Tryz.ntmps31
 go_wp2_with fail
 refine (HC.out _).mono ?_
 rintro e w' ⟨rfl, ⟨q, rfl⟩⟩
 go_wp2_with fail
 go_ret
 exact ⟨rfl, q, _, by rw [alloc_eq_grow, alloc_eq_grow, grow_grow]; rfl⟩
def MN : Type := {n : S38 // mayN n = true}
instance : Inhabited MN := ⟨⟨⟨⟨#[47]⟩, ⟨0, 0, 2, 0, 0⟩, ⟨#[]⟩⟩, Z11⟩⟩
def encM (x : MN) : List Value := encN x.1
def cfM (x y : MN) : Int := ordL (pth x.1) (pth y.1)
theorem ltM (x y : MN) : ltOf cfM x y = decide (key (pth x.1) < key (pth y.1)) :=
 decide_eq_decide.2 (ordL_lt (may_clean x.2) (may_clean y.2))
theorem swoM : SWO (ltOf cfM) where
 irrefl x := by rw [ltM]; exact decide_eq_false (key_irrefl _)
 trans x y z h1 h2 := by
  rw [ltM] at *
  exact decide_eq_true (key_trans (of_decide_eq_true h1) (of_decide_eq_true h2))
 ntrans x y z h1 h2 := by
  rw [ltM] at *
  have h1 := of_decide_eq_false h1
  have h2 := of_decide_eq_false h2
  refine decide_eq_false (fun h => ?_)
  rcases key_tri (key (pth x.1)) (key (pth y.1)) with e | e | e
  ·
   exact h1 e
  ·
   rw [e] at h; exact h2 h
  ·
   exact h2 (key_trans e h)
theorem flat_get : ∀ (l : List MN) (j : Nat), (l.flatMap encM)[j]? = (l[j / 7]?).bind fun x => (encM x)[j % 7]?
 | [], j => by simp
 | x :: l, j => by
  have hl : (encM x).length = 7 := rfl
  rw [List.flatMap_cons]
  by_cases h : j < 7
  ·
   rw [List.getElem?_append_left (by rw [hl]; exact h), show j / 7 = 0 by omega, show j % 7 = j by omega]
   simp
  ·
   rw [List.getElem?_append_right (by rw [hl]; omega), hl, flat_get l (j - 7), show j / 7 = (j - 7) / 7 + 1 by omega, show (j - 7) % 7 = j % 7 by omega, List.getElem?_cons_succ]
theorem flat_len : ∀ (l : List MN), (l.flatMap encM).length = l.length * 7
 | [] => rfl
 | x :: l => by
  rw [List.flatMap_cons, List.length_append, flat_len l, List.length_cons]
  show 7 + _ = _
  omega
theorem flatK_list (d : Array MN) : (flatK encM 7 d).toList = d.toList.flatMap encM := by
 apply List.ext_getElem?
 intro j
 rw [flat_get, Array.getElem?_toList, Array.getElem?_toList]
 by_cases h : j < d.size * 7
 ·
  have h1 : j / 7 < d.size := by omega
  have h2 : (flatK encM 7 d)[j]? = some (flatK encM 7 d)[j]! := by
   have hs : j < (flatK encM 7 d).size := by rw [size_flatK]; exact h
   rw [getElem!_pos _ j hs, Array.getElem?_eq_getElem hs]
  rw [h2, get_flatK _ _ _ _ h, Array.getElem?_eq_getElem h1, Option.bind_some, getElem!_pos d (j / 7) h1]
  have h3 : j % 7 < (encM d[j / 7]).length := by show j % 7 < 7; omega
  rw [getElem!_pos (encM d[j / 7]) (j % 7) h3, List.getElem?_eq_getElem h3]
 ·
  rw [Array.getElem?_eq_none (by rw [size_flatK]; omega), Array.getElem?_eq_none (xs := d) Z3]
  rfl
theorem clos_lays (blk off size : Nat) (w : World) : CmpLays Tryz.prog 31 #[] encM 7 cfM blk off size w :=
 fun _ _ _ _ x y => clos_c x.1 y.1 (by have := may_size x.2; omega) (by have := may_size y.2; omega) _
theorem sw_heap (w : World) (g m : Nat) (d : Array MN) (os : Array Obj) {k : Nat} (hk : k < w.heap.size) :
  (sortWorldK encM 7 w g 0 m d os).heap[k]? = if g = k then (w.heap[k]?).map (onCells (putCells id 0 (flatK encM 7 d))) else w.heap[k]? := by
 unfold sortWorldK
 rw [Go.Sort.heap_grow_old _ _ (by show k < (w.heap.modify g _).size; rw [Array.size_modify]; exact hk)]
 show (w.heap.modify g _)[k]? = _
 rw [Array.getElem?_modify]
theorem sort_own (l : List MN) (g n cap : Nat) (cur : Array Value) (w : World) (hg : w.heap[g]? = some (.cells cur 38 (0, 0))) (hl : l.length = n) (hn : n * 7 ≤ cur.size)
  (hc : cur.toList.take (n * 7) = l.flatMap encM) (hsz : n < 4294967296) :
  Calls Tryz.prog 30 #[.slice (some ⟨g, 0, none⟩) n cap, .func (.func 31) #[] #[]] w fun e w' => e = .returned (.tuple #[]) ∧ ∃ (s : List MN) (cur' : Array Value),
   s.Perm l ∧ s.Pairwise (fun a b => ¬ key (pth b.1) < key (pth a.1)) ∧ w'.heap[g]? = some (.cells cur' 38 (0, 0)) ∧ cur'.size = cur.size ∧ cur'.toList.take (n * 7) = s.flatMap encM ∧ w.grownBy w' (some g) := by
 have hlt : g < w.heap.size := blk_lt hg
 have eg : ∀ args w, (callFunc 31 args).run Tryz.prog w = .ok (.enter 31 args) w := enters_of Tryz.func31 Z13 rfl
 have hd : l.toArray.size = n := by simpa using hl
 have hH : HoldsK encM 7 w g 0 l.toArray := by
  intro j hj
  rw [size_flatK, hd] at hj
  rw [Nat.zero_add]
  have hjl : j < (l.flatMap encM).length := by rw [flat_len, hl]; exact hj
  have e1 : (flatK encM 7 l.toArray)[j]! = (l.flatMap encM)[j] := by
   have hs : j < (flatK encM 7 l.toArray).size := by rw [size_flatK, hd]; exact hj
   rw [getElem!_pos _ j hs, ← Array.getElem_toList]
   simp only [flatK_list]
  refine ⟨?_, ?_⟩
  ·
   rw [blk_cell hg, id, e1]
   have : cur[j]? = (cur.toList.take (n * 7))[j]? := by rw [List.getElem?_take_of_lt hj, Array.getElem?_toList]
   rw [this, hc, List.getElem?_eq_getElem hjl]
  ·
   exact blk_frozen hg j
 have hcon := AnyQ.slices_SortFunc Tryz.sortNodes 7 Tryz.isAgg38 Tryz.sizeOf38 encM (fun _ => rfl) (fun x v hv => by
  simp only [encM, encN, List.mem_cons, List.mem_nil_iff, or_false] at hv
  rcases hv with rfl | rfl | rfl | rfl | rfl | rfl | rfl <;> rfl) cfM swoM 31 #[] g 0 cap l.toArray w eg (clos_lays g 0 l.toArray.size w) hH hlt Z3
 rw [hd] at hcon
 refine hcon.mono ?_
 rintro e w' ⟨rfl, d', m, os, hp, hs, rfl⟩
 have hsz' : d'.size = n := by rw [hp.1, hd]
 refine ⟨rfl, d'.toList, putCells id 0 (flatK encM 7 d') cur, ?_, ?_, ?_, ?_, ?_, ?_⟩
 ·
  have h3 := hp.2.2
  have x1 : d'.extract 0 n = d' := by rw [← hsz']; simp
  have x2 : l.toArray.extract 0 n = l.toArray := by rw [← hd]; simp
  rw [x1, x2] at h3
  simpa using h3
 ·
  rw [List.pairwise_iff_getElem]
  intro i j hi hj hij
  have := hs i j (Nat.zero_le _) hij (by rw [← hsz']; simpa using hj)
  rw [ltM] at this
  have h4 := of_decide_eq_false this
  have i1 : i < d'.size := by simpa using hi
  have j1 : j < d'.size := by simpa using hj
  rw [getElem!_pos _ i i1, getElem!_pos _ j j1] at h4
  simpa using h4
 ·
  rw [sw_heap _ _ _ _ _ hlt, if_pos rfl, hg]
  rfl
 ·
  simp [putCells]
 ·
  rw [← flatK_list]
  have hF : (flatK encM 7 d').size = n * 7 := by rw [size_flatK, hsz']
  apply List.ext_getElem?
  intro j
  by_cases hj : j < n * 7
  ·
   rw [List.getElem?_take_of_lt hj, Array.getElem?_toList, Array.getElem?_toList]
   have h1 : j < cur.size := by omega
   have h2 : j < (flatK encM 7 d').size := by omega
   simp only [putCells, Array.getElem?_mapIdx, Array.getElem?_eq_getElem h1, Option.map_some]
   rw [if_pos ⟨Nat.zero_le _, Z3⟩, Array.getElem?_eq_getElem h2, Nat.sub_zero, getElem!_pos _ j h2]
   rfl
  ·
   rw [List.getElem?_eq_none (by rw [List.length_take]; omega), List.getElem?_eq_none (by rw [Array.length_toList, hF]; omega)]
 ·
  refine ⟨rfl, rfl, rfl, ?_, fun k hk hne => ?_⟩
  ·
   show w.heap.size ≤ (grow _ _).heap.size
   rw [Go.Sort.size_grow]
   show w.heap.size ≤ (w.heap.modify g _).size + os.size
   rw [Array.size_modify]
   omega
  ·
   rw [sw_heap _ _ _ _ _ hk, if_neg (fun e => hne (by rw [e]))]
theorem storeVar_row (w : World) (g : Nat) (cur : Array Value) (cells : List Value) (hg : w.heap[g]? = some (.cells cur 38 (0, 0))) (hc : cur.size = 7) (hl : cells.length = 7) (h1 : ∀ v ∈ cells, v.oneCell' = true) :
  (storeVar 38 ⟨g, 0, none⟩ (.agg cells.toArray)).run Tryz.prog w = .ok () (w.setRow g cells.toArray) := by
 have := run_storeCells_at (P := Tryz.prog) g 0 38 cells 0 cur w hg Z3 h1
 have e : (cur.toList.take (0 + 0) ++ cells ++ cur.toList.drop (0 + 0 + cells.length)).toArray = cells.toArray := by
  rw [List.drop_eq_nil_of_le (by rw [Array.length_toList]; omega)]
  simp
 rw [e] at this
 have hi := info38
 cases hq : Tryz.prog.info? 38 with
 | none => simp [hq] at hi
 | some i =>
  have hs : i.size = 7 := by simp [hq] at hi; exact hi.2.1
  simp [storeVar, sizeOf, typeInfo, hq, Value.cells, hs, hl, this]
theorem store_node {op : Oper} {ops : Array Oper} {rest : List Oper} {a : Act} {w : World} {Q : Exit → Act → World → Prop} (hgd : op.guard = none) (x y : Operand) (ho : op.op = .store 38 x y)
  (g : Nat) (cur : Array Value) (n : S38) (hg : w.heap[g]? = some (.cells cur 38 (0, 0))) (hc : cur.size = 7) (hx : a.eval x = .pointer (some ⟨g, 0, none⟩))
  (hy : a.eval y = .agg #[.string n.f0, .int .i64 n.f1.f0, .int .i64 n.f1.f1, .int .i64 n.f1.f2, .int .i64 n.f1.f3, .int .i64 n.f1.f4, .string n.f2])
  (h : ∀ w', w'.heap[g]? = some (.cells #[.string n.f0, .int .i64 n.f1.f0, .int .i64 n.f1.f1, .int .i64 n.f1.f2, .int .i64 n.f1.f3, .int .i64 n.f1.f4, .string n.f2] 38 (0, 0)) → w.grownBy w' (some g) → wpList Tryz.prog ops Q rest (a.put op.dst undef) w') :
  wpList Tryz.prog ops Q (op :: rest) a w := by
 have hrun := storeVar_row w g cur [.string n.f0, .int .i64 n.f1.f0, .int .i64 n.f1.f1, .int .i64 n.f1.f2, .int .i64 n.f1.f3, .int .i64 n.f1.f4, .string n.f2] hg hc rfl (by
  intro v hv
  simp only [List.mem_cons, List.mem_nil_iff, or_false] at hv
  rcases hv with rfl | rfl | rfl | rfl | rfl | rfl | rfl <;> rfl)
 refine wpList_plain hgd fun K' hK' => ?_
 unfold Oper.wp execOp
 simp only [ho, hx, hy, Instr.storeAt, Instr.sureAddr, Sem.run_bind, Sem.run_pure, Result.andThen_ok, hrun]
 refine hK' _ _ (h _ ?_ ?_)
 ·
  exact setRow_heap w g cur _ 38 _ hg
 ·
  exact ⟨rfl, rfl, rfl, Nat.le_of_eq (size_setRow ..).symm, fun k hk hne => setRow_other w g k _ (fun e => hne (by rw [e]))⟩
open Go.Maps (Keyed)
abbrev li (c : Int) : DataW Unit := .lit (.int .i64 c)
theorem li_inj {a b : Int} (h : li a = li b) : a = b := (Lit.int.inj (DataW.lit.inj h)).2
def MapS (w : World) (b n : Nat) (f : List UInt8 → Int) : Prop := ∃ D, w.ownsMap Tryz.prog 9 (plainElem Tryz.prog 3) b n D ∧ ∀ s, D.atKey (.string s) (li 0) = li (f s)
def MapI (w : World) (b n : Nat) (f : Int → Int) : Prop := ∃ D, w.ownsMap Tryz.prog 3 (plainElem Tryz.prog 3) b n D ∧ ∀ a, D.atKey (.int .i64 a) (li 0) = li (f a)
theorem MapS.made (w : World) : MapS (w.alloc (.map #[] 0)) w.heap.size 0 (fun _ => 0) := ⟨_, World.ownsMap_made w Tryz.prog 9 (plainElem Tryz.prog 3), fun s => rfl⟩
theorem MapI.made (w : World) : MapI (w.alloc (.map #[] 0)) w.heap.size 0 (fun _ => 0) := ⟨_, World.ownsMap_made w Tryz.prog 3 (plainElem Tryz.prog 3), fun s => rfl⟩
theorem MapS.kept {w w' : World} {b n : Nat} {f : List UInt8 → Int} {row : Option Nat} (h : MapS w b n f) (hg : w.grownBy w' row) (hne : some b ≠ row) : MapS w' b n f := by
 obtain ⟨D, h1, h2⟩ := h
 exact ⟨D, h1.kept hg hne, h2⟩
theorem MapI.kept {w w' : World} {b n : Nat} {f : Int → Int} {row : Option Nat} (h : MapI w b n f) (hg : w.grownBy w' row) (hne : some b ≠ row) : MapI w' b n f := by
 obtain ⟨D, h1, h2⟩ := h
 exact ⟨D, h1.kept hg hne, h2⟩
theorem MapS.lt {w : World} {b n : Nat} {f : List UInt8 → Int} (h : MapS w b n f) : b < w.heap.size := by
 obtain ⟨D, h1, _⟩ := h
 exact h1.lt
theorem MapI.lt {w : World} {b n : Nat} {f : Int → Int} (h : MapI w b n f) : b < w.heap.size := by
 obtain ⟨D, h1, _⟩ := h
 exact h1.lt
theorem below_grown {w w' : World} (h : Below w.heap.size w w') : w.grownBy w' none := ⟨h.os, h.tape, h.output, h.size, fun k hk _ => h.block k hk⟩
theorem MapS.below {w w' : World} {b n : Nat} {f : List UInt8 → Int} (h : MapS w b n f) (hb : Below w.heap.size w w') : MapS w' b n f := h.kept (below_grown hb) Z23
theorem MapI.below {w w' : World} {b n : Nat} {f : Int → Int} (h : MapI w b n f) (hb : Below w.heap.size w w') : MapI w' b n f := h.kept (below_grown hb) Z23
theorem keyS (s : ByteArray) (hs : s.size ≤ maxLen) : keyOf Tryz.prog 9 (.string s) = some (.string (pb s)) := by
 simp [keyOf, mapKey, Tryz.underlying9, hs, pb]
theorem keyI (a : Int) (ha : (Lit.int .i64 a).wf = true) : keyOf Tryz.prog 3 (.int .i64 a) = some (.int .i64 a) := Maps.keyOf_int_mk Tryz.underlying3 ha
theorem MapS.look {w : World} {b n : Nat} {f : List UInt8 → Int} (h : MapS w b n f) (s : ByteArray) (hs : s.size ≤ maxLen) :
  (Instr.lookup 88 (.map (some b)) (.string s) false).run Tryz.prog w = .ok (.int .i64 (f (pb s))) w := by
 obtain ⟨D, h1, h2⟩ := h
 obtain ⟨c, hrun, hat, _⟩ := h1.lookup_int (Maps.string_keyed Tryz.underlying9) Tryz.underlying88 Tryz.underlying3 (Tryz.zeroValue3 w) (keyS s hs)
 have e := li_inj ((h2 _).symm.trans hat)
 rw [hrun, e]
theorem MapI.look {w : World} {b n : Nat} {f : Int → Int} (h : MapI w b n f) (a : Int) (ha : (Lit.int .i64 a).wf = true) :
  (Instr.lookup 64 (.map (some b)) (.int .i64 a) false).run Tryz.prog w = .ok (.int .i64 (f a)) w := by
 obtain ⟨D, h1, h2⟩ := h
 obtain ⟨c, hrun, hat, _⟩ := h1.lookup_int (Maps.int_keyed Tryz.underlying3) Tryz.underlying64 Tryz.underlying3 (Tryz.zeroValue3 w) (keyI a ha)
 have e := li_inj ((h2 _).symm.trans hat)
 rw [hrun, e]
theorem MapS.put {w : World} {b n : Nat} {f : List UInt8 → Int} (h : MapS w b n f) (hn : n < maxLen) (s : ByteArray) (hs : s.size ≤ maxLen) (c : Int) (hc : (Lit.int .i64 c).wf = true) :
  ∃ w', (Instr.mapUpdate 88 (.map (some b)) (.string s) (.int .i64 c)).run Tryz.prog w = .ok () w' ∧ MapS w' b (n + 1) (fun t => if t = pb s then c else f t) ∧ w.grownBy w' (some b) := by
 obtain ⟨D, h1, h2⟩ := h
 obtain ⟨w', hrun, r1, r2⟩ := h1.update (Maps.string_keyed Tryz.underlying9) Tryz.underlying88 hn (keyS s hs) (plainElem_int (H := Unit) Tryz.underlying3 hc)
 refine ⟨w', hrun, ⟨_, r1, fun t => ?_⟩, r2⟩
 show _ = li (if t = pb s then c else f t)
 by_cases ht : t = pb s
 ·
  rw [if_pos ht, ht, Maps.atKey_put_same h1.isMap (by trivial)]
 ·
  rw [if_neg ht, Maps.atKey_put_other (by simpa using ht), h2]
theorem MapI.put {w : World} {b n : Nat} {f : Int → Int} (h : MapI w b n f) (hn : n < maxLen) (a : Int) (ha : (Lit.int .i64 a).wf = true) (c : Int) (hc : (Lit.int .i64 c).wf = true) :
  ∃ w', (Instr.mapUpdate 64 (.map (some b)) (.int .i64 a) (.int .i64 c)).run Tryz.prog w = .ok () w' ∧ MapI w' b (n + 1) (fun t => if t = a then c else f t) ∧ w.grownBy w' (some b) := by
 obtain ⟨D, h1, h2⟩ := h
 obtain ⟨w', hrun, r1, r2⟩ := h1.update (Maps.int_keyed Tryz.underlying3) Tryz.underlying64 hn (keyI a ha) (plainElem_int (H := Unit) Tryz.underlying3 hc)
 refine ⟨w', hrun, ⟨_, r1, fun t => ?_⟩, r2⟩
 show _ = li (if t = a then c else f t)
 by_cases ht : t = a
 ·
  rw [if_pos ht, ht, Maps.atKey_put_same h1.isMap (by trivial)]
 ·
  rw [if_neg ht, Maps.atKey_put_other (by simpa using ht), h2]
def nd (x : MN) : S38 := x.1
theorem lift_mn : ∀ (l : List S38), (∀ n ∈ l, mayN n = true) → ∃ l' : List MN, l'.map nd = l
 | [], _ => ⟨[], rfl⟩
 | n :: r, h => by
  obtain ⟨r', e⟩ := lift_mn r (fun m hm => h m (List.mem_cons_of_mem _ hm))
  exact ⟨List.cons (α := MN) ⟨n, h n (List.mem_cons_self ..)⟩ r', congrArg (List.cons n) e⟩
theorem flat_lift : ∀ (l : List MN), l.flatMap encM = (l.map nd).flatMap encN
 | [] => rfl
 | x :: l => by
  rw [List.flatMap_cons, List.map_cons, List.flatMap_cons, flat_lift l]
  rfl
theorem flatN_len : ∀ (l : List S38), (l.flatMap encN).length = l.length * 7
 | [] => rfl
 | x :: l => by
  rw [List.flatMap_cons, List.length_append, flatN_len l, List.length_cons]
  show 7 + _ = _
  omega
theorem List.drop_append_of_le_length' {a b : List Value} (h : a.length = 7) (i : Nat) : (a ++ b).drop ((i + 1) * 7) = b.drop (i * 7) := by
 rw [List.drop_append, List.drop_eq_nil_of_le Z3, h, List.nil_append]
 congr 1
 omega
theorem flatN_chunk : ∀ (l : List S38) (i : Nat) (x : S38), l[i]? = some x → ((l.flatMap encN).drop (i * 7)).take 7 = encN x
 | [], i, x, h => by simp at h
 | y :: l, 0, x, h => by
  simp only [List.getElem?_cons_zero, Option.some.injEq] at h
  subst h
  rw [List.flatMap_cons, Nat.zero_mul, List.drop_zero, List.take_append_of_le_length (by show 7 ≤ 7; omega)]
  rfl
 | y :: l, i + 1, x, h => by
  rw [List.getElem?_cons_succ] at h
  have hl : (encN y).length = 7 := rfl
  rw [List.flatMap_cons, List.drop_append_of_le_length' hl i, flatN_chunk l i x h]
theorem reps_of (w : World) (base : Nat) (ok : Nat → Prop) (l : List S38) : Reps (k38.M w base ok) 7 l (l.flatMap encN) :=
 ⟨flatN_len l, fun j p hj => by rw [flatN_chunk l j p hj]; exact k38_mkM w base ok p⟩
theorem reps_flat {w : World} {base : Nat} {ok : Nat → Prop} {l : List S38} {inner : List Value} (h : Reps (k38.M w base ok) 7 l inner) : inner = l.flatMap encN := by
 have hlen : inner.length = l.length * 7 := h.1
 apply List.ext_getElem?
 intro j
 by_cases hj : j < l.length * 7
 ·
  have hi : j / 7 < l.length := by omega
  have e1 := k38_openM (h.2 (j / 7) _ (List.getElem?_eq_getElem hi))
  have e2 := flatN_chunk l (j / 7) _ (List.getElem?_eq_getElem hi)
  have e : (inner.drop (j / 7 * 7)).take 7 = ((l.flatMap encN).drop (j / 7 * 7)).take 7 := by rw [e1, e2]; rfl
  have e3 := congrArg (fun z => z[j % 7]?) e
  simp only [List.getElem?_take, List.getElem?_drop] at e3
  rw [if_pos Z3, if_pos Z3, show j / 7 * 7 + j % 7 = j by omega] at e3
  exact e3
 ·
  rw [List.getElem?_eq_none Z3, List.getElem?_eq_none (by rw [flatN_len]; omega)]
theorem row_open {w : World} {base : Nat} {ok : Nat → Prop} {v : Value} {l : List S38} (h : Kd.R k38 38 w base ok v l) :
  (v = .slice none 0 0 ∧ l.length = 0) ∨ ∃ g cap cur, v = .slice (some ⟨g, 0, none⟩) l.length cap ∧ base ≤ g ∧ w.heap[g]? = some (.cells cur 38 (0, 0)) ∧ l.length ≤ cap ∧ cap ≤ maxLen ∧ cur.size = cap * 7 ∧ cur.toList.take (l.length * 7) = l.flatMap encN := by
 obtain ⟨_, inner, ho, hr⟩ := h
 have e := reps_flat hr
 rcases ho.2 with ⟨h1, h2⟩ | ⟨g, cap, cur, h1, h2, h3, h4, h5, h6, h7⟩
 ·
  exact .inl ⟨h1, h2⟩
 ·
  exact .inr ⟨g, cap, cur, h1, h2, h3, h4, h5, h6, h7.trans e⟩
theorem row_shut {w : World} {base g cap : Nat} {cur : Array Value} {l : List S38} (hb : base ≤ g) (hg : w.heap[g]? = some (.cells cur 38 (0, 0))) (h1 : l.length ≤ cap) (h2 : cap ≤ maxLen) (h3 : cur.size = cap * 7) (h4 : cur.toList.take (l.length * 7) = l.flatMap encN) :
  Kd.R k38 38 w base (fun _ => True) (.slice (some ⟨g, 0, none⟩) l.length cap) l :=
 ⟨fun _ _ => trivial, _, ⟨flatN_len l, .inr ⟨g, cap, cur, rfl, hb, hg, h1, h2, h3, h4⟩⟩, reps_of _ _ _ l⟩
theorem sort_row {w : World} {base g cap : Nat} {ok : Nat → Prop} {l : List S38} (hm : ∀ n ∈ l, mayN n = true) (h : Kd.R k38 38 w base ok (.slice (some ⟨g, 0, none⟩) l.length cap) l) (hl : l.length < 4294967296) :
  Calls Tryz.prog 30 #[.slice (some ⟨g, 0, none⟩) l.length cap, .func (.func 31) #[] #[]] w fun e w' => e = .returned (.tuple #[]) ∧ ∃ s : List S38,
   s.Perm l ∧ s.Pairwise (fun a b => ¬ key (pth b) < key (pth a)) ∧ Kd.R k38 38 w' base (fun _ => True) (.slice (some ⟨g, 0, none⟩) l.length cap) s ∧ w.grownBy w' (some g) := by
 rcases row_open h with ⟨e, _⟩ | ⟨g', cap', cur, e, hb, hg, h1, h2, h3, h4⟩
 ·
  cases e
 ·
  injection e with e1 e2 e3
  injection e1 with e1
  injection e1 with e1
  subst e1
  subst e3
  obtain ⟨l', hl'⟩ := lift_mn l hm
  have hlen : l'.length = l.length := by rw [← hl', List.length_map]
  refine (sort_own l' g l.length cap cur w hg hlen (by rw [h3]; exact Nat.mul_le_mul_right _ h1) (by rw [h4, flat_lift, hl']) hl).mono ?_
  rintro e w' ⟨rfl, s, cur', hp, hw, hg', hc', ht', hgr⟩
  refine ⟨rfl, s.map nd, ?_, ?_, ?_, hgr⟩
  ·
   rw [← hl']
   exact hp.map nd
  ·
   rw [List.pairwise_map]
   exact hw
  ·
   have hsl : (s.map nd).length = l.length := by rw [List.length_map, hp.length_eq, hlen]
   have := row_shut (l := s.map nd) (base := base) hb hg' (by rw [hsl]; exact h1) h2 (by rw [hc', h3]) (by rw [hsl, ht', flat_lift])
   rwa [hsl] at this
theorem sort_none (p : Option Addr) (cap : Nat) (fv : Value) (w : World) :
  Calls Tryz.prog 30 #[.slice p 0 cap, fv] w fun e w' => e = .returned (.tuple #[]) ∧ w' = w :=
 AnyF.slices_SortFunc_none Tryz.sortNodes p cap fv w
theorem sort_any {w : World} {base c : Nat} {ok : Nat → Prop} {A : Option Addr} {l : List S38} (hm : ∀ n ∈ l, mayN n = true) (h : Kd.R k38 38 w base ok (.slice A l.length c) l) (hl : l.length < 4294967296) :
  Calls Tryz.prog 30 #[.slice A l.length c, .func (.func 31) #[] #[]] w fun e w' => e = .returned (.tuple #[]) ∧ ∃ s : List S38,
   s.Perm l ∧ s.Pairwise (fun a b => ¬ key (pth b) < key (pth a)) ∧ Kd.R k38 38 w' base (fun _ => True) (.slice A l.length c) s ∧ ∀ W : World, Below W.heap.size W w → W.heap.size ≤ base → Below W.heap.size W w' := by
 rcases row_open h with ⟨e, h0⟩ | ⟨g, cap, cur, e, hb, _⟩
 ·
  obtain rfl : l = [] := List.eq_nil_of_length_eq_zero h0
  refine (sort_none A c _ w).mono ?_
  rintro e w' ⟨rfl, rfl⟩
  exact ⟨rfl, [], List.Perm.refl _, List.Pairwise.nil, Kd.R_mono h (fun _ _ => trivial), fun W hW _ => hW⟩
 ·
  injection e with e1 e2 e3
  subst e1
  refine (sort_row hm h hl).mono ?_
  rintro e w' ⟨rfl, s, hp, hw, hR, hgr⟩
  exact ⟨rfl, s, hp, hw, hR, fun W hW hle => hW.grown hgr hW.size (fun q hq => by injection hq with hq; omega)⟩
def encS (s : S36) : List Value := [.int .i64 s.f0, .int .i64 s.f1, .int .i64 s.f2, .int .i64 s.f3, .int .i64 s.f4]
theorem flat_set : ∀ (l : List S38) (i : Nat) (n : S38) (s : S36), l[i]? = some n → (l.set i ⟨n.f0, s, n.f2⟩).flatMap encN = (l.flatMap encN).take (i * 7 + 1) ++ encS s ++ (l.flatMap encN).drop (i * 7 + 6)
 | [], i, n, s, h => by simp at h
 | m :: r, 0, n, s, h => by
  simp only [List.getElem?_cons_zero, Option.some.injEq] at h
  subst h
  rw [List.set_cons_zero, List.flatMap_cons, List.flatMap_cons]
  rfl
 | m :: r, i + 1, n, s, h => by
  rw [List.getElem?_cons_succ] at h
  have e1 : ∀ (F : List Value) (x : Nat), (encN m ++ F).take (x + 7) = encN m ++ F.take x := fun F x => rfl
  have e2 : ∀ (F : List Value) (x : Nat), (encN m ++ F).drop (x + 7) = F.drop x := fun F x => rfl
  rw [List.set_cons_succ, List.flatMap_cons, List.flatMap_cons, flat_set r i n s h, show (i + 1) * 7 + 1 = (i * 7 + 1) + 7 by omega, show (i + 1) * 7 + 6 = (i * 7 + 6) + 7 by omega, e1, e2]
  simp only [List.append_assoc]
theorem info44s : ∃ i, Tryz.prog.info? 36 = some i ∧ i.size = 5 := by
 have hi := info36
 cases hq : Tryz.prog.info? 36 with
 | none => simp [hq] at hi
 | some i => exact ⟨i, rfl, by simp [hq] at hi; exact hi.2.1⟩
theorem store_stat {op : Oper} {ops : Array Oper} {rest : List Oper} {a : Act} {w : World} {Q : Exit → Act → World → Prop} (hgd : op.guard = none) (hd : op.dst = none) (x y : Operand) (ho : op.op = .store 36 x y)
  (g c i : Nat) (base : Nat) (ok : Nat → Prop) (l : List S38) (n : S38) (s : S36) (hR : Kd.R k38 38 w base ok (.slice (some ⟨g, 0, none⟩) l.length c) l) (hn : l[i]? = some n)
  (hx : a.eval x = .pointer (some ⟨g, i * 7 + 1, none⟩)) (hy : a.eval y = .agg #[.int .i64 s.f0, .int .i64 s.f1, .int .i64 s.f2, .int .i64 s.f3, .int .i64 s.f4])
  (h : ∀ w', Kd.R k38 38 w' base (fun _ => True) (.slice (some ⟨g, 0, none⟩) l.length c) (l.set i ⟨n.f0, s, n.f2⟩) → w.grownBy w' (some g) → wpList Tryz.prog ops Q rest a w') :
  wpList Tryz.prog ops Q (op :: rest) a w := by
 have hi : i < l.length := (List.getElem?_eq_some_iff.1 hn).1
 rcases row_open hR with ⟨e, _⟩ | ⟨g', cap', cur, e, hb, hg, h1, h2, h3, h4⟩
 ·
  cases e
 ·
  injection e with e1 e2 e3
  injection e1 with e1
  injection e1 with e1
  subst e1
  subst e3
  have hsz : i * 7 + 1 + 0 + (encS s).length ≤ cur.size := by
   rw [h3]
   show i * 7 + 1 + 0 + 5 ≤ _
   omega
  have hrun := run_storeCells_at (P := Tryz.prog) g (i * 7 + 1) 38 (encS s) 0 cur w hg hsz (by
   intro v hv
   simp only [encS, List.mem_cons, List.mem_nil_iff, or_false] at hv
   rcases hv with rfl | rfl | rfl | rfl | rfl <;> rfl)
  obtain ⟨q, hq, hs⟩ := info44s
  have hsv : (storeVar 36 ⟨g, i * 7 + 1, none⟩ (.agg #[.int .i64 s.f0, .int .i64 s.f1, .int .i64 s.f2, .int .i64 s.f3, .int .i64 s.f4])).run Tryz.prog w = .ok () (w.setRow g (cur.toList.take (i * 7 + 1 + 0) ++ encS s ++ cur.toList.drop (i * 7 + 1 + 0 + (encS s).length)).toArray) := by
   rw [← hrun]
   simp [storeVar, sizeOf, typeInfo, hq, Value.cells, hs, encS]
  refine wpList_plain hgd fun K' hK' => ?_
  unfold Oper.wp execOp
  simp only [ho, hx, hy, Instr.storeAt, Instr.sureAddr, Sem.run_bind, Sem.run_pure, Result.andThen_ok, hsv]
  refine hK' _ _ ?_
  rw [hd]
  have hsl : (l.set i ⟨n.f0, s, n.f2⟩).length = l.length := List.length_set
  refine h _ ?_ ?_
  ·
   have := row_shut (l := l.set i ⟨n.f0, s, n.f2⟩) (base := base) (cap := c) (cur := (cur.toList.take (i * 7 + 1 + 0) ++ encS s ++ cur.toList.drop (i * 7 + 1 + 0 + (encS s).length)).toArray) hb (setRow_heap w g cur _ 38 _ hg) (by rw [hsl]; exact h1) h2 (by
    have h7 : (encS s).length = 5 := rfl
    rw [h7] at hsz
    rw [List.size_toArray, List.length_append, List.length_append, List.length_take, List.length_drop, Array.length_toList, h7]
    omega) (by
    rw [hsl, flat_set l i n s hn, ← h4]
    have h7 : (encS s).length = 5 := rfl
    have hX : cur.toList.length = c * 7 := by rw [Array.length_toList, h3]
    generalize cur.toList = X at hX
    generalize encS s = S at h7
    show ((X.take (i * 7 + 1 + 0) ++ S ++ X.drop (i * 7 + 1 + 0 + S.length)).toArray.toList).take (l.length * 7) = _
    rw [List.toList_toArray, h7, List.take_take, List.drop_take, List.take_append, List.take_of_length_le (by rw [List.length_append, List.length_take, h7]; omega), List.length_append, List.length_take, h7,
     show min (i * 7 + 1) (l.length * 7) = i * 7 + 1 by omega, show l.length * 7 - (min (i * 7 + 1 + 0) X.length + 5) = l.length * 7 - (i * 7 + 6) by omega])
   rwa [hsl] at this
  ·
   exact ⟨rfl, rfl, rfl, Nat.le_of_eq (size_setRow ..).symm, fun k hk hne => setRow_other w g k _ (fun e => hne (by rw [e]))⟩
end Go.Proofs.YtkhblpmjmkhiiaaGreatDoor.T
