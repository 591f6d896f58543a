/- DeltaDiffs: the edits between any two trees are the document's, or what is no tree in its one form is refused; whatever the input. -/
import Derived.Test.YtoggfapafjgkdaaDoorH6
import Derived.Test.YtoggfapafjgkdaaDoorH4
import Derived.Test.YtoggfapafjgkdaaDoorK3
import Derived.Test.YtoggfapafjgkdaaDoorH7
import Derived.Test.YtoggfapafjgkdaaDoorK1
import Derived.Test.YtoggfapafjgkdaaDoorTie
import Derived.Test.YtoggfapafjgkdaaDoorCards
import Derived.WalkKit
import Derived.ProofKit
import Derived.OpenShut
import Derived.ShutString
import Derived.ChangeOld
import Derived.Below
import Derived.SizedLaws
import Derived.Lay
import Derived.LaidMore
import Derived.LaidOnce
import Derived.SevenTiedAt
namespace Go.Proofs.YtoggfapafjgkdaaDoor.T
open Go.RowKit Go.Proofs.YtoggfapafjgkdaaDoorW.PrintWords Go.Proofs.YtoggfapafjgkdaaDoorW.PrintLast Go.Proofs.YtoggfapafjgkdaaDoorW.PrintMore Go.Proofs.YtoggfapafjgkdaaDoor.PAll
set_option linter.unusedSimpArgs false
set_option linter.unusedVariables false

theorem blk_far {w : World} {g : Nat} {o : Obj} (h : w.heap[g]? = some o) {p : Addr} (hp : g ≠ p.block) (v : Value) : (w.setCell p v).heap[g]? = some o := by
 rw [Below.heap_setCell w p v g hp]
 exact h
theorem madeT_2 {b : List S46} {n : S46} (h : n.f1.f2 = 2) : madeT b n = ⟨2, n.f0, eB, eB⟩ := by
 unfold madeT
 rw [if_pos (show knd n = 2 from h)]
theorem madeT_3 {b : List S46} {n : S46} (h : n.f1.f2 = 3) : madeT b n = ⟨4, n.f0, n.f2, eB⟩ := by
 unfold madeT
 rw [if_neg (show ¬ knd n = 2 by unfold knd; omega), if_pos (show knd n = 3 from h)]
theorem madeT_5 {b : List S46} {n : S46} (h : n.f1.f2 = 1) (h2 : pth (leadN b n) ≠ pth n) : madeT b n = ⟨5, n.f0, (leadN b n).f0, eB⟩ := by
 unfold madeT
 rw [if_neg (show ¬ knd n = 2 by unfold knd; omega), if_neg (show ¬ knd n = 3 by unfold knd; omega), if_pos h2]
theorem madeT_1 {b : List S46} {n : S46} (h : n.f1.f2 = 1) (h2 : pth (leadN b n) = pth n) : madeT b n = ⟨3, n.f0, eB, n.f2⟩ := by
 unfold madeT
 rw [if_neg (show ¬ knd n = 2 by unfold knd; omega), if_neg (show ¬ knd n = 3 by unfold knd; omega), if_neg (fun q => q h2)]
theorem may_kind {n : S46} (h : mayN n = true) : n.f1.f2 = 1 ∨ n.f1.f2 = 2 ∨ n.f1.f2 = 3 := by
 unfold mayN knd at h
 split at h
 ·
  split at h
  ·
   rename_i h2
   exact .inr (.inl h2)
  ·
   split at h
   ·
    rename_i h1
    exact .inl h1.1
   ·
    split at h
    ·
     rename_i h3
     exact .inr (.inr h3)
    ·
     cases h
 ·
  cases h
set_option maxHeartbeats 16000000 in
set_option maxRecDepth 100000 in
theorem rdiff_c (a b : List S46) (A B : Option Addr) (ca cb : Nat) (w : World) (hra : Kd.C k46 w A a.length a) (hca : a.length ≤ ca) (hrb : Kd.C k46 w B b.length b) (hcb : b.length ≤ cb)
  (hla : a.length < 2147483648) (hlb : b.length < 2147483648) :
  Calls Tryd.prog 14 #[.slice A a.length ca, .slice B b.length cb] w fun e w' => DiffRet a b w e w' := by
 have hu46 := Tryd.underlying46
 have hu44 := Tryd.underlying44
 have hu33 := Tryd.underlying33
 have HRA := Aside0.mk hra
 have HCA := Aside0.mk hca
 have HRB := Aside0.mk hrb
 have HCB := Aside0.mk hcb
 have HLA := Aside0.mk hla
 have HLB := Aside0.mk hlb
 clear hra hca hrb hcb hla hlb
 obtain ⟨ra, hra⟩ : ∃ r : Bool, r = true ↔ Formed a := by
  classical
  exact ⟨decide (Formed a), by simp⟩
 obtain ⟨rb, hrb⟩ : ∃ r : Bool, r = true ↔ Formed b := by
  classical
  exact ⟨decide (Formed b), by simp⟩
 obtain ⟨KA, hKA⟩ := evs_get (rformed_ev2 a HLA.out ra hra)
 obtain ⟨KB, hKB⟩ := evs_get (rformed_ev2 b HLB.out rb hrb)
 have HKA := Aside0.mk hKA
 have HKB := Aside0.mk hKB
 have HPA := Aside0.mk hra
 have HPB := Aside0.mk hrb
 clear hra hrb hKA hKB
 go_enter Tryd.func14, Tryd.ntmps14
 go_wp2_with fail
 refine (grapnelref19_formed.calls KA A ca a ra w HRA.out HCA.out HKA.out).mono ?_
 rintro e w1 ⟨rfl, hb1⟩
 have HB1 := Aside0.mk hb1
 clear hb1
 cases ra with
 | false =>
  have HX : Aside0 (DiffRet a b w (.returned (.tuple #[.slice none 0 0, .int .i64 5])) w1) := ⟨_, by
   unfold diffT
   rw [if_neg (fun q => by have := HPA.out.2 q.1; cases this)], by
   unfold diffT
   rw [if_neg (fun q => by have := HPA.out.2 q.1; cases this)]
   exact Kd.R_nil _ _ _ _ _, HB1.out⟩
  go_wp2_with fail
  go_ret2
  exact HX.out
 | true =>
  go_wp2_with fail
  refine (grapnelref19_formed.calls KB B cb b rb w1 (Kd.C_below HRB.out HB1.out) HCB.out HKB.out).mono ?_
  rintro e w2 ⟨rfl, hb2⟩
  have HBw := Aside0.mk (below_then HB1.out HB1.out.size hb2)
  clear hb2 HB1
  cases rb with
  | false =>
   have HX : Aside0 (DiffRet a b w (.returned (.tuple #[.slice none 0 0, .int .i64 5])) w2) := ⟨_, by
    unfold diffT
    rw [if_neg (fun q => by have := HPB.out.2 q.2; cases this)], by
    unfold diffT
    rw [if_neg (fun q => by have := HPB.out.2 q.2; cases this)]
    exact Kd.R_nil _ _ _ _ _, HBw.out⟩
   go_wp2_with fail
   go_ret2
   exact HX.out
  | true =>
   have HFa := Aside0.mk (show Formed a by first | exact HPA.out.1 rfl | exact HPA.out.1 trivial)
   have HFb := Aside0.mk (show Formed b by first | exact HPB.out.1 rfl | exact HPB.out.1 trivial)
   have HRA2 := Aside0.mk (Kd.C_below HRA.out HBw.out)
   have HRB2 := Aside0.mk (Kd.C_below HRB.out HBw.out)
   clear HRA HRB HPA HPB HKA HKB
   have HIA := Aside0.mk HFa.out.ir
   have HIB := Aside0.mk HFb.out.ir
   have HB := Aside0.mk (Below.refl w2.heap.size w2)
   have hw0 : wrap64 ((a.length : Int) - 1) = (a.length : Int) - 1 := by have := HLA.out; rw [w64 (by omega) (by omega)]
   go_wp2_with fail
   go_loopw [6, 7] (fun v6 v7 wr => ∃ m : Nat, m ≤ a.length ∧ ∃ x : Int, v7 = .int .i64 x ∧ x = (m : Int) - 1 ∧ Aside0 (Kd.R k33 33 wr w2.heap.size (fun _ => True) v6 (goneT a b (a.drop m).reverse)) ∧ Aside0 (Below w2.heap.size w2 wr)) (fun _ i _ => (intOf i + 1).toNat)
   case atStart => exact ⟨a.length, by omega, _, rfl, hw0, ⟨by rw [List.drop_length]; exact Kd.R_nil _ _ _ _ _⟩, HB⟩
   case round =>
    clear HB hw0
    obtain ⟨m, hm, x, rfl, hx, HO, HB⟩ := hrel
    cases m with
    | succ m =>
     have HM := Aside0.mk (show m < a.length by omega)
     have hxm : x = (m : Int) := by omega
     subst hxm
     clear hx hm
     have g0 : decide ((0 : Int) ≤ (m : Int)) = true := decide_eq_true (by omega)
     have p1 : (0 ≤ (m : Int)) = True := eq_true (by omega)
     have q1 : ((m : Int) < (a.length : Int)) = True := eq_true (by have := HM.out; omega)
     obtain ⟨ad, ea, x0, _⟩ := at_T46 (Kd.C_below HRA2.out HB.out) (m : Int) (by omega) (by have := HM.out; omega)
     cases ea
     simp only [Int.toNat_natCast] at x0
     obtain ⟨r, hr⟩ : ∃ r, staysT a b (pb (rd_T46 a (m : Int)).f0) = r := ⟨_, rfl⟩
     have HRr := Aside0.mk hr
     obtain ⟨KS, hKS⟩ := evs_get (stays_ev a b (rd_T46 a (m : Int)).f0 HLA.out HLB.out HIA.out HIB.out)
     rw [hr] at hKS
     have HKS := Aside0.mk hKS
     clear hr hKS
     go_wp2_with fail
     refine (grapnelref19_Stays.calls KS (some ad) ca a B cb b (rd_T46 a (m : Int)).f0 r wr (Kd.C_below HRA2.out HB.out) HCA.out (Kd.C_below HRB2.out HB.out) HCB.out HKS.out).mono ?_
     rintro e w7 ⟨rfl, hd7⟩
     have n0_ := Aside0.mk (Kd.R_below HO.out (below_drawn hd7))
     have n1_ := Aside0.mk (below_then HB.out HB.out.size (below_drawn hd7))
     have x0' : w7.cell? (ad.add (m * 7)) = some (.string (rd_T46 a (m : Int)).f0) := ((below_drawn hd7).cell (World.block_lt_of_cell? wr _ x0)).trans x0
     clear HO HB x0 hd7 HKS
     have HO := n0_
     have HB := n1_
     clear n0_ n1_
     have HGS := Aside0.mk (gone_step a b HM.out)
     rw [show pth (rd_T46 a (m : Int)) = pb (rd_T46 a (m : Int)).f0 from rfl, HRr.out] at HGS
     have HLX : Aside0 (((goneT a b (a.drop (m + 1)).reverse).length + 1) * 56 ≤ 140737488355328) := ⟨by
      have h1 := gone_len a b (a.drop (m + 1)).reverse
      rw [List.length_reverse, List.length_drop] at h1
      have := HLA.out
      omega⟩
     cases r with
     | true =>
      have HO2 : Aside0 (Kd.R k33 33 w7 w2.heap.size (fun _ => True) u6 (goneT a b (a.drop m).reverse)) := ⟨by rw [HGS.out]; simpa using HO.out⟩
      go_wp2_with fail
      go_roundw
      case rel =>
       exact ⟨m, by have := HM.out; omega, _, rfl, by have := HM.out; have := HLA.out; rw [w64 (by omega) (by omega)], HO2, HB⟩
      case measure =>
       have := HM.out
       have := HLA.out
       rw [w64 (by omega) (by omega)]
       first
        | (simp [intOf]; done)
        | (simp [intOf]; omega)
     | false =>
      go_wp2_with (first | ((with_reducible refine gate_builtin (b := .append) (xs := #[.tmp 36, .tmp 43]) rfl ?_); at_builtin; refine Kd.R_append k33 (w0 := w2) w2.heap.size rfl (.tmp 36) (.tmp 43) 24 33 (.agg #[(.int .i64 0), (.string ⟨#[]⟩), (.string ⟨#[]⟩), (.string ⟨#[]⟩)]) 56 rfl Tryd.underlying24 info33 rfl (by decide) (by omega) u6 (goneT a b (a.drop (m + 1)).reverse) (⟨1, (rd_T46 a (m : Int)).f0, (⟨#[]⟩ : ByteArray), (⟨#[]⟩ : ByteArray)⟩ : S33) [.int .i64 1, .string ((rd_T46 a (m : Int)).f0), .string (⟨#[]⟩ : ByteArray), .string (⟨#[]⟩ : ByteArray)] (fun _ => True) (fun _ => False) rfl rfl ?aP (fun _ hk => hk.elim) ?aF ?aO ?aB ?aS ?aL ?_; (case aP => exact k33_mkM _ _ _ (⟨1, (rd_T46 a (m : Int)).f0, (⟨#[]⟩ : ByteArray), (⟨#[]⟩ : ByteArray)⟩ : S33)); (case aB => exact HB.out); (case aF => exact (fun _ _ => trivial)); (case aO => first | exact HO.out | exact (Kd.R_mono HO.out (fun _ _ => trivial))); (case aS => exact (below_size HB.out)); (case aL => exact HLX.out); intro v9 w9 ho hb hg hat; have n0_ := Aside0.mk hb; have n1_ := Aside0.mk ho; clear HB HO; have HB := n0_; have HO := n1_; clear n0_ n1_ ho hb hg hat))
      have HO2 : Aside0 (Kd.R k33 33 w9 w2.heap.size (fun _ => True) v9 (goneT a b (a.drop m).reverse)) := ⟨by rw [HGS.out]; exact HO.out⟩
      go_roundw
      case rel =>
       exact ⟨m, by have := HM.out; omega, _, rfl, by have := HM.out; have := HLA.out; rw [w64 (by omega) (by omega)], HO2, HB⟩
      case measure =>
       have := HM.out
       have := HLA.out
       rw [w64 (by omega) (by omega)]
       first
        | (simp [intOf]; done)
        | (simp [intOf]; omega)
    | zero =>
     have hxm : x = -1 := by omega
     subst hxm
     clear hx hm
     have g0 : decide ((0 : Int) ≤ -1) = false := decide_eq_false (by omega)
     have HO1 : Aside0 (Kd.R k33 33 wr w2.heap.size (fun _ => True) u6 (goneT a b a.reverse ++ (b.take 0).flatMap (comeT a b))) := ⟨by simpa using HO.out⟩
     clear HO
     have HB3 := HB
     clear HB
     go_wp2_with fail
     go_loopw [6, 8] (fun v6 v8 wr => ∃ k : Nat, k ≤ b.length ∧ v8 = .int .i64 k ∧ Aside0 (Kd.R k33 33 wr w2.heap.size (fun _ => True) v6 (goneT a b a.reverse ++ (b.take k).flatMap (comeT a b))) ∧ Aside0 (Below w2.heap.size w2 wr)) (fun _ i _ => b.length - (intOf i).toNat)
     case atStart => exact ⟨0, by omega, rfl, HO1, HB3⟩
     case round =>
      clear HO1 HB3
      obtain ⟨k, hk, rfl, HO, HB⟩ := hrel
      by_cases hkl : k < b.length
      ·
       have HK := Aside0.mk hkl
       obtain ⟨j, hj, hij⟩ := HIB.out.at hkl
       have HJ := Aside0.mk hj
       have HIJ := Aside0.mk hij
       clear hj hij
       have hcr := Kd.C_below HRB2.out HB.out
       obtain ⟨bd, ea, x0, x1, x2, x3, x4, x5, x6⟩ := at_T46 hcr (k : Int) (by omega) (by omega)
       cases ea
       simp only [Int.toNat_natCast] at x0 x1 x2 x3 x4 x5 x6
       have p1 : (0 ≤ (k : Int)) = True := eq_true (by omega)
       have q1 : ((k : Int) < (b.length : Int)) = True := eq_true (by omega)
       have q2 : (k < b.length) = True := eq_true hkl
       have p3 : (0 ≤ (j : Int)) = True := eq_true (by omega)
       have q3 : ((j : Int) < (b.length : Int)) = True := eq_true (by have := HJ.out; omega)
       have q4 : (j < b.length) = True := eq_true HJ.out
       have hwj : wrap64 ((rd_T46 b (k : Int)).f1.f0 - 1) = (j : Int) := by
        have := HIJ.out
        have := HJ.out
        have := HLB.out
        unfold ino at *
        rw [w64 (by omega) (by omega)]
        omega
       have HMK : Aside0 ((rd_T46 b (k : Int)).f1.f2 = 1 ∨ (rd_T46 b (k : Int)).f1.f2 = 2 ∨ (rd_T46 b (k : Int)).f1.f2 = 3) := ⟨may_kind (HFb.out.1.may _ (rdn_mem hkl))⟩
       clear hkl hk hcr
       obtain ⟨r, hr⟩ : ∃ r, staysT a b (pb (rd_T46 b (k : Int)).f0) = r := ⟨_, rfl⟩
       have HRr := Aside0.mk hr
       obtain ⟨KS, hKS⟩ := evs_get (stays_ev a b (rd_T46 b (k : Int)).f0 HLA.out HLB.out HIA.out HIB.out)
       rw [hr] at hKS
       have HKS := Aside0.mk hKS
       clear hr hKS
       go_wp2_with (first | ((with_reducible refine gate_dst (N := 9) rfl ?_); refine box_event ?hg (N := 9) ?hd (cs := #[.string (⟨#[]⟩ : ByteArray), .int .i64 0, .int .i64 0, .int .i64 0, .int .i64 0, .int .i64 0, .string (⟨#[]⟩ : ByteArray)]) (t := 46) ?hr ?_; (case hd => rfl); (case hg => rfl); (case hr => first | (go_simp; done) | (go_simp; rfl)); intro gx hg w5 hbox hb; have n0_ := Aside0.mk (Kd.R_below (Kd.R_elderB HO.out gx (Nat.le_of_eq hg.symm)) hb); have n1_ := Aside0.mk (below_then HB.out HB.out.size hb); have n2_ := Aside0.mk hbox; have n3_ := Aside0.mk ((by rw [hg]; exact below_size HB.out) : w2.heap.size ≤ gx); clear HO HB; have HO := n0_; have HB := n1_; have BK := n2_; have GE := n3_; clear n0_ n1_ n2_ n3_ hb hbox hg) | ((with_reducible refine gate_store (t := 46) rfl ?_); refine store_node' rfl rfl _ _ rfl gx _ (rd_T46 b (k : Int)) BK.out rfl rfl rfl ?_; intro w6 hS1 hS2; have s0_ := Aside0.mk (Kd.R_mono (Kd.R_grown HO.out hS2 (fun q hq e => hq.2 (Option.some.inj e))) (fun _ _ => trivial) : Kd.R k33 33 w6 w2.heap.size (fun _ => True) _ _); have s1_ := Aside0.mk (HB.out.grown hS2 HB.out.size (fun q hq => by injection hq with hq; rw [← hq]; exact GE.out)); have s2_ := Aside0.mk hS1; clear HO HB BK hS1 hS2; have HO := s0_; have HB := s1_; have BK := s2_; clear s0_ s1_ s2_; have c0 : w6.cell? ⟨gx, 0, none⟩ = some (.string (rd_T46 b (k : Int)).f0) := (blk_cell BK.out 0).trans rfl; have c1 : w6.cell? ⟨gx, 1, none⟩ = some (.int .i64 (rd_T46 b (k : Int)).f1.f0) := (blk_cell BK.out 1).trans rfl; have y0 := (pt_row (Kd.C_below HRB2.out HB.out) HJ.out).p0))
       clear x0 x1 x2 x3 x4 x5 x6
       refine (grapnelref19_Stays.calls KS A ca a (some bd) cb b (rd_T46 b (k : Int)).f0 r w6 (Kd.C_below HRA2.out HB.out) HCA.out (Kd.C_below HRB2.out HB.out) HCB.out HKS.out).mono ?_
       rintro e w7 ⟨rfl, hd7⟩
       have n0_ := Aside0.mk (Kd.R_below HO.out (below_drawn hd7))
       have n1_ := Aside0.mk (below_then HB.out HB.out.size (below_drawn hd7))
       have n2_ := Aside0.mk (blk_below BK.out (below_drawn hd7))
       clear HO HB BK c0 c1 y0 hd7 HKS
       have HO := n0_
       have HB := n1_
       have BK := n2_
       clear n0_ n1_ n2_
       have HCS := Aside0.mk (come_step a b HK.out (goneT a b a.reverse))
       have HLX : Aside0 (((goneT a b a.reverse ++ (b.take k).flatMap (comeT a b)).length + 1) * 56 ≤ 140737488355328) := ⟨by
        have h1 := gone_len a b a.reverse
        have h2 := come_len a b (b.take k)
        rw [List.length_reverse] at h1
        rw [List.length_take] at h2
        rw [List.length_append]
        have := HLA.out
        have := HLB.out
        omega⟩
       have hlead : leadN b (rd_T46 b (k : Int)) = rd_T46 b (j : Int) := by
        unfold leadN
        rw [HIJ.out, Int.add_sub_cancel]
       have HLD := Aside0.mk hlead
       clear hlead
       have c0 : w7.cell? ⟨gx, 0, none⟩ = some (.string (rd_T46 b (k : Int)).f0) := (blk_cell BK.out 0).trans rfl
       have c3 : w7.cell? ⟨gx, 3, none⟩ = some (.int .i64 (rd_T46 b (k : Int)).f1.f2) := (blk_cell BK.out 3).trans rfl
       have c13 : w7.cell? ⟨gx, 1 + 2, none⟩ = some (.int .i64 (rd_T46 b (k : Int)).f1.f2) := c3
       have c6 : w7.cell? ⟨gx, 6, none⟩ = some (.string (rd_T46 b (k : Int)).f2) := (blk_cell BK.out 6).trans rfl
       cases r with
       | false =>
        have hcm : comeT a b (rd_T46 b (k : Int)) = [madeT b (rd_T46 b (k : Int))] := by
         unfold comeT
         rw [if_neg (by rw [show pth (rd_T46 b (k : Int)) = pb (rd_T46 b (k : Int)).f0 from rfl, HRr.out]; decide)]
        rw [hcm] at HCS
        clear hcm
        by_cases h3 : (rd_T46 b (k : Int)).f1.f2 = 3
        ·
         have z3 : ((rd_T46 b (k : Int)).f1.f2 == 3) = true := beq_iff_eq.2 h3
         have z1 : ((rd_T46 b (k : Int)).f1.f2 == 1) = false := beq_eq_false_iff_ne.2 (by omega)
         have hmd := madeT_3 (b := b) h3
         clear h3
         go_wp2_with (first | ((with_reducible refine gate_dst (N := 11) rfl ?_); refine box_event ?hg (N := 11) ?hd (cs := #[.int .i64 0, .string (⟨#[]⟩ : ByteArray), .string (⟨#[]⟩ : ByteArray), .string (⟨#[]⟩ : ByteArray)]) (t := 33) ?hr ?_; (case hd => rfl); (case hg => rfl); (case hr => first | (go_simp; done) | (go_simp; rfl)); intro ge hg w5 hbox hb; have n0_ := Aside0.mk (Kd.R_below (Kd.R_elderB HO.out ge (Nat.le_of_eq hg.symm)) hb); have n1_ := Aside0.mk (below_then HB.out HB.out.size hb); have n2_ := Aside0.mk hbox; have n3_ := Aside0.mk ((by rw [hg]; exact below_size HB.out) : w2.heap.size ≤ ge); have n4_ := Aside0.mk (blk_below BK.out hb); have n5_ : Aside0 (gx ≠ ge) := ⟨by have := blk_lt BK.out; omega⟩; clear HO HB BK; have HO := n0_; have HB := n1_; have BE := n2_; have GE2 := n3_; have BK := n4_; have GX := n5_; clear n0_ n1_ n2_ n3_ n4_ n5_ hb hbox hg) | ((with_reducible refine gate_store (t := 33) rfl ?_); refine store_edit rfl rfl _ _ rfl ge _ (⟨2, (rd_T46 b (k : Int)).f0, (⟨#[]⟩ : ByteArray), (⟨#[]⟩ : ByteArray)⟩ : S33) BE.out rfl rfl rfl ?_; intro w8 hS1 hS2; have s0_ := Aside0.mk (Kd.R_grown HO.out hS2 (fun q hq e => hq.2 (Option.some.inj e))); have s1_ := Aside0.mk (HB.out.grown hS2 HB.out.size (fun q hq => by injection hq with hq; rw [← hq]; exact GE2.out)); have s2_ := Aside0.mk hS1; have s3_ := Aside0.mk (blk_grown BK.out hS2 (fun e => GX.out (Option.some.inj e))); clear HO HB BE BK hS1 hS2; have HO := s0_; have HB := s1_; have BE := s2_; have BK := s3_; clear s0_ s1_ s2_ s3_; clear c0 c3 c13 c6; have c0 : w8.cell? ⟨gx, 0, none⟩ = some (.string (rd_T46 b (k : Int)).f0) := (blk_cell BK.out 0).trans rfl; have c3 : w8.cell? ⟨gx, 3, none⟩ = some (.int .i64 (rd_T46 b (k : Int)).f1.f2) := (blk_cell BK.out 3).trans rfl; have c13 : w8.cell? ⟨gx, 1 + 2, none⟩ = some (.int .i64 (rd_T46 b (k : Int)).f1.f2) := c3; have c6 : w8.cell? ⟨gx, 6, none⟩ = some (.string (rd_T46 b (k : Int)).f2) := (blk_cell BK.out 6).trans rfl; have d0 : w8.cell? ⟨ge, 0, none⟩ = some (.int .i64 2) := (blk_cell BE.out 0).trans rfl; have d1 : w8.cell? ⟨ge, 1, none⟩ = some (.string (rd_T46 b (k : Int)).f0) := (blk_cell BE.out 1).trans rfl; have d2 : w8.cell? ⟨ge, 2, none⟩ = some (.string (⟨#[]⟩ : ByteArray)) := (blk_cell BE.out 2).trans rfl; have d3 : w8.cell? ⟨ge, 3, none⟩ = some (.string (⟨#[]⟩ : ByteArray)) := (blk_cell BE.out 3).trans rfl; have fz0 : w8.frozen? ⟨ge, 0, none⟩ = false := blk_frozen BE.out 0; have fz1 : w8.frozen? ⟨ge, 1, none⟩ = false := blk_frozen BE.out 1; have fz2 : w8.frozen? ⟨ge, 2, none⟩ = false := blk_frozen BE.out 2; have fz3 : w8.frozen? ⟨ge, 3, none⟩ = false := blk_frozen BE.out 3) | ((with_reducible refine gate_store (t := 3) (p := 106) rfl ?_); refine store_event (t := 3) (p := 106) (v := ?vo_w10_4) (w1 := (w8.setCell ⟨ge, 0, none⟩ (.int .i64 4))) ?hg ?ho ?hn ?hr ?_; (case ho => rfl); (case hg => rfl); (case hn => rfl); (case hr => first | (go_simp; done) | (go_simp; rfl)); intro w10 hw; have s0_ := Aside0.mk (Kd.R_far (p := ⟨ge, 0, none⟩) HO.out (fun _ hk => hk.2) (.int .i64 4)); have s1_ := Aside0.mk (below_set (j := 0) (v := (.int .i64 4)) HB.out GE2.out); have s2_ := Aside0.mk (blk_put (cs' := #[.int .i64 4, .string (rd_T46 b (k : Int)).f0, .string (⟨#[]⟩ : ByteArray), .string (⟨#[]⟩ : ByteArray)]) BE.out 0 (.int .i64 4) rfl); have s3_ := Aside0.mk (blk_far BK.out (p := ⟨ge, 0, none⟩) GX.out (.int .i64 4)); rw [← hw] at s0_ s1_ s2_ s3_; clear HO HB BE BK hw; have HO := s0_; have HB := s1_; have BE := s2_; have BK := s3_; clear s0_ s1_ s2_ s3_; clear d0 d1 d2 d3 fz0 fz1 fz2 fz3 c0 c3 c13 c6; have d0 : w10.cell? ⟨ge, 0, none⟩ = some (.int .i64 4) := (blk_cell BE.out 0).trans rfl; have d1 : w10.cell? ⟨ge, 1, none⟩ = some (.string (rd_T46 b (k : Int)).f0) := (blk_cell BE.out 1).trans rfl; have d2 : w10.cell? ⟨ge, 2, none⟩ = some (.string (⟨#[]⟩ : ByteArray)) := (blk_cell BE.out 2).trans rfl; have d3 : w10.cell? ⟨ge, 3, none⟩ = some (.string (⟨#[]⟩ : ByteArray)) := (blk_cell BE.out 3).trans rfl; have fz0 : w10.frozen? ⟨ge, 0, none⟩ = false := blk_frozen BE.out 0; have fz1 : w10.frozen? ⟨ge, 1, none⟩ = false := blk_frozen BE.out 1; have fz2 : w10.frozen? ⟨ge, 2, none⟩ = false := blk_frozen BE.out 2; have fz3 : w10.frozen? ⟨ge, 3, none⟩ = false := blk_frozen BE.out 3; have c0 : w10.cell? ⟨gx, 0, none⟩ = some (.string (rd_T46 b (k : Int)).f0) := (blk_cell BK.out 0).trans rfl; have c3 : w10.cell? ⟨gx, 3, none⟩ = some (.int .i64 (rd_T46 b (k : Int)).f1.f2) := (blk_cell BK.out 3).trans rfl; have c13 : w10.cell? ⟨gx, 1 + 2, none⟩ = some (.int .i64 (rd_T46 b (k : Int)).f1.f2) := c3; have c6 : w10.cell? ⟨gx, 6, none⟩ = some (.string (rd_T46 b (k : Int)).f2) := (blk_cell BK.out 6).trans rfl) | ((with_reducible refine gate_store (t := 9) (p := 109) rfl ?_); refine store_event (t := 9) (p := 109) (v := ?vo_w11_4) (w1 := (w10.setCell ⟨ge, 2, none⟩ (.string (rd_T46 b (k : Int)).f2))) ?hg ?ho ?hn ?hr ?_; (case ho => rfl); (case hg => rfl); (case hn => rfl); (case hr => first | (go_simp; done) | (go_simp; rfl)); intro w11 hw; have s0_ := Aside0.mk (Kd.R_far (p := ⟨ge, 2, none⟩) HO.out (fun _ hk => hk.2) (.string (rd_T46 b (k : Int)).f2)); have s1_ := Aside0.mk (below_set (j := 2) (v := (.string (rd_T46 b (k : Int)).f2)) HB.out GE2.out); have s2_ := Aside0.mk (blk_put (cs' := #[.int .i64 4, .string (rd_T46 b (k : Int)).f0, .string (rd_T46 b (k : Int)).f2, .string (⟨#[]⟩ : ByteArray)]) BE.out 2 (.string (rd_T46 b (k : Int)).f2) rfl); have s3_ := Aside0.mk (blk_far BK.out (p := ⟨ge, 2, none⟩) GX.out (.string (rd_T46 b (k : Int)).f2)); rw [← hw] at s0_ s1_ s2_ s3_; clear HO HB BE BK hw; have HO := s0_; have HB := s1_; have BE := s2_; have BK := s3_; clear s0_ s1_ s2_ s3_; clear d0 d1 d2 d3 fz0 fz1 fz2 fz3 c0 c3 c13 c6; have d0 : w11.cell? ⟨ge, 0, none⟩ = some (.int .i64 4) := (blk_cell BE.out 0).trans rfl; have d1 : w11.cell? ⟨ge, 1, none⟩ = some (.string (rd_T46 b (k : Int)).f0) := (blk_cell BE.out 1).trans rfl; have d2 : w11.cell? ⟨ge, 2, none⟩ = some (.string (rd_T46 b (k : Int)).f2) := (blk_cell BE.out 2).trans rfl; have d3 : w11.cell? ⟨ge, 3, none⟩ = some (.string (⟨#[]⟩ : ByteArray)) := (blk_cell BE.out 3).trans rfl; have fz0 : w11.frozen? ⟨ge, 0, none⟩ = false := blk_frozen BE.out 0; have fz1 : w11.frozen? ⟨ge, 1, none⟩ = false := blk_frozen BE.out 1; have fz2 : w11.frozen? ⟨ge, 2, none⟩ = false := blk_frozen BE.out 2; have fz3 : w11.frozen? ⟨ge, 3, none⟩ = false := blk_frozen BE.out 3; have c0 : w11.cell? ⟨gx, 0, none⟩ = some (.string (rd_T46 b (k : Int)).f0) := (blk_cell BK.out 0).trans rfl; have c3 : w11.cell? ⟨gx, 3, none⟩ = some (.int .i64 (rd_T46 b (k : Int)).f1.f2) := (blk_cell BK.out 3).trans rfl; have c13 : w11.cell? ⟨gx, 1 + 2, none⟩ = some (.int .i64 (rd_T46 b (k : Int)).f1.f2) := c3; have c6 : w11.cell? ⟨gx, 6, none⟩ = some (.string (rd_T46 b (k : Int)).f2) := (blk_cell BK.out 6).trans rfl) | ((with_reducible refine gate_builtin (b := .append) (xs := #[.tmp 137, .tmp 139]) rfl ?_); at_builtin; refine Kd.R_append k33 (w0 := w2) w2.heap.size rfl (.tmp 137) (.tmp 139) 24 33 (.agg #[(.int .i64 0), (.string ⟨#[]⟩), (.string ⟨#[]⟩), (.string ⟨#[]⟩)]) 56 rfl Tryd.underlying24 info33 rfl (by decide) (by omega) u6 (goneT a b a.reverse ++ (b.take k).flatMap (comeT a b)) (⟨4, (rd_T46 b (k : Int)).f0, (rd_T46 b (k : Int)).f2, (⟨#[]⟩ : ByteArray)⟩ : S33) [.int .i64 4, .string (rd_T46 b (k : Int)).f0, .string (rd_T46 b (k : Int)).f2, .string (⟨#[]⟩ : ByteArray)] (fun _ => True) (fun _ => False) rfl rfl ?aP (fun _ hk => hk.elim) ?aF ?aO ?aB ?aS ?aL ?_; (case aP => exact k33_mkM _ _ _ (⟨4, (rd_T46 b (k : Int)).f0, (rd_T46 b (k : Int)).f2, (⟨#[]⟩ : ByteArray)⟩ : S33)); (case aB => exact HB.out); (case aF => exact (fun _ _ => trivial)); (case aO => first | exact HO.out | exact (Kd.R_mono HO.out (fun _ _ => trivial))); (case aS => exact (below_size HB.out)); (case aL => exact HLX.out); intro v9 w9 ho hb hg hat; have n0_ := Aside0.mk hb; have n1_ := Aside0.mk ho; clear HB HO; have HB := n0_; have HO := n1_; clear n0_ n1_ ho hb hg hat))
         have HO2 : Aside0 (Kd.R k33 33 w9 w2.heap.size (fun _ => True) v9 (goneT a b a.reverse ++ (b.take (k + 1)).flatMap (comeT a b))) := ⟨by rw [HCS.out, hmd]; exact HO.out⟩
         go_roundw
         case rel =>
          have h1 := HK.out
          have h2 := HLB.out
          exact ⟨k + 1, by omega, by rw [w64 (by omega) (by omega)]; rfl, HO2, HB⟩
         case measure =>
          have := HK.out
          have := HLB.out
          rw [w64 (by omega) (by omega)]
          first
           | (simp [intOf]; done)
           | (simp [intOf]; omega)
        ·
         have z3 : ((rd_T46 b (k : Int)).f1.f2 == 3) = false := beq_eq_false_iff_ne.2 h3
         by_cases h1 : (rd_T46 b (k : Int)).f1.f2 = 1
         ·
          have z1 : ((rd_T46 b (k : Int)).f1.f2 == 1) = true := beq_iff_eq.2 h1
          by_cases h2 : pb (rd_T46 b (j : Int)).f0 = pb (rd_T46 b (k : Int)).f0
          ·
           have z2 : ((rd_T46 b (j : Int)).f0.toList == (rd_T46 b (k : Int)).f0.toList) = true := by rw [toL, toL]; exact beq_iff_eq.2 h2
           have hmd := madeT_1 (b := b) h1 (by rw [HLD.out]; exact h2)
           clear h1 h2 h3
           go_wp2_with (first | ((with_reducible refine gate_dst (N := 11) rfl ?_); refine box_event ?hg (N := 11) ?hd (cs := #[.int .i64 0, .string (⟨#[]⟩ : ByteArray), .string (⟨#[]⟩ : ByteArray), .string (⟨#[]⟩ : ByteArray)]) (t := 33) ?hr ?_; (case hd => rfl); (case hg => rfl); (case hr => first | (go_simp; done) | (go_simp; rfl)); intro ge hg w5 hbox hb; have n0_ := Aside0.mk (Kd.R_below (Kd.R_elderB HO.out ge (Nat.le_of_eq hg.symm)) hb); have n1_ := Aside0.mk (below_then HB.out HB.out.size hb); have n2_ := Aside0.mk hbox; have n3_ := Aside0.mk ((by rw [hg]; exact below_size HB.out) : w2.heap.size ≤ ge); have n4_ := Aside0.mk (blk_below BK.out hb); have n5_ : Aside0 (gx ≠ ge) := ⟨by have := blk_lt BK.out; omega⟩; clear HO HB BK; have HO := n0_; have HB := n1_; have BE := n2_; have GE2 := n3_; have BK := n4_; have GX := n5_; clear n0_ n1_ n2_ n3_ n4_ n5_ hb hbox hg) | ((with_reducible refine gate_store (t := 33) rfl ?_); refine store_edit rfl rfl _ _ rfl ge _ (⟨2, (rd_T46 b (k : Int)).f0, (⟨#[]⟩ : ByteArray), (⟨#[]⟩ : ByteArray)⟩ : S33) BE.out rfl rfl rfl ?_; intro w8 hS1 hS2; have s0_ := Aside0.mk (Kd.R_grown HO.out hS2 (fun q hq e => hq.2 (Option.some.inj e))); have s1_ := Aside0.mk (HB.out.grown hS2 HB.out.size (fun q hq => by injection hq with hq; rw [← hq]; exact GE2.out)); have s2_ := Aside0.mk hS1; have s3_ := Aside0.mk (blk_grown BK.out hS2 (fun e => GX.out (Option.some.inj e))); clear HO HB BE BK hS1 hS2; have HO := s0_; have HB := s1_; have BE := s2_; have BK := s3_; clear s0_ s1_ s2_ s3_; clear c0 c3 c13 c6; have c0 : w8.cell? ⟨gx, 0, none⟩ = some (.string (rd_T46 b (k : Int)).f0) := (blk_cell BK.out 0).trans rfl; have c3 : w8.cell? ⟨gx, 3, none⟩ = some (.int .i64 (rd_T46 b (k : Int)).f1.f2) := (blk_cell BK.out 3).trans rfl; have c13 : w8.cell? ⟨gx, 1 + 2, none⟩ = some (.int .i64 (rd_T46 b (k : Int)).f1.f2) := c3; have c6 : w8.cell? ⟨gx, 6, none⟩ = some (.string (rd_T46 b (k : Int)).f2) := (blk_cell BK.out 6).trans rfl; have d0 : w8.cell? ⟨ge, 0, none⟩ = some (.int .i64 2) := (blk_cell BE.out 0).trans rfl; have d1 : w8.cell? ⟨ge, 1, none⟩ = some (.string (rd_T46 b (k : Int)).f0) := (blk_cell BE.out 1).trans rfl; have d2 : w8.cell? ⟨ge, 2, none⟩ = some (.string (⟨#[]⟩ : ByteArray)) := (blk_cell BE.out 2).trans rfl; have d3 : w8.cell? ⟨ge, 3, none⟩ = some (.string (⟨#[]⟩ : ByteArray)) := (blk_cell BE.out 3).trans rfl; have fz0 : w8.frozen? ⟨ge, 0, none⟩ = false := blk_frozen BE.out 0; have fz1 : w8.frozen? ⟨ge, 1, none⟩ = false := blk_frozen BE.out 1; have fz2 : w8.frozen? ⟨ge, 2, none⟩ = false := blk_frozen BE.out 2; have fz3 : w8.frozen? ⟨ge, 3, none⟩ = false := blk_frozen BE.out 3) | ((with_reducible refine gate_store (t := 3) (p := 120) rfl ?_); refine store_event (t := 3) (p := 120) (v := ?vo_w10_3) (w1 := (w8.setCell ⟨ge, 0, none⟩ (.int .i64 3))) ?hg ?ho ?hn ?hr ?_; (case ho => rfl); (case hg => rfl); (case hn => rfl); (case hr => first | (go_simp; done) | (go_simp; rfl)); intro w10 hw; have s0_ := Aside0.mk (Kd.R_far (p := ⟨ge, 0, none⟩) HO.out (fun _ hk => hk.2) (.int .i64 3)); have s1_ := Aside0.mk (below_set (j := 0) (v := (.int .i64 3)) HB.out GE2.out); have s2_ := Aside0.mk (blk_put (cs' := #[.int .i64 3, .string (rd_T46 b (k : Int)).f0, .string (⟨#[]⟩ : ByteArray), .string (⟨#[]⟩ : ByteArray)]) BE.out 0 (.int .i64 3) rfl); have s3_ := Aside0.mk (blk_far BK.out (p := ⟨ge, 0, none⟩) GX.out (.int .i64 3)); rw [← hw] at s0_ s1_ s2_ s3_; clear HO HB BE BK hw; have HO := s0_; have HB := s1_; have BE := s2_; have BK := s3_; clear s0_ s1_ s2_ s3_; clear d0 d1 d2 d3 fz0 fz1 fz2 fz3 c0 c3 c13 c6; have d0 : w10.cell? ⟨ge, 0, none⟩ = some (.int .i64 3) := (blk_cell BE.out 0).trans rfl; have d1 : w10.cell? ⟨ge, 1, none⟩ = some (.string (rd_T46 b (k : Int)).f0) := (blk_cell BE.out 1).trans rfl; have d2 : w10.cell? ⟨ge, 2, none⟩ = some (.string (⟨#[]⟩ : ByteArray)) := (blk_cell BE.out 2).trans rfl; have d3 : w10.cell? ⟨ge, 3, none⟩ = some (.string (⟨#[]⟩ : ByteArray)) := (blk_cell BE.out 3).trans rfl; have fz0 : w10.frozen? ⟨ge, 0, none⟩ = false := blk_frozen BE.out 0; have fz1 : w10.frozen? ⟨ge, 1, none⟩ = false := blk_frozen BE.out 1; have fz2 : w10.frozen? ⟨ge, 2, none⟩ = false := blk_frozen BE.out 2; have fz3 : w10.frozen? ⟨ge, 3, none⟩ = false := blk_frozen BE.out 3; have c0 : w10.cell? ⟨gx, 0, none⟩ = some (.string (rd_T46 b (k : Int)).f0) := (blk_cell BK.out 0).trans rfl; have c3 : w10.cell? ⟨gx, 3, none⟩ = some (.int .i64 (rd_T46 b (k : Int)).f1.f2) := (blk_cell BK.out 3).trans rfl; have c13 : w10.cell? ⟨gx, 1 + 2, none⟩ = some (.int .i64 (rd_T46 b (k : Int)).f1.f2) := c3; have c6 : w10.cell? ⟨gx, 6, none⟩ = some (.string (rd_T46 b (k : Int)).f2) := (blk_cell BK.out 6).trans rfl) | ((with_reducible refine gate_store (t := 9) (p := 123) rfl ?_); refine store_event (t := 9) (p := 123) (v := ?vo_w11_3) (w1 := (w10.setCell ⟨ge, 3, none⟩ (.string (rd_T46 b (k : Int)).f2))) ?hg ?ho ?hn ?hr ?_; (case ho => rfl); (case hg => rfl); (case hn => rfl); (case hr => first | (go_simp; done) | (go_simp; rfl)); intro w11 hw; have s0_ := Aside0.mk (Kd.R_far (p := ⟨ge, 3, none⟩) HO.out (fun _ hk => hk.2) (.string (rd_T46 b (k : Int)).f2)); have s1_ := Aside0.mk (below_set (j := 3) (v := (.string (rd_T46 b (k : Int)).f2)) HB.out GE2.out); have s2_ := Aside0.mk (blk_put (cs' := #[.int .i64 3, .string (rd_T46 b (k : Int)).f0, .string (⟨#[]⟩ : ByteArray), .string (rd_T46 b (k : Int)).f2]) BE.out 3 (.string (rd_T46 b (k : Int)).f2) rfl); have s3_ := Aside0.mk (blk_far BK.out (p := ⟨ge, 3, none⟩) GX.out (.string (rd_T46 b (k : Int)).f2)); rw [← hw] at s0_ s1_ s2_ s3_; clear HO HB BE BK hw; have HO := s0_; have HB := s1_; have BE := s2_; have BK := s3_; clear s0_ s1_ s2_ s3_; clear d0 d1 d2 d3 fz0 fz1 fz2 fz3 c0 c3 c13 c6; have d0 : w11.cell? ⟨ge, 0, none⟩ = some (.int .i64 3) := (blk_cell BE.out 0).trans rfl; have d1 : w11.cell? ⟨ge, 1, none⟩ = some (.string (rd_T46 b (k : Int)).f0) := (blk_cell BE.out 1).trans rfl; have d2 : w11.cell? ⟨ge, 2, none⟩ = some (.string (⟨#[]⟩ : ByteArray)) := (blk_cell BE.out 2).trans rfl; have d3 : w11.cell? ⟨ge, 3, none⟩ = some (.string (rd_T46 b (k : Int)).f2) := (blk_cell BE.out 3).trans rfl; have fz0 : w11.frozen? ⟨ge, 0, none⟩ = false := blk_frozen BE.out 0; have fz1 : w11.frozen? ⟨ge, 1, none⟩ = false := blk_frozen BE.out 1; have fz2 : w11.frozen? ⟨ge, 2, none⟩ = false := blk_frozen BE.out 2; have fz3 : w11.frozen? ⟨ge, 3, none⟩ = false := blk_frozen BE.out 3; have c0 : w11.cell? ⟨gx, 0, none⟩ = some (.string (rd_T46 b (k : Int)).f0) := (blk_cell BK.out 0).trans rfl; have c3 : w11.cell? ⟨gx, 3, none⟩ = some (.int .i64 (rd_T46 b (k : Int)).f1.f2) := (blk_cell BK.out 3).trans rfl; have c13 : w11.cell? ⟨gx, 1 + 2, none⟩ = some (.int .i64 (rd_T46 b (k : Int)).f1.f2) := c3; have c6 : w11.cell? ⟨gx, 6, none⟩ = some (.string (rd_T46 b (k : Int)).f2) := (blk_cell BK.out 6).trans rfl) | ((with_reducible refine gate_builtin (b := .append) (xs := #[.tmp 137, .tmp 139]) rfl ?_); at_builtin; refine Kd.R_append k33 (w0 := w2) w2.heap.size rfl (.tmp 137) (.tmp 139) 24 33 (.agg #[(.int .i64 0), (.string ⟨#[]⟩), (.string ⟨#[]⟩), (.string ⟨#[]⟩)]) 56 rfl Tryd.underlying24 info33 rfl (by decide) (by omega) u6 (goneT a b a.reverse ++ (b.take k).flatMap (comeT a b)) (⟨3, (rd_T46 b (k : Int)).f0, (⟨#[]⟩ : ByteArray), (rd_T46 b (k : Int)).f2⟩ : S33) [.int .i64 3, .string (rd_T46 b (k : Int)).f0, .string (⟨#[]⟩ : ByteArray), .string (rd_T46 b (k : Int)).f2] (fun _ => True) (fun _ => False) rfl rfl ?aP (fun _ hk => hk.elim) ?aF ?aO ?aB ?aS ?aL ?_; (case aP => exact k33_mkM _ _ _ (⟨3, (rd_T46 b (k : Int)).f0, (⟨#[]⟩ : ByteArray), (rd_T46 b (k : Int)).f2⟩ : S33)); (case aB => exact HB.out); (case aF => exact (fun _ _ => trivial)); (case aO => first | exact HO.out | exact (Kd.R_mono HO.out (fun _ _ => trivial))); (case aS => exact (below_size HB.out)); (case aL => exact HLX.out); intro v9 w9 ho hb hg hat; have n0_ := Aside0.mk hb; have n1_ := Aside0.mk ho; clear HB HO; have HB := n0_; have HO := n1_; clear n0_ n1_ ho hb hg hat))
           have HO2 : Aside0 (Kd.R k33 33 w9 w2.heap.size (fun _ => True) v9 (goneT a b a.reverse ++ (b.take (k + 1)).flatMap (comeT a b))) := ⟨by rw [HCS.out, hmd]; exact HO.out⟩
           go_roundw
           case rel =>
            have h1 := HK.out
            have h2 := HLB.out
            exact ⟨k + 1, by omega, by rw [w64 (by omega) (by omega)]; rfl, HO2, HB⟩
           case measure =>
            have := HK.out
            have := HLB.out
            rw [w64 (by omega) (by omega)]
            first
             | (simp [intOf]; done)
             | (simp [intOf]; omega)
          ·
           have z2 : ((rd_T46 b (j : Int)).f0.toList == (rd_T46 b (k : Int)).f0.toList) = false := by rw [toL, toL]; exact beq_eq_false_iff_ne.2 h2
           have hmd := madeT_5 (b := b) h1 (by rw [HLD.out]; exact h2)
           rw [HLD.out] at hmd
           clear h1 h2 h3
           go_wp2_with (first | ((with_reducible refine gate_dst (N := 11) rfl ?_); refine box_event ?hg (N := 11) ?hd (cs := #[.int .i64 0, .string (⟨#[]⟩ : ByteArray), .string (⟨#[]⟩ : ByteArray), .string (⟨#[]⟩ : ByteArray)]) (t := 33) ?hr ?_; (case hd => rfl); (case hg => rfl); (case hr => first | (go_simp; done) | (go_simp; rfl)); intro ge hg w5 hbox hb; have n0_ := Aside0.mk (Kd.R_below (Kd.R_elderB HO.out ge (Nat.le_of_eq hg.symm)) hb); have n1_ := Aside0.mk (below_then HB.out HB.out.size hb); have n2_ := Aside0.mk hbox; have n3_ := Aside0.mk ((by rw [hg]; exact below_size HB.out) : w2.heap.size ≤ ge); have n4_ := Aside0.mk (blk_below BK.out hb); have n5_ : Aside0 (gx ≠ ge) := ⟨by have := blk_lt BK.out; omega⟩; clear HO HB BK; have HO := n0_; have HB := n1_; have BE := n2_; have GE2 := n3_; have BK := n4_; have GX := n5_; clear n0_ n1_ n2_ n3_ n4_ n5_ hb hbox hg) | ((with_reducible refine gate_store (t := 33) rfl ?_); refine store_edit rfl rfl _ _ rfl ge _ (⟨2, (rd_T46 b (k : Int)).f0, (⟨#[]⟩ : ByteArray), (⟨#[]⟩ : ByteArray)⟩ : S33) BE.out rfl rfl rfl ?_; intro w8 hS1 hS2; have s0_ := Aside0.mk (Kd.R_grown HO.out hS2 (fun q hq e => hq.2 (Option.some.inj e))); have s1_ := Aside0.mk (HB.out.grown hS2 HB.out.size (fun q hq => by injection hq with hq; rw [← hq]; exact GE2.out)); have s2_ := Aside0.mk hS1; have s3_ := Aside0.mk (blk_grown BK.out hS2 (fun e => GX.out (Option.some.inj e))); clear HO HB BE BK hS1 hS2; have HO := s0_; have HB := s1_; have BE := s2_; have BK := s3_; clear s0_ s1_ s2_ s3_; clear c0 c3 c13 c6; have c0 : w8.cell? ⟨gx, 0, none⟩ = some (.string (rd_T46 b (k : Int)).f0) := (blk_cell BK.out 0).trans rfl; have c3 : w8.cell? ⟨gx, 3, none⟩ = some (.int .i64 (rd_T46 b (k : Int)).f1.f2) := (blk_cell BK.out 3).trans rfl; have c13 : w8.cell? ⟨gx, 1 + 2, none⟩ = some (.int .i64 (rd_T46 b (k : Int)).f1.f2) := c3; have c6 : w8.cell? ⟨gx, 6, none⟩ = some (.string (rd_T46 b (k : Int)).f2) := (blk_cell BK.out 6).trans rfl; have d0 : w8.cell? ⟨ge, 0, none⟩ = some (.int .i64 2) := (blk_cell BE.out 0).trans rfl; have d1 : w8.cell? ⟨ge, 1, none⟩ = some (.string (rd_T46 b (k : Int)).f0) := (blk_cell BE.out 1).trans rfl; have d2 : w8.cell? ⟨ge, 2, none⟩ = some (.string (⟨#[]⟩ : ByteArray)) := (blk_cell BE.out 2).trans rfl; have d3 : w8.cell? ⟨ge, 3, none⟩ = some (.string (⟨#[]⟩ : ByteArray)) := (blk_cell BE.out 3).trans rfl; have fz0 : w8.frozen? ⟨ge, 0, none⟩ = false := blk_frozen BE.out 0; have fz1 : w8.frozen? ⟨ge, 1, none⟩ = false := blk_frozen BE.out 1; have fz2 : w8.frozen? ⟨ge, 2, none⟩ = false := blk_frozen BE.out 2; have fz3 : w8.frozen? ⟨ge, 3, none⟩ = false := blk_frozen BE.out 3) | ((with_reducible refine gate_store (t := 3) (p := 134) rfl ?_); refine store_event (t := 3) (p := 134) (v := ?vo_w10_5) (w1 := (w8.setCell ⟨ge, 0, none⟩ (.int .i64 5))) ?hg ?ho ?hn ?hr ?_; (case ho => rfl); (case hg => rfl); (case hn => rfl); (case hr => first | (go_simp; done) | (go_simp; rfl)); intro w10 hw; have s0_ := Aside0.mk (Kd.R_far (p := ⟨ge, 0, none⟩) HO.out (fun _ hk => hk.2) (.int .i64 5)); have s1_ := Aside0.mk (below_set (j := 0) (v := (.int .i64 5)) HB.out GE2.out); have s2_ := Aside0.mk (blk_put (cs' := #[.int .i64 5, .string (rd_T46 b (k : Int)).f0, .string (⟨#[]⟩ : ByteArray), .string (⟨#[]⟩ : ByteArray)]) BE.out 0 (.int .i64 5) rfl); have s3_ := Aside0.mk (blk_far BK.out (p := ⟨ge, 0, none⟩) GX.out (.int .i64 5)); rw [← hw] at s0_ s1_ s2_ s3_; clear HO HB BE BK hw; have HO := s0_; have HB := s1_; have BE := s2_; have BK := s3_; clear s0_ s1_ s2_ s3_; clear d0 d1 d2 d3 fz0 fz1 fz2 fz3 c0 c3 c13 c6; have d0 : w10.cell? ⟨ge, 0, none⟩ = some (.int .i64 5) := (blk_cell BE.out 0).trans rfl; have d1 : w10.cell? ⟨ge, 1, none⟩ = some (.string (rd_T46 b (k : Int)).f0) := (blk_cell BE.out 1).trans rfl; have d2 : w10.cell? ⟨ge, 2, none⟩ = some (.string (⟨#[]⟩ : ByteArray)) := (blk_cell BE.out 2).trans rfl; have d3 : w10.cell? ⟨ge, 3, none⟩ = some (.string (⟨#[]⟩ : ByteArray)) := (blk_cell BE.out 3).trans rfl; have fz0 : w10.frozen? ⟨ge, 0, none⟩ = false := blk_frozen BE.out 0; have fz1 : w10.frozen? ⟨ge, 1, none⟩ = false := blk_frozen BE.out 1; have fz2 : w10.frozen? ⟨ge, 2, none⟩ = false := blk_frozen BE.out 2; have fz3 : w10.frozen? ⟨ge, 3, none⟩ = false := blk_frozen BE.out 3; have c0 : w10.cell? ⟨gx, 0, none⟩ = some (.string (rd_T46 b (k : Int)).f0) := (blk_cell BK.out 0).trans rfl; have c3 : w10.cell? ⟨gx, 3, none⟩ = some (.int .i64 (rd_T46 b (k : Int)).f1.f2) := (blk_cell BK.out 3).trans rfl; have c13 : w10.cell? ⟨gx, 1 + 2, none⟩ = some (.int .i64 (rd_T46 b (k : Int)).f1.f2) := c3; have c6 : w10.cell? ⟨gx, 6, none⟩ = some (.string (rd_T46 b (k : Int)).f2) := (blk_cell BK.out 6).trans rfl) | ((with_reducible refine gate_store (t := 9) (p := 136) rfl ?_); refine store_event (t := 9) (p := 136) (v := ?vo_w11_5) (w1 := (w10.setCell ⟨ge, 2, none⟩ (.string (rd_T46 b (j : Int)).f0))) ?hg ?ho ?hn ?hr ?_; (case ho => rfl); (case hg => rfl); (case hn => rfl); (case hr => first | (go_simp; done) | (go_simp; rfl)); intro w11 hw; have s0_ := Aside0.mk (Kd.R_far (p := ⟨ge, 2, none⟩) HO.out (fun _ hk => hk.2) (.string (rd_T46 b (j : Int)).f0)); have s1_ := Aside0.mk (below_set (j := 2) (v := (.string (rd_T46 b (j : Int)).f0)) HB.out GE2.out); have s2_ := Aside0.mk (blk_put (cs' := #[.int .i64 5, .string (rd_T46 b (k : Int)).f0, .string (rd_T46 b (j : Int)).f0, .string (⟨#[]⟩ : ByteArray)]) BE.out 2 (.string (rd_T46 b (j : Int)).f0) rfl); have s3_ := Aside0.mk (blk_far BK.out (p := ⟨ge, 2, none⟩) GX.out (.string (rd_T46 b (j : Int)).f0)); rw [← hw] at s0_ s1_ s2_ s3_; clear HO HB BE BK hw; have HO := s0_; have HB := s1_; have BE := s2_; have BK := s3_; clear s0_ s1_ s2_ s3_; clear d0 d1 d2 d3 fz0 fz1 fz2 fz3 c0 c3 c13 c6; have d0 : w11.cell? ⟨ge, 0, none⟩ = some (.int .i64 5) := (blk_cell BE.out 0).trans rfl; have d1 : w11.cell? ⟨ge, 1, none⟩ = some (.string (rd_T46 b (k : Int)).f0) := (blk_cell BE.out 1).trans rfl; have d2 : w11.cell? ⟨ge, 2, none⟩ = some (.string (rd_T46 b (j : Int)).f0) := (blk_cell BE.out 2).trans rfl; have d3 : w11.cell? ⟨ge, 3, none⟩ = some (.string (⟨#[]⟩ : ByteArray)) := (blk_cell BE.out 3).trans rfl; have fz0 : w11.frozen? ⟨ge, 0, none⟩ = false := blk_frozen BE.out 0; have fz1 : w11.frozen? ⟨ge, 1, none⟩ = false := blk_frozen BE.out 1; have fz2 : w11.frozen? ⟨ge, 2, none⟩ = false := blk_frozen BE.out 2; have fz3 : w11.frozen? ⟨ge, 3, none⟩ = false := blk_frozen BE.out 3; have c0 : w11.cell? ⟨gx, 0, none⟩ = some (.string (rd_T46 b (k : Int)).f0) := (blk_cell BK.out 0).trans rfl; have c3 : w11.cell? ⟨gx, 3, none⟩ = some (.int .i64 (rd_T46 b (k : Int)).f1.f2) := (blk_cell BK.out 3).trans rfl; have c13 : w11.cell? ⟨gx, 1 + 2, none⟩ = some (.int .i64 (rd_T46 b (k : Int)).f1.f2) := c3; have c6 : w11.cell? ⟨gx, 6, none⟩ = some (.string (rd_T46 b (k : Int)).f2) := (blk_cell BK.out 6).trans rfl) | ((with_reducible refine gate_builtin (b := .append) (xs := #[.tmp 137, .tmp 139]) rfl ?_); at_builtin; refine Kd.R_append k33 (w0 := w2) w2.heap.size rfl (.tmp 137) (.tmp 139) 24 33 (.agg #[(.int .i64 0), (.string ⟨#[]⟩), (.string ⟨#[]⟩), (.string ⟨#[]⟩)]) 56 rfl Tryd.underlying24 info33 rfl (by decide) (by omega) u6 (goneT a b a.reverse ++ (b.take k).flatMap (comeT a b)) (⟨5, (rd_T46 b (k : Int)).f0, (rd_T46 b (j : Int)).f0, (⟨#[]⟩ : ByteArray)⟩ : S33) [.int .i64 5, .string (rd_T46 b (k : Int)).f0, .string (rd_T46 b (j : Int)).f0, .string (⟨#[]⟩ : ByteArray)] (fun _ => True) (fun _ => False) rfl rfl ?aP (fun _ hk => hk.elim) ?aF ?aO ?aB ?aS ?aL ?_; (case aP => exact k33_mkM _ _ _ (⟨5, (rd_T46 b (k : Int)).f0, (rd_T46 b (j : Int)).f0, (⟨#[]⟩ : ByteArray)⟩ : S33)); (case aB => exact HB.out); (case aF => exact (fun _ _ => trivial)); (case aO => first | exact HO.out | exact (Kd.R_mono HO.out (fun _ _ => trivial))); (case aS => exact (below_size HB.out)); (case aL => exact HLX.out); intro v9 w9 ho hb hg hat; have n0_ := Aside0.mk hb; have n1_ := Aside0.mk ho; clear HB HO; have HB := n0_; have HO := n1_; clear n0_ n1_ ho hb hg hat))
           have HO2 : Aside0 (Kd.R k33 33 w9 w2.heap.size (fun _ => True) v9 (goneT a b a.reverse ++ (b.take (k + 1)).flatMap (comeT a b))) := ⟨by rw [HCS.out, hmd]; exact HO.out⟩
           go_roundw
           case rel =>
            have h1 := HK.out
            have h2 := HLB.out
            exact ⟨k + 1, by omega, by rw [w64 (by omega) (by omega)]; rfl, HO2, HB⟩
           case measure =>
            have := HK.out
            have := HLB.out
            rw [w64 (by omega) (by omega)]
            first
             | (simp [intOf]; done)
             | (simp [intOf]; omega)
         ·
          have z1 : ((rd_T46 b (k : Int)).f1.f2 == 1) = false := beq_eq_false_iff_ne.2 h1
          have hmd := madeT_2 (b := b) (n := rd_T46 b (k : Int)) (by have := HMK.out; omega)
          clear h1 h3
          go_wp2_with (first | ((with_reducible refine gate_dst (N := 11) rfl ?_); refine box_event ?hg (N := 11) ?hd (cs := #[.int .i64 0, .string (⟨#[]⟩ : ByteArray), .string (⟨#[]⟩ : ByteArray), .string (⟨#[]⟩ : ByteArray)]) (t := 33) ?hr ?_; (case hd => rfl); (case hg => rfl); (case hr => first | (go_simp; done) | (go_simp; rfl)); intro ge hg w5 hbox hb; have n0_ := Aside0.mk (Kd.R_below (Kd.R_elderB HO.out ge (Nat.le_of_eq hg.symm)) hb); have n1_ := Aside0.mk (below_then HB.out HB.out.size hb); have n2_ := Aside0.mk hbox; have n3_ := Aside0.mk ((by rw [hg]; exact below_size HB.out) : w2.heap.size ≤ ge); have n4_ := Aside0.mk (blk_below BK.out hb); have n5_ : Aside0 (gx ≠ ge) := ⟨by have := blk_lt BK.out; omega⟩; clear HO HB BK; have HO := n0_; have HB := n1_; have BE := n2_; have GE2 := n3_; have BK := n4_; have GX := n5_; clear n0_ n1_ n2_ n3_ n4_ n5_ hb hbox hg) | ((with_reducible refine gate_store (t := 33) rfl ?_); refine store_edit rfl rfl _ _ rfl ge _ (⟨2, (rd_T46 b (k : Int)).f0, (⟨#[]⟩ : ByteArray), (⟨#[]⟩ : ByteArray)⟩ : S33) BE.out rfl rfl rfl ?_; intro w8 hS1 hS2; have s0_ := Aside0.mk (Kd.R_grown HO.out hS2 (fun q hq e => hq.2 (Option.some.inj e))); have s1_ := Aside0.mk (HB.out.grown hS2 HB.out.size (fun q hq => by injection hq with hq; rw [← hq]; exact GE2.out)); have s2_ := Aside0.mk hS1; have s3_ := Aside0.mk (blk_grown BK.out hS2 (fun e => GX.out (Option.some.inj e))); clear HO HB BE BK hS1 hS2; have HO := s0_; have HB := s1_; have BE := s2_; have BK := s3_; clear s0_ s1_ s2_ s3_; clear c0 c3 c13 c6; have c0 : w8.cell? ⟨gx, 0, none⟩ = some (.string (rd_T46 b (k : Int)).f0) := (blk_cell BK.out 0).trans rfl; have c3 : w8.cell? ⟨gx, 3, none⟩ = some (.int .i64 (rd_T46 b (k : Int)).f1.f2) := (blk_cell BK.out 3).trans rfl; have c13 : w8.cell? ⟨gx, 1 + 2, none⟩ = some (.int .i64 (rd_T46 b (k : Int)).f1.f2) := c3; have c6 : w8.cell? ⟨gx, 6, none⟩ = some (.string (rd_T46 b (k : Int)).f2) := (blk_cell BK.out 6).trans rfl; have d0 : w8.cell? ⟨ge, 0, none⟩ = some (.int .i64 2) := (blk_cell BE.out 0).trans rfl; have d1 : w8.cell? ⟨ge, 1, none⟩ = some (.string (rd_T46 b (k : Int)).f0) := (blk_cell BE.out 1).trans rfl; have d2 : w8.cell? ⟨ge, 2, none⟩ = some (.string (⟨#[]⟩ : ByteArray)) := (blk_cell BE.out 2).trans rfl; have d3 : w8.cell? ⟨ge, 3, none⟩ = some (.string (⟨#[]⟩ : ByteArray)) := (blk_cell BE.out 3).trans rfl; have fz0 : w8.frozen? ⟨ge, 0, none⟩ = false := blk_frozen BE.out 0; have fz1 : w8.frozen? ⟨ge, 1, none⟩ = false := blk_frozen BE.out 1; have fz2 : w8.frozen? ⟨ge, 2, none⟩ = false := blk_frozen BE.out 2; have fz3 : w8.frozen? ⟨ge, 3, none⟩ = false := blk_frozen BE.out 3) | ((with_reducible refine gate_builtin (b := .append) (xs := #[.tmp 137, .tmp 139]) rfl ?_); at_builtin; refine Kd.R_append k33 (w0 := w2) w2.heap.size rfl (.tmp 137) (.tmp 139) 24 33 (.agg #[(.int .i64 0), (.string ⟨#[]⟩), (.string ⟨#[]⟩), (.string ⟨#[]⟩)]) 56 rfl Tryd.underlying24 info33 rfl (by decide) (by omega) u6 (goneT a b a.reverse ++ (b.take k).flatMap (comeT a b)) (⟨2, (rd_T46 b (k : Int)).f0, (⟨#[]⟩ : ByteArray), (⟨#[]⟩ : ByteArray)⟩ : S33) [.int .i64 2, .string (rd_T46 b (k : Int)).f0, .string (⟨#[]⟩ : ByteArray), .string (⟨#[]⟩ : ByteArray)] (fun _ => True) (fun _ => False) rfl rfl ?aP (fun _ hk => hk.elim) ?aF ?aO ?aB ?aS ?aL ?_; (case aP => exact k33_mkM _ _ _ (⟨2, (rd_T46 b (k : Int)).f0, (⟨#[]⟩ : ByteArray), (⟨#[]⟩ : ByteArray)⟩ : S33)); (case aB => exact HB.out); (case aF => exact (fun _ _ => trivial)); (case aO => first | exact HO.out | exact (Kd.R_mono HO.out (fun _ _ => trivial))); (case aS => exact (below_size HB.out)); (case aL => exact HLX.out); intro v9 w9 ho hb hg hat; have n0_ := Aside0.mk hb; have n1_ := Aside0.mk ho; clear HB HO; have HB := n0_; have HO := n1_; clear n0_ n1_ ho hb hg hat))
          have HO2 : Aside0 (Kd.R k33 33 w9 w2.heap.size (fun _ => True) v9 (goneT a b a.reverse ++ (b.take (k + 1)).flatMap (comeT a b))) := ⟨by rw [HCS.out, hmd]; exact HO.out⟩
          go_roundw
          case rel =>
           have h1 := HK.out
           have h2 := HLB.out
           exact ⟨k + 1, by omega, by rw [w64 (by omega) (by omega)]; rfl, HO2, HB⟩
          case measure =>
           have := HK.out
           have := HLB.out
           rw [w64 (by omega) (by omega)]
           first
            | (simp [intOf]; done)
            | (simp [intOf]; omega)
       | true =>
        have hcm : comeT a b (rd_T46 b (k : Int)) = if knd (rd_T46 b (k : Int)) = 1 ∧ pth (leadN b (rd_T46 b (k : Int))) = pth (rd_T46 b (k : Int)) ∧ dat (rd_T46 a (findI (pth (rd_T46 b (k : Int))) 0 a)) ≠ dat (rd_T46 b (k : Int)) then [⟨6, (rd_T46 b (k : Int)).f0, eB, (rd_T46 b (k : Int)).f2⟩] else [] := by
         unfold comeT
         rw [if_pos (show staysT a b (pth (rd_T46 b (k : Int))) = true from HRr.out)]
        rw [hcm, HLD.out] at HCS
        clear hcm
        by_cases h1 : (rd_T46 b (k : Int)).f1.f2 = 1
        ·
         have z1 : ((rd_T46 b (k : Int)).f1.f2 == 1) = true := beq_iff_eq.2 h1
         by_cases h2 : pb (rd_T46 b (j : Int)).f0 = pb (rd_T46 b (k : Int)).f0
         ·
          have z2 : ((rd_T46 b (j : Int)).f0.toList == (rd_T46 b (k : Int)).f0.toList) = true := by rw [toL, toL]; exact beq_iff_eq.2 h2
          obtain ⟨i, hi, hfi⟩ : ∃ i : Nat, i < a.length ∧ findI (pb (rd_T46 b (k : Int)).f0) 0 a = (i : Int) := by
           rcases findI_cases (pb (rd_T46 b (k : Int)).f0) a 0 with ⟨e, _⟩ | ⟨i, hi, e, _⟩
           ·
            have := HRr.out
            unfold staysT at this
            rw [if_pos (.inl (by rw [e]; decide))] at this
            cases this
           ·
            exact ⟨i, hi, by rw [e, Nat.zero_add]⟩
          have HFA := Aside0.mk (Kd.C_below HRA2.out HB.out)
          obtain ⟨ad, ea, y0, y1, y2, y3, y4, y5, y6⟩ := at_T46 HFA.out (i : Int) (by omega) (by omega)
          cases ea
          simp only [Int.toNat_natCast] at y6
          have p5 : (0 ≤ (i : Int)) = True := eq_true (by omega)
          have q5 : ((i : Int) < (a.length : Int)) = True := eq_true (by omega)
          have q6 : (i < a.length) = True := eq_true hi
          obtain ⟨KF, hKF⟩ := evs_get (find_ev a (rd_T46 b (k : Int)).f0 (by have := HLA.out; omega))
          rw [hfi] at hKF
          have HKF := Aside0.mk hKF
          rw [show pth (rd_T46 b (k : Int)) = pb (rd_T46 b (k : Int)).f0 from rfl, hfi] at HCS
          clear hKF hfi hi y0 y1 y2 y3 y4 y5
          by_cases h3 : pb (rd_T46 a (i : Int)).f2 = pb (rd_T46 b (k : Int)).f2
          ·
           have z3 : ((rd_T46 a (i : Int)).f2.toList == (rd_T46 b (k : Int)).f2.toList) = true := by rw [toL, toL]; exact beq_iff_eq.2 h3
           rw [if_neg (fun q => q.2.2 h3), List.append_nil] at HCS
           clear h1 h2 h3
           go_wp2_with fail
           go_big_quiet (first | (go_at_call 31; refine (grapnelref18_Find.calls KF (some ad) ca a (rd_T46 b (k : Int)).f0 (i : Int) _ (Kd.C_drewN HFA.out _) HCA.out HKF.out).mono ?_; rintro e w' ⟨rfl, ⟨nd, rfl⟩⟩; first | exact ⟨rfl, _, World.drewN_drewN _ _ _⟩ | exact ⟨rfl, _, Eq.trans (World.drewN_drewN _ _ _) (congrArg (World.drewN _) (Nat.add_assoc _ _ _))⟩))
           have HO2 : Aside0 (Kd.R k33 33 (w7.drewN nq) w2.heap.size (fun _ => True) u6 (goneT a b a.reverse ++ (b.take (k + 1)).flatMap (comeT a b))) := ⟨by rw [HCS.out]; exact Kd.R_drewN HO.out _⟩
           have HB7 := Aside0.mk (below_then HB.out HB.out.size (pw_below_drewN (Below.refl w7.heap.size w7) nq))
           clear HB HO BK c0 c3 c13 c6 y6
           have HB := HB7
           clear HB7
           go_wp2_with fail
           go_roundw
           case rel =>
            have h1 := HK.out
            have h2 := HLB.out
            exact ⟨k + 1, by omega, by rw [w64 (by omega) (by omega)]; rfl, HO2, HB⟩
           case measure =>
            have := HK.out
            have := HLB.out
            rw [w64 (by omega) (by omega)]
            first
             | (simp [intOf]; done)
             | (simp [intOf]; omega)
          ·
           have z3 : ((rd_T46 a (i : Int)).f2.toList == (rd_T46 b (k : Int)).f2.toList) = false := by rw [toL, toL]; exact beq_eq_false_iff_ne.2 h3
           rw [if_pos ⟨h1, h2, h3⟩] at HCS
           clear h1 h2 h3
           go_wp2_with fail
           go_big_quiet (first | (go_at_call 31; refine (grapnelref18_Find.calls KF (some ad) ca a (rd_T46 b (k : Int)).f0 (i : Int) _ (Kd.C_drewN HFA.out _) HCA.out HKF.out).mono ?_; rintro e w' ⟨rfl, ⟨nd, rfl⟩⟩; first | exact ⟨rfl, _, World.drewN_drewN _ _ _⟩ | exact ⟨rfl, _, Eq.trans (World.drewN_drewN _ _ _) (congrArg (World.drewN _) (Nat.add_assoc _ _ _))⟩))
           have hdn := pw_below_drewN (Below.refl w7.heap.size w7) nq
           have n0_ := Aside0.mk (Kd.R_below HO.out hdn)
           have n1_ := Aside0.mk (below_then HB.out HB.out.size hdn)
           have n2_ := Aside0.mk (blk_below BK.out hdn)
           clear HB HO BK c0 c3 c13 c6 y6 hdn
           have HO := n0_
           have HB := n1_
           have BK := n2_
           clear n0_ n1_ n2_
           generalize w7.drewN nq = w8 at HO HB BK ⊢
           have c0 : w8.cell? ⟨gx, 0, none⟩ = some (.string (rd_T46 b (k : Int)).f0) := (blk_cell BK.out 0).trans rfl
           have c6 : w8.cell? ⟨gx, 6, none⟩ = some (.string (rd_T46 b (k : Int)).f2) := (blk_cell BK.out 6).trans rfl
           go_wp2_with (first | ((with_reducible refine gate_builtin (b := .append) (xs := #[.tmp 91, .tmp 97]) rfl ?_); at_builtin; refine Kd.R_append k33 (w0 := w2) w2.heap.size rfl (.tmp 91) (.tmp 97) 24 33 (.agg #[(.int .i64 0), (.string ⟨#[]⟩), (.string ⟨#[]⟩), (.string ⟨#[]⟩)]) 56 rfl Tryd.underlying24 info33 rfl (by decide) (by omega) u6 (goneT a b a.reverse ++ (b.take k).flatMap (comeT a b)) (⟨6, (rd_T46 b (k : Int)).f0, (⟨#[]⟩ : ByteArray), (rd_T46 b (k : Int)).f2⟩ : S33) [.int .i64 6, .string ((rd_T46 b (k : Int)).f0), .string (⟨#[]⟩ : ByteArray), .string ((rd_T46 b (k : Int)).f2)] (fun _ => True) (fun _ => False) rfl rfl ?aP (fun _ hk => hk.elim) ?aF ?aO ?aB ?aS ?aL ?_; (case aP => exact k33_mkM _ _ _ (⟨6, (rd_T46 b (k : Int)).f0, (⟨#[]⟩ : ByteArray), (rd_T46 b (k : Int)).f2⟩ : S33)); (case aB => exact HB.out); (case aF => exact (fun _ _ => trivial)); (case aO => first | exact HO.out | exact (Kd.R_mono HO.out (fun _ _ => trivial))); (case aS => exact (below_size HB.out)); (case aL => exact HLX.out); intro v9 w9 ho hb hg hat; have n0_ := Aside0.mk hb; have n1_ := Aside0.mk ho; clear HB HO; have HB := n0_; have HO := n1_; clear n0_ n1_ ho hb hg hat))
           have HO2 : Aside0 (Kd.R k33 33 w9 w2.heap.size (fun _ => True) v9 (goneT a b a.reverse ++ (b.take (k + 1)).flatMap (comeT a b))) := ⟨by rw [HCS.out]; exact HO.out⟩
           go_roundw
           case rel =>
            have h1 := HK.out
            have h2 := HLB.out
            exact ⟨k + 1, by omega, by rw [w64 (by omega) (by omega)]; rfl, HO2, HB⟩
           case measure =>
            have := HK.out
            have := HLB.out
            rw [w64 (by omega) (by omega)]
            first
             | (simp [intOf]; done)
             | (simp [intOf]; omega)
         ·
          have z2 : ((rd_T46 b (j : Int)).f0.toList == (rd_T46 b (k : Int)).f0.toList) = false := by rw [toL, toL]; exact beq_eq_false_iff_ne.2 h2
          rw [if_neg (fun q => h2 q.2.1), List.append_nil] at HCS
          clear h1 h2
          go_wp2_with fail
          go_big_quiet (fail)
          have HO2 : Aside0 (Kd.R k33 33 (w7.drewN nq) w2.heap.size (fun _ => True) u6 (goneT a b a.reverse ++ (b.take (k + 1)).flatMap (comeT a b))) := ⟨by rw [HCS.out]; exact Kd.R_drewN HO.out _⟩
          have HB7 := Aside0.mk (below_then HB.out HB.out.size (pw_below_drewN (Below.refl w7.heap.size w7) nq))
          clear HB HO BK c0 c3 c13 c6
          have HB := HB7
          clear HB7
          go_wp2_with fail
          go_roundw
          case rel =>
           have h1 := HK.out
           have h2 := HLB.out
           exact ⟨k + 1, by omega, by rw [w64 (by omega) (by omega)]; rfl, HO2, HB⟩
          case measure =>
           have := HK.out
           have := HLB.out
           rw [w64 (by omega) (by omega)]
           first
            | (simp [intOf]; done)
            | (simp [intOf]; omega)
        ·
         have z1 : ((rd_T46 b (k : Int)).f1.f2 == 1) = false := beq_eq_false_iff_ne.2 h1
         rw [if_neg (fun q => h1 q.1), List.append_nil] at HCS
         clear h1
         go_wp2_with fail
         go_big_quiet (fail)
         have HO2 : Aside0 (Kd.R k33 33 (w7.drewN nq) w2.heap.size (fun _ => True) u6 (goneT a b a.reverse ++ (b.take (k + 1)).flatMap (comeT a b))) := ⟨by rw [HCS.out]; exact Kd.R_drewN HO.out _⟩
         have HB7 := Aside0.mk (below_then HB.out HB.out.size (pw_below_drewN (Below.refl w7.heap.size w7) nq))
         clear HB HO BK c0 c3 c13 c6
         have HB := HB7
         clear HB7
         go_wp2_with fail
         go_roundw
         case rel =>
          have h1 := HK.out
          have h2 := HLB.out
          exact ⟨k + 1, by omega, by rw [w64 (by omega) (by omega)]; rfl, HO2, HB⟩
         case measure =>
          have := HK.out
          have := HLB.out
          rw [w64 (by omega) (by omega)]
          first
           | (simp [intOf]; done)
           | (simp [intOf]; omega)
      ·
       have hke : k = b.length := by omega
       subst hke
       have q1 : ((b.length : Int) < (b.length : Int)) = False := eq_false (by omega)
       have q2 : (b.length < b.length) = False := eq_false (by omega)
       have hdt : diffT a b = (goneT a b a.reverse ++ b.flatMap (comeT a b), 0) := by
        unfold diffT
        rw [if_pos ⟨HFa.out, HFb.out⟩]
       have HX : Aside0 (DiffRet a b w (.returned (.tuple #[u6, .int .i64 0])) wr) := ⟨u6, by rw [hdt], by
        rw [hdt]
        have := HO.out
        rw [List.take_length] at this
        exact Kd.R_lower this (below_size HBw.out), below_then HBw.out HBw.out.size HB.out⟩
       clear hdt hkl hk HO HB
       go_wp2_with fail
       go_ret2
       exact HX.out
end Go.Proofs.YtoggfapafjgkdaaDoor.T
namespace Go.Proofs.YtoggfapafjgkdaaDoor.T
open Go.RowKit Go.Proofs.YtoggfapafjgkdaaDoorW.PrintWords Go.Proofs.YtoggfapafjgkdaaDoorW.PrintLast Go.Proofs.YtoggfapafjgkdaaDoorW.PrintMore Go.Proofs.YtoggfapafjgkdaaDoor.PAll
set_option linter.unusedSimpArgs false
set_option linter.unusedVariables false

theorem edits_l0 (l : List S33) (hl : l.length < 2147483648) : ∀ (n i : Nat), i + n = l.length → Evs (fun k => grapnellaw19_edits.l0 k l l (i : Int)) true := by
 intro n
 induction n with
 | zero =>
  intro i hi
  exact evs_step (g := fun _ => some true) (fun k => by rw [grapnellaw19_edits.l0, if_neg (by omega)]) (evs_const _)
 | succ n ih =>
  intro i hi
  refine evs_step (fun k => by rw [grapnellaw19_edits.l0, if_pos (by omega), if_pos (by omega), if_pos (by omega), if_neg (by simp), show wrap64 ((i : Int) + 1) = ((i + 1 : Nat) : Int) from by rw [w64 (by omega) (by omega)]; rfl]) ?_
  exact ih (i + 1) (by omega)
theorem edits_ev (l : List S33) (hl : l.length < 2147483648) : Evs (fun k => grapnellaw19_edits.f k l l) true := by
 simp only [grapnellaw19_edits.f]
 exact evs_pos (by first | trivial | rfl) (edits_l0 l hl l.length 0 (by omega))
theorem diff_len {a b : List S46} : (diffT a b).1.length ≤ a.length + b.length := by
 unfold diffT
 split
 ·
  have h1 := gone_len a b a.reverse
  have h2 := come_len a b b
  rw [List.length_reverse] at h1
  show (goneT a b a.reverse ++ b.flatMap (comeT a b)).length ≤ _
  rw [List.length_append]
  omega
 ·
  exact Nat.zero_le _
set_option maxHeartbeats 8000000 in
set_option maxRecDepth 100000 in
theorem diffs_law (a b : List S46) (A B : Option Addr) (ca cb : Nat) (raw : Bool) (w : World) (hra : Kd.C k46 w A a.length a) (hca : a.length ≤ ca) (hrb : Kd.C k46 w B b.length b) (hcb : b.length ≤ cb)
  (hwa : Wf a) (hwb : Wf b) (hT : Tab w) :
  Calls Tryd.prog 3 #[.slice A a.length ca, .slice B b.length cb, .bool raw] w fun e w' => e = .returned (.bool true) ∧ Below w.heap.size w w' := by
 have hu46 := Tryd.underlying46
 have hu44 := Tryd.underlying44
 have hu33 := Tryd.underlying33
 have HT := Aside0.mk hT
 have HRA := Aside0.mk hra
 have HCA := Aside0.mk hca
 have HWA := Aside0.mk hwa
 have HRB := Aside0.mk hrb
 have HCB := Aside0.mk hcb
 have HWB := Aside0.mk hwb
 obtain ⟨x, hx, hxc⟩ := form_c a A ca w hra hca hwa
 have HX : Aside0 (x.length ≤ 25 ∧ Wf x) := ⟨hx.1, hx.2.1⟩
 have HXC := Aside0.mk hxc
 clear hT hrb hcb hwb hra hca hwa hx hxc
 go_enter Tryd.func3, Tryd.ntmps3
 go_wp2_with fail
 refine HXC.out.mono ?_
 rintro e w1 ⟨v1, rfl, hv1, hb1⟩
 obtain ⟨Ax, cx, e1⟩ := Kd.R_slice hv1
 subst e1
 obtain ⟨y, hy, hyc⟩ := form_c b B cb w1 (Kd.C_below HRB.out hb1) HCB.out HWB.out
 have HY : Aside0 (y.length ≤ 25 ∧ Wf y) := ⟨hy.1, hy.2.1⟩
 have HYC := Aside0.mk hyc
 have HV1 := Aside0.mk hv1
 have HB1 := Aside0.mk hb1
 clear hy hyc hv1 hb1 HXC HRB HCB HWB
 go_wp2_with fail
 refine HYC.out.mono ?_
 rintro e w2 ⟨v2, rfl, hv2, hb2⟩
 obtain ⟨Ay, cy, e2⟩ := Kd.R_slice hv2
 subst e2
 have HRX := Aside0.mk (Kd.C_below (Kd.R_reads' HV1.out).2.2 hb2)
 have HCX := Aside0.mk (Kd.R_reads' HV1.out).2.1
 have HRY := Aside0.mk (Kd.R_reads' hv2).2.2
 have HCY := Aside0.mk (Kd.R_reads' hv2).2.1
 have HB2 := Aside0.mk (below_then HB1.out HB1.out.size hb2)
 clear hv2 hb2 HYC HV1 HB1
 cases raw with
 | false =>
  have HLX : Aside0 (x.length < 2147483648) := ⟨by have := HX.out.1; omega⟩
  have HLY : Aside0 (y.length < 2147483648) := ⟨by have := HY.out.1; omega⟩
  go_wp2_with fail
  refine (diff_c x y Ax Ay cx cy w2 HRX.out HCX.out HRY.out HCY.out HLX.out HLY.out HX.out.2 HY.out.2 (HT.out.below HB2.out)).mono ?_
  rintro e w3 ⟨v3, rfl, hv3, hb3⟩
  obtain ⟨L, ee, hL⟩ : ∃ L ee, diffT x y = (L, ee) := ⟨_, _, rfl⟩
  have HLL : Aside0 (L.length < 2147483648) := ⟨by
   have h := diff_len (a := x) (b := y)
   rw [hL] at h
   have h1 := HX.out.1
   have h2 := HY.out.1
   dsimp only at h
   omega⟩
  rw [hL] at hv3 ⊢
  dsimp only at hv3 ⊢
  obtain ⟨Al, cl, e3⟩ := Kd.R_slice hv3
  subst e3
  have HL := Aside0.mk hL
  have HV3 := Aside0.mk hv3
  have HB3 := Aside0.mk (below_then HB2.out HB2.out.size hb3)
  have HRX3 := Aside0.mk (Kd.C_below HRX.out hb3)
  have HRY3 := Aside0.mk (Kd.C_below HRY.out hb3)
  clear hL hv3 hb3
  go_wp2_with fail
  refine (rdiff_c x y Ax Ay cx cy w3 HRX3.out HCX.out HRY3.out HCY.out HLX.out HLY.out).mono ?_
  rintro e w4 ⟨v4, rfl, hv4, hb4⟩
  rw [HL.out] at hv4 ⊢
  dsimp only at hv4 ⊢
  obtain ⟨Am, cm, e4⟩ := Kd.R_slice hv4
  subst e4
  have HCL := Aside0.mk (Kd.C_below (Kd.R_reads' HV3.out).2.2 hb4)
  have HCM := Aside0.mk (Kd.R_reads' hv4).2.2
  have HDL := Aside0.mk (Kd.R_reads' HV3.out).2.1
  have HDM := Aside0.mk (Kd.R_reads' hv4).2.1
  have HB4 := Aside0.mk (below_then HB3.out HB3.out.size hb4)
  clear hv4 hb4 HRX3 HRY3 HV3
  obtain ⟨K, hK⟩ := evs_get (edits_ev L HLL.out)
  have HK := Aside0.mk hK
  have ze : (ee == ee) = true := beq_self_eq_true ee
  clear hK
  go_wp2_with fail
  refine (grapnellaw19_edits.calls K Al cl L Am cm L true w4 HCL.out HDL.out HCM.out HDM.out HK.out).mono ?_
  rintro e w6 ⟨rfl, hd6⟩
  have HB6 := Aside0.mk (below_then HB4.out HB4.out.size (below_drawn hd6))
  clear hd6
  go_wp2_with fail
  refine (awake_c w6 (HT.out.below HB6.out)).mono ?_
  rintro e w7 ⟨rfl, hb7⟩
  have HB7 := Aside0.mk (below_then HB6.out HB6.out.size hb7)
  clear hb7
  go_wp2_with fail
  go_ret
  exact ⟨rfl, HB7.out⟩
 | true =>
  obtain ⟨x', hx', hwx', hxc'⟩ := few_c a A ca w2 (Kd.C_below HRA.out HB2.out) HCA.out HWA.out
  have HX2 : Aside0 (x'.length ≤ 25 ∧ Wf x') := ⟨hx', hwx'⟩
  have HXC := Aside0.mk hxc'
  clear hx' hwx' hxc' HX HRX HCX
  go_wp2_with fail
  refine HXC.out.mono ?_
  rintro e w5 ⟨v5, rfl, hv5, hb5⟩
  obtain ⟨Ax', cx', e5⟩ := Kd.R_slice hv5
  subst e5
  have HRX := Aside0.mk (Kd.R_reads' hv5).2.2
  have HCX := Aside0.mk (Kd.R_reads' hv5).2.1
  have HRY5 := Aside0.mk (Kd.C_below HRY.out hb5)
  have HB5 := Aside0.mk (below_then HB2.out HB2.out.size hb5)
  clear hv5 hb5 HXC HRY HB2
  have HLX : Aside0 (x'.length < 2147483648) := ⟨by have := HX2.out.1; omega⟩
  have HLY : Aside0 (y.length < 2147483648) := ⟨by have := HY.out.1; omega⟩
  go_wp2_with fail
  refine (diff_c x' y Ax' Ay cx' cy w5 HRX.out HCX.out HRY5.out HCY.out HLX.out HLY.out HX2.out.2 HY.out.2 (HT.out.below HB5.out)).mono ?_
  rintro e w3 ⟨v3, rfl, hv3, hb3⟩
  obtain ⟨L, ee, hL⟩ : ∃ L ee, diffT x' y = (L, ee) := ⟨_, _, rfl⟩
  have HLL : Aside0 (L.length < 2147483648) := ⟨by
   have h := diff_len (a := x') (b := y)
   rw [hL] at h
   have h1 := HX2.out.1
   have h2 := HY.out.1
   dsimp only at h
   omega⟩
  rw [hL] at hv3 ⊢
  dsimp only at hv3 ⊢
  obtain ⟨Al, cl, e3⟩ := Kd.R_slice hv3
  subst e3
  have HL := Aside0.mk hL
  have HV3 := Aside0.mk hv3
  have HB3 := Aside0.mk (below_then HB5.out HB5.out.size hb3)
  have HRX3 := Aside0.mk (Kd.C_below HRX.out hb3)
  have HRY3 := Aside0.mk (Kd.C_below HRY5.out hb3)
  clear hL hv3 hb3
  go_wp2_with fail
  refine (rdiff_c x' y Ax' Ay cx' cy w3 HRX3.out HCX.out HRY3.out HCY.out HLX.out HLY.out).mono ?_
  rintro e w4 ⟨v4, rfl, hv4, hb4⟩
  rw [HL.out] at hv4 ⊢
  dsimp only at hv4 ⊢
  obtain ⟨Am, cm, e4⟩ := Kd.R_slice hv4
  subst e4
  have HCL := Aside0.mk (Kd.C_below (Kd.R_reads' HV3.out).2.2 hb4)
  have HCM := Aside0.mk (Kd.R_reads' hv4).2.2
  have HDL := Aside0.mk (Kd.R_reads' HV3.out).2.1
  have HDM := Aside0.mk (Kd.R_reads' hv4).2.1
  have HB4 := Aside0.mk (below_then HB3.out HB3.out.size hb4)
  clear hv4 hb4 HRX3 HRY3 HV3
  obtain ⟨K, hK⟩ := evs_get (edits_ev L HLL.out)
  have HK := Aside0.mk hK
  have ze : (ee == ee) = true := beq_self_eq_true ee
  clear hK
  go_wp2_with fail
  refine (grapnellaw19_edits.calls K Al cl L Am cm L true w4 HCL.out HDL.out HCM.out HDM.out HK.out).mono ?_
  rintro e w6 ⟨rfl, hd6⟩
  have HB6 := Aside0.mk (below_then HB4.out HB4.out.size (below_drawn hd6))
  clear hd6
  go_wp2_with fail
  refine (awake_c w6 (HT.out.below HB6.out)).mono ?_
  rintro e w7 ⟨rfl, hb7⟩
  have HB7 := Aside0.mk (below_then HB6.out HB6.out.size hb7)
  clear hb7
  go_wp2_with fail
  go_ret
  exact ⟨rfl, HB7.out⟩
end Go.Proofs.YtoggfapafjgkdaaDoor.T
namespace Go.Proofs.YtoggfapafjgkdaaDoor.deltaDiffs
open Go.ChangeShapes Go.WideShapes Go.ChangeAt Go.RowKit Go.Proofs.YtoggfapafjgkdaaDoorW.PrintWords Go.Proofs.YtoggfapafjgkdaaDoor.T
open Go.ChangeMaps (open_string shut_string)
set_option linter.unusedVariables false
theorem own : ownKnob Tryd.prog.godebug = none := by kernel_rfl
theorem laidOut : laidOutB Tryd.prog = true := by kernel_rfl
set_option maxRecDepth 100000 in
theorem lifted (os : Os) (started : os.Started) (H : Type) (enc : TypeId × Value → H) :
  ReturnsInHanded {} Tryd.checked os 3 .any (fun w args => (Rows.deltaDiffsSpec.pre enc Tryd.prog Tryd.f3 [] false w args ∧ laidMetH Tryd.prog Rows.deltaDiffsRow.laid w) ∧ sizedMet enc Tryd.prog Tryd.f3 (OpenSpec.ofChange Rows.deltaDiffsSpec) false w args)
   (Rows.deltaDiffsSpec.post enc Tryd.prog Tryd.f3 false true false false) := by
 refine returns_laid_shaped (C := Tryd.checked) (X := fun w _ => laidMetH Tryd.prog Rows.deltaDiffsRow.laid w) own started (by kernel_rfl) Tryd.func3
  (ChangeSpec.witness_shaped (enc := enc) (C := Tryd.checked) (os := os) (X := fun w _ => laidMetH Tryd.prog Rows.deltaDiffsRow.laid w) false (World.laidAll Tryd.prog os Rows.deltaDiffsRow.laid) #[.slice none 0 0, .slice none 0 0, .bool false] 8 (World.laidAll_os _ _ _)
   (World.shaped_of_ZipB (by kernel_rfl) (by kernel_rfl)) (by kernel_rfl) (by kernel_rfl) (by kernel_rfl)
   (by rw [MakeChecks.laidMetH_plain _ _ _ (by kernel_rfl)]; exact laidMet_laidAll _ (by kernel_rfl) (by kernel_rfl))) ?_
 intro W base args ds gs before hval0 hW hsh
 have hval : ∀ (j : Nat) t v, Tryd.f3.params[j]? = some t → args[j]? = some v → Value.okWide Tryd.prog W .any base t v := hval0
 have hW' := hW
 obtain ⟨p, q, hA0, hV, rfl, hfz, hnd⟩ := hW
 have hA : DataW.TrodAll enc Tryd.prog W 0 (fun _ => true) true Tryd.f3.params.toList args.toList ds p := hA0
 rw [Tryd.params3] at hA hval
 obtain ⟨v0, vs0, d0, ds0, p0, q0, hargs, rfl, rfl, h0, r0⟩ := trodAll_cons hA
 obtain ⟨v1, vs1, d1, ds1, p1, q1, rfl, rfl, rfl, h1, r1⟩ := trodAll_cons r0
 obtain ⟨v2, vs2, d2, ds2, p2, q2, rfl, rfl, rfl, h2, r2⟩ := trodAll_cons r1
 obtain ⟨rfl, rfl, rfl⟩ := trodAll_nil r2
 obtain rfl : args = #[v0, v1, v2] := by cases args; simp_all
 obtain ⟨rfl, rfl⟩ := trodVars_none hV
 obtain ⟨a0, len0, cap0, rfl⟩ := okWide_slice Tryd.underlying22 (hval 0 22 v0 rfl rfl)
 have k0 := h0
 have lt0 : ∀ x ∈ p0, x.block < W.heap.size := by obtain ⟨m, hm⟩ := k0; exact DataW.trod_lt m _ _ _ hm
 obtain ⟨fuel0, hf0⟩ := h0
 obtain ⟨l0, rfl, hc0, hr0, hw0⟩ := nodes_in hf0
 obtain ⟨a1, len1, cap1, rfl⟩ := okWide_slice Tryd.underlying22 (hval 1 22 v1 rfl rfl)
 have k1 := h1
 have lt1 : ∀ x ∈ p1, x.block < W.heap.size := by obtain ⟨m, hm⟩ := k1; exact DataW.trod_lt m _ _ _ hm
 obtain ⟨fuel1, hf1⟩ := h1
 obtain ⟨l1, rfl, hc1, hr1, hw1⟩ := nodes_in hf1
 obtain ⟨a2, rfl, rfl, rfl⟩ := open_bool Tryd.underlying4 (hval 2 4 v2 rfl rfl) h2
 clear hA0 hval0
 refine (diffs_law l0 l1 a0 a1 cap0 cap1 a2 W hr0 hc0 hr1 hc1 hw0 hw1 (tab_of hsh)).mono fun e W' ⟨he, bel⟩ => ?_
 subst he
 exact ⟨_, rfl, _, _, _, [], _, [], hW', trodAll_mk1 (shut_bool Tryd.underlying4 _), (trodAll_cons_mk (Below.trod laidOut (by kernel_rfl) (of_decide_eq_true (by kernel_rfl)) k0 bel lt0) (trodAll_cons_mk (Below.trod laidOut (by kernel_rfl) (of_decide_eq_true (by kernel_rfl)) k1 bel lt1) (trodAll_cons_mk (shut_bool Tryd.underlying4 _) trodAll_mk0))), rfl, bel.frame _, fun h => by cases h⟩
theorem over : Rows.deltaDiffsRow.holds Tryd.pinned (OpenSpec.ofChange Rows.deltaDiffsSpec) :=
 OpenClaim.holds_of_wide 3 Tryd.f3 rfl rfl rfl rfl rfl rfl rfl ⟨rfl, rfl, rfl, rfl, rfl⟩ rfl rfl rfl rfl rfl (by kernel_rfl) Tryd.func3 (by kernel_rfl)
  (of_decide_eq_true (by kernel_rfl)) (by unfold Func.isWrapper; first | (rw [if_pos (by decide +kernel)]; kernel_rfl) | (rw [if_neg (by decide +kernel)]; exact ⟨rfl, rfl⟩))
  (fun os started H enc _ => lifted os started H enc)
theorem card : Rows.DeltaDiffsCardSaid :=
 Claim7.holds_tied_plain_at .later [] [.data, .pinned] true (true, "6a3a4cfdd22b17481ef95879a166bb4b0a106aab83f39b5755c037f4ac8ff715") true
  over (fun _ h => by cases h) (by kernel_rfl) (fun _ h => by cases h) deltaDiffs_row_tie rfl ⟨rfl, rfl⟩ (by kernel_rfl) rfl
  (fun f fn hf hfn => by
   obtain rfl : f = 3 := Option.some.inj ((show Tryd.prog.funcNamed "grapnel/grapnellaw19.DeltaDiffs" = some 3 by kernel_rfl).symm.trans hf) |>.symm
   obtain rfl : fn = Tryd.f3 := (Option.some.inj (Tryd.func3.symm.trans hfn)).symm
   exact ⟨by kernel_rfl, fun j t ht => by
    rw [Tryd.params3] at ht
    have hm : t ∈ [22, 22, 4] := by simpa using Array.mem_of_getElem? ht
    have hall : ([22, 22, 4].all fun u => !Tryd.prog.wantsStandIn u) = true := by kernel_rfl
    exact (show Tryd.prog.wantsStandIn t = false by simpa using List.all_eq_true.1 hall t hm)⟩)
  (by kernel_rfl)
end Go.Proofs.YtoggfapafjgkdaaDoor.deltaDiffs
namespace Go.Proofs.YtoggfapafjgkdaaDoor
theorem deltaDiffs_card_holds : Rows.DeltaDiffsCardSaid := deltaDiffs.card
#print axioms deltaDiffs_card_holds
end Go.Proofs.YtoggfapafjgkdaaDoor
