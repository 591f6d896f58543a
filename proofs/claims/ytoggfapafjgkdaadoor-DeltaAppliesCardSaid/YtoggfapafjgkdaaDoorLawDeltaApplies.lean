/- Any edits are applied to any tree as the document says. -/
import Derived.Test.YtoggfapafjgkdaaDoorDAH10
import Derived.Test.YtoggfapafjgkdaaDoorDAH9
import Derived.Test.YtoggfapafjgkdaaDoorDAH7
import Derived.Test.YtoggfapafjgkdaaDoorTie
import Derived.Test.YtoggfapafjgkdaaDoorCards
import Derived.WalkKit
import Derived.ProofKit
import Derived.OpenShut
import Derived.ShutString
import Derived.ChangeOld
import Derived.Below
import Derived.SizedLaws
import Derived.Lay
import Derived.LaidMore
import Derived.LaidOnce
import Derived.SevenTiedAt

namespace Go.Proofs.YtoggfapafjgkdaaDoor.T
open Go.RowKit Go.Deep Go.Proofs.YtoggfapafjgkdaaDoorW.PrintWords Go.Proofs.YtoggfapafjgkdaaDoorW.PrintLast Go.Proofs.YtoggfapafjgkdaaDoorW.PrintMore Go.Proofs.YtoggfapafjgkdaaDoor.PAll
set_option linter.unusedSimpArgs false
set_option linter.unusedVariables false
theorem run_len : ∀ (L : List S33) (l : List S46) (nx : Int) (i : Nat), (∀ l', (runE l nx L i).1 = some l' → l'.length ≤ l.length + L.length)
 | [], l, nx, i, l', h => by
  injection h with h
  subst h
  exact Nat.le_refl _
 | x :: r, l, nx, i, l', h => by
  unfold runE at h
  split at h
  ·
   have h1 := run_len r _ _ _ l' h
   have h2 : (editT l nx x).1.length ≤ l.length + 1 := by
    have N : ∀ (k : Int) (p d : ByteArray), (newT l nx k p d).1.length ≤ l.length + 1 := fun k p d => by
     unfold newT
     split
     ·
      exact Nat.le_succ _
     ·
      simp
    unfold editT
    split
    ·
     unfold removeT
     split
     ·
      exact Nat.le_succ _
     ·
      split
      ·
       exact Nat.le_succ _
      ·
       split
       ·
        exact Nat.le_succ _
       ·
        have := List.length_eraseIdx_le l (findI (pb x.f1) 0 l).toNat
        show (l.eraseIdx _).length ≤ _
        omega
    ·
     split
     ·
      unfold linkT
      split
      ·
       exact Nat.le_succ _
      ·
       split
       ·
        exact Nat.le_succ _
       ·
        split
        ·
         exact Nat.le_succ _
        ·
         simp
     ·
      split
      ·
       unfold changeT
       split
       ·
        exact Nat.le_succ _
       ·
        split
        ·
         exact Nat.le_succ _
        ·
         split
         ·
          exact Nat.le_succ _
         ·
          simp
      ·
       split
       ·
        split
        ·
         exact Nat.le_succ _
        ·
         exact N ..
       ·
        split
        ·
         split
         ·
          exact Nat.le_succ _
         ·
          exact N ..
        ·
         split
         ·
          exact N ..
         ·
          exact Nat.le_succ _
   rw [List.length_cons]
   omega
  ·
   cases h
theorem apply_len (a : List S46) (L : List S33) : (applyT a L).1.length ≤ a.length + L.length := by
 unfold applyT
 split
 ·
  have h := run_len L a ((a.length : Int) + 1) 0
  generalize runE a ((a.length : Int) + 1) L 0 = q at h
  obtain ⟨o, i, e⟩ := q
  cases o with
  | none => exact Nat.zero_le _
  | some l' =>
   have h1 := h l' rfl
   have h2 := normT_len l'
   show (normT l').1.length ≤ _
   omega
 ·
  exact Nat.zero_le _
set_option maxHeartbeats 1500000 in
set_option maxRecDepth 100000 in
theorem applies_law (a : List S46) (L : List S33) (A B : Option Addr) (ca cb : Nat) (raw : Bool) (w : World) (hra : Kd.C k46 w A a.length a) (hca : a.length ≤ ca) (hrb : Kd.C k33 w B L.length L) (hcb : L.length ≤ cb)
  (hwa : Wf a) (_hwb : True) (hT : Tab w) :
  Calls Tryd.prog 5 #[.slice A a.length ca, .slice B L.length cb, .bool raw] w fun e w' => e = .returned (.bool true) ∧ Below w.heap.size w w' := by
 have hu46 := Tryd.underlying46
 have hu44 := Tryd.underlying44
 have hu33 := Tryd.underlying33
 have HT := Aside0.mk hT
 have HRA := Aside0.mk hra
 have HCA := Aside0.mk hca
 have HWA := Aside0.mk hwa
 have HRB := Aside0.mk hrb
 have HCB := Aside0.mk hcb
 obtain ⟨x0, hx, hxc⟩ := form_c a A ca w hra hca hwa
 have HX0 := Aside0.mk hx
 have HXC := Aside0.mk hxc
 clear hT hrb hcb hra hca hwa hx hxc
 go_enter Tryd.func5, Tryd.ntmps5
 go_wp2_with fail
 refine HXC.out.mono ?_
 rintro e w0 ⟨v1, rfl, hv1, hb1⟩
 obtain ⟨Ax0, cx0, e1⟩ := Kd.R_slice hv1
 subst e1
 cases raw with
 | false =>
  obtain ⟨x, hxx⟩ : ∃ x, x = x0 := ⟨_, rfl⟩
  obtain ⟨Ax, hax⟩ : ∃ Ax, Ax = Ax0 := ⟨_, rfl⟩
  obtain ⟨cx, hcx⟩ : ∃ cx, cx = cx0 := ⟨_, rfl⟩
  obtain ⟨w1, hw1⟩ : ∃ w1, w1 = w0 := ⟨_, rfl⟩
  subst hxx hax hcx hw1
  have HRX := Aside0.mk (Kd.R_reads' hv1).2.2
  have HCX := Aside0.mk (Kd.R_reads' hv1).2.1
  have HB1 := Aside0.mk hb1
  have HX : Aside0 (x.length ≤ 25 ∧ Wf x) := ⟨HX0.out.1, HX0.out.2.1⟩
  clear hv1 hb1 HXC HRA HCA HWA HX0
  have HRL0 := Aside0.mk (Kd.C_below HRB.out HB1.out)
  clear HRB
  by_cases hL : (L.length : Int) > 30
  ·
   have zL : decide ((30 : Int) < (L.length : Int)) = true := decide_eq_true hL
   obtain ⟨bd0, hB0, _⟩ := at_T33 HRL0.out 0 (by omega) (by omega)
   subst hB0
   obtain ⟨B, hB⟩ : ∃ B, B = some bd0 := ⟨_, rfl⟩
   obtain ⟨L2, hL2⟩ : ∃ L2, L2 = L.take 30 := ⟨_, rfl⟩
   have h30 : L2.length = 30 := by rw [hL2, List.length_take]; omega
   have HRL : Aside0 (Kd.C k33 w1 B L2.length L2) := ⟨by rw [hB, hL2]; exact Kd.C_take HRL0.out (by omega)⟩
   have HCL : Aside0 (L2.length ≤ cb) := ⟨by have := HCB.out; omega⟩
   have HLL : Aside0 (L2.length < 10000) := ⟨by omega⟩
   have hc30 : (30 ≤ cb) = True := eq_true (by have := HCB.out; omega)
   have hc31 : ((30 : Int) ≤ (cb : Int)) = True := eq_true (by have := HCB.out; omega)
   clear hL hL2 HRL0
   subst hB
   have HAP := Aside0.mk (apply_c x L2 Ax (some bd0) cx cb w1 HRX.out HCX.out HRL.out HCL.out (by have := HX.out.1; omega) HLL.out HX.out.2 (HT.out.below HB1.out))
   have HRAP := Aside0.mk (fun W (h : Below w1.heap.size w1 W) => rapply_c x L2 Ax (some bd0) cx cb W (Kd.C_below HRX.out h) HCX.out (Kd.C_below HRL.out h) HCL.out (by have := HX.out.1; omega) HLL.out HX.out.2)
   obtain ⟨R, hR⟩ : ∃ R, applyT x L2 = R := ⟨_, rfl⟩
   have HLR : Aside0 (R.1.length < 2147483648) := ⟨by rw [← hR]; have := apply_len x L2; have := HX.out.1; omega⟩
   rw [hR, h30] at HAP
   rw [hR, h30] at HRAP
   clear hR h30
   go_wp2_with fail
   refine HAP.out.mono ?_
   rintro e w2 ⟨v2, rfl, hv2, hb2⟩
   obtain ⟨A2, c2, e2⟩ := Kd.R_slice hv2
   subst e2
   have HRT := Aside0.mk (Kd.R_reads' hv2).2.2
   have HCT := Aside0.mk (Kd.R_reads' hv2).2.1
   have HB12 := Aside0.mk hb2
   have HB2 := Aside0.mk (below_then HB1.out HB1.out.size hb2)
   clear hv2 hb2 HAP
   go_wp2_with fail
   refine (HRAP.out w2 HB12.out).mono ?_
   rintro e w3 ⟨v3, rfl, hv3, hb3⟩
   obtain ⟨A3, c3, e3⟩ := Kd.R_slice hv3
   subst e3
   have HRU := Aside0.mk (Kd.R_reads' hv3).2.2
   have HCU := Aside0.mk (Kd.R_reads' hv3).2.1
   have HRT3 := Aside0.mk (Kd.C_below HRT.out hb3)
   have HB3 := Aside0.mk (below_then HB2.out HB2.out.size hb3)
   clear hv3 hb3 HRAP HRT
   go_wp2_with fail
   refine (one_c R.1 A2 A3 c2 c3 w3 HRT3.out HCT.out HRU.out HCU.out HLR.out).mono ?_
   rintro e w4 ⟨rfl, hb4⟩
   have HB4 := Aside0.mk (below_then HB3.out HB3.out.size hb4)
   have zn : (R.2.1 == R.2.1) = true := beq_self_eq_true _
   have ze : (R.2.2 == R.2.2) = true := beq_self_eq_true _
   clear hb4
   go_wp2_with fail
   refine (awake_c w4 (HT.out.below HB4.out)).mono ?_
   rintro e w9 ⟨rfl, hb9⟩
   have HB9 := Aside0.mk (below_then HB4.out HB4.out.size hb9)
   clear hb9
   go_wp2_with fail
   go_ret
   exact ⟨rfl, HB9.out⟩
  ·
   have zL : decide ((30 : Int) < (L.length : Int)) = false := decide_eq_false hL
   have HRL := HRL0
   have HCL := HCB
   have HLL : Aside0 (L.length < 10000) := ⟨by omega⟩
   clear hL HRL0
   have HAP := Aside0.mk (apply_c x L Ax B cx cb w1 HRX.out HCX.out HRL.out HCL.out (by have := HX.out.1; omega) HLL.out HX.out.2 (HT.out.below HB1.out))
   have HRAP := Aside0.mk (fun W (h : Below w1.heap.size w1 W) => rapply_c x L Ax B cx cb W (Kd.C_below HRX.out h) HCX.out (Kd.C_below HRL.out h) HCL.out (by have := HX.out.1; omega) HLL.out HX.out.2)
   obtain ⟨R, hR⟩ : ∃ R, applyT x L = R := ⟨_, rfl⟩
   have HLR : Aside0 (R.1.length < 2147483648) := ⟨by rw [← hR]; have := apply_len x L; have := HX.out.1; have := HLL.out; omega⟩
   rw [hR] at HAP
   rw [hR] at HRAP
   clear hR
   go_wp2_with fail
   refine HAP.out.mono ?_
   rintro e w2 ⟨v2, rfl, hv2, hb2⟩
   obtain ⟨A2, c2, e2⟩ := Kd.R_slice hv2
   subst e2
   have HRT := Aside0.mk (Kd.R_reads' hv2).2.2
   have HCT := Aside0.mk (Kd.R_reads' hv2).2.1
   have HB12 := Aside0.mk hb2
   have HB2 := Aside0.mk (below_then HB1.out HB1.out.size hb2)
   clear hv2 hb2 HAP
   go_wp2_with fail
   refine (HRAP.out w2 HB12.out).mono ?_
   rintro e w3 ⟨v3, rfl, hv3, hb3⟩
   obtain ⟨A3, c3, e3⟩ := Kd.R_slice hv3
   subst e3
   have HRU := Aside0.mk (Kd.R_reads' hv3).2.2
   have HCU := Aside0.mk (Kd.R_reads' hv3).2.1
   have HRT3 := Aside0.mk (Kd.C_below HRT.out hb3)
   have HB3 := Aside0.mk (below_then HB2.out HB2.out.size hb3)
   clear hv3 hb3 HRAP HRT
   go_wp2_with fail
   refine (one_c R.1 A2 A3 c2 c3 w3 HRT3.out HCT.out HRU.out HCU.out HLR.out).mono ?_
   rintro e w4 ⟨rfl, hb4⟩
   have HB4 := Aside0.mk (below_then HB3.out HB3.out.size hb4)
   have zn : (R.2.1 == R.2.1) = true := beq_self_eq_true _
   have ze : (R.2.2 == R.2.2) = true := beq_self_eq_true _
   clear hb4
   go_wp2_with fail
   refine (awake_c w4 (HT.out.below HB4.out)).mono ?_
   rintro e w9 ⟨rfl, hb9⟩
   have HB9 := Aside0.mk (below_then HB4.out HB4.out.size hb9)
   clear hb9
   go_wp2_with fail
   go_ret
   exact ⟨rfl, HB9.out⟩
 | true =>
  have HB0 := Aside0.mk hb1
  obtain ⟨x, hx1, hx2, hfc⟩ := few_c a A ca w0 (Kd.C_below HRA.out hb1) HCA.out HWA.out
  have HX : Aside0 (x.length ≤ 25 ∧ Wf x) := ⟨hx1, hx2⟩
  have HFC := Aside0.mk hfc
  clear hv1 hb1 HXC HRA HCA HWA HX0 hx1 hx2 hfc
  go_wp2_with fail
  refine HFC.out.mono ?_
  rintro e w1 ⟨v1, rfl, hv1, hb1⟩
  obtain ⟨Ax, cx, e1⟩ := Kd.R_slice hv1
  subst e1
  have HRX := Aside0.mk (Kd.R_reads' hv1).2.2
  have HCX := Aside0.mk (Kd.R_reads' hv1).2.1
  have HB1 := Aside0.mk (below_then HB0.out HB0.out.size hb1)
  clear hv1 hb1 HFC HB0
  have HRL0 := Aside0.mk (Kd.C_below HRB.out HB1.out)
  clear HRB
  by_cases hL : (L.length : Int) > 30
  ·
   have zL : decide ((30 : Int) < (L.length : Int)) = true := decide_eq_true hL
   obtain ⟨bd0, hB0, _⟩ := at_T33 HRL0.out 0 (by omega) (by omega)
   subst hB0
   obtain ⟨B, hB⟩ : ∃ B, B = some bd0 := ⟨_, rfl⟩
   obtain ⟨L2, hL2⟩ : ∃ L2, L2 = L.take 30 := ⟨_, rfl⟩
   have h30 : L2.length = 30 := by rw [hL2, List.length_take]; omega
   have HRL : Aside0 (Kd.C k33 w1 B L2.length L2) := ⟨by rw [hB, hL2]; exact Kd.C_take HRL0.out (by omega)⟩
   have HCL : Aside0 (L2.length ≤ cb) := ⟨by have := HCB.out; omega⟩
   have HLL : Aside0 (L2.length < 10000) := ⟨by omega⟩
   have hc30 : (30 ≤ cb) = True := eq_true (by have := HCB.out; omega)
   have hc31 : ((30 : Int) ≤ (cb : Int)) = True := eq_true (by have := HCB.out; omega)
   clear hL hL2 HRL0
   subst hB
   have HAP := Aside0.mk (apply_c x L2 Ax (some bd0) cx cb w1 HRX.out HCX.out HRL.out HCL.out (by have := HX.out.1; omega) HLL.out HX.out.2 (HT.out.below HB1.out))
   have HRAP := Aside0.mk (fun W (h : Below w1.heap.size w1 W) => rapply_c x L2 Ax (some bd0) cx cb W (Kd.C_below HRX.out h) HCX.out (Kd.C_below HRL.out h) HCL.out (by have := HX.out.1; omega) HLL.out HX.out.2)
   obtain ⟨R, hR⟩ : ∃ R, applyT x L2 = R := ⟨_, rfl⟩
   have HLR : Aside0 (R.1.length < 2147483648) := ⟨by rw [← hR]; have := apply_len x L2; have := HX.out.1; omega⟩
   rw [hR, h30] at HAP
   rw [hR, h30] at HRAP
   clear hR h30
   go_wp2_with fail
   refine HAP.out.mono ?_
   rintro e w2 ⟨v2, rfl, hv2, hb2⟩
   obtain ⟨A2, c2, e2⟩ := Kd.R_slice hv2
   subst e2
   have HRT := Aside0.mk (Kd.R_reads' hv2).2.2
   have HCT := Aside0.mk (Kd.R_reads' hv2).2.1
   have HB12 := Aside0.mk hb2
   have HB2 := Aside0.mk (below_then HB1.out HB1.out.size hb2)
   clear hv2 hb2 HAP
   go_wp2_with fail
   refine (HRAP.out w2 HB12.out).mono ?_
   rintro e w3 ⟨v3, rfl, hv3, hb3⟩
   obtain ⟨A3, c3, e3⟩ := Kd.R_slice hv3
   subst e3
   have HRU := Aside0.mk (Kd.R_reads' hv3).2.2
   have HCU := Aside0.mk (Kd.R_reads' hv3).2.1
   have HRT3 := Aside0.mk (Kd.C_below HRT.out hb3)
   have HB3 := Aside0.mk (below_then HB2.out HB2.out.size hb3)
   clear hv3 hb3 HRAP HRT
   go_wp2_with fail
   refine (one_c R.1 A2 A3 c2 c3 w3 HRT3.out HCT.out HRU.out HCU.out HLR.out).mono ?_
   rintro e w4 ⟨rfl, hb4⟩
   have HB4 := Aside0.mk (below_then HB3.out HB3.out.size hb4)
   have zn : (R.2.1 == R.2.1) = true := beq_self_eq_true _
   have ze : (R.2.2 == R.2.2) = true := beq_self_eq_true _
   clear hb4
   go_wp2_with fail
   refine (awake_c w4 (HT.out.below HB4.out)).mono ?_
   rintro e w9 ⟨rfl, hb9⟩
   have HB9 := Aside0.mk (below_then HB4.out HB4.out.size hb9)
   clear hb9
   go_wp2_with fail
   go_ret
   exact ⟨rfl, HB9.out⟩
  ·
   have zL : decide ((30 : Int) < (L.length : Int)) = false := decide_eq_false hL
   have HRL := HRL0
   have HCL := HCB
   have HLL : Aside0 (L.length < 10000) := ⟨by omega⟩
   clear hL HRL0
   have HAP := Aside0.mk (apply_c x L Ax B cx cb w1 HRX.out HCX.out HRL.out HCL.out (by have := HX.out.1; omega) HLL.out HX.out.2 (HT.out.below HB1.out))
   have HRAP := Aside0.mk (fun W (h : Below w1.heap.size w1 W) => rapply_c x L Ax B cx cb W (Kd.C_below HRX.out h) HCX.out (Kd.C_below HRL.out h) HCL.out (by have := HX.out.1; omega) HLL.out HX.out.2)
   obtain ⟨R, hR⟩ : ∃ R, applyT x L = R := ⟨_, rfl⟩
   have HLR : Aside0 (R.1.length < 2147483648) := ⟨by rw [← hR]; have := apply_len x L; have := HX.out.1; have := HLL.out; omega⟩
   rw [hR] at HAP
   rw [hR] at HRAP
   clear hR
   go_wp2_with fail
   refine HAP.out.mono ?_
   rintro e w2 ⟨v2, rfl, hv2, hb2⟩
   obtain ⟨A2, c2, e2⟩ := Kd.R_slice hv2
   subst e2
   have HRT := Aside0.mk (Kd.R_reads' hv2).2.2
   have HCT := Aside0.mk (Kd.R_reads' hv2).2.1
   have HB12 := Aside0.mk hb2
   have HB2 := Aside0.mk (below_then HB1.out HB1.out.size hb2)
   clear hv2 hb2 HAP
   go_wp2_with fail
   refine (HRAP.out w2 HB12.out).mono ?_
   rintro e w3 ⟨v3, rfl, hv3, hb3⟩
   obtain ⟨A3, c3, e3⟩ := Kd.R_slice hv3
   subst e3
   have HRU := Aside0.mk (Kd.R_reads' hv3).2.2
   have HCU := Aside0.mk (Kd.R_reads' hv3).2.1
   have HRT3 := Aside0.mk (Kd.C_below HRT.out hb3)
   have HB3 := Aside0.mk (below_then HB2.out HB2.out.size hb3)
   clear hv3 hb3 HRAP HRT
   go_wp2_with fail
   refine (one_c R.1 A2 A3 c2 c3 w3 HRT3.out HCT.out HRU.out HCU.out HLR.out).mono ?_
   rintro e w4 ⟨rfl, hb4⟩
   have HB4 := Aside0.mk (below_then HB3.out HB3.out.size hb4)
   have zn : (R.2.1 == R.2.1) = true := beq_self_eq_true _
   have ze : (R.2.2 == R.2.2) = true := beq_self_eq_true _
   clear hb4
   go_wp2_with fail
   refine (awake_c w4 (HT.out.below HB4.out)).mono ?_
   rintro e w9 ⟨rfl, hb9⟩
   have HB9 := Aside0.mk (below_then HB4.out HB4.out.size hb9)
   clear hb9
   go_wp2_with fail
   go_ret
   exact ⟨rfl, HB9.out⟩
end Go.Proofs.YtoggfapafjgkdaaDoor.T
namespace Go.Proofs.YtoggfapafjgkdaaDoor.deltaApplies
open Go.ChangeShapes Go.WideShapes Go.ChangeAt Go.RowKit Go.Proofs.YtoggfapafjgkdaaDoorW.PrintWords Go.Proofs.YtoggfapafjgkdaaDoor.T
open Go.ChangeMaps (open_string shut_string)
set_option linter.unusedVariables false
theorem own : ownKnob Tryd.prog.godebug = none := by kernel_rfl
theorem laidOut : laidOutB Tryd.prog = true := by kernel_rfl
set_option maxRecDepth 100000 in
theorem lifted (os : Os) (started : os.Started) (H : Type) (enc : TypeId × Value → H) :
  ReturnsInHanded {} Tryd.checked os 5 .any (fun w args => (Rows.deltaAppliesSpec.pre enc Tryd.prog Tryd.f5 [] false w args ∧ laidMetH Tryd.prog Rows.deltaAppliesRow.laid w) ∧ sizedMet enc Tryd.prog Tryd.f5 (OpenSpec.ofChange Rows.deltaAppliesSpec) false w args)
   (Rows.deltaAppliesSpec.post enc Tryd.prog Tryd.f5 false true false false) := by
 refine returns_laid_shaped (C := Tryd.checked) (X := fun w _ => laidMetH Tryd.prog Rows.deltaAppliesRow.laid w) own started (by kernel_rfl) Tryd.func5
  (ChangeSpec.witness_shaped (enc := enc) (C := Tryd.checked) (os := os) (X := fun w _ => laidMetH Tryd.prog Rows.deltaAppliesRow.laid w) false (World.laidAll Tryd.prog os Rows.deltaAppliesRow.laid) #[.slice none 0 0, .slice none 0 0, .bool false] 8 (World.laidAll_os _ _ _)
   (World.shaped_of_ZipB (by kernel_rfl) (by kernel_rfl)) (by kernel_rfl) (by kernel_rfl) (by kernel_rfl)
   (by rw [MakeChecks.laidMetH_plain _ _ _ (by kernel_rfl)]; exact laidMet_laidAll _ (by kernel_rfl) (by kernel_rfl))) ?_
 intro W base args ds gs before hval0 hW hsh
 have hval : ∀ (j : Nat) t v, Tryd.f5.params[j]? = some t → args[j]? = some v → Value.okWide Tryd.prog W .any base t v := hval0
 have hW' := hW
 obtain ⟨p, q, hA0, hV, rfl, hfz, hnd⟩ := hW
 have hA : DataW.TrodAll enc Tryd.prog W 0 (fun _ => true) true Tryd.f5.params.toList args.toList ds p := hA0
 rw [Tryd.params5] at hA hval
 obtain ⟨v0, vs0, d0, ds0, p0, q0, hargs, rfl, rfl, h0, r0⟩ := trodAll_cons hA
 obtain ⟨v1, vs1, d1, ds1, p1, q1, rfl, rfl, rfl, h1, r1⟩ := trodAll_cons r0
 obtain ⟨v2, vs2, d2, ds2, p2, q2, rfl, rfl, rfl, h2, r2⟩ := trodAll_cons r1
 obtain ⟨rfl, rfl, rfl⟩ := trodAll_nil r2
 obtain rfl : args = #[v0, v1, v2] := by cases args; simp_all
 obtain ⟨rfl, rfl⟩ := trodVars_none hV
 obtain ⟨a0, len0, cap0, rfl⟩ := okWide_slice Tryd.underlying22 (hval 0 22 v0 rfl rfl)
 have k0 := h0
 have lt0 : ∀ x ∈ p0, x.block < W.heap.size := by obtain ⟨m, hm⟩ := k0; exact DataW.trod_lt m _ _ _ hm
 obtain ⟨fuel0, hf0⟩ := h0
 obtain ⟨l0, rfl, hc0, hr0, hw0⟩ := nodes_in hf0
 obtain ⟨a1, len1, cap1, rfl⟩ := okWide_slice Tryd.underlying24 (hval 1 24 v1 rfl rfl)
 have k1 := h1
 have lt1 : ∀ x ∈ p1, x.block < W.heap.size := by obtain ⟨m, hm⟩ := k1; exact DataW.trod_lt m _ _ _ hm
 obtain ⟨fuel1, hf1⟩ := h1
 obtain ⟨l1, rfl, hc1, hr1, hw1⟩ := edits_in hf1
 obtain ⟨a2, rfl, rfl, rfl⟩ := open_bool Tryd.underlying4 (hval 2 4 v2 rfl rfl) h2
 clear hA0 hval0
 refine (applies_law l0 l1 a0 a1 cap0 cap1 a2 W hr0 hc0 hr1 hc1 hw0 hw1 (tab_of hsh)).mono fun e W' ⟨he, bel⟩ => ?_
 subst he
 exact ⟨_, rfl, _, _, _, [], _, [], hW', trodAll_mk1 (shut_bool Tryd.underlying4 _), (trodAll_cons_mk (Below.trod laidOut (by kernel_rfl) (of_decide_eq_true (by kernel_rfl)) k0 bel lt0) (trodAll_cons_mk (Below.trod laidOut (by kernel_rfl) (of_decide_eq_true (by kernel_rfl)) k1 bel lt1) (trodAll_cons_mk (shut_bool Tryd.underlying4 _) trodAll_mk0))), rfl, bel.frame _, fun h => by cases h⟩
theorem over : Rows.deltaAppliesRow.holds Tryd.pinned (OpenSpec.ofChange Rows.deltaAppliesSpec) :=
 OpenClaim.holds_of_wide 5 Tryd.f5 rfl rfl rfl rfl rfl rfl rfl ⟨rfl, rfl, rfl, rfl, rfl⟩ rfl rfl rfl rfl rfl (by kernel_rfl) Tryd.func5 (by kernel_rfl)
  (of_decide_eq_true (by kernel_rfl)) (by unfold Func.isWrapper; first | (rw [if_pos (by decide +kernel)]; kernel_rfl) | (rw [if_neg (by decide +kernel)]; exact ⟨rfl, rfl⟩))
  (fun os started H enc _ => lifted os started H enc)
theorem card : Rows.DeltaAppliesCardSaid :=
 Claim7.holds_tied_plain_at .later [] [.data, .pinned] true (true, "6a3a4cfdd22b17481ef95879a166bb4b0a106aab83f39b5755c037f4ac8ff715") true
  over (fun _ h => by cases h) (by kernel_rfl) (fun _ h => by cases h) deltaApplies_row_tie rfl ⟨rfl, rfl⟩ (by kernel_rfl) rfl
  (fun f fn hf hfn => by
   obtain rfl : f = 5 := Option.some.inj ((show Tryd.prog.funcNamed "grapnel/grapnellaw19.DeltaApplies" = some 5 by kernel_rfl).symm.trans hf) |>.symm
   obtain rfl : fn = Tryd.f5 := (Option.some.inj (Tryd.func5.symm.trans hfn)).symm
   exact ⟨by kernel_rfl, fun j t ht => by
    rw [Tryd.params5] at ht
    have hm : t ∈ [22, 24, 4] := by simpa using Array.mem_of_getElem? ht
    have hall : ([22, 24, 4].all fun u => !Tryd.prog.wantsStandIn u) = true := by kernel_rfl
    exact (show Tryd.prog.wantsStandIn t = false by simpa using List.all_eq_true.1 hall t hm)⟩)
  (by kernel_rfl)
end Go.Proofs.YtoggfapafjgkdaaDoor.deltaApplies
namespace Go.Proofs.YtoggfapafjgkdaaDoor
theorem deltaApplies_card_holds : Rows.DeltaAppliesCardSaid := deltaApplies.card
#print axioms deltaApplies_card_holds
end Go.Proofs.YtoggfapafjgkdaaDoor
