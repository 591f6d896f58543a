/- ArchiveBytes: any nodes' archive is the document's, or both say that there is none; whatever the input. -/
import Derived.Test.YtkhblpmjmkhiiaaGreatDoorQH8
import Derived.Test.YtkhblpmjmkhiiaaGreatDoorQH13
import Derived.Test.YtkhblpmjmkhiiaaGreatDoorTie
import Derived.Test.YtkhblpmjmkhiiaaGreatDoorCards
import Derived.WalkKit
import Derived.ProofKit
import Derived.OpenShut
import Derived.ShutString
import Derived.ChangeOld
import Derived.Below
import Derived.SizedLaws
import Derived.Lay
import Derived.LaidMore
import Derived.LaidOnce
import Derived.SevenTiedAt

namespace Go.Proofs.YtkhblpmjmkhiiaaGreatDoor.T
open Go.RowKit Go.Proofs.YtkhblpmjmkhiiaaGreatDoorW.PrintWords Go.Proofs.YtkhblpmjmkhiiaaGreatDoorW.PrintLast Go.Proofs.YtkhblpmjmkhiiaaGreatDoorW.PrintMore Go.Proofs.YtkhblpmjmkhiiaaGreatDoor.PAll
set_option linter.unusedSimpArgs false
set_option linter.unusedVariables false
theorem tot_perm {a b : List S38} (p : a.Perm b) : tot a = tot b := by
 unfold tot
 exact (p.map _).sum_nat
theorem tot_canon (s : List S38) : tot (canon s) = tot s := by
 unfold tot canon
 rw [List.map_map]
 rfl
theorem tot_norm (l : List S38) : tot (normT l).1 ≤ tot l := by
 unfold normT
 split
 ·
  rw [tot_canon, tot_perm (sortT_perm l)]
  exact Nat.le_refl _
 ·
  exact Nat.zero_le _
set_option maxHeartbeats 8000000 in
set_option maxRecDepth 100000 in
theorem bytes_law (l : List S38) (A : Option Addr) (c : Nat) (b : Bool) (w : World) (hr0 : Kd.C k38 w A l.length l) (hc : l.length ≤ c) (hwf : Wf l) (hT : Tab w) :
  Calls Tryz.prog 3 #[.slice A l.length c, .bool b] w fun e w' => e = .returned (.bool true) ∧ Below w.heap.size w w' := by
 have hu46 := Tryz.underlying38
 have hu44 := Tryz.underlying36
 have HT := Aside0.mk hT
 obtain ⟨y, h1, h2, h3, hy⟩ := few_c l A c w hr0 hc hwf
 have HL := Aside0.mk (And.intro h1 h3)
 have HW := Aside0.mk h2
 have HY := Aside0.mk hy
 obtain ⟨K, hK⟩ := evs_get (normT_ev y (by omega))
 have HK : Aside0 (grapnelref18_Normal.f K y = some ((normT y).1, (normT y).2)) := ⟨hK⟩
 have HNL : Aside0 ((normT y).1.length ≤ 40 ∧ tot (normT y).1 ≤ 60000 ∧ Wf (normT y).1) := ⟨by have := normT_len y; omega, Nat.le_trans (tot_norm y) h3, wf_norm (by omega)⟩
 obtain ⟨t, ht⟩ : ∃ t, (normT y).1 = t := ⟨_, rfl⟩
 obtain ⟨x, hx⟩ : ∃ x, (normT y).2 = x := ⟨_, rfl⟩
 rw [ht, hx] at HK
 rw [ht] at HNL
 clear hT hr0 hc hwf h1 h2 h3 hy hK ht hx
 go_enter Tryz.func3, Tryz.ntmps3
 go_wp2_with fail
 refine HY.out.mono ?_
 rintro e w1 ⟨v1, rfl, hv1, hb1⟩
 obtain ⟨A1, c1, e1⟩ := Kd.R_slice hv1
 subst e1
 have HR1 := Aside0.mk (Kd.R_reads' hv1).2.2
 have HC1 := Aside0.mk (Kd.R_reads' hv1).2.1
 have HB1 := Aside0.mk hb1
 clear hv1 hb1 HY
 cases b with
 | false =>
  have HZ : Aside0 (y.length ≤ 40 ∧ tot y ≤ 60000 ∧ Wf y) := ⟨HL.out.1, HL.out.2, HW.out⟩
  obtain ⟨K2, hK2⟩ := evs_get (bytesR_ev y HZ.out.1 HZ.out.2.1)
  have HK2 : Aside0 (grapnelref18_Bytes.f K2 y = some ((bytesP y).1, (bytesP y).2)) := ⟨hK2⟩
  have hBC := bytes_c y A1 c1 w1 HR1.out HC1.out HZ.out.1 HZ.out.2.1 HZ.out.2.2 (HT.out.below HB1.out)
  obtain ⟨s1, hs1⟩ : ∃ s, (bytesP y).1 = s := ⟨_, rfl⟩
  obtain ⟨x1, hx1⟩ : ∃ x, (bytesP y).2 = x := ⟨_, rfl⟩
  rw [hs1, hx1] at HK2 hBC
  have HBC := Aside0.mk hBC
  clear hK2 hs1 hx1 hBC
  go_wp2_with fail
  refine HBC.out.mono ?_
  rintro e w3 ⟨rfl, hb3⟩
  have HB3 := Aside0.mk (below_then HB1.out HB1.out.size hb3)
  have HR3 := Aside0.mk (Kd.C_below HR1.out hb3)
  clear hb3
  go_wp2_with fail
  refine (grapnelref18_Bytes.calls K2 A1 c1 y s1 x1 w3 HR3.out HC1.out HK2.out).mono ?_
  rintro e w4 ⟨rfl, hb4⟩
  have HB4 := Aside0.mk (below_then HB3.out HB3.out.size hb4)
  clear hb4
  have zs : (s1.toList == s1.toList) = true := by simp
  have zx : (x1 == x1) = true := by simp
  go_wp2_with fail
  refine (awake_c _ (HT.out.below HB4.out)).mono ?_
  rintro e w5 ⟨rfl, hb5⟩
  have HB5 := Aside0.mk (below_then HB4.out HB4.out.size hb5)
  clear hb5
  go_wp2_with fail
  go_ret
  exact ⟨rfl, HB5.out⟩
 | true =>
  go_wp2_with fail
  refine (grapnelref18_Normal.calls K A1 c1 y t x w1 HR1.out HC1.out HK.out).mono ?_
  rintro e w2 ⟨v2, rfl, hv2, hb2⟩
  obtain ⟨A2, c2, e2⟩ := Kd.R_slice hv2
  subst e2
  have HB2 := Aside0.mk (below_then HB1.out HB1.out.size hb2)
  by_cases h : x = 0
  ·
   subst h
   have HR2 := Aside0.mk (Kd.R_reads' hv2).2.2
   have HC2 := Aside0.mk (Kd.R_reads' hv2).2.1
   clear hv2 hb2 HR1 HC1
   obtain ⟨K2, hK2⟩ := evs_get (bytesR_ev t HNL.out.1 HNL.out.2.1)
   have HK2 : Aside0 (grapnelref18_Bytes.f K2 t = some ((bytesP t).1, (bytesP t).2)) := ⟨hK2⟩
   have hBC := bytes_c t A2 c2 w2 HR2.out HC2.out HNL.out.1 HNL.out.2.1 HNL.out.2.2 (HT.out.below HB2.out)
   obtain ⟨s1, hs1⟩ : ∃ s, (bytesP t).1 = s := ⟨_, rfl⟩
   obtain ⟨x1, hx1⟩ : ∃ x, (bytesP t).2 = x := ⟨_, rfl⟩
   rw [hs1, hx1] at HK2 hBC
   have HBC := Aside0.mk hBC
   clear hK2 hs1 hx1 hBC
   go_wp2_with fail
   refine HBC.out.mono ?_
   rintro e w3 ⟨rfl, hb3⟩
   have HB3 := Aside0.mk (below_then HB2.out HB2.out.size hb3)
   have HR3 := Aside0.mk (Kd.C_below HR2.out hb3)
   clear hb3
   go_wp2_with fail
   refine (grapnelref18_Bytes.calls K2 A2 c2 t s1 x1 w3 HR3.out HC2.out HK2.out).mono ?_
   rintro e w4 ⟨rfl, hb4⟩
   have HB4 := Aside0.mk (below_then HB3.out HB3.out.size hb4)
   clear hb4
   have zs : (s1.toList == s1.toList) = true := by simp
   have zx : (x1 == x1) = true := by simp
   go_wp2_with fail
   refine (awake_c _ (HT.out.below HB4.out)).mono ?_
   rintro e w5 ⟨rfl, hb5⟩
   have HB5 := Aside0.mk (below_then HB4.out HB4.out.size hb5)
   clear hb5
   go_wp2_with fail
   go_ret
   exact ⟨rfl, HB5.out⟩
  ·
   have z0 : (x == 0) = false := beq_eq_false_iff_ne.2 h
   have HR12 := Aside0.mk (Kd.C_below HR1.out hb2)
   have HZ : Aside0 (y.length ≤ 40 ∧ tot y ≤ 60000 ∧ Wf y) := ⟨HL.out.1, HL.out.2, HW.out⟩
   clear hv2 hb2 h HR1
   obtain ⟨K2, hK2⟩ := evs_get (bytesR_ev y HZ.out.1 HZ.out.2.1)
   have HK2 : Aside0 (grapnelref18_Bytes.f K2 y = some ((bytesP y).1, (bytesP y).2)) := ⟨hK2⟩
   have hBC := bytes_c y A1 c1 w2 HR12.out HC1.out HZ.out.1 HZ.out.2.1 HZ.out.2.2 (HT.out.below HB2.out)
   obtain ⟨s1, hs1⟩ : ∃ s, (bytesP y).1 = s := ⟨_, rfl⟩
   obtain ⟨x1, hx1⟩ : ∃ x, (bytesP y).2 = x := ⟨_, rfl⟩
   rw [hs1, hx1] at HK2 hBC
   have HBC := Aside0.mk hBC
   clear hK2 hs1 hx1 hBC
   go_wp2_with fail
   refine HBC.out.mono ?_
   rintro e w3 ⟨rfl, hb3⟩
   have HB3 := Aside0.mk (below_then HB2.out HB2.out.size hb3)
   have HR3 := Aside0.mk (Kd.C_below HR12.out hb3)
   clear hb3
   go_wp2_with fail
   refine (grapnelref18_Bytes.calls K2 A1 c1 y s1 x1 w3 HR3.out HC1.out HK2.out).mono ?_
   rintro e w4 ⟨rfl, hb4⟩
   have HB4 := Aside0.mk (below_then HB3.out HB3.out.size hb4)
   clear hb4
   have zs : (s1.toList == s1.toList) = true := by simp
   have zx : (x1 == x1) = true := by simp
   go_wp2_with fail
   refine (awake_c _ (HT.out.below HB4.out)).mono ?_
   rintro e w5 ⟨rfl, hb5⟩
   have HB5 := Aside0.mk (below_then HB4.out HB4.out.size hb5)
   clear hb5
   go_wp2_with fail
   go_ret
   exact ⟨rfl, HB5.out⟩
end Go.Proofs.YtkhblpmjmkhiiaaGreatDoor.T
namespace Go.Proofs.YtkhblpmjmkhiiaaGreatDoor.archiveBytes
open Go.ChangeShapes Go.WideShapes Go.ChangeAt Go.RowKit Go.Proofs.YtkhblpmjmkhiiaaGreatDoorW.PrintWords Go.Proofs.YtkhblpmjmkhiiaaGreatDoor.T
open Go.ChangeMaps (open_string shut_string)
set_option linter.unusedVariables false
theorem own : ownKnob Tryz.prog.godebug = none := by kernel_rfl
theorem laidOut : laidOutB Tryz.prog = true := by kernel_rfl
set_option maxRecDepth 100000 in
theorem lifted (os : Os) (started : os.Started) (H : Type) (enc : TypeId × Value → H) :
  ReturnsInHanded {} Tryz.checked os 3 .any (fun w args => (Rows.archiveBytesSpec.pre enc Tryz.prog Tryz.f3 [] false w args ∧ laidMetH Tryz.prog Rows.archiveBytesRow.laid w) ∧ sizedMet enc Tryz.prog Tryz.f3 (OpenSpec.ofChange Rows.archiveBytesSpec) false w args)
   (Rows.archiveBytesSpec.post enc Tryz.prog Tryz.f3 false true false false) := by
 refine returns_laid_shaped (C := Tryz.checked) (X := fun w _ => laidMetH Tryz.prog Rows.archiveBytesRow.laid w) own started (by kernel_rfl) Tryz.func3
  (ChangeSpec.witness_shaped (enc := enc) (C := Tryz.checked) (os := os) (X := fun w _ => laidMetH Tryz.prog Rows.archiveBytesRow.laid w) false (World.laidAll Tryz.prog os Rows.archiveBytesRow.laid) #[.slice none 0 0, .bool false] 8 (World.laidAll_os _ _ _)
   (World.shaped_of_ZipB (by kernel_rfl) (by kernel_rfl)) (by kernel_rfl) (by kernel_rfl) (by kernel_rfl)
   (by rw [MakeChecks.laidMetH_plain _ _ _ (by kernel_rfl)]; exact laidMet_laidAll _ (by kernel_rfl) (by kernel_rfl))) ?_
 intro W base args ds gs before hval0 hW hsh
 have hval : ∀ (j : Nat) t v, Tryz.f3.params[j]? = some t → args[j]? = some v → Value.okWide Tryz.prog W .any base t v := hval0
 have hW' := hW
 obtain ⟨p, q, hA0, hV, rfl, hfz, hnd⟩ := hW
 have hA : DataW.TrodAll enc Tryz.prog W 0 (fun _ => true) true Tryz.f3.params.toList args.toList ds p := hA0
 rw [Tryz.params3] at hA hval
 obtain ⟨v0, vs0, d0, ds0, p0, q0, hargs, rfl, rfl, h0, r0⟩ := trodAll_cons hA
 obtain ⟨v1, vs1, d1, ds1, p1, q1, rfl, rfl, rfl, h1, r1⟩ := trodAll_cons r0
 obtain ⟨rfl, rfl, rfl⟩ := trodAll_nil r1
 obtain rfl : args = #[v0, v1] := by cases args; simp_all
 obtain ⟨rfl, rfl⟩ := trodVars_none hV
 obtain ⟨a0, len0, cap0, rfl⟩ := okWide_slice Tryz.underlying22 (hval 0 22 v0 rfl rfl)
 have k0 := h0
 have lt0 : ∀ x ∈ p0, x.block < W.heap.size := by obtain ⟨m, hm⟩ := k0; exact DataW.trod_lt m _ _ _ hm
 obtain ⟨fuel0, hf0⟩ := h0
 obtain ⟨l0, rfl, hc0, hr0, hw0⟩ := nodes_in hf0
 obtain ⟨a1, rfl, rfl, rfl⟩ := open_bool Tryz.underlying4 (hval 1 4 v1 rfl rfl) h1
 clear hA0 hval0
 refine (bytes_law l0 a0 cap0 a1 W hr0 hc0 hw0 (tab_of hsh)).mono fun e W' ⟨he, bel⟩ => ?_
 subst he
 exact ⟨_, rfl, _, _, _, [], _, [], hW', trodAll_mk1 (shut_bool Tryz.underlying4 _), (trodAll_cons_mk (Below.trod laidOut (by kernel_rfl) (of_decide_eq_true (by kernel_rfl)) k0 bel lt0) (trodAll_cons_mk (shut_bool Tryz.underlying4 _) trodAll_mk0)), rfl, bel.frame _, fun h => by cases h⟩
theorem over : Rows.archiveBytesRow.holds Tryz.pinned (OpenSpec.ofChange Rows.archiveBytesSpec) :=
 OpenClaim.holds_of_wide 3 Tryz.f3 rfl rfl rfl rfl rfl rfl rfl ⟨rfl, rfl, rfl, rfl, rfl⟩ rfl rfl rfl rfl rfl (by kernel_rfl) Tryz.func3 (by kernel_rfl)
  (of_decide_eq_true (by kernel_rfl)) (by unfold Func.isWrapper; first | (rw [if_pos (by decide +kernel)]; kernel_rfl) | (rw [if_neg (by decide +kernel)]; exact ⟨rfl, rfl⟩))
  (fun os started H enc _ => lifted os started H enc)
theorem card : Rows.ArchiveBytesCardSaid :=
 Claim7.holds_tied_plain_at .later [] [.data, .pinned] true (true, "bc2dce3e9603473573018e169b86d7d90b7a3f41b8da2cd3d6ec38e98662efa8") true
  over (fun _ h => by cases h) (by kernel_rfl) (fun _ h => by cases h) archiveBytes_row_tie rfl ⟨rfl, rfl⟩ (by kernel_rfl) rfl
  (fun f fn hf hfn => by
   obtain rfl : f = 3 := Option.some.inj ((show Tryz.prog.funcNamed "grapnel/grapnellaw18.ArchiveBytes" = some 3 by kernel_rfl).symm.trans hf) |>.symm
   obtain rfl : fn = Tryz.f3 := (Option.some.inj (Tryz.func3.symm.trans hfn)).symm
   exact ⟨by kernel_rfl, fun j t ht => by
    rw [Tryz.params3] at ht
    have hm : t ∈ [22, 4] := by simpa using Array.mem_of_getElem? ht
    have hall : ([22, 4].all fun u => !Tryz.prog.wantsStandIn u) = true := by kernel_rfl
    exact (show Tryz.prog.wantsStandIn t = false by simpa using List.all_eq_true.1 hall t hm)⟩)
  (by kernel_rfl)
end Go.Proofs.YtkhblpmjmkhiiaaGreatDoor.archiveBytes
namespace Go.Proofs.YtkhblpmjmkhiiaaGreatDoor
theorem archiveBytes_card_holds : Rows.ArchiveBytesCardSaid := archiveBytes.card
#print axioms archiveBytes_card_holds
end Go.Proofs.YtkhblpmjmkhiiaaGreatDoor
