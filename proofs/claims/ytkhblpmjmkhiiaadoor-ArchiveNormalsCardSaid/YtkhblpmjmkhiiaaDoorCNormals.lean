/- ArchiveNormals: the one form of any nodes is the document's, or both say that they are no tree; whatever the input. -/
import Derived.Test.YtkhblpmjmkhiiaaDoorQH8
import Derived.Test.YtkhblpmjmkhiiaaDoorQH4
import Derived.Test.YtkhblpmjmkhiiaaDoorQK3
import Derived.Test.YtkhblpmjmkhiiaaDoorTie
import Derived.Test.YtkhblpmjmkhiiaaDoorCards
import Derived.WalkKit
import Derived.ProofKit
import Derived.OpenShut
import Derived.ShutString
import Derived.ChangeOld
import Derived.Below
import Derived.SizedLaws
import Derived.Lay
import Derived.LaidMore
import Derived.LaidOnce
import Derived.SevenTiedAt

namespace Go.Proofs.YtkhblpmjmkhiiaaDoor.T
open Go.RowKit Go.Proofs.YtkhblpmjmkhiiaaDoorW.PrintWords Go.Proofs.YtkhblpmjmkhiiaaDoorW.PrintLast Go.Proofs.YtkhblpmjmkhiiaaDoorW.PrintMore Go.Proofs.YtkhblpmjmkhiiaaDoor.PAll
set_option linter.unusedSimpArgs false
set_option linter.unusedVariables false
set_option maxHeartbeats 8000000 in
set_option maxRecDepth 100000 in
theorem normals_law (l : List S34) (A : Option Addr) (c : Nat) (w : World) (hr0 : Kd.C k34 w A l.length l) (hc : l.length ≤ c) (hwf : Wf l) (hT : Tab w) :
  Calls Tryd.prog 3 #[.slice A l.length c] w fun e w' => e = .returned (.bool true) ∧ Below w.heap.size w w' := by
 have hu46 := Tryd.underlying34
 have hu44 := Tryd.underlying32
 have HT := Aside0.mk hT
 obtain ⟨y, h1, h2, h3, hy⟩ := few_c l A c w hr0 hc hwf
 have HL := Aside0.mk h1
 have HW := Aside0.mk h2
 have HY := Aside0.mk hy
 obtain ⟨K, hK⟩ := evs_get (normT_ev y (by omega))
 have HK : Aside0 (grapnelref18_Normal.f K y = some ((normT y).1, (normT y).2)) := ⟨hK⟩
 obtain ⟨K2, hK2⟩ := evs_get (same_ev (normT y).1 (normT y).1 (by have := normT_len y; omega) true ⟨fun _ => rfl, fun _ => rfl⟩)
 have HS := Aside0.mk hK2
 obtain ⟨t, ht⟩ : ∃ t, (normT y).1 = t := ⟨_, rfl⟩
 obtain ⟨x, hx⟩ : ∃ x, (normT y).2 = x := ⟨_, rfl⟩
 rw [ht, hx] at HK
 rw [ht] at HS
 have HE : Aside0 (normT y = (t, x)) := ⟨Prod.ext ht hx⟩
 clear hT hr0 hc hwf h1 h2 h3 hy hK hK2 ht hx
 go_enter Tryd.func3, Tryd.ntmps3
 go_wp2_with fail
 refine HY.out.mono ?_
 rintro e w1 ⟨v1, rfl, hv1, hb1⟩
 obtain ⟨A1, c1, e1⟩ := Kd.R_slice hv1
 subst e1
 have HR1 := Aside0.mk (Kd.R_reads' hv1).2.2
 have HC1 := Aside0.mk (Kd.R_reads' hv1).2.1
 have HB1 := Aside0.mk hb1
 clear hv1 hb1 HY
 go_wp2_with fail
 refine (normal_c y A1 c1 w1 HR1.out HC1.out (by have := HL.out; omega) HW.out (HT.out.below HB1.out)).mono ?_
 rintro e w2 ⟨v2, rfl, hv2, hb2⟩
 rw [HE.out] at hv2 ⊢
 dsimp only at hv2 ⊢
 obtain ⟨A2, c2, e2⟩ := Kd.R_slice hv2
 subst e2
 have HR2 := Aside0.mk (Kd.R_reads' hv2).2.2
 have HC2 := Aside0.mk (Kd.R_reads' hv2).2.1
 have HB2 := Aside0.mk (below_then HB1.out HB1.out.size hb2)
 have HR12 := Aside0.mk (Kd.C_below HR1.out hb2)
 clear hv2 hb2 HR1 HB1
 go_wp2_with fail
 refine (grapnelref18_Normal.calls K A1 c1 y t x w2 HR12.out HC1.out HK.out).mono ?_
 rintro e w3 ⟨v3, rfl, hv3, hb3⟩
 obtain ⟨A3, c3, e3⟩ := Kd.R_slice hv3
 subst e3
 have HR3 := Aside0.mk (Kd.R_reads' hv3).2.2
 have HC3 := Aside0.mk (Kd.R_reads' hv3).2.1
 have HB3 := Aside0.mk (below_then HB2.out HB2.out.size hb3)
 have HR23 := Aside0.mk (Kd.C_below HR2.out hb3)
 clear hv3 hb3 HR2 HB2 HR12
 go_wp2_with fail
 refine (grapnelref18_Same.calls K2 A2 c2 t A3 c3 t true w3 HR23.out HC2.out HR3.out HC3.out HS.out).mono ?_
 rintro e w4 ⟨rfl, ⟨nd, rfl⟩⟩
 have HB4 := Aside0.mk (below_then HB3.out HB3.out.size (pw_below_drewN (Below.refl w3.heap.size w3) nd))
 clear HR3 HC3 HR23 HB3 HC2
 have z0 : (x == x) = true := by simp
 go_wp2_with fail
 refine (awake_c _ (HT.out.below HB4.out)).mono ?_
 rintro e w5 ⟨rfl, hb5⟩
 have HB5 := Aside0.mk (below_then HB4.out HB4.out.size hb5)
 clear hb5
 go_wp2_with fail
 go_ret
 exact ⟨rfl, HB5.out⟩
end Go.Proofs.YtkhblpmjmkhiiaaDoor.T
namespace Go.Proofs.YtkhblpmjmkhiiaaDoor.archiveNormals
open Go.ChangeShapes Go.WideShapes Go.ChangeAt Go.RowKit Go.Proofs.YtkhblpmjmkhiiaaDoorW.PrintWords Go.Proofs.YtkhblpmjmkhiiaaDoor.T
open Go.ChangeMaps (open_string shut_string)
set_option linter.unusedVariables false
theorem own : ownKnob Tryd.prog.godebug = none := by kernel_rfl
theorem laidOut : laidOutB Tryd.prog = true := by kernel_rfl
set_option maxRecDepth 100000 in
theorem lifted (os : Os) (started : os.Started) (H : Type) (enc : TypeId × Value → H) :
  ReturnsInHanded {} Tryd.checked os 3 .any (fun w args => (Rows.archiveNormalsSpec.pre enc Tryd.prog Tryd.f3 [] false w args ∧ laidMetH Tryd.prog Rows.archiveNormalsRow.laid w) ∧ sizedMet enc Tryd.prog Tryd.f3 (OpenSpec.ofChange Rows.archiveNormalsSpec) false w args)
   (Rows.archiveNormalsSpec.post enc Tryd.prog Tryd.f3 false true false false) := by
 refine returns_laid_shaped (C := Tryd.checked) (X := fun w _ => laidMetH Tryd.prog Rows.archiveNormalsRow.laid w) own started (by kernel_rfl) Tryd.func3
  (ChangeSpec.witness_shaped (enc := enc) (C := Tryd.checked) (os := os) (X := fun w _ => laidMetH Tryd.prog Rows.archiveNormalsRow.laid w) false (World.laidAll Tryd.prog os Rows.archiveNormalsRow.laid) #[.slice none 0 0] 8 (World.laidAll_os _ _ _)
   (World.shaped_of_ZipB (by kernel_rfl) (by kernel_rfl)) (by kernel_rfl) (by kernel_rfl) (by kernel_rfl)
   (by rw [MakeChecks.laidMetH_plain _ _ _ (by kernel_rfl)]; exact laidMet_laidAll _ (by kernel_rfl) (by kernel_rfl))) ?_
 intro W base args ds gs before hval0 hW hsh
 have hval : ∀ (j : Nat) t v, Tryd.f3.params[j]? = some t → args[j]? = some v → Value.okWide Tryd.prog W .any base t v := hval0
 have hW' := hW
 obtain ⟨p, q, hA0, hV, rfl, hfz, hnd⟩ := hW
 have hA : DataW.TrodAll enc Tryd.prog W 0 (fun _ => true) true Tryd.f3.params.toList args.toList ds p := hA0
 rw [Tryd.params3] at hA hval
 obtain ⟨v0, vs0, d0, ds0, p0, q0, hargs, rfl, rfl, h0, r0⟩ := trodAll_cons hA
 obtain ⟨rfl, rfl, rfl⟩ := trodAll_nil r0
 obtain rfl : args = #[v0] := by cases args; simp_all
 obtain ⟨rfl, rfl⟩ := trodVars_none hV
 obtain ⟨a0, len0, cap0, rfl⟩ := okWide_slice Tryd.underlying22 (hval 0 22 v0 rfl rfl)
 have k0 := h0
 have lt0 : ∀ x ∈ p0, x.block < W.heap.size := by obtain ⟨m, hm⟩ := k0; exact DataW.trod_lt m _ _ _ hm
 obtain ⟨fuel0, hf0⟩ := h0
 obtain ⟨l0, rfl, hc0, hr0, hw0⟩ := nodes_in hf0
 clear hA0 hval0
 refine (normals_law l0 a0 cap0 W hr0 hc0 hw0 (tab_of hsh)).mono fun e W' ⟨he, bel⟩ => ?_
 subst he
 exact ⟨_, rfl, _, _, _, [], _, [], hW', trodAll_mk1 (shut_bool Tryd.underlying4 _), (trodAll_cons_mk (Below.trod laidOut (by kernel_rfl) (of_decide_eq_true (by kernel_rfl)) k0 bel lt0) trodAll_mk0), rfl, bel.frame _, fun h => by cases h⟩
theorem over : Rows.archiveNormalsRow.holds Tryd.pinned (OpenSpec.ofChange Rows.archiveNormalsSpec) :=
 OpenClaim.holds_of_wide 3 Tryd.f3 rfl rfl rfl rfl rfl rfl rfl ⟨rfl, rfl, rfl, rfl, rfl⟩ rfl rfl rfl rfl rfl (by kernel_rfl) Tryd.func3 (by kernel_rfl)
  (of_decide_eq_true (by kernel_rfl)) (by unfold Func.isWrapper; first | (rw [if_pos (by decide +kernel)]; kernel_rfl) | (rw [if_neg (by decide +kernel)]; exact ⟨rfl, rfl⟩))
  (fun os started H enc _ => lifted os started H enc)
theorem card : Rows.ArchiveNormalsCardSaid :=
 Claim7.holds_tied_plain_at .later [] [.data, .pinned] true (true, "b1b3e7ddabcb5e9df29832efb0e53c8d41558f707d82fe92ef03856339a099fc") true
  over (fun _ h => by cases h) (by kernel_rfl) (fun _ h => by cases h) archiveNormals_row_tie rfl ⟨rfl, rfl⟩ (by kernel_rfl) rfl
  (fun f fn hf hfn => by
   obtain rfl : f = 3 := Option.some.inj ((show Tryd.prog.funcNamed "grapnel/grapnellaw18.ArchiveNormals" = some 3 by kernel_rfl).symm.trans hf) |>.symm
   obtain rfl : fn = Tryd.f3 := (Option.some.inj (Tryd.func3.symm.trans hfn)).symm
   exact ⟨by kernel_rfl, fun j t ht => by
    rw [Tryd.params3] at ht
    have hm : t ∈ [22] := by simpa using Array.mem_of_getElem? ht
    have hall : ([22].all fun u => !Tryd.prog.wantsStandIn u) = true := by kernel_rfl
    exact (show Tryd.prog.wantsStandIn t = false by simpa using List.all_eq_true.1 hall t hm)⟩)
  (by kernel_rfl)
end Go.Proofs.YtkhblpmjmkhiiaaDoor.archiveNormals
namespace Go.Proofs.YtkhblpmjmkhiiaaDoor
theorem archiveNormals_card_holds : Rows.ArchiveNormalsCardSaid := archiveNormals.card
#print axioms archiveNormals_card_holds
end Go.Proofs.YtkhblpmjmkhiiaaDoor
