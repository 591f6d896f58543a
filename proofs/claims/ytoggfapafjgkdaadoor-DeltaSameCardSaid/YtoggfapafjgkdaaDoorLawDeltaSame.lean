/- DeltaSame: between a tree and itself there is nothing, and no path that stays goes or comes; whatever the input. -/
import Derived.Test.YtoggfapafjgkdaaDoorG6
import Derived.Test.YtoggfapafjgkdaaDoorG7
import Derived.Test.YtoggfapafjgkdaaDoorTPI
import Derived.Test.YtoggfapafjgkdaaDoorTie
import Derived.Test.YtoggfapafjgkdaaDoorCards
import Derived.WalkKit
import Derived.ProofKit
import Derived.OpenShut
import Derived.ShutString
import Derived.ChangeOld
import Derived.Below
import Derived.SizedLaws
import Derived.Lay
import Derived.LaidMore
import Derived.LaidOnce
import Derived.SevenTiedAt
namespace Go.Proofs.YtoggfapafjgkdaaDoor.T
open Go.RowKit Go.Proofs.YtoggfapafjgkdaaDoorW.PrintWords Go.Proofs.YtoggfapafjgkdaaDoorW.PrintLast Go.Proofs.YtoggfapafjgkdaaDoorW.PrintMore Go.Proofs.YtoggfapafjgkdaaDoor.PAll
set_option linter.unusedSimpArgs false
set_option linter.unusedVariables false

theorem rd33_mem {L : List S33} {k : Nat} (h : k < L.length) : rd_T33 L (k : Int) ∈ L := by
  have e : rd_T33 L (k : Int) = L[k] := by simp [rd_T33, List.getD_eq_getElem?_getD, h]
  rw [e]
  exact List.getElem_mem h
set_option maxHeartbeats 8000000 in
set_option maxRecDepth 100000 in
theorem same_law (a b : List S46) (A B : Option Addr) (ca cb : Nat) (w : World) (hra : Kd.C k46 w A a.length a) (hca : a.length ≤ ca) (hrb : Kd.C k46 w B b.length b) (hcb : b.length ≤ cb)
    (hwa : Wf a) (hwb : Wf b) (hT : Tab w) :
    Calls Tryd.prog 4 #[.slice A a.length ca, .slice B b.length cb] w fun e w' => e = .returned (.bool true) ∧ Below w.heap.size w w' := by
  have hu46 := Tryd.underlying46
  have hu44 := Tryd.underlying44
  have hu33 := Tryd.underlying33
  have HT := Aside0.mk hT
  have HRB := Aside0.mk hrb
  have HCB := Aside0.mk hcb
  have HWB := Aside0.mk hwb
  obtain ⟨x, hx, hxc⟩ := form_c a A ca w hra hca hwa
  have HX := Aside0.mk hx
  have HXC := Aside0.mk hxc
  clear hT hrb hcb hwb hra hca hwa hx hxc
  go_enter Tryd.func4, Tryd.ntmps4
  go_wp2_with fail
  refine HXC.out.mono ?_
  rintro e w1 ⟨v1, rfl, hv1, hb1⟩
  obtain ⟨Ax, cx, e1⟩ := Kd.R_slice hv1
  subst e1
  obtain ⟨y, hy, hyc⟩ := form_c b B cb w1 (Kd.C_below HRB.out hb1) HCB.out HWB.out
  have HY := Aside0.mk hy
  have HYC := Aside0.mk hyc
  have HV1 := Aside0.mk hv1
  have HB1 := Aside0.mk hb1
  clear hy hyc hv1 hb1 HXC HRB HCB HWB
  go_wp2_with fail
  refine HYC.out.mono ?_
  rintro e w2 ⟨v2, rfl, hv2, hb2⟩
  obtain ⟨Ay, cy, e2⟩ := Kd.R_slice hv2
  subst e2
  have HRX := Aside0.mk (Kd.C_below (Kd.R_reads' HV1.out).2.2 hb2)
  have HCX := Aside0.mk (Kd.R_reads' HV1.out).2.1
  have HRY := Aside0.mk (Kd.R_reads' hv2).2.2
  have HCY := Aside0.mk (Kd.R_reads' hv2).2.1
  have HB2 := Aside0.mk (below_then HB1.out HB1.out.size hb2)
  have HLX : Aside0 (x.length < 2147483648) := ⟨by have := HX.out.1; omega⟩
  have HLY : Aside0 (y.length < 2147483648) := ⟨by have := HY.out.1; omega⟩
  clear hv2 hb2 HYC HV1 HB1
  go_wp2_with fail
  refine (diff_c x y Ax Ay cx cy w2 HRX.out HCX.out HRY.out HCY.out HLX.out HLY.out HX.out.2.1 HY.out.2.1 (HT.out.below HB2.out)).mono ?_
  rintro e w3 ⟨v3, rfl, hv3, hb3⟩
  obtain ⟨L, ee, hL⟩ : ∃ L ee, diffT x y = (L, ee) := ⟨_, _, rfl⟩
  rw [hL] at hv3 ⊢
  dsimp only at hv3 ⊢
  obtain ⟨Al, cl, e3⟩ := Kd.R_slice hv3
  subst e3
  have HL := Aside0.mk hL
  have HV3 := Aside0.mk hv3
  have HB3 := Aside0.mk (below_then HB2.out HB2.out.size hb3)
  have HRX3 := Aside0.mk (Kd.C_below HRX.out hb3)
  have HRY3 := Aside0.mk (Kd.C_below HRY.out hb3)
  clear hL hv3 hb3 HRX HRY HB2
  go_wp2_with fail
  refine (diff_c x x Ax Ax cx cx w3 HRX3.out HCX.out HRX3.out HCX.out HLX.out HLX.out HX.out.2.1 HX.out.2.1 (HT.out.below HB3.out)).mono ?_
  rintro e w4 ⟨v4, rfl, hv4, hb4⟩
  obtain ⟨M, ff, hM⟩ : ∃ M ff, diffT x x = (M, ff) := ⟨_, _, rfl⟩
  rw [hM] at hv4 ⊢
  dsimp only at hv4 ⊢
  have HM0 : Aside0 (M = []) := ⟨by
    have h := diff_err (a := x) (b := x)
    rcases h with h | h
    · have := diff_self (diff_ok.1 h).1
      rw [hM] at this
      exact this
    · rw [hM] at h
      exact congrArg Prod.fst h⟩
  rw [HM0.out] at hv4
  obtain ⟨Am, cm, e4⟩ := Kd.R_slice hv4
  subst e4
  have HV4 := Aside0.mk (Kd.R_below HV3.out hb4)
  have HB4 := Aside0.mk (below_then HB3.out HB3.out.size hb4)
  have HRX4 := Aside0.mk (Kd.C_below HRX3.out hb4)
  have HRY4 := Aside0.mk (Kd.C_below HRY3.out hb4)
  clear hv4 hb4 hM HRX3 HRY3 HB3 HV3 HM0
  have hl0 : (([] : List S33).length : Nat) = 0 := rfl
  simp only [hl0]
  obtain ⟨q, hq⟩ : ∃ q, (ff == 0) = q := ⟨_, rfl⟩
  obtain ⟨u, hu⟩ : ∃ u, (ee != 0) = u := ⟨_, rfl⟩
  have HU := Aside0.mk hu
  cases q <;> cases u
  ·
    have HF := Aside0.mk (diff_ok.1 (show (diffT x y).2 = 0 by rw [HL.out]; simpa using HU.out))
    have HE : Aside0 (∀ e ∈ L, (staysT x y (pb e.f1) = true ↔ e.f0 = 6)) := ⟨by
      have := diff_kind (a := x) (b := y)
      rw [HL.out] at this
      exact this⟩
    have HLL : Aside0 (L.length < 2147483648) := ⟨by
      have h1 := HL.out
      unfold diffT at h1
      rw [if_pos HF.out] at h1
      have h2 := congrArg (fun p => p.1.length) h1
      simp only [List.length_append] at h2
      have h3 := gone_len x y x.reverse
      have h4 := come_len x y y
      have h5 := HX.out.1
      have h6 := HY.out.1
      rw [List.length_reverse] at h3
      omega⟩
    go_wp2_with fail
    go_loopw [11] (fun i wr => ∃ (k : Nat), k ≤ L.length ∧ i = .int .i64 k ∧ Aside0 (Below w4.heap.size w4 wr)) (fun i _ => L.length - (intOf i).toNat)
    case atStart => exact ⟨0, by omega, rfl, ⟨Below.refl _ _⟩⟩
    case round =>
      obtain ⟨k, hk, rfl, HB⟩ := hrel
      have HRX5 := Aside0.mk (Kd.C_below HRX4.out HB.out)
      have HRY5 := Aside0.mk (Kd.C_below HRY4.out HB.out)
      by_cases hkl : k < L.length
      · have HK := Aside0.mk hkl
        obtain ⟨ad, ea, x0, x1, x2, x3⟩ := at_T33 (Kd.C_below (Kd.R_reads' HV4.out).2.2 HB.out) (k : Int) (by omega) (by omega)
        cases ea
        simp only [Int.toNat_natCast] at x0 x1 x2 x3
        have p1 : (0 ≤ (k : Int)) = True := eq_true (by omega)
        have q1 : ((k : Int) < (L.length : Int)) = True := eq_true (by omega)
        have q2 : (k < L.length) = True := eq_true hkl
        obtain ⟨r, hr⟩ : ∃ r, staysT x y (pb (rd_T33 L (k : Int)).f1) = r := ⟨_, rfl⟩
        obtain ⟨K, hK⟩ := evs_get (stays_ev x y (rd_T33 L (k : Int)).f1 HLX.out HLY.out HF.out.1.ir HF.out.2.ir)
        rw [hr] at hK
        have HKE := Aside0.mk hK
        have hm := HE.out (rd_T33 L (k : Int)) (rd33_mem hkl)
        rw [hr] at hm
        clear hkl hk hK hr
        cases r with
        | true =>
          have z6 : ((rd_T33 L (k : Int)).f0 == 6) = true := beq_iff_eq.2 (hm.1 rfl)
          clear hm
          go_wp2_with fail
          go_big_quiet (first | (go_at_call 17; refine (grapnelref19_Stays.calls K Ax cx x Ay cy y (rd_T33 L (k : Int)).f1 true _ (Kd.C_drewN HRX5.out _) HCX.out (Kd.C_drewN HRY5.out _) HCY.out HKE.out).mono ?_; rintro e w' ⟨rfl, ⟨nd, rfl⟩⟩; first | exact ⟨rfl, _, World.drewN_drewN _ _ _⟩ | exact ⟨rfl, _, Eq.trans (World.drewN_drewN _ _ _) (congrArg (World.drewN _) (Nat.add_assoc _ _ _))⟩))
          have HBq := Aside0.mk (below_then HB.out HB.out.size (pw_below_drewN (Below.refl wr.heap.size wr) nq))
          clear x0 x1 x2 x3
          go_wp2_with fail
          go_roundw
          case rel =>
            have h1 := HK.out
            have h2 := HLL.out
            exact ⟨k + 1, by omega, by rw [w64 (by omega) (by omega)]; rfl, HBq⟩
          case measure =>
            have := HK.out
            have := HLL.out
            rw [w64 (by omega) (by omega)]
            first
              | (simp [intOf]; done)
              | (simp [intOf]; omega)
        | false =>
          have z6 : ((rd_T33 L (k : Int)).f0 == 6) = false := beq_eq_false_iff_ne.2 (fun q => by have := hm.2 q; cases this)
          clear hm
          go_wp2_with fail
          go_big_quiet (first | (go_at_call 17; refine (grapnelref19_Stays.calls K Ax cx x Ay cy y (rd_T33 L (k : Int)).f1 false _ (Kd.C_drewN HRX5.out _) HCX.out (Kd.C_drewN HRY5.out _) HCY.out HKE.out).mono ?_; rintro e w' ⟨rfl, ⟨nd, rfl⟩⟩; first | exact ⟨rfl, _, World.drewN_drewN _ _ _⟩ | exact ⟨rfl, _, Eq.trans (World.drewN_drewN _ _ _) (congrArg (World.drewN _) (Nat.add_assoc _ _ _))⟩))
          have HBq := Aside0.mk (below_then HB.out HB.out.size (pw_below_drewN (Below.refl wr.heap.size wr) nq))
          clear x0 x1 x2 x3
          go_wp2_with fail
          go_roundw
          case rel =>
            have h1 := HK.out
            have h2 := HLL.out
            exact ⟨k + 1, by omega, by rw [w64 (by omega) (by omega)]; rfl, HBq⟩
          case measure =>
            have := HK.out
            have := HLL.out
            rw [w64 (by omega) (by omega)]
            first
              | (simp [intOf]; done)
              | (simp [intOf]; omega)
      · have hke : k = L.length := by omega
        subst hke
        have q1 : ((L.length : Int) < (L.length : Int)) = False := eq_false (by omega)
        have q2 : (L.length < L.length) = False := eq_false (by omega)
        clear hkl hk
        go_wp2_with fail
        refine (awake_c wr (HT.out.below (below_then HB4.out HB4.out.size HB.out))).mono ?_
        rintro e w5 ⟨rfl, hb5⟩
        have HB5 := Aside0.mk (below_then (below_then HB4.out HB4.out.size HB.out) (below_then HB4.out HB4.out.size HB.out).size hb5)
        clear hb5
        go_wp2_with fail
        go_ret
        exact ⟨rfl, HB5.out⟩
  ·
    go_wp2_with fail
    refine (awake_c w4 (HT.out.below HB4.out)).mono ?_
    rintro e w5 ⟨rfl, hb5⟩
    have HB5 := Aside0.mk (below_then HB4.out HB4.out.size hb5)
    clear hb5
    go_wp2_with fail
    go_ret
    exact ⟨rfl, HB5.out⟩
  ·
    have HF := Aside0.mk (diff_ok.1 (show (diffT x y).2 = 0 by rw [HL.out]; simpa using HU.out))
    have HE : Aside0 (∀ e ∈ L, (staysT x y (pb e.f1) = true ↔ e.f0 = 6)) := ⟨by
      have := diff_kind (a := x) (b := y)
      rw [HL.out] at this
      exact this⟩
    have HLL : Aside0 (L.length < 2147483648) := ⟨by
      have h1 := HL.out
      unfold diffT at h1
      rw [if_pos HF.out] at h1
      have h2 := congrArg (fun p => p.1.length) h1
      simp only [List.length_append] at h2
      have h3 := gone_len x y x.reverse
      have h4 := come_len x y y
      have h5 := HX.out.1
      have h6 := HY.out.1
      rw [List.length_reverse] at h3
      omega⟩
    go_wp2_with fail
    go_loopw [11] (fun i wr => ∃ (k : Nat), k ≤ L.length ∧ i = .int .i64 k ∧ Aside0 (Below w4.heap.size w4 wr)) (fun i _ => L.length - (intOf i).toNat)
    case atStart => exact ⟨0, by omega, rfl, ⟨Below.refl _ _⟩⟩
    case round =>
      obtain ⟨k, hk, rfl, HB⟩ := hrel
      have HRX5 := Aside0.mk (Kd.C_below HRX4.out HB.out)
      have HRY5 := Aside0.mk (Kd.C_below HRY4.out HB.out)
      by_cases hkl : k < L.length
      · have HK := Aside0.mk hkl
        obtain ⟨ad, ea, x0, x1, x2, x3⟩ := at_T33 (Kd.C_below (Kd.R_reads' HV4.out).2.2 HB.out) (k : Int) (by omega) (by omega)
        cases ea
        simp only [Int.toNat_natCast] at x0 x1 x2 x3
        have p1 : (0 ≤ (k : Int)) = True := eq_true (by omega)
        have q1 : ((k : Int) < (L.length : Int)) = True := eq_true (by omega)
        have q2 : (k < L.length) = True := eq_true hkl
        obtain ⟨r, hr⟩ : ∃ r, staysT x y (pb (rd_T33 L (k : Int)).f1) = r := ⟨_, rfl⟩
        obtain ⟨K, hK⟩ := evs_get (stays_ev x y (rd_T33 L (k : Int)).f1 HLX.out HLY.out HF.out.1.ir HF.out.2.ir)
        rw [hr] at hK
        have HKE := Aside0.mk hK
        have hm := HE.out (rd_T33 L (k : Int)) (rd33_mem hkl)
        rw [hr] at hm
        clear hkl hk hK hr
        cases r with
        | true =>
          have z6 : ((rd_T33 L (k : Int)).f0 == 6) = true := beq_iff_eq.2 (hm.1 rfl)
          clear hm
          go_wp2_with fail
          go_big_quiet (first | (go_at_call 17; refine (grapnelref19_Stays.calls K Ax cx x Ay cy y (rd_T33 L (k : Int)).f1 true _ (Kd.C_drewN HRX5.out _) HCX.out (Kd.C_drewN HRY5.out _) HCY.out HKE.out).mono ?_; rintro e w' ⟨rfl, ⟨nd, rfl⟩⟩; first | exact ⟨rfl, _, World.drewN_drewN _ _ _⟩ | exact ⟨rfl, _, Eq.trans (World.drewN_drewN _ _ _) (congrArg (World.drewN _) (Nat.add_assoc _ _ _))⟩))
          have HBq := Aside0.mk (below_then HB.out HB.out.size (pw_below_drewN (Below.refl wr.heap.size wr) nq))
          clear x0 x1 x2 x3
          go_wp2_with fail
          go_roundw
          case rel =>
            have h1 := HK.out
            have h2 := HLL.out
            exact ⟨k + 1, by omega, by rw [w64 (by omega) (by omega)]; rfl, HBq⟩
          case measure =>
            have := HK.out
            have := HLL.out
            rw [w64 (by omega) (by omega)]
            first
              | (simp [intOf]; done)
              | (simp [intOf]; omega)
        | false =>
          have z6 : ((rd_T33 L (k : Int)).f0 == 6) = false := beq_eq_false_iff_ne.2 (fun q => by have := hm.2 q; cases this)
          clear hm
          go_wp2_with fail
          go_big_quiet (first | (go_at_call 17; refine (grapnelref19_Stays.calls K Ax cx x Ay cy y (rd_T33 L (k : Int)).f1 false _ (Kd.C_drewN HRX5.out _) HCX.out (Kd.C_drewN HRY5.out _) HCY.out HKE.out).mono ?_; rintro e w' ⟨rfl, ⟨nd, rfl⟩⟩; first | exact ⟨rfl, _, World.drewN_drewN _ _ _⟩ | exact ⟨rfl, _, Eq.trans (World.drewN_drewN _ _ _) (congrArg (World.drewN _) (Nat.add_assoc _ _ _))⟩))
          have HBq := Aside0.mk (below_then HB.out HB.out.size (pw_below_drewN (Below.refl wr.heap.size wr) nq))
          clear x0 x1 x2 x3
          go_wp2_with fail
          go_roundw
          case rel =>
            have h1 := HK.out
            have h2 := HLL.out
            exact ⟨k + 1, by omega, by rw [w64 (by omega) (by omega)]; rfl, HBq⟩
          case measure =>
            have := HK.out
            have := HLL.out
            rw [w64 (by omega) (by omega)]
            first
              | (simp [intOf]; done)
              | (simp [intOf]; omega)
      · have hke : k = L.length := by omega
        subst hke
        have q1 : ((L.length : Int) < (L.length : Int)) = False := eq_false (by omega)
        have q2 : (L.length < L.length) = False := eq_false (by omega)
        clear hkl hk
        go_wp2_with fail
        refine (awake_c wr (HT.out.below (below_then HB4.out HB4.out.size HB.out))).mono ?_
        rintro e w5 ⟨rfl, hb5⟩
        have HB5 := Aside0.mk (below_then (below_then HB4.out HB4.out.size HB.out) (below_then HB4.out HB4.out.size HB.out).size hb5)
        clear hb5
        go_wp2_with fail
        go_ret
        exact ⟨rfl, HB5.out⟩
  ·
    go_wp2_with fail
    refine (awake_c w4 (HT.out.below HB4.out)).mono ?_
    rintro e w5 ⟨rfl, hb5⟩
    have HB5 := Aside0.mk (below_then HB4.out HB4.out.size hb5)
    clear hb5
    go_wp2_with fail
    go_ret
    exact ⟨rfl, HB5.out⟩
end Go.Proofs.YtoggfapafjgkdaaDoor.T
namespace Go.Proofs.YtoggfapafjgkdaaDoor.deltaSame
open Go.ChangeShapes Go.WideShapes Go.ChangeAt Go.RowKit Go.Proofs.YtoggfapafjgkdaaDoorW.PrintWords Go.Proofs.YtoggfapafjgkdaaDoor.T
open Go.ChangeMaps (open_string shut_string)
set_option linter.unusedVariables false
theorem own : ownKnob Tryd.prog.godebug = none := by kernel_rfl
theorem laidOut : laidOutB Tryd.prog = true := by kernel_rfl
set_option maxRecDepth 100000 in
theorem lifted (os : Os) (started : os.Started) (H : Type) (enc : TypeId × Value → H) :
    ReturnsInHanded {} Tryd.checked os 4 .any (fun w args => (Rows.deltaSameSpec.pre enc Tryd.prog Tryd.f4 [] false w args ∧ laidMetH Tryd.prog Rows.deltaSameRow.laid w) ∧ sizedMet enc Tryd.prog Tryd.f4 (OpenSpec.ofChange Rows.deltaSameSpec) false w args)
      (Rows.deltaSameSpec.post enc Tryd.prog Tryd.f4 false true false false) := by
  refine returns_laid_shaped (C := Tryd.checked) (X := fun w _ => laidMetH Tryd.prog Rows.deltaSameRow.laid w) own started (by kernel_rfl) Tryd.func4
    (ChangeSpec.witness_shaped (enc := enc) (C := Tryd.checked) (os := os) (X := fun w _ => laidMetH Tryd.prog Rows.deltaSameRow.laid w) false (World.laidAll Tryd.prog os Rows.deltaSameRow.laid) #[.slice none 0 0, .slice none 0 0] 8 (World.laidAll_os _ _ _)
      (World.shaped_of_ZipB (by kernel_rfl) (by kernel_rfl)) (by kernel_rfl) (by kernel_rfl) (by kernel_rfl)
      (by rw [MakeChecks.laidMetH_plain _ _ _ (by kernel_rfl)]; exact laidMet_laidAll _ (by kernel_rfl) (by kernel_rfl))) ?_
  intro W base args ds gs before hval0 hW hsh
  have hval : ∀ (j : Nat) t v, Tryd.f4.params[j]? = some t → args[j]? = some v → Value.okWide Tryd.prog W .any base t v := hval0
  have hW' := hW
  obtain ⟨p, q, hA0, hV, rfl, hfz, hnd⟩ := hW
  have hA : DataW.TrodAll enc Tryd.prog W 0 (fun _ => true) true Tryd.f4.params.toList args.toList ds p := hA0
  rw [Tryd.params4] at hA hval
  obtain ⟨v0, vs0, d0, ds0, p0, q0, hargs, rfl, rfl, h0, r0⟩ := trodAll_cons hA
  obtain ⟨v1, vs1, d1, ds1, p1, q1, rfl, rfl, rfl, h1, r1⟩ := trodAll_cons r0
  obtain ⟨rfl, rfl, rfl⟩ := trodAll_nil r1
  obtain rfl : args = #[v0, v1] := by cases args; simp_all
  obtain ⟨rfl, rfl⟩ := trodVars_none hV
  obtain ⟨a0, len0, cap0, rfl⟩ := okWide_slice Tryd.underlying22 (hval 0 22 v0 rfl rfl)
  have k0 := h0
  have lt0 : ∀ x ∈ p0, x.block < W.heap.size := by obtain ⟨m, hm⟩ := k0; exact DataW.trod_lt m _ _ _ hm
  obtain ⟨fuel0, hf0⟩ := h0
  obtain ⟨l0, rfl, hc0, hr0, hw0⟩ := nodes_in hf0
  obtain ⟨a1, len1, cap1, rfl⟩ := okWide_slice Tryd.underlying22 (hval 1 22 v1 rfl rfl)
  have k1 := h1
  have lt1 : ∀ x ∈ p1, x.block < W.heap.size := by obtain ⟨m, hm⟩ := k1; exact DataW.trod_lt m _ _ _ hm
  obtain ⟨fuel1, hf1⟩ := h1
  obtain ⟨l1, rfl, hc1, hr1, hw1⟩ := nodes_in hf1
  clear hA0 hval0
  refine (same_law l0 l1 a0 a1 cap0 cap1 W hr0 hc0 hr1 hc1 hw0 hw1 (tab_of hsh)).mono fun e W' ⟨he, bel⟩ => ?_
  subst he
  exact ⟨_, rfl, _, _, _, [], _, [], hW', trodAll_mk1 (shut_bool Tryd.underlying4 _), (trodAll_cons_mk (Below.trod laidOut (by kernel_rfl) (of_decide_eq_true (by kernel_rfl)) k0 bel lt0) (trodAll_cons_mk (Below.trod laidOut (by kernel_rfl) (of_decide_eq_true (by kernel_rfl)) k1 bel lt1) trodAll_mk0)), rfl, bel.frame _, fun h => by cases h⟩
theorem over : Rows.deltaSameRow.holds Tryd.pinned (OpenSpec.ofChange Rows.deltaSameSpec) :=
  OpenClaim.holds_of_wide 4 Tryd.f4 rfl rfl rfl rfl rfl rfl rfl ⟨rfl, rfl, rfl, rfl, rfl⟩ rfl rfl rfl rfl rfl (by kernel_rfl) Tryd.func4 (by kernel_rfl)
    (of_decide_eq_true (by kernel_rfl)) (by unfold Func.isWrapper; first | (rw [if_pos (by decide +kernel)]; kernel_rfl) | (rw [if_neg (by decide +kernel)]; exact ⟨rfl, rfl⟩))
    (fun os started H enc _ => lifted os started H enc)
theorem card : Rows.DeltaSameCardSaid :=
  Claim7.holds_tied_plain_at .later [] [.data, .pinned] true (true, "6a3a4cfdd22b17481ef95879a166bb4b0a106aab83f39b5755c037f4ac8ff715") true
    over (fun _ h => by cases h) (by kernel_rfl) (fun _ h => by cases h) deltaSame_row_tie rfl ⟨rfl, rfl⟩ (by kernel_rfl) rfl
    (fun f fn hf hfn => by
      obtain rfl : f = 4 := Option.some.inj ((show Tryd.prog.funcNamed "grapnel/grapnellaw19.DeltaSame" = some 4 by kernel_rfl).symm.trans hf) |>.symm
      obtain rfl : fn = Tryd.f4 := (Option.some.inj (Tryd.func4.symm.trans hfn)).symm
      exact ⟨by kernel_rfl, fun j t ht => by
        rw [Tryd.params4] at ht
        have hm : t ∈ [22, 22] := by simpa using Array.mem_of_getElem? ht
        have hall : ([22, 22].all fun u => !Tryd.prog.wantsStandIn u) = true := by kernel_rfl
        exact (show Tryd.prog.wantsStandIn t = false by simpa using List.all_eq_true.1 hall t hm)⟩)
    (by kernel_rfl)
end Go.Proofs.YtoggfapafjgkdaaDoor.deltaSame
namespace Go.Proofs.YtoggfapafjgkdaaDoor
theorem deltaSame_card_holds : Rows.DeltaSameCardSaid := deltaSame.card
#print axioms deltaSame_card_holds
end Go.Proofs.YtoggfapafjgkdaaDoor
