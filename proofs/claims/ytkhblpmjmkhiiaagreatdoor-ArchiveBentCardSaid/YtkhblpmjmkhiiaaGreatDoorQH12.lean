/- The document's sum: the walk. -/
import Derived.Test.YtkhblpmjmkhiiaaGreatDoorQH11
namespace Go.Proofs.YtkhblpmjmkhiiaaGreatDoor.T
open Go.RowKit Go.Proofs.YtkhblpmjmkhiiaaGreatDoorW.PrintWords Go.Proofs.YtkhblpmjmkhiiaaGreatDoorW.PrintLast Go.Proofs.YtkhblpmjmkhiiaaGreatDoorW.PrintMore Go.Proofs.YtkhblpmjmkhiiaaGreatDoor.PAll
set_option linter.unusedSimpArgs false
set_option linter.unusedVariables false
theorem stN_succ (l : List UInt8) (n : Nat) : stN l (n + 1) = cmp (stN l n) ((l.drop (64 * n)).take 64) := by rw [stN]
theorem cmp_is (h : List Nat) (b : List UInt8) : cmp h b = addW h (rnds h (sched b 48) 64) := by rw [cmp]
theorem st_next {l bd : List UInt8} {st ws S : List Nat} {at_ m : Nat} (hst : st = stN l m) (hl : st.length = 8) (hbd : bd = (l.drop at_).take 64) (hat : at_ = 64 * m) (hws : ws = sched bd 48) (hS : S = rnds st ws 64) :
  hmix st S 8 = stN l (m + 1) := by
 rw [hmix_full hl, stN_succ, cmp_is, ← hst, ← hat, ← hbd, ← hws, ← hS]
theorem drew_twice {w wn : World} {a b : Nat} (h : Below ((w.drewN a).drewN b).heap.size ((w.drewN a).drewN b) wn) : Below w.heap.size w wn := (pw_below_drewN (Below.refl w.heap.size w) a).trans ((pw_below_drewN (Below.refl (w.drewN a).heap.size (w.drewN a)) b).trans h)
set_option maxHeartbeats 8000000 in
set_option maxRecDepth 100000 in
theorem rsum_c (s : ByteArray) (w : World) (hs : s.size < 4294967296) :
  Calls Tryz.prog 28 #[.string s] w fun e w' => e = .returned (.string ⟨(sha (pb s)).toArray⟩) ∧ Below w.heap.size w w' := by
 have HS := Aside0.mk hs
 clear hs
 go_enter Tryz.func28, Tryz.ntmps28
 go_wp2_with fail
 obtain ⟨gh, hgh⟩ : ∃ gh, gh = w.heap.size := ⟨_, rfl⟩
 obtain ⟨W1, hW1⟩ : ∃ W1, W1 = w.alloc (.cells #[.int .i64 1779033703, .int .i64 3144134277, .int .i64 1013904242, .int .i64 2773480762, .int .i64 1359893119, .int .i64 2600822924, .int .i64 528734635, .int .i64 1541459225] 3 (0, 0)) := ⟨_, rfl⟩
 have HH1 : Aside0 (IRow W1 gh H0) := ⟨by rw [hW1, hgh]; exact irow_lit (heap_alloc_new _ _) h0_row⟩
 have HB1 : Aside0 (Below w.heap.size w W1) := ⟨by rw [hW1]; exact below_alloc (Below.refl _ _) _⟩
 have HG : Aside0 (gh = w.heap.size ∧ gh < W1.heap.size) := ⟨hgh, HH1.out.lt⟩
 rw [← hgh]
 change Calls _ _ _ (w.alloc (.cells #[.int .i64 1779033703, .int .i64 3144134277, .int .i64 1013904242, .int .i64 2773480762, .int .i64 1359893119, .int .i64 2600822924, .int .i64 528734635, .int .i64 1541459225] 3 (0, 0))) _
 rw [← hW1]
 clear hgh hW1
 refine (filled_c s W1 HS.out).mono ?_
 rintro e w2 ⟨v2, rfl, hf2, hb2⟩
 obtain ⟨L, hL⟩ : ∃ L, L = (pad (pb s)).length := ⟨_, rfl⟩
 have HLB := Aside0.mk (And.intro (hL.trans (nB_len s)) (nB_le s))
 obtain ⟨A2, c2, e2, hc2, _⟩ := hf2.reads (by rw [← hL]; have := HLB.out; have := HS.out; omega)
 rw [← hL] at e2 hc2
 subst e2
 have HF2 : Aside0 (FRow w2 (gh + 1) (.slice A2 L c2) (pad (pb s))) := ⟨by
  obtain ⟨g, cap, cur, fr, h1, h2, h3⟩ := hf2
  exact ⟨g, cap, cur, fr, h1, by have := HG.out.2; omega, h3⟩⟩
 have HC2 := Aside0.mk hc2
 have HB2 := Aside0.mk (below_then HB1.out HB1.out.size hb2)
 have HH2 := Aside0.mk (HH1.out.below hb2)
 have HG2 : Aside0 (gh < w2.heap.size) := ⟨HH2.out.lt⟩
 clear hf2 hb2 hc2 hL HH1 HB1
 go_wp2_with fail
 refine (r2_keys.calls (KS.map Int.ofNat) w2 keys_ev).mono ?_
 rintro e w3 ⟨v3, rfl, hv3, hb3⟩
 obtain ⟨gk, ck, e3, hck, hgk, hik⟩ := IRow.of_R hv3 Z11
 have hks : KS.length = 64 := rfl
 rw [hks] at e3 hck
 subst e3
 have HK3 := Aside0.mk hik
 have HCK := Aside0.mk hck
 have HGK : Aside0 (gh < gk) := ⟨by have := HG2.out; omega⟩
 have HF3 := Aside0.mk (HF2.out.below hb3)
 have HB3 := Aside0.mk (below_then HB2.out HB2.out.size hb3)
 have HH3 := Aside0.mk (HH2.out.below hb3)
 clear hv3 hb3 hck hgk hik hks HF2 HB2 HH2 HG2
 go_wp2_with fail
 go_loopw [6] (fun u6 wr => ∃ m : Nat, m ≤ nB s ∧ u6 = .int .i64 ((64 * m : Nat) : Int) ∧ Aside0 (IRow wr gh (stN (pad (pb s)) m)) ∧ Aside0 (IRow wr gk KS) ∧ Aside0 (FRow wr (gh + 1) (.slice A2 L c2) (pad (pb s))) ∧ Aside0 (Below w.heap.size w wr)) (fun u6 _ => L - (intOf u6).toNat)
 case atStart => exact ⟨0, Z3, rfl, HH3, HK3, HF3, HB3⟩
 case round =>
  clear HH3 HK3 HF3 HB3
  obtain ⟨m, hm, rfl, HH, HK, HF, HB⟩ := hrel
  by_cases hlt : m < nB s
  ·
   obtain ⟨at_, hat⟩ : ∃ at_, at_ = 64 * m := ⟨_, rfl⟩
   rw [← hat]
   have z0 : ((at_ : Int) < (L : Int)) = True := eq_true (by have := HLB.out.1; omega)
   have z1 : decide ((at_ : Int) < (L : Int)) = true := decide_eq_true (by have := HLB.out.1; omega)
   have z2 : (at_ < L) = True := eq_true (by have := HLB.out.1; omega)
   have z3 : decide (at_ < L) = true := decide_eq_true (by have := HLB.out.1; omega)
   obtain ⟨en, hen⟩ : ∃ en, en = at_ + 64 := ⟨_, rfl⟩
   have w1 : wrap64 ((at_ : Int) + 64) = (en : Int) := by have := HLB.out; have := HS.out; rw [w64 Z3 Z3]; omega
   obtain ⟨i0, hi, hz0, hz1, hz2⟩ := info_parts infoByte
   have hL1 : at_ + 64 ≤ L := by have := HLB.out.1; omega
   have hcm := cut_mid (P := Tryz.prog) 31 5 .i64 .i64 Tryz.underlying31 hi 1 hz1 A2 L c2 (at_ : Int) (en : Int) Z3 Z3 Z3 HC2.out
   obtain ⟨bd, hbd⟩ : ∃ bd, bd = ((pad (pb s)).drop at_).take 64 := ⟨_, rfl⟩
   have hlb : bd.length = 64 := by rw [hbd, List.length_take, List.length_drop, nB_len]; omega
   rw [Int.toNat_natCast, Int.toNat_natCast, show en - at_ = 64 by omega] at hcm
   obtain ⟨AD, hAD⟩ : ∃ AD, (if c2 = at_ then A2 else A2.map (·.add (at_ * 1))) = AD := ⟨_, rfl⟩
   rw [hAD] at hcm
   obtain ⟨Kw, hKw⟩ := evs_get (words_ev bd hlb)
   have hC : Kd.C (Kd.int .u8) wr AD (bd.map ub).length (bd.map ub) := by
    obtain ⟨A, c, e, _, hr⟩ := HF.out.reads (by rw [nB_len]; have := HLB.out; have := HS.out; omega)
    injection e with e1 e2 e3
    subst e1
    have hc0 := Kd.C_of_reads (enc := Value.int .u8) (d := (0 : Int)) (h1 := fun _ => rfl) hr
    have hll : ((pad (pb s)).map ub).length = (pad (pb s)).length := List.length_map _
    rw [← hll] at hc0
    have h1 : Kd.C (Kd.int .u8) wr (if c2 = at_ then A2 else A2.map (·.add (at_ * 1))) ((((pad (pb s)).map ub).take (at_ + 64)).drop at_).length ((((pad (pb s)).map ub).take (at_ + 64)).drop at_) := Kd.C_mid (lo := at_) (hi := at_ + 64) (c := c2) hc0 Z3 (by rw [hll, nB_len]; omega) (by rw [hll, nB_len]; have := HC2.out; have := HLB.out.1; omega)
    rw [hAD, List.drop_take, Nat.add_sub_cancel_left, ← List.map_drop, ← List.map_take, ← hbd] at h1
    exact h1
   have hwc := r2_words.calls Kw AD (c2 - at_) (bd.map ub) _ wr hC (by rw [List.length_map, hlb]; have := HC2.out; omega) hKw
   rw [List.length_map, hlb] at hwc
   have HWC := Aside0.mk hwc
   have HBD := Aside0.mk (And.intro hbd (And.intro hat hen))
   have HLbd := Aside0.mk hlb
   have HMN := Aside0.mk hlt
   clear hKw hC hwc hi hz0 hz1 hz2 hbd hat hAD hlt hen hlb hL1
   go_wp2_with fail
   refine HWC.out.mono ?_
   rintro e w4 ⟨v4, rfl, hv4, hb4⟩
   obtain ⟨gw, cw, e4, hcw, hgw, hiw⟩ := IRow.of_R hv4 (by rw [sched_length]; decide)
   rw [sched_length] at e4 hcw
   subst e4
   have HH4 := Aside0.mk (HH.out.below hb4)
   have HK4 := Aside0.mk (HK.out.below hb4)
   have HF4 := Aside0.mk (HF.out.below hb4)
   have HW4 := Aside0.mk hiw
   have HCW := Aside0.mk hcw
   have HGW : Aside0 (gh < gw) := ⟨by have := HH.out.lt; omega⟩
   have HB4 := Aside0.mk (below_then HB.out HB.out.size hb4)
   have HHC : Aside0 (Kd.C (Kd.int .i64) w4 (some ⟨gh, 0, none⟩) 8 ((stN (pad (pb s)) m).map Int.ofNat)) := ⟨by have h := HH4.out.C (by rw [stN_length]; decide); rw [stN_length] at h; exact h⟩
   clear hv4 hb4 hiw hcw hgw HH HK HF HB
   go_wp2_with (first | ((with_reducible refine gate_dst (N := 31) rfl ?_); refine Kd.R_lit (Kd.int .i64) (w0 := w4) w4.heap.size 3 ?hg (N := 31) ?hd (xs := ([] : List Int)) (inner := []) (ok := fun _ => True) (okp := fun _ => True) ?hr ?hp (fun _ hk => hk) trivial (Below.refl _ _) (Nat.le_refl _) Z23 ?_; (case hd => rfl); (case hg => rfl); (case hr => first | (go_simp; done) | (go_simp; rfl)); (case hp => exact (Reps.none _ _)); intro v5 w5 ho5 hb5 hg_ hnew_; clear hg_ hnew_; have HO5 := Aside0.mk ho5; have HBo := Aside0.mk hb5; clear ho5 hb5) | ((with_reducible refine gate_builtin (b := .append) (xs := #[.tmp 31, .tmp 32]) rfl ?_); at_builtin; refine Kd.R_append_rows (Kd.int .i64) (w0 := w4) w4.heap.size rfl (.tmp 31) (.tmp 32) 80 3 (.int .i64 0) 8 rfl Tryz.underlying80 infoI64 rfl Z11 Z3 v5 ([] : List Int) ((stN (pad (pb s)) m).map Int.ofNat) (some ⟨gh, 0, none⟩) 8 8 (fun _ => True) (fun _ => False) rfl rfl ?aO ?aR (fun _ _ h => h) (fun _ h => h.elim) ?aF ?aB ?aS ?aL ?_; (case aR => exact (Kd.C_below HHC.out HBo.out)); (case aB => exact HBo.out); (case aF => exact (fun _ _ => trivial)); (case aO => exact HO5.out); (case aS => exact HBo.out.size); (case aL => simp); intro v6 w6 ho hb hg hat; have HB6 := Aside0.mk hb; have HO6 : Aside0 (Kd.R (Kd.int .i64) 3 w6 w4.heap.size (fun _ => True) v6 ((stN (pad (pb s)) m).map Int.ofNat)) := ⟨by simpa using ho⟩; clear HBo HO5 ho hb hg hat))
   obtain ⟨gx, cx, e6, hcx, hgx, hix⟩ := IRow.of_R HO6.out (by rw [stN_length]; decide)
   rw [stN_length] at e6 hcx
   subst e6
   have HH6 := Aside0.mk (HH4.out.below HB6.out)
   have HK6 := Aside0.mk (HK4.out.below HB6.out)
   have HF6 := Aside0.mk (HF4.out.below HB6.out)
   have HW6 := Aside0.mk (HW4.out.below HB6.out)
   have HX6 := Aside0.mk hix
   have HCX := Aside0.mk hcx
   have HGX6 : Aside0 (gh < gx) := ⟨by have := HH4.out.lt; omega⟩
   have HB7 := Aside0.mk (below_then HB4.out HB4.out.size HB6.out)
   clear HO6 hgx hix hcx HH4 HK4 HF4 HW4 HB4 HB6 HHC
   go_wp2_with fail
   obtain ⟨st, hst⟩ : ∃ st, st = stN (pad (pb s)) m := ⟨_, rfl⟩
   obtain ⟨ws, hws⟩ : ∃ ws, ws = sched bd 48 := ⟨_, rfl⟩
   have HST : Aside0 (st.length = 8 ∧ Lt32 st) := ⟨by rw [hst]; exact ⟨stN_length _ _, stN_lt _ _⟩⟩
   have HWS : Aside0 (ws.length = 64 ∧ Lt32 ws) := ⟨by rw [hws]; exact ⟨sched_length _ _, sched_lt _ _⟩⟩
   rw [← hst] at HH6 HX6
   rw [← hws] at HW6
   have HEQ := Aside0.mk (And.intro hst hws)
   clear hst hws
   go_loopw [8, 9] (fun u8 u9 wr => ∃ k gx cx : Nat, k ≤ 64 ∧ u9 = .int .i64 (k : Int) ∧ u8 = .slice (some ⟨gx, 0, none⟩) 8 cx ∧ Aside0 (8 ≤ cx) ∧ Aside0 (gh < gx) ∧ Aside0 (IRow wr gx (rnds st ws k)) ∧ Aside0 (IRow wr gh st) ∧ Aside0 (IRow wr gk KS) ∧ Aside0 (IRow wr gw ws) ∧ Aside0 (FRow wr (gh + 1) (.slice A2 L c2) (pad (pb s))) ∧ Aside0 (Below w.heap.size w wr)) (fun _ u9 _ => 64 - (intOf u9).toNat)
   case atStart => exact ⟨0, gx, cx, Z3, rfl, rfl, HCX, HGX6, HX6, HH6, HK6, HW6, HF6, HB7⟩
   case round =>
    clear HCX HGX6 HX6 HH6 HK6 HW6 HF6 HB7
    obtain ⟨k, gx, cx, hk, rfl, rfl, HCX, HGX, HX, HH, HK, HW, HF, HB⟩ := hrel
    rename_i wr
    by_cases hlt : k < 64
    ·
     obtain ⟨S, hS⟩ : ∃ S, S = rnds st ws k := ⟨_, rfl⟩
     have HSS : Aside0 (S.length = 8 ∧ Lt32 S) := ⟨by rw [hS]; exact ⟨rnds_length HST.out.1 _ _, rnds_lt HST.out.2 _ _⟩⟩
     rw [← hS] at HX
     have HSE := Aside0.mk hS
     have HLT := Aside0.mk hlt
     have w8 : wrap64 ((k : Int) + 1) = ((k + 1 : Nat) : Int) := by rw [w64 Z3 Z3]; rfl
     have p0 : ((k : Int) < 64) = True := eq_true Z3
     have p1 : decide ((k : Int) < 64) = true := decide_eq_true Z3
     have p2 : (k < 64) = True := eq_true hlt
     have p3 : decide (k < 64) = true := decide_eq_true hlt
     obtain ⟨s0, e0⟩ : ∃ x, x = nt S 0 := ⟨_, rfl⟩
     obtain ⟨s1, e1⟩ : ∃ x, x = nt S 1 := ⟨_, rfl⟩
     obtain ⟨s2, e2⟩ : ∃ x, x = nt S 2 := ⟨_, rfl⟩
     obtain ⟨s3, e3⟩ : ∃ x, x = nt S 3 := ⟨_, rfl⟩
     obtain ⟨s4, e4⟩ : ∃ x, x = nt S 4 := ⟨_, rfl⟩
     obtain ⟨s5, e5⟩ : ∃ x, x = nt S 5 := ⟨_, rfl⟩
     obtain ⟨s6, e6⟩ : ∃ x, x = nt S 6 := ⟨_, rfl⟩
     obtain ⟨s7, e7⟩ : ∃ x, x = nt S 7 := ⟨_, rfl⟩
     obtain ⟨kk, ek⟩ : ∃ x, x = nt KS k := ⟨_, rfl⟩
     obtain ⟨ww, ew⟩ : ∃ x, x = nt ws k := ⟨_, rfl⟩
     have HCL : Aside0 (CL gx gk gw k s0 s1 s2 s3 s4 s5 s6 s7 kk ww wr) := ⟨by
      rw [e0, e1, e2, e3, e4, e5, e6, e7, ek, ew]
      exact ⟨HX.out.cell (by rw [HSS.out.1]; decide), HX.out.cell (by rw [HSS.out.1]; decide), HX.out.cell (by rw [HSS.out.1]; decide), HX.out.cell (by rw [HSS.out.1]; decide), HX.out.cell (by rw [HSS.out.1]; decide), HX.out.cell (by rw [HSS.out.1]; decide), HX.out.cell (by rw [HSS.out.1]; decide), HX.out.cell (by rw [HSS.out.1]; decide), HK.out.cell (by show k < 64; exact hlt), HW.out.cell (by rw [HWS.out.1]; exact hlt)⟩⟩
     have l : ∀ j, nt S j < 4294967296 := nt_lt HSS.out.2
     have l0 : s0 < 4294967296 := by rw [e0]; exact l 0
     have l1 : s1 < 4294967296 := by rw [e1]; exact l 1
     have l2 : s2 < 4294967296 := by rw [e2]; exact l 2
     have l3 : s3 < 4294967296 := by rw [e3]; exact l 3
     have l4 : s4 < 4294967296 := by rw [e4]; exact l 4
     have l5 : s5 < 4294967296 := by rw [e5]; exact l 5
     have l6 : s6 < 4294967296 := by rw [e6]; exact l 6
     have l7 : s7 < 4294967296 := by rw [e7]; exact l 7
     have lk : kk < 4294967296 := by rw [ek]; exact nt_lt KS_lt k
     have lw : ww < 4294967296 := by rw [ew]; exact nt_lt HWS.out.2 k
     have HLs := Aside0.mk (And.intro l0 (And.intro l1 (And.intro l2 (And.intro l3 (And.intro l4 (And.intro l5 (And.intro l6 (And.intro l7 (And.intro lk lw)))))))))
     have HRN : Aside0 (∀ T U : Nat, T = s7 + bg1 s4 + chs s4 s5 s6 + kk + ww → U = bg0 s0 + maj s0 s1 s2 → rnd S (nt KS k) (nt ws k) = [(T + U) % 4294967296, s0, s1, s2, (s3 + T) % 4294967296, s4, s5, s6]) := ⟨by
      intro T U hT hU
      rw [← ek, ← ew, rnd_is S kk ww T U (by rw [← e4, ← e5, ← e6, ← e7]; exact hT) (by rw [← e0, ← e1, ← e2]; exact hU), ← e0, ← e1, ← e2, ← e3, ← e4, ← e5, ← e6]⟩
     clear hS hlt e0 e1 e2 e3 e4 e5 e6 e7 ek ew l l0 l1 l2 l3 l4 l5 l6 l7 lk lw
     go_wp2_with fail
     refine r12_wp _ _ _ _ _ _ _ _ _ _ _ _ _ _ _ _ _ _ _ _ _ _ _ _ _ _ _ _ _ _ _ _ _ _ _ _ _ _ _ _ _ _ _ _ _ _ _ _ _ _ _ _ _ _ _ _ _ _ _ _ _ _ _ _ _ _ _ _ _ _ _ _ _ _ _ _ _ _ _ _ _ _ _ _ _ _ _ _ _ _ _ _ _ _ _ _ _ _ _ _ _ _ _ _ _ _ _ _ _ _ _ _ _ _ _ _ _ _ _ _ _ _ _ _ _ _ _ _ _ _ _ _ _ _ _ _ _ _ _ _ _ _ _ _ _ _ _ _ _ _ _ _ _ _ _ _ _ _ _ _ _ _ _ _ _ _ _ _ _ _ _ _ _ _ _ _ _ _ _ _ _ _ _ _ _ _ _ _ _ _ _ _ _ _ _ _ _ _ gx gk gw k cx ck cw s0 s1 s2 s3 s4 s5 s6 s7 kk ww _ ⟨fun _ _ N _ _ h => by cases N <;> exact h⟩ _ HCL HLs.out.1 HLs.out.2.1 HLs.out.2.2.1 HLs.out.2.2.2.1 HLs.out.2.2.2.2.1 HLs.out.2.2.2.2.2.1 HLs.out.2.2.2.2.2.2.1 HLs.out.2.2.2.2.2.2.2.1 HLs.out.2.2.2.2.2.2.2.2.1 HLs.out.2.2.2.2.2.2.2.2.2 HLT.out ?_
     intro T v38 v39 v40 v41 v42 v43 v44 v45 v46 v47 v48 v49 v50 v51 v52 v53 v54 v55 v56 v57 v58 v59 v60 v61 v62 v63 v64 v65 v66 v67 v68 v69 v70 v71 v72 v73 v74 v75 v76 v77 v78 v79 v80 v81 v82 n1 hT lT
     have HTT := Aside0.mk (And.intro hT lT)
     clear hT lT
     go_wp2_with fail
     refine r13_wp _ _ _ _ _ _ _ _ _ _ _ _ _ _ _ _ _ _ _ _ _ _ _ _ _ _ _ _ _ _ _ _ _ _ _ _ _ _ _ _ _ _ _ _ _ _ _ _ _ _ _ _ _ _ _ _ _ _ _ _ _ _ _ _ _ _ _ _ _ _ _ _ _ _ _ _ _ _ _ _ _ _ _ _ _ _ _ _ _ _ _ _ _ _ _ _ _ _ _ _ _ _ _ _ _ _ _ _ _ _ _ _ _ _ _ _ _ _ _ _ _ _ _ _ _ _ _ _ _ _ _ _ _ _ _ _ _ _ _ _ _ _ _ _ _ _ _ _ _ _ _ _ _ _ _ _ _ _ _ _ _ _ _ _ _ _ _ _ _ _ _ _ _ _ _ _ _ _ _ _ _ _ _ _ _ _ _ _ _ _ _ _ _ _ _ _ _ _ gx gk gw k cx ck cw s0 s1 s2 s3 s4 s5 s6 s7 kk ww _ ⟨fun _ _ N _ _ h => by cases N <;> exact h⟩ _ ⟨HCL.out⟩ HLs.out.1 HLs.out.2.1 HLs.out.2.2.1 HLs.out.2.2.2.1 HLs.out.2.2.2.2.1 HLs.out.2.2.2.2.2.1 HLs.out.2.2.2.2.2.2.1 HLs.out.2.2.2.2.2.2.2.1 HLs.out.2.2.2.2.2.2.2.2.1 HLs.out.2.2.2.2.2.2.2.2.2 HLT.out ?_
     intro U v83 v84 v85 v86 v87 v88 v89 v90 v91 v92 v93 v94 v95 v96 v97 v98 v99 v100 v101 v102 v103 v104 v105 v106 v107 v108 v109 v110 v111 v112 v113 v114 v115 v116 v117 v118 v119 v120 n2 hU lU
     have HUU := Aside0.mk (And.intro hU lU)
     clear hU lU
     go_wp2_with fail
     refine r14_wp _ _ _ _ _ _ _ _ _ _ _ _ _ _ _ _ _ _ _ _ _ _ _ _ _ _ _ _ _ _ _ _ _ _ _ _ _ _ _ _ _ _ _ _ _ _ _ _ _ _ _ _ _ _ _ _ _ _ _ _ _ _ _ _ _ _ _ _ _ _ _ _ _ _ _ _ _ _ _ _ _ _ _ _ _ _ _ _ _ _ _ _ _ _ _ _ _ _ _ _ _ _ _ _ _ _ _ _ _ _ _ _ _ _ _ _ _ _ _ _ _ _ _ _ _ _ _ _ _ _ _ _ _ _ _ _ _ _ _ _ _ _ _ _ _ _ _ _ _ _ _ _ _ _ _ _ _ _ _ _ _ _ _ _ _ _ _ _ _ _ _ _ _ _ _ _ _ _ _ _ _ _ _ _ _ _ _ _ _ _ _ _ _ _ _ _ gx gk gw k cx ck cw s0 s1 s2 s3 s4 s5 s6 s7 kk ww T U _ ⟨fun _ _ N _ _ h => by cases N <;> exact h⟩ _ ⟨HCL.out⟩ HLs.out.1 HLs.out.2.1 HLs.out.2.2.1 HLs.out.2.2.2.1 HLs.out.2.2.2.2.1 HLs.out.2.2.2.2.2.1 HLs.out.2.2.2.2.2.2.1 HLs.out.2.2.2.2.2.2.2.1 HLs.out.2.2.2.2.2.2.2.2.1 HLs.out.2.2.2.2.2.2.2.2.2 HLT.out HTT.out.2 HUU.out.2 ?_
     intro gn v121 v122 v123 v124 v125 v126 v127 v128 v129 v130 v131 v132 v133 v134 v135 v136 v137 v138 v139 v140 v141 v142 v143 v144 v145 v146 v147 v148 v149 wn hin hbn0 hgn
     have hbn : Below wr.heap.size wr wn := drew_twice hbn0
     have HGN : Aside0 (wr.heap.size ≤ gn) := ⟨hgn⟩
     have HXn : Aside0 (IRow wn gn (rnds st ws (k + 1))) := ⟨by rw [rnds_succ, ← HSE.out, HRN.out T U HTT.out.1 HUU.out.1]; exact hin⟩
     have HHn := Aside0.mk (HH.out.below hbn)
     have HKn := Aside0.mk (HK.out.below hbn)
     have HWn := Aside0.mk (HW.out.below hbn)
     have HFn := Aside0.mk (HF.out.below hbn)
     have HBo := Aside0.mk (below_then HB.out HB.out.size hbn)
     have HGX2 : Aside0 (gh < gn) := ⟨by have h1 := HH.out.lt; have h2 := HGN.out; omega⟩
     clear hin hbn hbn0 hgn HGN HCL HX HH HK HW HF HB HRN HSE HTT HUU HLs
     go_wp2_with fail
     go_roundw
     case rel => exact ⟨k + 1, gn, 8, by have := HLT.out; omega, by first | rfl | rw [w8], rfl, ⟨Nat.le_refl _⟩, HGX2, HXn, HHn, HKn, HWn, HFn, HBo⟩
     case measure => have := HLT.out; simp [intOf]; omega
    ·
     obtain rfl : k = 64 := by omega
     go_wp2_with fail
     obtain ⟨S, hS⟩ : ∃ S, S = rnds st ws 64 := ⟨_, rfl⟩
     have HSS : Aside0 (S.length = 8 ∧ Lt32 S) := ⟨by rw [hS]; exact ⟨rnds_length HST.out.1 _ _, rnds_lt HST.out.2 _ _⟩⟩
     rw [← hS] at HX
     have HSE := Aside0.mk hS
     have HH0 : Aside0 (IRow wr gh (hmix st S 0)) := ⟨by rw [hmix_zero]; exact HH.out⟩
     clear hS HH HW
     go_loopw [12] (fun u12 wr => ∃ j : Nat, j ≤ 8 ∧ u12 = .int .i64 (j : Int) ∧ Aside0 (IRow wr gh (hmix st S j)) ∧ Aside0 (IRow wr gx S) ∧ Aside0 (IRow wr gk KS) ∧ Aside0 (FRow wr (gh + 1) (.slice A2 L c2) (pad (pb s))) ∧ Aside0 (Below w.heap.size w wr)) (fun u12 _ => 8 - (intOf u12).toNat)
     case atStart => exact ⟨0, Z3, rfl, HH0, HX, HK, HF, HB⟩
     case round =>
      clear HH0 HX HK HF HB
      obtain ⟨j, hj, rfl, HH, HX, HK, HF, HB⟩ := hrel
      rename_i wr
      by_cases hlt : j < 8
      ·
       have p0 : ((j : Int) < 8) = True := eq_true Z3
       have p1 : decide ((j : Int) < 8) = true := decide_eq_true Z3
       have p2 : (j < 8) = True := eq_true hlt
       have p3 : decide (j < 8) = true := decide_eq_true hlt
       have w8 : wrap64 ((j : Int) + 1) = ((j + 1 : Nat) : Int) := by rw [w64 Z3 Z3]; rfl
       obtain ⟨hi, ei⟩ : ∃ x, x = nt st j := ⟨_, rfl⟩
       obtain ⟨xi, ex⟩ : ∃ x, x = nt S j := ⟨_, rfl⟩
       have li : hi < 4294967296 := by rw [ei]; exact nt_lt HST.out.2 j
       have lx : xi < 4294967296 := by rw [ex]; exact nt_lt HSS.out.2 j
       have hmi : nt (hmix st S j) j = hi := by rw [ei]; exact hmix_at HST.out.1 hlt
       have HCL : Aside0 (wr.cell? ⟨gh, j, none⟩ = some (.int .i64 (hi : Int)) ∧ wr.cell? ⟨gx, j, none⟩ = some (.int .i64 (xi : Int))) := ⟨by
        rw [← hmi, ex]
        exact ⟨HH.out.cell (by rw [hmix_len HST.out.1 hj]; exact hlt), HX.out.cell (by rw [HSS.out.1]; exact hlt)⟩⟩
       have HNV : Aside0 ((hi + xi) % 4294967296 = (nt st j + nt S j) % 4294967296) := ⟨by rw [ei, ex]⟩
       have HLL := Aside0.mk (And.intro li lx)
       have HLT := Aside0.mk hlt
       clear ei ex li lx hmi hlt
       go_wp2_with fail
       refine r18_wp _ _ _ _ _ _ _ _ _ _ _ _ _ _ _ _ _ _ _ _ _ _ _ _ _ _ _ _ _ _ _ _ _ _ _ _ _ _ _ _ _ _ _ _ _ _ _ _ _ _ _ _ _ _ _ _ _ _ _ _ _ _ _ _ _ _ _ _ _ _ _ _ _ _ _ _ _ _ _ _ _ _ _ _ _ _ _ _ _ _ _ _ _ _ _ _ _ _ _ _ _ _ _ _ _ _ _ _ _ _ _ _ _ _ _ _ _ _ _ _ _ _ _ _ _ _ _ _ _ _ _ _ _ _ _ _ _ _ _ _ _ _ _ _ _ _ _ _ _ _ _ _ _ _ _ _ _ _ _ _ _ _ _ _ _ _ _ _ _ _ _ _ _ _ _ _ _ _ _ _ _ _ _ _ _ _ _ _ _ _ _ _ _ _ _ _ _ _ _ gh gx cx j hi xi _ ⟨fun _ _ N _ _ h => by cases N <;> exact h⟩ _ HCL ⟨HH.out.frozen j⟩ HLT.out HLL.out.1 HLL.out.2 ?_
       intro v154 v155 v156 v157 v158 v159 v160 v161 v162 v163 v164 v165 v166 n
       obtain ⟨nv, hnv⟩ : ∃ nv, nv = (hi + xi) % 4294967296 := ⟨_, rfl⟩
       rw [← hnv] at HNV ⊢
       have HD : Aside0 (∃ m, wr.drewN n = wr.drewN m) := ⟨n, rfl⟩
       clear hnv
       generalize wr.drewN n = wd at HD ⊢
       have hbd : Below wr.heap.size wr wd := by obtain ⟨n, e⟩ := HD.out; rw [e]; exact pw_below_drewN (Below.refl _ _) n
       have HHn : Aside0 (IRow (wd.setCell ⟨gh, j, none⟩ (.int .i64 (nv : Int))) gh (hmix st S (j + 1))) := ⟨by
        rw [← hmix_set HST.out.1 HLT.out, ← HNV.out]
        exact (HH.out.below hbd).put (by rw [hmix_len HST.out.1 hj]; exact HLT.out) nv⟩
       have HXn := Aside0.mk ((HX.out.below hbd).far ⟨gh, j, none⟩ (by show gh ≠ gx; have := HGX.out; omega) (.int .i64 (nv : Int)))
       have HKn := Aside0.mk ((HK.out.below hbd).far ⟨gh, j, none⟩ (by show gh ≠ gk; have := HGK.out; omega) (.int .i64 (nv : Int)))
       have HFn := Aside0.mk ((HF.out.below hbd).far ⟨gh, j, none⟩ (by show gh < gh + 1; omega) (.int .i64 (nv : Int)))
       have HBn := Aside0.mk (below_set (j := j) (v := .int .i64 (nv : Int)) (below_then HB.out HB.out.size hbd) (by have := HG.out.1; omega : w.heap.size ≤ gh))
       clear HCL HD hbd HH HX HK HF HB HNV HLL
       generalize wd.setCell ⟨gh, j, none⟩ (.int .i64 (nv : Int)) = we at HHn HXn HKn HFn HBn ⊢
       go_wp2_with fail
       go_roundw
       case rel => exact ⟨j + 1, by have := HLT.out; omega, by first | rfl | rw [w8], HHn, HXn, HKn, HFn, HBn⟩
       case measure => have := HLT.out; simp [intOf]; omega
      ·
       obtain rfl : j = 8 := by omega
       have HHn : Aside0 (IRow wr gh (stN (pad (pb s)) (m + 1))) := ⟨by rw [← st_next HEQ.out.1 HST.out.1 HBD.out.1 HBD.out.2.1 HEQ.out.2 HSE.out]; exact HH.out⟩
       have w9 : (en : Int) = ((64 * (m + 1) : Nat) : Int) := by have h := HBD.out.2; omega
       have hm1 : m + 1 ≤ nB s ∧ 64 * m < L := by have h := HBD.out.2.1; have h2 := HLB.out.1; have h3 := HMN.out; omega
       have HM1 := Aside0.mk hm1
       have HAE : Aside0 (L - en < L - at_) := ⟨by have h := HBD.out.2; omega⟩
       clear HH HX HSE hm1
       go_wp2_with fail
       simp only [w1]
       go_roundw
       case rel => exact ⟨m + 1, HM1.out.1, by first | (rw [w9]) | (rw [w1, w9]), HHn, HK, HF, HB⟩
       case measure => exact (show L - ((en : Int)).toNat < L - ((at_ : Int)).toNat from by rw [Int.toNat_natCast, Int.toNat_natCast]; exact HAE.out)
  ·
   obtain rfl : m = nB s := by omega
   obtain ⟨at_, hat⟩ : ∃ at_, at_ = 64 * nB s := ⟨_, rfl⟩
   rw [← hat]
   obtain ⟨H, hH⟩ : ∃ H, H = stN (pad (pb s)) (nB s) := ⟨_, rfl⟩
   have HHH : Aside0 (H.length = 8 ∧ sha (pb s) = H.flatMap bytes32) := ⟨by rw [hH]; exact ⟨stN_length _ _, rfl⟩⟩
   have z0 : ((at_ : Int) < (L : Int)) = False := eq_false (by have := HLB.out.1; omega)
   have z1 : decide ((at_ : Int) < (L : Int)) = false := decide_eq_false (by have := HLB.out.1; omega)
   have z2 : (at_ < L) = False := eq_false (by have := HLB.out.1; omega)
   have z3 : decide (at_ < L) = false := decide_eq_false (by have := HLB.out.1; omega)
   rw [← hH] at HH
   have HSI := Aside0.mk hH
   rename_i KK hKK
   have HKK := Aside0.mk hKK
   clear hKK hH HK HF hat
   go_wp2_with fail
   exact HKK.out _ _ (rsum_tail _ _ _ _ _ _ _ _ _ _ _ _ _ _ _ _ _ _ _ _ _ _ _ _ _ _ _ _ _ _ _ _ _ _ _ _ _ _ _ _ _ _ _ _ _ _ _ _ _ _ _ _ _ _ _ _ _ _ _ _ _ _ _ _ _ _ _ _ _ _ _ _ _ _ _ _ _ _ _ _ _ _ _ _ _ _ _ _ _ _ _ _ _ _ _ _ _ _ _ _ _ _ _ _ _ _ _ _ _ _ _ _ _ _ _ _ _ _ _ _ _ _ _ _ _ _ _ _ _ _ _ _ _ _ _ _ _ _ _ _ _ _ _ _ _ _ _ _ _ _ _ _ _ _ _ _ _ _ _ _ _ _ _ _ _ _ _ _ _ _ _ _ _ _ _ _ _ _ _ _ _ _ _ _ _ _ _ _ _ _ _ _ _ _ _ _ _ _ _ _ _ s gh H w wr ⟨HG.out.1⟩ HHH HSI HH HB)
end Go.Proofs.YtkhblpmjmkhiiaaGreatDoor.T
