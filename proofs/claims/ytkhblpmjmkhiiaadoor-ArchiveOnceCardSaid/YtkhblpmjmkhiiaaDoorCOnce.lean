/- ArchiveOnce: the one form of a tree in its one form is it, whatever order its nodes stand in; whatever the input. -/
import Derived.Test.YtkhblpmjmkhiiaaDoorRH8
import Derived.Test.YtkhblpmjmkhiiaaDoorRH4
import Derived.Test.YtkhblpmjmkhiiaaDoorRH1
import Derived.Test.YtkhblpmjmkhiiaaDoorTie
import Derived.Test.YtkhblpmjmkhiiaaDoorCards
import Derived.WalkKit
import Derived.ProofKit
import Derived.OpenShut
import Derived.ShutString
import Derived.ChangeOld
import Derived.Below
import Derived.SizedLaws
import Derived.Lay
import Derived.LaidMore
import Derived.LaidOnce
import Derived.SevenTiedAt

namespace Go.Proofs.YtkhblpmjmkhiiaaDoor.T
open Go.RowKit Go.Proofs.YtkhblpmjmkhiiaaDoorW.PrintWords Go.Proofs.YtkhblpmjmkhiiaaDoorW.PrintLast Go.Proofs.YtkhblpmjmkhiiaaDoorW.PrintMore Go.Proofs.YtkhblpmjmkhiiaaDoor.PAll
set_option linter.unusedSimpArgs false
set_option linter.unusedVariables false
theorem tmod_lt {b : Int} {n : Nat} (h : 0 < n) : (Int.tmod b (n : Int)).natAbs < n := by
 have h1 := Int.natAbs_tmod b (n : Int)
 rw [h1]
 exact Nat.mod_lt _ (by omega)
set_option maxHeartbeats 8000000 in
set_option maxRecDepth 100000 in
theorem once_law (l : List S34) (A : Option Addr) (c : Nat) (b : Int) (w : World) (hr0 : Kd.C k34 w A l.length l) (hc : l.length ≤ c) (hwf : Wf l) (hb : (Lit.int .i64 b).wf = true) (hT : Tab w) :
  Calls Tryd.prog 4 #[.slice A l.length c, .int .i64 b] w fun e w' => e = .returned (.bool true) ∧ Below w.heap.size w w' := by
 have hu46 := Tryd.underlying34
 have hu44 := Tryd.underlying32
 have HT := Aside0.mk hT
 obtain ⟨y, h1, h2, h3, hy⟩ := few_c l A c w hr0 hc hwf
 have HL := Aside0.mk h1
 have HW := Aside0.mk h2
 have HY := Aside0.mk hy
 have HWb := Aside0.mk hb
 clear hT hr0 hc hwf h1 h2 h3 hy hb
 go_enter Tryd.func4, Tryd.ntmps4
 go_wp2_with fail
 refine HY.out.mono ?_
 rintro e w1 ⟨v1, rfl, hv1, hb1⟩
 obtain ⟨A1, c1, e1⟩ := Kd.R_slice hv1
 subst e1
 have HR1 := Aside0.mk (Kd.R_reads' hv1).2.2
 have HC1 := Aside0.mk (Kd.R_reads' hv1).2.1
 have HB1 := Aside0.mk hb1
 clear hv1 hb1 HY
 go_wp2_with fail
 refine (normal_c y A1 c1 w1 HR1.out HC1.out (by have := HL.out; omega) HW.out (HT.out.below HB1.out)).mono ?_
 rintro e w2 ⟨v2, rfl, hv2, hb2⟩
 rcases normT_err y with h0 | hbad
 ·
  obtain ⟨t, ht⟩ : ∃ t, normT y = (t, 0) := ⟨(normT y).1, Prod.ext rfl h0⟩
  have HE := Aside0.mk ht
  have hlen := normT_len y
  have hidem := normT_idem h0
  have hy0 : 0 < y.length := by
   rcases Nat.eq_zero_or_pos y.length with q | q
   ·
    exfalso
    have e0 : y = [] := List.eq_nil_of_length_eq_zero q
    subst e0
    have hn : ¬ Tree ([] : List S34) := fun T => by
     obtain ⟨n, hn, _⟩ := T.root
     cases hn
    unfold normT at h0
    rw [if_neg hn] at h0
    exact absurd h0 (by decide)
   ·
    exact q
  rw [ht] at hlen hidem
  rw [HE.out] at hv2 ⊢
  dsimp only at hv2 hlen hidem ⊢
  obtain ⟨A2, c2, e2⟩ := Kd.R_slice hv2
  subst e2
  have HLT : Aside0 (t.length ≤ 40) := ⟨by have := HL.out; omega⟩
  have HTW : Aside0 (Wf t) := ⟨by
   have := wf_norm (l := y) (by have := HL.out; omega)
   rw [HE.out] at this
   exact this⟩
  have HI := Aside0.mk hidem
  obtain ⟨K2, hK2⟩ := evs_get (same_ev t t (by have := HLT.out; omega) true ⟨fun _ => rfl, fun _ => rfl⟩)
  have HS := Aside0.mk hK2
  have HR2 := Aside0.mk (Kd.R_reads' hv2).2.2
  have HC2 := Aside0.mk (Kd.R_reads' hv2).2.1
  have HB2 := Aside0.mk (below_then HB1.out HB1.out.size hb2)
  have HR12 := Aside0.mk (Kd.C_below HR1.out hb2)
  obtain ⟨m, hm⟩ : ∃ m, m = (Int.tmod b (y.length : Int)).natAbs := ⟨_, rfl⟩
  have hmN : m < y.length := by rw [hm]; exact tmod_lt hy0
  have HMN := Aside0.mk hmN
  obtain ⟨z, hz⟩ : ∃ z, z = y.drop m ++ y.take m := ⟨_, rfl⟩
  have hp : y.Perm z := by
   rw [hz]
   have q := List.perm_append_comm (l₁ := y.take m) (l₂ := y.drop m)
   rwa [List.take_append_drop] at q
  have HZ := Aside0.mk hz
  have HZL : Aside0 (z.length = y.length) := ⟨hp.length_eq.symm⟩
  have HZW : Aside0 (Wf z) := ⟨fun n hn => HW.out n (hp.mem_iff.2 hn)⟩
  have HZN : Aside0 (normT z = (t, 0)) := ⟨(normT_perm hp).symm.trans HE.out⟩
  obtain ⟨i0, hi, hz0, hz1, hz2⟩ := info_parts info34
  have hcf := cut_from (P := Tryd.prog) 22 34 .i64 Tryd.underlying22 hi 7 hz1 A1 y.length c1 (m : Int) (by omega) (by omega)
  have hct := cut_to (P := Tryd.prog) 22 34 .i64 Tryd.underlying22 hi A1 y.length c1 (m : Int) (by omega) (by omega) HC1.out
  rw [Int.toNat_natCast] at hcf hct
  have hRD := Kd.C_drop (m := m) HR12.out (by omega) HC1.out
  rw [show k34.sz = 7 from rfl] at hRD
  have hRT := Kd.C_take (m := m) HR12.out (by omega)
  obtain ⟨AD, hAD⟩ : ∃ AD, (if c1 = m then A1 else A1.map (·.add (m * 7))) = AD := ⟨_, rfl⟩
  rw [hAD] at hcf hRD
  have hdl : (y.drop m).length = y.length - m := List.length_drop
  have htl : (y.take m).length = m := by rw [List.length_take]; omega
  rw [hdl] at hRD
  rw [htl] at hRT
  have HRD0 := Aside0.mk hRD
  have HRT0 := Aside0.mk hRT
  have g0 : decide ((0 : Int) < (y.length : Int)) = true := decide_eq_true (by omega)
  have g1 : ((y.length : Int) == 0) = false := beq_eq_false_iff_ne.2 (by omega)
  have g2 : ((y.length : Int) = 0) = False := eq_false (by omega)
  have g3 : (y.length = 0) = False := eq_false (by omega)
  have gw : wrap64 (Int.tmod b (y.length : Int)) = Int.tmod b (y.length : Int) := by
   have := HL.out
   have q := tmod_lt (b := b) hy0
   have q2 : (m : Int) = Int.tmod b (y.length : Int) ∨ (m : Int) = -Int.tmod b (y.length : Int) := by rw [hm]; omega
   exact w64 (by omega) (by omega)
  have m1 : (m ≤ y.length) = True := eq_true (by omega)
  have m2 : ((m : Int) ≤ (y.length : Int)) = True := eq_true (by omega)
  have m3 : (m ≤ c1) = True := eq_true (by have := HC1.out; omega)
  have m4 : ((m : Int) ≤ (c1 : Int)) = True := eq_true (by have := HC1.out; omega)
  clear hv2 hb2 hlen hidem h0 ht hK2 hp hz hRD hRT hi hz0 hz1 hz2 HR1 HR12 HB1
  by_cases hneg : Int.tmod b (y.length : Int) < 0
  ·
   have z7 : decide (Int.tmod b (y.length : Int) < 0) = true := decide_eq_true hneg
   have q7 : (Int.tmod b (y.length : Int) < 0) = True := eq_true hneg
   have hm7 : (m : Int) = -Int.tmod b (y.length : Int) := by rw [hm]; exact Int.ofNat_natAbs_of_nonpos (Int.le_of_lt hneg)
   have e7 : wrap64 (-Int.tmod b (y.length : Int)) = (m : Int) := by have := HL.out; rw [w64 (by omega) (by omega)]; exact hm7.symm
   clear hm hm7
   go_wp2_with fail
   refine start_ (n := 15) (S := fun _ => True) (ds := []) #[false, false, false, false, false, false, false, false, false, false, false, false, false, false, false] (by kernel_rfl) rfl rfl trivial (fun _ => ?_)
   have HBd : Aside0 (Below w.heap.size w w2.drew) := ⟨below_then HB2.out HB2.out.size (below_drew (Below.refl _ _))⟩
   have HRD : Aside0 (Kd.C k34 w2.drew AD (y.length - m) (y.drop m)) := ⟨Kd.C_drew HRD0.out⟩
   have HRT : Aside0 (Kd.C k34 w2.drew A1 m (y.take m)) := ⟨Kd.C_drew HRT0.out⟩
   have HRt : Aside0 (Kd.C k34 w2.drew A2 t.length t) := ⟨Kd.C_drew HR2.out⟩
   generalize w2.drew = wd at HBd HRD HRT HRt ⊢
   refine pure_ (i := 1) (N := some 40) (v := ?_) (a' := ?_) #[false, true, false, false, false, false, false, false, false, false, false, false, false, false, false] rfl rfl (by kernel_rfl) (fun _ _ _ h => h) (Or.inl ⟨by rfl, ?_⟩) ?_ ?_
   rotate_left; · intro w'; go_simp; with_reducible rfl
   rotate_left; · simp only [Act.put, List.setIfInBounds_toArray, List.set_cons_zero, List.set_cons_succ, i64_w, i32_w]; rfl
   refine pure_ (i := 2) (N := some 41) (v := ?_) (a' := ?_) #[false, true, true, false, false, false, false, false, false, false, false, false, false, false, false] rfl rfl (by kernel_rfl) (fun _ _ _ h => h) (Or.inl ⟨by rfl, ?_⟩) ?_ ?_
   rotate_left; · intro w'; go_simp; with_reducible rfl
   rotate_left; · simp only [Act.put, List.setIfInBounds_toArray, List.set_cons_zero, List.set_cons_succ, i64_w, i32_w]; rfl
   refine pure_ (i := 3) (N := some 42) (v := ?_) (a' := ?_) #[false, true, true, true, false, false, false, false, false, false, false, false, false, false, false] rfl rfl (by kernel_rfl) (fun _ _ _ h => h) (Or.inl ⟨by rfl, ?_⟩) ?_ ?_
   rotate_left; · intro w'; go_simp; with_reducible rfl
   rotate_left; · simp only [Act.put, List.setIfInBounds_toArray, List.set_cons_zero, List.set_cons_succ, i64_w, i32_w]; rfl
   refine pure_ (i := 5) (N := some 44) (v := ?_) (a' := ?_) #[false, true, true, true, false, true, false, false, false, false, false, false, false, false, false] rfl rfl (by kernel_rfl) (fun _ _ _ h => h) (Or.inl ⟨by rfl, ?_⟩) ?_ ?_
   rotate_left; · intro w'; go_simp; with_reducible rfl
   rotate_left; · simp only [Act.put, List.setIfInBounds_toArray, List.set_cons_zero, List.set_cons_succ, i64_w, i32_w]; rfl
   refine pure_ (i := 6) (N := some 45) (v := ?_) (a' := ?_) #[false, true, true, true, false, true, true, false, false, false, false, false, false, false, false] rfl rfl (by kernel_rfl) (fun _ _ _ h => h) (Or.inl ⟨by rfl, ?_⟩) ?_ ?_
   rotate_left; · intro w'; go_simp; with_reducible rfl
   rotate_left; · simp only [Act.put, List.setIfInBounds_toArray, List.set_cons_zero, List.set_cons_succ, i64_w, i32_w]; rfl
   refine pure_ (i := 7) (N := some 46) (v := ?_) (a' := ?_) #[false, true, true, true, false, true, true, true, false, false, false, false, false, false, false] rfl rfl (by kernel_rfl) (fun _ _ _ h => h) (Or.inl ⟨by rfl, ?_⟩) ?_ ?_
   rotate_left; · intro w'; go_simp; with_reducible rfl
   rotate_left; · simp only [Act.put, List.setIfInBounds_toArray, List.set_cons_zero, List.set_cons_succ, i64_w, i32_w]; rfl
   refine one_ (i := 0) (N := some 39) #[true, true, true, true, false, true, true, true, false, false, false, false, false, false, false] rfl rfl (by kernel_rfl) (by decide) (fun K hK => ?_)
   refine Kd.R_lit_step k34 (w0 := wd) wd.heap.size 34 (by rfl) (N := 39) rfl (xs := ([] : List S34)) (inner := []) (ok := fun _ => True) (okp := fun _ => True) ?hr ?hp (fun _ hk => hk) trivial (Below.refl _ _) (Nat.le_refl _) (by simp) ?_
   case hr => first | (go_simp; done) | (go_simp; rfl)
   case hp => exact (Reps.none _ _)
   intro v4 w4 ho4 hb4 hg4 hnew4
   have HO4 := Aside0.mk ho4
   have HBo := Aside0.mk hb4
   refine hK.out _ _ trivial (fun _ => ?_)
   clear hK K ho4 hb4 hg4 hnew4
   refine norm_ (a' := ?_) ?_ ?_
   rotate_left; · show Act.put _ (some 39) _ = _; simp only [Act.put, List.setIfInBounds_toArray, List.set_cons_zero, List.set_cons_succ, i64_w, i32_w]; rfl
   refine one_ (i := 4) (N := some 43) #[true, true, true, true, true, true, true, true, false, false, false, false, false, false, false] rfl rfl (by kernel_rfl) (by decide) (fun K hK => ?_)
   refine Kd.R_append_rows_step k34 (w0 := wd) wd.heap.size (by rfl) (.tmp 39) (.tmp 42) 22 34 (.agg #[(.string ⟨#[]⟩), (.int .i64 0), (.int .i64 0), (.int .i64 0), (.int .i64 0), (.int .i64 0), (.string ⟨#[]⟩)]) 72 rfl Tryd.underlying22 info34 rfl (by decide) (by omega) v4 ([] : List S34) (y.drop m) AD _ _ (fun _ => True) (fun _ => False) rfl rfl HO4.out (Kd.C_below HRD.out HBo.out) (fun _ _ h => h) (fun _ h => h.elim) (fun _ _ => trivial) HBo.out HBo.out.size ?aL ?_
   case aL => have := HL.out; have := HMN.out; (try simp only [List.nil_append, List.length_append, List.length_nil, List.length_drop]); omega
   intro v5 w5 ho5 hb5 hg5 hat5
   have HO5 : Aside0 (Kd.R k34 34 w5 wd.heap.size (fun _ => True) v5 (([] : List S34) ++ (y.drop m))) := ⟨ho5⟩
   clear HBo
   have HBo := Aside0.mk hb5
   refine hK.out _ _ trivial (fun _ => ?_)
   clear hK K ho5 hb5 hg5 hat5
   refine norm_ (a' := ?_) ?_ ?_
   rotate_left; · show Act.put _ (some 43) _ = _; simp only [Act.put, List.setIfInBounds_toArray, List.set_cons_zero, List.set_cons_succ, i64_w, i32_w]; rfl
   refine one_ (i := 8) (N := some 47) #[true, true, true, true, true, true, true, true, true, false, false, false, false, false, false] rfl rfl (by kernel_rfl) (by decide) (fun K hK => ?_)
   refine Kd.R_append_rows_step k34 (w0 := wd) wd.heap.size (by rfl) (.tmp 43) (.tmp 46) 22 34 (.agg #[(.string ⟨#[]⟩), (.int .i64 0), (.int .i64 0), (.int .i64 0), (.int .i64 0), (.int .i64 0), (.string ⟨#[]⟩)]) 72 rfl Tryd.underlying22 info34 rfl (by decide) (by omega) v5 (([] : List S34) ++ y.drop m) (y.take m) A1 _ _ (fun _ => True) (fun _ => False) rfl rfl HO5.out (Kd.C_below HRT.out HBo.out) (fun _ _ h => h) (fun _ h => h.elim) (fun _ _ => trivial) HBo.out HBo.out.size ?aL ?_
   case aL => have := HL.out; have := HMN.out; (try simp only [List.nil_append, List.length_append, List.length_nil, List.length_drop]); omega
   intro v6 w6 ho6 hb6 hg6 hat6
   have HO6 : Aside0 (Kd.R k34 34 w6 wd.heap.size (fun _ => True) v6 ((([] : List S34) ++ y.drop m) ++ (y.take m))) := ⟨ho6⟩
   clear HBo
   have HBo := Aside0.mk hb6
   refine hK.out _ _ trivial (fun _ => ?_)
   clear hK K ho6 hb6 hg6 hat6
   refine norm_ (a' := ?_) ?_ ?_
   rotate_left; · show Act.put _ (some 47) _ = _; simp only [Act.put, List.setIfInBounds_toArray, List.set_cons_zero, List.set_cons_succ, i64_w, i32_w]; rfl
   have HO6 : Aside0 (Kd.R k34 34 w6 wd.heap.size (fun _ => True) v6 z) := ⟨by have h := HO6.out; rw [HZ.out]; simpa using h⟩
   have HBz : Aside0 (Below w.heap.size w w6) := ⟨below_then HBd.out HBd.out.size HBo.out⟩
   clear HO4 HO5
   obtain ⟨A6, c6, e6⟩ := Kd.R_slice HO6.out
   subst e6
   refine one_ (i := 9) (N := some 48) #[true, true, true, true, true, true, true, true, true, true, false, false, false, false, false] rfl rfl (by kernel_rfl) (by decide) (fun K hK => ?_)
   refine goes_ Tryd.func6 (by kernel_rfl) rfl #[.slice A6 z.length c6] (by rfl) rfl rfl (by (try simp only [List.map_toArray, List.map_cons, List.map_nil]); first | done | rfl) ?_
   refine (normal_c z A6 c6 _ (Kd.R_reads' HO6.out).2.2 (Kd.R_reads' HO6.out).2.1 (by have := HZL.out; have := HL.out; omega) HZW.out (HT.out.below HBz.out)).mono ?_
   rintro e w7 ⟨v7, rfl, hv7, hb7⟩
   rw [HZN.out] at hv7 ⊢
   dsimp only at hv7 ⊢
   obtain ⟨A7, c7, e7⟩ := Kd.R_slice hv7
   subst e7
   have HR7 := Aside0.mk (Kd.R_reads' hv7).2.2
   have HC7 := Aside0.mk (Kd.R_reads' hv7).2.1
   have HB7 := Aside0.mk (below_then HBz.out HBz.out.size hb7)
   have HRt7 := Aside0.mk (Kd.C_below (Kd.C_below HRt.out HBo.out) hb7)
   refine ⟨_, rfl, ?_⟩
   refine hK.out _ _ trivial (fun _ => ?_)
   clear hK K hv7 hb7
   refine norm_ (a' := ?_) ?_ ?_
   rotate_left; · show Act.put _ (some 48) _ = _; simp only [Act.put, List.setIfInBounds_toArray, List.set_cons_zero, List.set_cons_succ, i64_w, i32_w]; rfl
   refine pure_ (i := 10) (N := some 38) (v := ?_) (a' := ?_) #[true, true, true, true, true, true, true, true, true, true, true, false, false, false, false] rfl rfl (by kernel_rfl) (fun _ _ _ h => h) (Or.inl ⟨by rfl, ?_⟩) ?_ ?_
   rotate_left; · intro w'; go_simp; with_reducible rfl
   rotate_left; · simp only [Act.put, List.setIfInBounds_toArray, List.set_cons_zero, List.set_cons_succ, i64_w, i32_w]; rfl
   refine pure_ (i := 11) (N := some 49) (v := ?_) (a' := ?_) #[true, true, true, true, true, true, true, true, true, true, true, true, false, false, false] rfl rfl (by kernel_rfl) (fun _ _ _ h => h) (Or.inl ⟨by rfl, ?_⟩) ?_ ?_
   rotate_left; · intro w'; go_simp; with_reducible rfl
   rotate_left; · simp only [Act.put, List.setIfInBounds_toArray, List.set_cons_zero, List.set_cons_succ, i64_w, i32_w]; rfl
   refine pure_ (i := 12) (N := some 50) (v := ?_) (a' := ?_) #[true, true, true, true, true, true, true, true, true, true, true, true, true, false, false] rfl rfl (by kernel_rfl) (fun _ _ _ h => h) (Or.inl ⟨by rfl, ?_⟩) ?_ ?_
   rotate_left; · intro w'; go_simp; with_reducible rfl
   rotate_left; · simp only [Act.put, List.setIfInBounds_toArray, List.set_cons_zero, List.set_cons_succ, i64_w, i32_w]; rfl
   refine pure_ (i := 13) (N := some 8) (v := ?_) (a' := ?_) #[true, true, true, true, true, true, true, true, true, true, true, true, true, true, false] rfl rfl (by kernel_rfl) (fun _ _ _ h => h) (Or.inl ⟨by rfl, ?_⟩) ?_ ?_
   rotate_left; · intro w'; go_simp; with_reducible rfl
   rotate_left; · simp only [Act.put, List.setIfInBounds_toArray, List.set_cons_zero, List.set_cons_succ, i64_w, i32_w]; rfl
   refine pure_ (i := 14) (N := some 9) (v := ?_) (a' := ?_) #[true, true, true, true, true, true, true, true, true, true, true, true, true, true, true] rfl rfl (by kernel_rfl) (fun _ _ _ h => h) (Or.inl ⟨by rfl, ?_⟩) ?_ ?_
   rotate_left; · intro w'; go_simp; with_reducible rfl
   rotate_left; · simp only [Act.put, List.setIfInBounds_toArray, List.set_cons_zero, List.set_cons_succ, i64_w, i32_w]; rfl
   refine done_ (by kernel_rfl) ?_
   go_wp2_with fail
   refine (normal_c t A2 c2 w7 HRt7.out HC2.out (by have := HLT.out; omega) HTW.out (HT.out.below HB7.out)).mono ?_
   rintro e w8 ⟨v8, rfl, hv8, hb8⟩
   rw [HI.out] at hv8 ⊢
   dsimp only at hv8 ⊢
   obtain ⟨A8, c8, e8⟩ := Kd.R_slice hv8
   subst e8
   have HR8 := Aside0.mk (Kd.R_reads' hv8).2.2
   have HC8 := Aside0.mk (Kd.R_reads' hv8).2.1
   have HB8 := Aside0.mk (below_then HB7.out HB7.out.size hb8)
   have HRt8 := Aside0.mk (Kd.C_below HRt7.out hb8)
   have HR78 := Aside0.mk (Kd.C_below HR7.out hb8)
   clear hv8 hb8
   go_wp2_with fail
   refine (grapnelref18_Same.calls K2 A2 c2 t A8 c8 t true w8 HRt8.out HC2.out HR8.out HC8.out HS.out).mono ?_
   rintro e w9 ⟨rfl, ⟨nd, rfl⟩⟩
   have HB9 := Aside0.mk (below_then HB8.out HB8.out.size (pw_below_drewN (Below.refl w8.heap.size w8) nd))
   have HRt9 := Aside0.mk (Kd.C_drewN HRt8.out nd)
   have HR79 := Aside0.mk (Kd.C_drewN HR78.out nd)
   go_wp2_with fail
   refine (grapnelref18_Same.calls K2 A2 c2 t A7 c7 t true _ HRt9.out HC2.out HR79.out HC7.out HS.out).mono ?_
   rintro e w10 ⟨rfl, ⟨nd2, rfl⟩⟩
   have HB10 : Aside0 (Below w.heap.size w (w8.drewN (nd + nd2))) := ⟨below_then HB8.out HB8.out.size (pw_below_drewN (Below.refl w8.heap.size w8) _)⟩
   go_wp2_with fail
   refine (awake_c _ (HT.out.below HB10.out)).mono ?_
   rintro e w11 ⟨rfl, hb11⟩
   have HB11 := Aside0.mk (below_then HB10.out HB10.out.size hb11)
   clear hb11
   go_wp2_with fail
   go_ret
   exact ⟨rfl, HB11.out⟩
  ·
   have z7 : decide (Int.tmod b (y.length : Int) < 0) = false := decide_eq_false hneg
   have q7 : (Int.tmod b (y.length : Int) < 0) = False := eq_false hneg
   have e7 : Int.tmod b (y.length : Int) = (m : Int) := by rw [hm]; exact (Int.natAbs_of_nonneg (Int.not_lt.1 hneg)).symm
   clear hm
   go_wp2_with fail
   refine start_ (n := 15) (S := fun _ => True) (ds := []) #[false, false, false, false, false, false, false, false, false, false, false, false, false, false, false] (by kernel_rfl) rfl rfl trivial (fun _ => ?_)
   have HBd : Aside0 (Below w.heap.size w w2.drew) := ⟨below_then HB2.out HB2.out.size (below_drew (Below.refl _ _))⟩
   have HRD : Aside0 (Kd.C k34 w2.drew AD (y.length - m) (y.drop m)) := ⟨Kd.C_drew HRD0.out⟩
   have HRT : Aside0 (Kd.C k34 w2.drew A1 m (y.take m)) := ⟨Kd.C_drew HRT0.out⟩
   have HRt : Aside0 (Kd.C k34 w2.drew A2 t.length t) := ⟨Kd.C_drew HR2.out⟩
   generalize w2.drew = wd at HBd HRD HRT HRt ⊢
   refine pure_ (i := 1) (N := some 40) (v := ?_) (a' := ?_) #[false, true, false, false, false, false, false, false, false, false, false, false, false, false, false] rfl rfl (by kernel_rfl) (fun _ _ _ h => h) (Or.inl ⟨by rfl, ?_⟩) ?_ ?_
   rotate_left; · intro w'; go_simp; with_reducible rfl
   rotate_left; · simp only [Act.put, List.setIfInBounds_toArray, List.set_cons_zero, List.set_cons_succ, i64_w, i32_w]; rfl
   refine pure_ (i := 2) (N := some 41) (v := ?_) (a' := ?_) #[false, true, true, false, false, false, false, false, false, false, false, false, false, false, false] rfl rfl (by kernel_rfl) (fun _ _ _ h => h) (Or.inl ⟨by rfl, ?_⟩) ?_ ?_
   rotate_left; · intro w'; go_simp; with_reducible rfl
   rotate_left; · simp only [Act.put, List.setIfInBounds_toArray, List.set_cons_zero, List.set_cons_succ, i64_w, i32_w]; rfl
   refine pure_ (i := 3) (N := some 42) (v := ?_) (a' := ?_) #[false, true, true, true, false, false, false, false, false, false, false, false, false, false, false] rfl rfl (by kernel_rfl) (fun _ _ _ h => h) (Or.inl ⟨by rfl, ?_⟩) ?_ ?_
   rotate_left; · intro w'; go_simp; with_reducible rfl
   rotate_left; · simp only [Act.put, List.setIfInBounds_toArray, List.set_cons_zero, List.set_cons_succ, i64_w, i32_w]; rfl
   refine pure_ (i := 5) (N := some 44) (v := ?_) (a' := ?_) #[false, true, true, true, false, true, false, false, false, false, false, false, false, false, false] rfl rfl (by kernel_rfl) (fun _ _ _ h => h) (Or.inl ⟨by rfl, ?_⟩) ?_ ?_
   rotate_left; · intro w'; go_simp; with_reducible rfl
   rotate_left; · simp only [Act.put, List.setIfInBounds_toArray, List.set_cons_zero, List.set_cons_succ, i64_w, i32_w]; rfl
   refine pure_ (i := 6) (N := some 45) (v := ?_) (a' := ?_) #[false, true, true, true, false, true, true, false, false, false, false, false, false, false, false] rfl rfl (by kernel_rfl) (fun _ _ _ h => h) (Or.inl ⟨by rfl, ?_⟩) ?_ ?_
   rotate_left; · intro w'; go_simp; with_reducible rfl
   rotate_left; · simp only [Act.put, List.setIfInBounds_toArray, List.set_cons_zero, List.set_cons_succ, i64_w, i32_w]; rfl
   refine pure_ (i := 7) (N := some 46) (v := ?_) (a' := ?_) #[false, true, true, true, false, true, true, true, false, false, false, false, false, false, false] rfl rfl (by kernel_rfl) (fun _ _ _ h => h) (Or.inl ⟨by rfl, ?_⟩) ?_ ?_
   rotate_left; · intro w'; go_simp; with_reducible rfl
   rotate_left; · simp only [Act.put, List.setIfInBounds_toArray, List.set_cons_zero, List.set_cons_succ, i64_w, i32_w]; rfl
   refine one_ (i := 0) (N := some 39) #[true, true, true, true, false, true, true, true, false, false, false, false, false, false, false] rfl rfl (by kernel_rfl) (by decide) (fun K hK => ?_)
   refine Kd.R_lit_step k34 (w0 := wd) wd.heap.size 34 (by rfl) (N := 39) rfl (xs := ([] : List S34)) (inner := []) (ok := fun _ => True) (okp := fun _ => True) ?hr ?hp (fun _ hk => hk) trivial (Below.refl _ _) (Nat.le_refl _) (by simp) ?_
   case hr => first | (go_simp; done) | (go_simp; rfl)
   case hp => exact (Reps.none _ _)
   intro v4 w4 ho4 hb4 hg4 hnew4
   have HO4 := Aside0.mk ho4
   have HBo := Aside0.mk hb4
   refine hK.out _ _ trivial (fun _ => ?_)
   clear hK K ho4 hb4 hg4 hnew4
   refine norm_ (a' := ?_) ?_ ?_
   rotate_left; · show Act.put _ (some 39) _ = _; simp only [Act.put, List.setIfInBounds_toArray, List.set_cons_zero, List.set_cons_succ, i64_w, i32_w]; rfl
   refine one_ (i := 4) (N := some 43) #[true, true, true, true, true, true, true, true, false, false, false, false, false, false, false] rfl rfl (by kernel_rfl) (by decide) (fun K hK => ?_)
   refine Kd.R_append_rows_step k34 (w0 := wd) wd.heap.size (by rfl) (.tmp 39) (.tmp 42) 22 34 (.agg #[(.string ⟨#[]⟩), (.int .i64 0), (.int .i64 0), (.int .i64 0), (.int .i64 0), (.int .i64 0), (.string ⟨#[]⟩)]) 72 rfl Tryd.underlying22 info34 rfl (by decide) (by omega) v4 ([] : List S34) (y.drop m) AD _ _ (fun _ => True) (fun _ => False) rfl rfl HO4.out (Kd.C_below HRD.out HBo.out) (fun _ _ h => h) (fun _ h => h.elim) (fun _ _ => trivial) HBo.out HBo.out.size ?aL ?_
   case aL => have := HL.out; have := HMN.out; (try simp only [List.nil_append, List.length_append, List.length_nil, List.length_drop]); omega
   intro v5 w5 ho5 hb5 hg5 hat5
   have HO5 : Aside0 (Kd.R k34 34 w5 wd.heap.size (fun _ => True) v5 (([] : List S34) ++ (y.drop m))) := ⟨ho5⟩
   clear HBo
   have HBo := Aside0.mk hb5
   refine hK.out _ _ trivial (fun _ => ?_)
   clear hK K ho5 hb5 hg5 hat5
   refine norm_ (a' := ?_) ?_ ?_
   rotate_left; · show Act.put _ (some 43) _ = _; simp only [Act.put, List.setIfInBounds_toArray, List.set_cons_zero, List.set_cons_succ, i64_w, i32_w]; rfl
   refine one_ (i := 8) (N := some 47) #[true, true, true, true, true, true, true, true, true, false, false, false, false, false, false] rfl rfl (by kernel_rfl) (by decide) (fun K hK => ?_)
   refine Kd.R_append_rows_step k34 (w0 := wd) wd.heap.size (by rfl) (.tmp 43) (.tmp 46) 22 34 (.agg #[(.string ⟨#[]⟩), (.int .i64 0), (.int .i64 0), (.int .i64 0), (.int .i64 0), (.int .i64 0), (.string ⟨#[]⟩)]) 72 rfl Tryd.underlying22 info34 rfl (by decide) (by omega) v5 (([] : List S34) ++ y.drop m) (y.take m) A1 _ _ (fun _ => True) (fun _ => False) rfl rfl HO5.out (Kd.C_below HRT.out HBo.out) (fun _ _ h => h) (fun _ h => h.elim) (fun _ _ => trivial) HBo.out HBo.out.size ?aL ?_
   case aL => have := HL.out; have := HMN.out; (try simp only [List.nil_append, List.length_append, List.length_nil, List.length_drop]); omega
   intro v6 w6 ho6 hb6 hg6 hat6
   have HO6 : Aside0 (Kd.R k34 34 w6 wd.heap.size (fun _ => True) v6 ((([] : List S34) ++ y.drop m) ++ (y.take m))) := ⟨ho6⟩
   clear HBo
   have HBo := Aside0.mk hb6
   refine hK.out _ _ trivial (fun _ => ?_)
   clear hK K ho6 hb6 hg6 hat6
   refine norm_ (a' := ?_) ?_ ?_
   rotate_left; · show Act.put _ (some 47) _ = _; simp only [Act.put, List.setIfInBounds_toArray, List.set_cons_zero, List.set_cons_succ, i64_w, i32_w]; rfl
   have HO6 : Aside0 (Kd.R k34 34 w6 wd.heap.size (fun _ => True) v6 z) := ⟨by have h := HO6.out; rw [HZ.out]; simpa using h⟩
   have HBz : Aside0 (Below w.heap.size w w6) := ⟨below_then HBd.out HBd.out.size HBo.out⟩
   clear HO4 HO5
   obtain ⟨A6, c6, e6⟩ := Kd.R_slice HO6.out
   subst e6
   refine one_ (i := 9) (N := some 48) #[true, true, true, true, true, true, true, true, true, true, false, false, false, false, false] rfl rfl (by kernel_rfl) (by decide) (fun K hK => ?_)
   refine goes_ Tryd.func6 (by kernel_rfl) rfl #[.slice A6 z.length c6] (by rfl) rfl rfl (by (try simp only [List.map_toArray, List.map_cons, List.map_nil]); first | done | rfl) ?_
   refine (normal_c z A6 c6 _ (Kd.R_reads' HO6.out).2.2 (Kd.R_reads' HO6.out).2.1 (by have := HZL.out; have := HL.out; omega) HZW.out (HT.out.below HBz.out)).mono ?_
   rintro e w7 ⟨v7, rfl, hv7, hb7⟩
   rw [HZN.out] at hv7 ⊢
   dsimp only at hv7 ⊢
   obtain ⟨A7, c7, e7⟩ := Kd.R_slice hv7
   subst e7
   have HR7 := Aside0.mk (Kd.R_reads' hv7).2.2
   have HC7 := Aside0.mk (Kd.R_reads' hv7).2.1
   have HB7 := Aside0.mk (below_then HBz.out HBz.out.size hb7)
   have HRt7 := Aside0.mk (Kd.C_below (Kd.C_below HRt.out HBo.out) hb7)
   refine ⟨_, rfl, ?_⟩
   refine hK.out _ _ trivial (fun _ => ?_)
   clear hK K hv7 hb7
   refine norm_ (a' := ?_) ?_ ?_
   rotate_left; · show Act.put _ (some 48) _ = _; simp only [Act.put, List.setIfInBounds_toArray, List.set_cons_zero, List.set_cons_succ, i64_w, i32_w]; rfl
   refine pure_ (i := 10) (N := some 38) (v := ?_) (a' := ?_) #[true, true, true, true, true, true, true, true, true, true, true, false, false, false, false] rfl rfl (by kernel_rfl) (fun _ _ _ h => h) (Or.inl ⟨by rfl, ?_⟩) ?_ ?_
   rotate_left; · intro w'; go_simp; with_reducible rfl
   rotate_left; · simp only [Act.put, List.setIfInBounds_toArray, List.set_cons_zero, List.set_cons_succ, i64_w, i32_w]; rfl
   refine pure_ (i := 11) (N := some 49) (v := ?_) (a' := ?_) #[true, true, true, true, true, true, true, true, true, true, true, true, false, false, false] rfl rfl (by kernel_rfl) (fun _ _ _ h => h) (Or.inl ⟨by rfl, ?_⟩) ?_ ?_
   rotate_left; · intro w'; go_simp; with_reducible rfl
   rotate_left; · simp only [Act.put, List.setIfInBounds_toArray, List.set_cons_zero, List.set_cons_succ, i64_w, i32_w]; rfl
   refine pure_ (i := 12) (N := some 50) (v := ?_) (a' := ?_) #[true, true, true, true, true, true, true, true, true, true, true, true, true, false, false] rfl rfl (by kernel_rfl) (fun _ _ _ h => h) (Or.inl ⟨by rfl, ?_⟩) ?_ ?_
   rotate_left; · intro w'; go_simp; with_reducible rfl
   rotate_left; · simp only [Act.put, List.setIfInBounds_toArray, List.set_cons_zero, List.set_cons_succ, i64_w, i32_w]; rfl
   refine pure_ (i := 13) (N := some 8) (v := ?_) (a' := ?_) #[true, true, true, true, true, true, true, true, true, true, true, true, true, true, false] rfl rfl (by kernel_rfl) (fun _ _ _ h => h) (Or.inl ⟨by rfl, ?_⟩) ?_ ?_
   rotate_left; · intro w'; go_simp; with_reducible rfl
   rotate_left; · simp only [Act.put, List.setIfInBounds_toArray, List.set_cons_zero, List.set_cons_succ, i64_w, i32_w]; rfl
   refine pure_ (i := 14) (N := some 9) (v := ?_) (a' := ?_) #[true, true, true, true, true, true, true, true, true, true, true, true, true, true, true] rfl rfl (by kernel_rfl) (fun _ _ _ h => h) (Or.inl ⟨by rfl, ?_⟩) ?_ ?_
   rotate_left; · intro w'; go_simp; with_reducible rfl
   rotate_left; · simp only [Act.put, List.setIfInBounds_toArray, List.set_cons_zero, List.set_cons_succ, i64_w, i32_w]; rfl
   refine done_ (by kernel_rfl) ?_
   go_wp2_with fail
   refine (normal_c t A2 c2 w7 HRt7.out HC2.out (by have := HLT.out; omega) HTW.out (HT.out.below HB7.out)).mono ?_
   rintro e w8 ⟨v8, rfl, hv8, hb8⟩
   rw [HI.out] at hv8 ⊢
   dsimp only at hv8 ⊢
   obtain ⟨A8, c8, e8⟩ := Kd.R_slice hv8
   subst e8
   have HR8 := Aside0.mk (Kd.R_reads' hv8).2.2
   have HC8 := Aside0.mk (Kd.R_reads' hv8).2.1
   have HB8 := Aside0.mk (below_then HB7.out HB7.out.size hb8)
   have HRt8 := Aside0.mk (Kd.C_below HRt7.out hb8)
   have HR78 := Aside0.mk (Kd.C_below HR7.out hb8)
   clear hv8 hb8
   go_wp2_with fail
   refine (grapnelref18_Same.calls K2 A2 c2 t A8 c8 t true w8 HRt8.out HC2.out HR8.out HC8.out HS.out).mono ?_
   rintro e w9 ⟨rfl, ⟨nd, rfl⟩⟩
   have HB9 := Aside0.mk (below_then HB8.out HB8.out.size (pw_below_drewN (Below.refl w8.heap.size w8) nd))
   have HRt9 := Aside0.mk (Kd.C_drewN HRt8.out nd)
   have HR79 := Aside0.mk (Kd.C_drewN HR78.out nd)
   go_wp2_with fail
   refine (grapnelref18_Same.calls K2 A2 c2 t A7 c7 t true _ HRt9.out HC2.out HR79.out HC7.out HS.out).mono ?_
   rintro e w10 ⟨rfl, ⟨nd2, rfl⟩⟩
   have HB10 : Aside0 (Below w.heap.size w (w8.drewN (nd + nd2))) := ⟨below_then HB8.out HB8.out.size (pw_below_drewN (Below.refl w8.heap.size w8) _)⟩
   go_wp2_with fail
   refine (awake_c _ (HT.out.below HB10.out)).mono ?_
   rintro e w11 ⟨rfl, hb11⟩
   have HB11 := Aside0.mk (below_then HB10.out HB10.out.size hb11)
   clear hb11
   go_wp2_with fail
   go_ret
   exact ⟨rfl, HB11.out⟩
 ·
  have HE : Aside0 (normT y = ([], 5)) := ⟨hbad⟩
  clear hbad
  rw [HE.out] at hv2 ⊢
  dsimp only at hv2 ⊢
  obtain ⟨A2, c2, e2⟩ := Kd.R_slice hv2
  subst e2
  have HB2 := Aside0.mk (below_then HB1.out HB1.out.size hb2)
  clear hv2 hb2
  go_wp2_with fail
  refine (awake_c _ (HT.out.below HB2.out)).mono ?_
  rintro e w5 ⟨rfl, hb5⟩
  have HB5 := Aside0.mk (below_then HB2.out HB2.out.size hb5)
  clear hb5
  go_wp2_with fail
  go_ret
  exact ⟨rfl, HB5.out⟩
end Go.Proofs.YtkhblpmjmkhiiaaDoor.T
namespace Go.Proofs.YtkhblpmjmkhiiaaDoor.archiveOnce
open Go.ChangeShapes Go.WideShapes Go.ChangeAt Go.RowKit Go.Proofs.YtkhblpmjmkhiiaaDoorW.PrintWords Go.Proofs.YtkhblpmjmkhiiaaDoor.T
open Go.ChangeMaps (open_string shut_string)
set_option linter.unusedVariables false
theorem own : ownKnob Tryd.prog.godebug = none := by kernel_rfl
theorem laidOut : laidOutB Tryd.prog = true := by kernel_rfl
set_option maxRecDepth 100000 in
theorem lifted (os : Os) (started : os.Started) (H : Type) (enc : TypeId × Value → H) :
  ReturnsInHanded {} Tryd.checked os 4 .any (fun w args => (Rows.archiveOnceSpec.pre enc Tryd.prog Tryd.f4 [] false w args ∧ laidMetH Tryd.prog Rows.archiveOnceRow.laid w) ∧ sizedMet enc Tryd.prog Tryd.f4 (OpenSpec.ofChange Rows.archiveOnceSpec) false w args)
   (Rows.archiveOnceSpec.post enc Tryd.prog Tryd.f4 false true false false) := by
 refine returns_laid_shaped (C := Tryd.checked) (X := fun w _ => laidMetH Tryd.prog Rows.archiveOnceRow.laid w) own started (by kernel_rfl) Tryd.func4
  (ChangeSpec.witness_shaped (enc := enc) (C := Tryd.checked) (os := os) (X := fun w _ => laidMetH Tryd.prog Rows.archiveOnceRow.laid w) false (World.laidAll Tryd.prog os Rows.archiveOnceRow.laid) #[.slice none 0 0, .int .i64 0] 8 (World.laidAll_os _ _ _)
   (World.shaped_of_ZipB (by kernel_rfl) (by kernel_rfl)) (by kernel_rfl) (by kernel_rfl) (by kernel_rfl)
   (by rw [MakeChecks.laidMetH_plain _ _ _ (by kernel_rfl)]; exact laidMet_laidAll _ (by kernel_rfl) (by kernel_rfl))) ?_
 intro W base args ds gs before hval0 hW hsh
 have hval : ∀ (j : Nat) t v, Tryd.f4.params[j]? = some t → args[j]? = some v → Value.okWide Tryd.prog W .any base t v := hval0
 have hW' := hW
 obtain ⟨p, q, hA0, hV, rfl, hfz, hnd⟩ := hW
 have hA : DataW.TrodAll enc Tryd.prog W 0 (fun _ => true) true Tryd.f4.params.toList args.toList ds p := hA0
 rw [Tryd.params4] at hA hval
 obtain ⟨v0, vs0, d0, ds0, p0, q0, hargs, rfl, rfl, h0, r0⟩ := trodAll_cons hA
 obtain ⟨v1, vs1, d1, ds1, p1, q1, rfl, rfl, rfl, h1, r1⟩ := trodAll_cons r0
 obtain ⟨rfl, rfl, rfl⟩ := trodAll_nil r1
 obtain rfl : args = #[v0, v1] := by cases args; simp_all
 obtain ⟨rfl, rfl⟩ := trodVars_none hV
 obtain ⟨a0, len0, cap0, rfl⟩ := okWide_slice Tryd.underlying22 (hval 0 22 v0 rfl rfl)
 have k0 := h0
 have lt0 : ∀ x ∈ p0, x.block < W.heap.size := by obtain ⟨m, hm⟩ := k0; exact DataW.trod_lt m _ _ _ hm
 obtain ⟨fuel0, hf0⟩ := h0
 obtain ⟨l0, rfl, hc0, hr0, hw0⟩ := nodes_in hf0
 obtain ⟨a1, rfl, rfl, rfl, wi1⟩ := open_int Tryd.underlying3 (hval 1 3 v1 rfl rfl) h1
 clear hA0 hval0
 refine (once_law l0 a0 cap0 a1 W hr0 hc0 hw0 wi1 (tab_of hsh)).mono fun e W' ⟨he, bel⟩ => ?_
 subst he
 exact ⟨_, rfl, _, _, _, [], _, [], hW', trodAll_mk1 (shut_bool Tryd.underlying4 _), (trodAll_cons_mk (Below.trod laidOut (by kernel_rfl) (of_decide_eq_true (by kernel_rfl)) k0 bel lt0) (trodAll_cons_mk (shut_int Tryd.underlying3 wi1) trodAll_mk0)), rfl, bel.frame _, fun h => by cases h⟩
theorem over : Rows.archiveOnceRow.holds Tryd.pinned (OpenSpec.ofChange Rows.archiveOnceSpec) :=
 OpenClaim.holds_of_wide 4 Tryd.f4 rfl rfl rfl rfl rfl rfl rfl ⟨rfl, rfl, rfl, rfl, rfl⟩ rfl rfl rfl rfl rfl (by kernel_rfl) Tryd.func4 (by kernel_rfl)
  (of_decide_eq_true (by kernel_rfl)) (by unfold Func.isWrapper; first | (rw [if_pos (by decide +kernel)]; kernel_rfl) | (rw [if_neg (by decide +kernel)]; exact ⟨rfl, rfl⟩))
  (fun os started H enc _ => lifted os started H enc)
theorem card : Rows.ArchiveOnceCardSaid :=
 Claim7.holds_tied_plain_at .later [] [.data, .pinned] true (true, "b1b3e7ddabcb5e9df29832efb0e53c8d41558f707d82fe92ef03856339a099fc") true
  over (fun _ h => by cases h) (by kernel_rfl) (fun _ h => by cases h) archiveOnce_row_tie rfl ⟨rfl, rfl⟩ (by kernel_rfl) rfl
  (fun f fn hf hfn => by
   obtain rfl : f = 4 := Option.some.inj ((show Tryd.prog.funcNamed "grapnel/grapnellaw18.ArchiveOnce" = some 4 by kernel_rfl).symm.trans hf) |>.symm
   obtain rfl : fn = Tryd.f4 := (Option.some.inj (Tryd.func4.symm.trans hfn)).symm
   exact ⟨by kernel_rfl, fun j t ht => by
    rw [Tryd.params4] at ht
    have hm : t ∈ [22, 3] := by simpa using Array.mem_of_getElem? ht
    have hall : ([22, 3].all fun u => !Tryd.prog.wantsStandIn u) = true := by kernel_rfl
    exact (show Tryd.prog.wantsStandIn t = false by simpa using List.all_eq_true.1 hall t hm)⟩)
  (by kernel_rfl)
end Go.Proofs.YtkhblpmjmkhiiaaDoor.archiveOnce
namespace Go.Proofs.YtkhblpmjmkhiiaaDoor
theorem archiveOnce_card_holds : Rows.ArchiveOnceCardSaid := archiveOnce.card
#print axioms archiveOnce_card_holds
end Go.Proofs.YtkhblpmjmkhiiaaDoor
