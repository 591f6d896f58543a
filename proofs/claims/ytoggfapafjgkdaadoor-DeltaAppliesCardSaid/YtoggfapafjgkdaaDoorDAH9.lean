/- The laws DeltaBack and DeltaThere: the walks. -/
import Derived.Test.YtoggfapafjgkdaaDoorDAH8
import Derived.Test.YtoggfapafjgkdaaDoorDAH5
import Derived.Test.YtoggfapafjgkdaaDoorDAH6
import Derived.Test.YtoggfapafjgkdaaDoorDAH7

namespace Go.Proofs.YtoggfapafjgkdaaDoor.T
open Go.RowKit Go.Proofs.YtoggfapafjgkdaaDoorW.PrintWords Go.Proofs.YtoggfapafjgkdaaDoorW.PrintLast Go.Proofs.YtoggfapafjgkdaaDoorW.PrintMore Go.Proofs.YtoggfapafjgkdaaDoor.PAll
set_option linter.unusedSimpArgs false
set_option linter.unusedVariables false
noncomputable def runE : List S46 → Int → List S33 → Nat → Option (List S46) × Nat × Int
 | l, nx, [], i => (some l, i, 0)
 | l, nx, x :: r, i => if (editT l nx x).2.2 = 0 then runE (editT l nx x).1 (editT l nx x).2.1 r (i + 1) else (none, i, (editT l nx x).2.2)
noncomputable def outE : Option (List S46) × Nat × Int → List S46 × Int × Int
 | (some l, i, _) => ((normT l).1, i, (normT l).2)
 | (none, i, e) => ([], i, e)
open Classical in
noncomputable def applyT (a : List S46) (L : List S33) : List S46 × Int × Int :=
 if Formed a then outE (runE a (a.length + 1) L 0) else ([], 0, 5)
structure Gd (l : List S46) (nx : Int) (m : Nat) : Prop where
 len : l.length ≤ m
 sz : SZ l
 wf : Wf l
 lo : 0 ≤ nx
 hi : nx ≤ m + 1
theorem spot_sz {l : List S46} {p : ByteArray} (h : spotT l (pb p) = 0) : p.size ≤ 255 := by
 unfold spotT at h
 by_cases h1 : splitE (pb p) ≠ 0
 ·
  rw [if_pos h1] at h
  exact absurd h h1
 ·
  obtain ⟨t, e, _, hl⟩ := splitE_form (Decidable.not_not.1 h1)
  rw [pb_len] at hl
  exact hl
theorem Gd.snoc {l : List S46} {nx : Int} {m : Nat} (h : Gd l nx m) (hm : m < 1000000) {n : S46} (hs : n.f0.size ≤ 255) (hi : (Lit.int .i64 (ino n)).wf = true) (nx' : Int) (h0 : 0 ≤ nx') (h1 : nx' ≤ nx + 1) : Gd (l ++ [n]) nx' (m + 1) := by
 refine ⟨?_, fun q hq => ?_, h.wf.snoc hi, h0, ?_⟩
 ·
  rw [List.length_append]
  have := h.len
  simp
  omega
 ·
  rcases List.mem_append.1 hq with hq | hq
  ·
   exact h.sz q hq
  ·
   rcases List.mem_cons.1 hq with rfl | hq
   ·
    exact hs
   ·
    cases hq
 ·
  have := h.hi
  omega
theorem Gd.more {l : List S46} {nx : Int} {m : Nat} (h : Gd l nx m) : Gd l nx (m + 1) := ⟨by have := h.len; omega, h.sz, h.wf, h.lo, by have := h.hi; omega⟩
theorem Gd.new {l : List S46} {nx kind : Int} {m : Nat} (h : Gd l nx m) (hm : m < 1000000) (p d : ByteArray) : Gd (newT l nx kind p d).1 (newT l nx kind p d).2.1 (m + 1) := by
 by_cases hs : spotT l (pb p) = 0
 ·
  rw [new_ok hs]
  have hw : (Lit.int .i64 nx).wf = true := by
   have h1 := h.lo
   have h2 := h.hi
   obtain ⟨k, rfl⟩ : ∃ k : Nat, nx = (k : Int) := ⟨nx.toNat, by omega⟩
   exact nat_wf (by omega)
  exact h.snoc (n := ⟨p, ⟨nx, 0, kind, 0, 0⟩, d⟩) hm (spot_sz hs) hw (nx + 1) (by have := h.lo; omega) (Int.le_refl _)
 ·
  rw [new_bad hs]
  exact h.more
theorem Gd.edit {l : List S46} {nx : Int} {m : Nat} (h : Gd l nx m) (hm : m < 1000000) (x : S33) : Gd (editT l nx x).1 (editT l nx x).2.1 (m + 1) := by
 unfold editT
 split
 ·
  unfold removeT
  split
  ·
   exact h.more
  ·
   split
   ·
    exact h.more
   ·
    split
    ·
     exact h.more
    ·
     refine ⟨?_, fun n hn => h.sz n (List.mem_of_mem_eraseIdx hn), fun n hn => h.wf n (List.mem_of_mem_eraseIdx hn), h.lo, (show nx ≤ ((m + 1 : Nat) : Int) + 1 by have := h.hi; omega)⟩
     have := h.len
     have h2 := List.length_eraseIdx_le l (findI (pb x.f1) 0 l).toNat
     show (l.eraseIdx (findI (pb x.f1) 0 l).toNat).length ≤ m + 1
     omega
 ·
  split
  ·
   unfold linkT
   split
   ·
    exact h.more
   ·
    rename_i h0
    split
    ·
     exact h.more
    ·
     split
     ·
      exact h.more
     ·
      rename_i hs
      refine h.snoc hm (spot_sz (Decidable.not_not.1 hs)) ?_ nx h.lo (by omega)
      rcases findI_cases (pb x.f2) l 0 with ⟨e, _⟩ | ⟨k, hk, e, _⟩
      ·
       exact absurd (by rw [e]; decide) h0
      ·
       rw [e, Nat.zero_add]
       exact (show (Lit.int .i64 (ino (rd_T46 l (k : Int)))).wf = true from h.wf _ (rdn_mem hk))
  ·
   split
   ·
    unfold changeT
    split
    ·
     exact h.more
    ·
     split
     ·
      exact h.more
     ·
      split
      ·
       exact h.more
      ·
       refine ⟨?_, fun n hn => ?_, fun n hn => ?_, h.lo, (show nx ≤ ((m + 1 : Nat) : Int) + 1 by have := h.hi; omega)⟩
       ·
        have := h.len
        show (l.map _).length ≤ m + 1
        rw [List.length_map]
        omega
       ·
        obtain ⟨q, hq, rfl⟩ := List.mem_map.1 hn
        unfold fillN
        split
        ·
         exact h.sz q hq
        ·
         exact h.sz q hq
       ·
        obtain ⟨q, hq, rfl⟩ := List.mem_map.1 hn
        unfold fillN
        split
        ·
         exact h.wf q hq
        ·
         exact h.wf q hq
   ·
    split
    ·
     split
     ·
      exact h.more
     ·
      exact h.new hm _ _
    ·
     split
     ·
      split
      ·
       exact h.more
      ·
       exact h.new hm _ _
     ·
      split
      ·
       exact h.new hm _ _
      ·
       exact h.more
end Go.Proofs.YtoggfapafjgkdaaDoor.T
namespace Go.Proofs.YtoggfapafjgkdaaDoor.T
open Go.RowKit Go.Proofs.YtoggfapafjgkdaaDoorW.PrintWords Go.Proofs.YtoggfapafjgkdaaDoorW.PrintLast Go.Proofs.YtoggfapafjgkdaaDoorW.PrintMore Go.Proofs.YtoggfapafjgkdaaDoor.PAll
set_option linter.unusedSimpArgs false
set_option linter.unusedVariables false
def ApRet (r : List S46 × Int × Int) (w : World) (e : Ending) (w' : World) : Prop :=
 ∃ v, e = .returned (.tuple #[v, .int .i64 r.2.1, .int .i64 r.2.2]) ∧ Kd.R k46 46 w' w.heap.size (fun _ => True) v r.1 ∧ Below w.heap.size w w'
theorem drop33 {L : List S33} {k : Nat} (h : k < L.length) : L.drop k = rd_T33 L (k : Int) :: L.drop (k + 1) := by
 rw [List.drop_eq_getElem_cons h]
 congr 1
 simp [rd_T33, List.getD_eq_getElem?_getD, h]
set_option maxHeartbeats 16000000 in
set_option maxRecDepth 100000 in
theorem apply_c (a : List S46) (L : List S33) (A B : Option Addr) (ca cb : Nat) (w : World) (hra : Kd.C k46 w A a.length a) (hca : a.length ≤ ca) (hrb : Kd.C k33 w B L.length L) (hcb : L.length ≤ cb)
  (hla : a.length < 10000) (hlb : L.length < 10000) (hwa : Wf a) (hT : Tab w) :
  Calls Tryd.prog 18 #[.slice A a.length ca, .slice B L.length cb] w fun e w' => ApRet (applyT a L) w e w' := by
 have hu46 := Tryd.underlying46
 have hu44 := Tryd.underlying44
 have hu33 := Tryd.underlying33
 have HRA := Aside0.mk hra
 have HCA := Aside0.mk hca
 have HRB := Aside0.mk hrb
 have HCB := Aside0.mk hcb
 have HLA := Aside0.mk hla
 have HLB := Aside0.mk hlb
 have HWA := Aside0.mk hwa
 have HT := Aside0.mk hT
 obtain ⟨R, hR⟩ : ∃ R, applyT a L = R := ⟨_, rfl⟩
 have HR := Aside0.mk hR
 rw [hR]
 clear hra hca hrb hcb hla hlb hwa hT hR
 go_enter Tryd.func18, Tryd.ntmps18
 go_wp2_with fail
 refine (formed_c a A ca w HRA.out HCA.out (by have := HLA.out; omega) HWA.out HT.out).mono ?_
 rintro e w1 (⟨hFa, ga, rfl, hfa, hb1⟩ | ⟨hFa, rfl, hb1⟩)
 ·
  have HB := Aside0.mk hb1
  have HFa := Aside0.mk hFa
  have hw1 : wrap64 ((a.length : Int) + 1) = (a.length : Int) + 1 := by have := HLA.out; rw [w64 (by omega) (by omega)]
  clear hFa hfa hb1
  go_wp2_with (first | ((with_reducible refine gate_dst (N := 22) rfl ?_); refine Kd.R_lit k46 _ 46 ?hg (N := 22) ?hd (xs := ([] : List (S46))) (inner := []) (ok := fun _ => True) (okp := fun _ => True) ?hr ?hp (fun _ hk => hk) trivial (Below.refl _ _) (Nat.le_refl _) (by simp) ?_; (case hd => rfl); (case hg => rfl); (case hr => first | (go_simp; done) | (go_simp; rfl)); (case hp => exact (Reps.none _ _)); intro v299 w6 ho7 hb hg_ hnew_; clear hg_ hnew_; have n0_ := Aside0.mk (Kd.R_lower ho7 (below_size HB.out)); have n1_ := Aside0.mk (below_step HB.out hb); clear HB; have HO := n0_; have HB := n1_; clear n0_ n1_; clear hb ho7) | ((with_reducible refine gate_builtin (b := .append) (xs := #[.tmp 22, .tmp 23]) rfl ?_); at_builtin; refine Kd.R_append_rows k46 (w0 := w) w.heap.size rfl (.tmp 22) (.tmp 23) 22 46 (.agg #[(.string ⟨#[]⟩), (.int .i64 0), (.int .i64 0), (.int .i64 0), (.int .i64 0), (.int .i64 0), (.string ⟨#[]⟩)]) 72 rfl Tryd.underlying22 info46 rfl (by decide) (by omega) v299 ([] : List S46) a _ _ _ (fun _ => True) (fun _ => False) rfl rfl ?aO ?aR (fun _ _ h => h) (fun _ h => h.elim) ?aF ?aB ?aS ?aL ?_; (case aR => exact (Kd.C_below HRA.out HB.out)); (case aB => exact HB.out); (case aF => exact (fun _ _ => trivial)); (case aO => exact HO.out); (case aS => exact (below_size HB.out)); (case aL => have := HLA.out; simp; omega); intro v302 w8 ho hb hg hat; have n0_ := Aside0.mk hb; have n1_ : Aside0 (Kd.R k46 46 w8 w.heap.size (fun _ => True) v302 a) := ⟨by simpa using ho⟩; clear HB HO; have HB := n0_; have HO := n1_; clear n0_ n1_ ho hb hg hat; obtain ⟨A8, c8, e8⟩ := Kd.R_slice HO.out; subst e8) | ((with_reducible refine gate_dst (N := 29) rfl ?_); refine box_event ?hg (N := 29) ?hd (cs := #[.slice A8 a.length c8, .int .i64 ((a.length : Int) + 1)]) (t := 58) ?hr ?_; (case hd => rfl); (case hg => rfl); (case hr => first | (go_simp; done) | (go_simp; rfl)); intro gs hg w9 hbox hb; have n0_ : Aside0 (Sap w9 gs w.heap.size a ((a.length : Int) + 1)) := ⟨⟨_, hbox, Kd.R_mono (Kd.R_below (Kd.R_elderB HO.out gs (Nat.le_of_eq hg.symm)) hb) (fun _ hk => hk.2), by rw [hg]; exact below_size HB.out⟩⟩; have n1_ := Aside0.mk (below_step HB.out hb); clear HO HB; have HS := n0_; have HB := n1_; clear n0_ n1_ hbox hb hg))
  have HR2 : Aside0 (R = outE (runE a (a.length + 1) L 0)) := ⟨by
   rw [← HR.out, applyT, if_pos HFa.out]⟩
  obtain ⟨Q, hQ⟩ : ∃ Q, runE a (a.length + 1) L 0 = Q := ⟨_, rfl⟩
  have HQ := Aside0.mk hQ
  rw [hQ] at HR2
  have HGD : Aside0 (Gd a ((a.length : Int) + 1) a.length) := ⟨⟨Nat.le_refl _, fun n hn => may_size (HFa.out.1.may n hn), HWA.out, by omega, Int.le_refl _⟩⟩
  clear hQ hw1
  go_loopw [32] (fun iv wr => ∃ (k : Nat) (l : List S46) (nx : Int), k ≤ L.length ∧ iv = .int .i64 k ∧ Aside0 (runE l nx (L.drop k) k = Q) ∧ Aside0 (Gd l nx (a.length + k)) ∧ Aside0 (Sap wr gs w.heap.size l nx) ∧ Aside0 (Below w.heap.size w wr)) (fun iv _ => L.length - (intOf iv).toNat)
  case atStart => exact ⟨0, a, _, by omega, rfl, HQ, HGD, HS, HB⟩
  case round =>
   clear HB HS HGD
   obtain ⟨k, l, nx, hk, rfl, HQk, HGD, HS, HB⟩ := hrel
   by_cases hkl : k < L.length
   ·
    have HK := Aside0.mk hkl
    obtain ⟨ad, ea, x0, x1, x2, x3⟩ := at_T33 (Kd.C_below HRB.out HB.out) (k : Int) (by omega) (by omega)
    cases ea
    simp only [Int.toNat_natCast] at x0 x1 x2 x3
    have p1 : (0 ≤ (k : Int)) = True := eq_true (by omega)
    have q1 : ((k : Int) < (L.length : Int)) = True := eq_true (by omega)
    have q2 : (k < L.length) = True := eq_true hkl
    clear hkl hk
    go_wp2_with (first | ((with_reducible refine gate_dst (N := 11) rfl ?_); refine box_event ?hg (N := 11) ?hd (cs := #[.int .i64 0, .string (⟨#[]⟩ : ByteArray), .string (⟨#[]⟩ : ByteArray), .string (⟨#[]⟩ : ByteArray)]) (t := 33) ?hr ?_; (case hd => rfl); (case hg => rfl); (case hr => first | (go_simp; done) | (go_simp; rfl)); intro gx hg w5 hbox hb; have n0_ := Aside0.mk (HS.out.fresh (Nat.le_of_eq hg.symm) hb); have n1_ := Aside0.mk (below_step HB.out hb); have n2_ := Aside0.mk hbox; have n3_ : Aside0 (gs ≠ gx ∧ w.heap.size ≤ gx) := ⟨by have := HS.out.lt; have := below_size HB.out; rw [hg]; omega⟩; clear HS HB; have HS := n0_; have HB := n1_; have BK := n2_; have GX := n3_; clear n0_ n1_ n2_ n3_ hbox hb hg) | ((with_reducible refine gate_store (t := 33) rfl ?_); refine store_edit rfl rfl _ _ rfl gx _ (rd_T33 L (k : Int)) BK.out rfl rfl rfl ?_; intro w6 hS1 hS2; have n0_ := Aside0.mk (HS.out.grown hS2 GX.out.1); have n1_ := Aside0.mk (HB.out.grown hS2 HB.out.size (fun q hq => by injection hq with hq; have := GX.out.2; omega)); have n2_ := Aside0.mk hS1; clear HS HB BK hS1 hS2; have HS := n0_; have HB := n1_; have BK := n2_; clear n0_ n1_ n2_; have d0 : w6.cell? ⟨gx, 0, none⟩ = some (.int .i64 (rd_T33 L (k : Int)).f0) := (blk_cell BK.out 0).trans rfl; have d1 : w6.cell? ⟨gx, 1, none⟩ = some (.string (rd_T33 L (k : Int)).f1) := (blk_cell BK.out 1).trans rfl; have d2 : w6.cell? ⟨gx, 2, none⟩ = some (.string (rd_T33 L (k : Int)).f2) := (blk_cell BK.out 2).trans rfl; have d3 : w6.cell? ⟨gx, 3, none⟩ = some (.string (rd_T33 L (k : Int)).f3) := (blk_cell BK.out 3).trans rfl))
    clear x0 x1 x2 x3 d0 d1 d2 d3
    have hS := HS.out.sap
    have h1 := HLA.out
    have h2 := HLB.out
    have h3 := HK.out
    have h4 := HGD.out.len
    have h5 := HGD.out.hi
    obtain ⟨E, hE⟩ : ∃ E, editT l nx (rd_T33 L (k : Int)) = E := ⟨_, rfl⟩
    have HE := Aside0.mk hE
    have hedit := edit_c l gs w.heap.size nx (rd_T33 L (k : Int)) w6 hS (by omega) HGD.out.sz ⟨HGD.out.lo, by omega⟩ (HT.out.below HB.out)
    rw [hE] at hedit
    clear hS h1 h2 h3 h4 h5 hE
    refine hedit.mono ?_
    rintro e w7 ⟨rfl, hs7, hb7⟩
    have HS7 := Aside0.mk hs7
    have HB7 := Aside0.mk (HB.out.trans hb7)
    clear hs7 hb7 hedit HS HB BK
    have HQ2 : Aside0 ((if E.2.2 = 0 then runE E.1 E.2.1 (L.drop (k + 1)) (k + 1) else (none, k, E.2.2)) = Q) := ⟨by
     have := HQk.out
     rw [drop33 HK.out, runE, HE.out] at this
     exact this⟩
    by_cases h0 : E.2.2 = 0
    ·
     have HQ3 := Aside0.mk ((if_pos h0).symm.trans HQ2.out)
     have HG3 : Aside0 (Gd E.1 E.2.1 (a.length + (k + 1))) := ⟨by
      have h1 := HLA.out
      have h2 := HLB.out
      have h3 := HK.out
      have := HGD.out.edit (by omega) (rd_T33 L (k : Int))
      rw [HE.out] at this
      exact this⟩
     have z0 : (E.2.2 != 0) = false := by simpa using h0
     clear HQ2
     go_wp2_with fail
     clear h0 z0
     go_roundw
     case rel =>
      have h1 := HK.out
      have h2 := HLB.out
      exact ⟨k + 1, _, _, by omega, by rw [w64 (by omega) (by omega)]; rfl, HQ3, HG3, HS7, HB7⟩
     case measure =>
      have := HK.out
      have := HLB.out
      rw [w64 (by omega) (by omega)]
      first
       | (simp [intOf]; done)
       | (simp [intOf]; omega)
    ·
     have z0 : (E.2.2 != 0) = true := by simpa using h0
     have HF : Aside0 (ApRet R w (.returned (.tuple #[.slice none 0 0, .int .i64 (k : Int), .int .i64 E.2.2])) w7) := ⟨by
      have e := (if_neg h0).symm.trans HQ2.out
      rw [HR2.out, ← e]
      exact ⟨_, rfl, Kd.R_nil _ _ _ _ _, HB7.out⟩⟩
     clear h0
     go_wp2_with fail
     go_ret3
     exact HF.out
   ·
    have hke : k = L.length := by omega
    subst hke
    have q1 : ((L.length : Int) < (L.length : Int)) = False := eq_false (by omega)
    have q2 : (L.length < L.length) = False := eq_false (by omega)
    have HQ3 : Aside0 (Q = (some l, L.length, 0)) := ⟨by
     have := HQk.out
     rw [List.drop_length] at this
     exact this.symm⟩
    obtain ⟨v, g9, r9, hge⟩ := HS.out
    obtain ⟨A9, c9, e9⟩ := Kd.R_slice r9
    subst e9
    have c0 : wr.cell? ⟨gs, 0, none⟩ = some (.slice A9 l.length c9) := (blk_cell g9 0).trans rfl
    have HN := Aside0.mk (normal_c l A9 c9 wr (Kd.R_reads' r9).2.2 (Kd.R_reads' r9).2.1 (by have := HGD.out.len; have := HLA.out; have := HLB.out; omega) HGD.out.wf (HT.out.below HB.out))
    clear hkl hk g9 r9 hge
    go_wp2_with fail
    refine HN.out.mono ?_
    rintro e w9 ⟨v9, rfl, hv9, hb9⟩
    have HF : Aside0 (ApRet R w (.returned (.tuple #[v9, .int .i64 (L.length : Int), .int .i64 (normT l).2])) w9) := ⟨by
     rw [HR2.out, HQ3.out]
     exact ⟨_, rfl, Kd.R_lower hv9 (below_size HB.out), below_step HB.out hb9⟩⟩
    clear hv9 hb9 c0
    go_wp2_with fail
    go_ret3
    exact HF.out
 ·
  have HF : Aside0 (ApRet R w (.returned (.tuple #[.slice none 0 0, .int .i64 0, .int .i64 5])) w1) := ⟨by
   rw [← HR.out, applyT, if_neg hFa]
   exact ⟨_, rfl, Kd.R_nil _ _ _ _ _, hb1⟩⟩
  clear hFa hb1
  go_wp2_with fail
  go_ret3
  exact HF.out
end Go.Proofs.YtoggfapafjgkdaaDoor.T
namespace Go.Proofs.YtoggfapafjgkdaaDoor.T
open Go.RowKit Go.Proofs.YtoggfapafjgkdaaDoorW.PrintWords Go.Proofs.YtoggfapafjgkdaaDoorW.PrintLast Go.Proofs.YtoggfapafjgkdaaDoorW.PrintMore Go.Proofs.YtoggfapafjgkdaaDoor.PAll
set_option linter.unusedSimpArgs false
set_option linter.unusedVariables false
theorem may_1 {n : S46} (hs : splitE (pth n) = 0) (hk : knd n = 1) (hd : (dat n).length ≤ 5675264) : mayN n = true := by
 unfold mayN
 rw [if_pos hs, if_neg (by omega), if_pos ⟨hk, hd⟩]
theorem may_2 {n : S46} (hs : splitE (pth n) = 0) (hk : knd n = 2) (hd : dat n = []) : mayN n = true := by
 unfold mayN
 rw [if_pos hs, if_pos hk]
 exact decide_eq_true hd
theorem may_3 {n : S46} (hs : splitE (pth n) = 0) (hk : knd n = 3) (hd : splitE (dat n) = 0) : mayN n = true := by
 unfold mayN
 rw [if_pos hs, if_neg (by omega), if_neg (by omega), if_pos hk]
 exact decide_eq_true hd
theorem may_file {n : S46} (h : mayN n = true) (hk : knd n = 1) : (dat n).length ≤ 5675264 := by
 unfold mayN at h
 rw [if_pos (may_split h), if_neg (by omega)] at h
 by_cases q : knd n = 1 ∧ (dat n).length ≤ 5675264
 ·
  exact q.2
 ·
  rw [if_neg q, if_neg (by omega)] at h
  cases h
theorem spot_ok {l : List S46} {p : List UInt8} (h : spotT l p = 0) : splitE p = 0 ∧ (∀ m ∈ l, pth m ≠ p) ∧ ∃ d ∈ l, pth d = abv p ∧ knd d = 2 := by
 unfold spotT at h
 by_cases h1 : splitE p ≠ 0
 ·
  rw [if_pos h1] at h
  exact absurd h h1
 ·
  rw [if_neg h1] at h
  by_cases h2 : 0 ≤ findI p 0 l
  ·
   rw [if_pos h2] at h
   cases h
  ·
   rw [if_neg h2] at h
   by_cases h3 : findI (abv p) 0 l < 0
   ·
    rw [if_pos h3] at h
    cases h
   ·
    rw [if_neg h3] at h
    by_cases h4 : knd (rd_T46 l (findI (abv p) 0 l)) ≠ 2
    ·
     rw [if_pos h4] at h
     cases h
    ·
     refine ⟨Decidable.not_not.1 h1, ?_, ?_⟩
     ·
      rcases findI_cases p l 0 with ⟨_, e⟩ | ⟨k, hk, e, _⟩
      ·
       exact e
      ·
       exact absurd (by rw [e]; omega) h2
     ·
      rcases findI_cases (abv p) l 0 with ⟨e, _⟩ | ⟨k, hk, e, e1, _⟩
      ·
       exact absurd (by rw [e]; decide) h3
      ·
       rw [e, Nat.zero_add] at h4
       exact ⟨_, rdn_mem hk, e1, Decidable.not_not.1 h4⟩
theorem Tree.snoc {l : List S46} (T : Tree l) {n : S46} (hm : mayN n = true) (hp : ∀ m ∈ l, pth m ≠ pth n) (hd : ∃ d ∈ l, pth d = abv (pth n) ∧ knd d = 2)
  (ht : ∀ m ∈ l, ino m = ino n → knd m = 1 ∧ knd n = 1 ∧ dat m = dat n) : Tree (l ++ [n]) := by
 have M : ∀ {q : S46}, q ∈ l ++ [n] → q ∈ l ∨ q = n := fun {q} hq => by
  rcases List.mem_append.1 hq with hq | hq
  ·
   exact .inl hq
  ·
   exact .inr (List.mem_singleton.1 hq)
 refine ⟨fun q hq => ?_, ?_, ?_, fun q hq hr => ?_, fun q hq m hmm e => ?_⟩
 ·
  rcases M hq with hq | rfl
  ·
   exact T.may q hq
  ·
   exact hm
 ·
  rw [List.map_append]
  refine List.nodup_append.2 ⟨T.nodup, by simp, fun a ha b hb => ?_⟩
  obtain ⟨q, hq, rfl⟩ := List.mem_map.1 ha
  obtain rfl : b = pth n := by simpa using hb
  exact hp q hq
 ·
  obtain ⟨r, hr, e⟩ := T.root
  exact ⟨r, List.mem_append_left _ hr, e⟩
 ·
  rcases M hq with hq | rfl
  ·
   obtain ⟨d, hd, e⟩ := T.up q hq hr
   exact ⟨d, List.mem_append_left _ hd, e⟩
  ·
   obtain ⟨d, hd, e⟩ := hd
   exact ⟨d, List.mem_append_left _ hd, e⟩
 ·
  rcases M hq with hq1 | rfl
  ·
   rcases M hmm with hm1 | rfl
   ·
    exact T.twins q hq1 m hm1 e
   ·
    exact .inr (ht q hq1 e)
  ·
   rcases M hmm with hmm | rfl
   ·
    obtain ⟨h1, h2, h3⟩ := ht m hmm e.symm
    exact .inr ⟨h2, h1, h3.symm⟩
   ·
    exact .inl rfl
def Inv (l : List S46) (nx : Int) : Prop := Tree l ∧ ∀ n ∈ l, ino n < nx
theorem inv_new {l : List S46} {nx kind : Int} {p d : ByteArray} (h : Inv l nx) (hk : splitE (pb p) = 0 → mayN ⟨p, ⟨nx, 0, kind, 0, 0⟩, d⟩ = true) (h0 : (newT l nx kind p d).2.2 = 0) : Inv (newT l nx kind p d).1 (newT l nx kind p d).2.1 := by
 by_cases hs : spotT l (pb p) = 0
 ·
  rw [new_ok hs]
  obtain ⟨h1, h2, h3⟩ := spot_ok hs
  refine ⟨h.1.snoc (hk h1) h2 h3 (fun m hm e => ?_), fun n hn => ?_⟩
  ·
   have := h.2 m hm
   have e2 : ino m = nx := e
   omega
  ·
   show ino n < nx + 1
   rcases List.mem_append.1 hn with hn | hn
   ·
    have := h.2 n hn
    omega
   ·
    obtain rfl := List.mem_singleton.1 hn
    show nx < nx + 1
    omega
 ·
  rw [new_bad hs] at h0
  exact absurd h0 hs
theorem Tree.node {l : List S46} (T : Tree l) {n m : S46} (hn : n ∈ l) (hm : m ∈ l) (e : pth n = pth m) : n = m := by
 obtain ⟨i, hi, rfl⟩ := List.mem_iff_getElem.1 hn
 obtain ⟨j, hj, rfl⟩ := List.mem_iff_getElem.1 hm
 have := nodup_at T.nodup hi hj e
 subst this
 rfl
theorem mem_erase_path {l : List S46} (T : Tree l) {i : Nat} (hi : i < l.length) {n : S46} : n ∈ l.eraseIdx i ↔ n ∈ l ∧ pth n ≠ pth (rd_T46 l (i : Int)) := by
 have e0 : rd_T46 l (i : Int) = l[i] := rd_at hi
 rw [List.mem_eraseIdx_iff_getElem]
 constructor
 ·
  rintro ⟨j, hj, hne, rfl⟩
  refine ⟨List.getElem_mem hj, fun e => hne ?_⟩
  rw [e0] at e
  exact nodup_at T.nodup hj hi e
 ·
  rintro ⟨hn, hne⟩
  obtain ⟨j, hj, rfl⟩ := List.mem_iff_getElem.1 hn
  refine ⟨j, hj, fun e => hne ?_, rfl⟩
  subst e
  rw [e0]
theorem inv_remove {l : List S46} {nx : Int} {p : List UInt8} (h : Inv l nx) (h0 : (removeT l p).2 = 0) : Inv (removeT l p).1 nx := by
 unfold removeT at h0 ⊢
 by_cases h1 : findI p 0 l < 0
 ·
  rw [if_pos h1] at h0
  cases h0
 ·
  rw [if_neg h1] at h0 ⊢
  by_cases h2 : p = [47]
  ·
   rw [if_pos h2] at h0
   cases h0
  ·
   rw [if_neg h2] at h0 ⊢
   by_cases h3 : ∃ n ∈ l, childN p n
   ·
    rw [if_pos h3] at h0
    cases h0
   ·
    rw [if_neg h3] at h0 ⊢
    rcases findI_cases p l 0 with ⟨e, _⟩ | ⟨i, hi, e, e1, _⟩
    ·
     exact absurd (by rw [e]; decide) h1
    ·
     rw [e, Nat.zero_add, Int.toNat_natCast]
     have T := h.1
     have M := fun n => mem_erase_path T hi (n := n)
     refine ⟨⟨fun n hn => T.may n ((M n).1 hn).1, ?_, ?_, fun n hn hr => ?_, fun n hn m hm => T.twins n ((M n).1 hn).1 m ((M m).1 hm).1⟩, fun n hn => h.2 n ((M n).1 hn).1⟩
     ·
      exact T.nodup.sublist ((List.eraseIdx_sublist l i).map pth)
     ·
      obtain ⟨r, hr, er, ek⟩ := T.root
      exact ⟨r, (M r).2 ⟨hr, by rw [er, e1]; exact fun q => h2 q.symm⟩, er, ek⟩
     ·
      obtain ⟨d, hd, ed, ek⟩ := T.up n ((M n).1 hn).1 hr
      refine ⟨d, (M d).2 ⟨hd, fun q => h3 ⟨n, ((M n).1 hn).1, hr, ?_⟩⟩, ed, ek⟩
      rw [← ed, q, e1]
theorem inv_link {l : List S46} {nx : Int} {p : ByteArray} {tt : List UInt8} (h : Inv l nx) (h0 : (linkT l p tt).2 = 0) : Inv (linkT l p tt).1 nx := by
 unfold linkT at h0 ⊢
 by_cases h1 : findI tt 0 l < 0
 ·
  rw [if_pos h1] at h0
  cases h0
 ·
  rw [if_neg h1] at h0 ⊢
  rcases findI_cases tt l 0 with ⟨e, _⟩ | ⟨k, hk, e, e1, _⟩
  ·
   exact absurd (by rw [e]; decide) h1
  ·
   rw [e, Nat.zero_add] at h0 ⊢
   by_cases h2 : knd (rd_T46 l (k : Int)) ≠ 1
   ·
    rw [if_pos h2] at h0
    cases h0
   ·
    rw [if_neg h2] at h0 ⊢
    by_cases h3 : spotT l (pb p) ≠ 0
    ·
     rw [if_pos h3] at h0
     exact absurd h0 h3
    ·
     rw [if_neg h3]
     obtain ⟨s1, s2, s3⟩ := spot_ok (Decidable.not_not.1 h3)
     have hmem : rd_T46 l (k : Int) ∈ l := rdn_mem hk
     have hkind : knd (rd_T46 l (k : Int)) = 1 := Decidable.not_not.1 h2
     refine ⟨h.1.snoc (n := ⟨p, (rd_T46 l (k : Int)).f1, (rd_T46 l (k : Int)).f2⟩) (may_1 s1 hkind (show (dat (rd_T46 l (k : Int))).length ≤ 5675264 from may_file (h.1.may _ hmem) hkind)) s2 s3 (fun m hm em => ?_), fun n hn => ?_⟩
     ·
      rcases h.1.twins m hm _ hmem em with q | q
      ·
       have := h.1.node hm hmem q
       subst this
       exact ⟨hkind, hkind, rfl⟩
      ·
       exact q
     ·
      rcases List.mem_append.1 hn with hn | hn
      ·
       exact h.2 n hn
      ·
       obtain rfl := List.mem_singleton.1 hn
       exact (show ino (rd_T46 l (k : Int)) < nx from h.2 _ hmem)
theorem inv_change {l : List S46} {nx : Int} {p : List UInt8} {d : ByteArray} (h : Inv l nx) (h0 : (changeT l p d).2 = 0) : Inv (changeT l p d).1 nx := by
 unfold changeT at h0 ⊢
 by_cases h1 : findI p 0 l < 0
 ·
  rw [if_pos h1] at h0
  cases h0
 ·
  rw [if_neg h1] at h0 ⊢
  rcases findI_cases p l 0 with ⟨e, _⟩ | ⟨k, hk, e, e1, _⟩
  ·
   exact absurd (by rw [e]; decide) h1
  ·
   rw [e, Nat.zero_add] at h0 ⊢
   by_cases h2 : knd (rd_T46 l (k : Int)) ≠ 1
   ·
    rw [if_pos h2] at h0
    cases h0
   ·
    rw [if_neg h2] at h0 ⊢
    by_cases h3 : (d.size : Int) > 5675264
    ·
     rw [if_pos h3] at h0
     cases h0
    ·
     rw [if_neg h3]
     have hmem : rd_T46 l (k : Int) ∈ l := rdn_mem hk
     have hkind : knd (rd_T46 l (k : Int)) = 1 := Decidable.not_not.1 h2
     generalize rd_T46 l (k : Int) = x at hmem hkind
     have T := h.1
     have K1 : ∀ n ∈ l, ino n = ino x → knd n = 1 := fun n hn en => by
      rcases T.twins n hn x hmem en with q | q
      ·
       rw [T.node hn hmem q]
       exact hkind
      ·
       exact q.1
     have P : ∀ n, pth (fillN (ino x) d n) = pth n := fun n => by unfold fillN; split <;> rfl
     have KD : ∀ n, knd (fillN (ino x) d n) = knd n := fun n => by unfold fillN; split <;> rfl
     have IN : ∀ n, ino (fillN (ino x) d n) = ino n := fun n => by unfold fillN; split <;> rfl
     refine ⟨⟨fun n hn => ?_, ?_, ?_, fun n hn hr => ?_, fun n hn m hm en => ?_⟩, fun n hn => ?_⟩
     ·
      obtain ⟨q, hq, rfl⟩ := List.mem_map.1 hn
      by_cases hi : ino q = ino x
      ·
       refine may_1 (by rw [P]; exact may_split (T.may q hq)) (by rw [KD]; exact K1 q hq hi) ?_
       unfold fillN
       rw [if_pos hi]
       show (pb d).length ≤ _
       rw [pb_len]
       omega
      ·
       unfold fillN
       rw [if_neg hi]
       exact T.may q hq
     ·
      rw [List.map_map, show (pth ∘ fillN (ino x) d) = pth from funext P]
      exact T.nodup
     ·
      obtain ⟨r, hr, er, ek⟩ := T.root
      exact ⟨_, List.mem_map.2 ⟨r, hr, rfl⟩, by rw [P]; exact er, by rw [KD]; exact ek⟩
     ·
      obtain ⟨q, hq, rfl⟩ := List.mem_map.1 hn
      rw [P] at hr ⊢
      obtain ⟨b, hb, eb, ek⟩ := T.up q hq hr
      exact ⟨_, List.mem_map.2 ⟨b, hb, rfl⟩, by rw [P]; exact eb, by rw [KD]; exact ek⟩
     ·
      obtain ⟨q, hq, rfl⟩ := List.mem_map.1 hn
      obtain ⟨r, hr, rfl⟩ := List.mem_map.1 hm
      rw [IN, IN] at en
      by_cases hi : ino q = ino x
      ·
       refine .inr ⟨by rw [KD]; exact K1 q hq hi, by rw [KD]; exact K1 r hr (en.symm.trans hi), ?_⟩
       unfold fillN
       rw [if_pos hi, if_pos (en.symm.trans hi)]
       rfl
      ·
       rw [P, P, KD, KD]
       have e1 : fillN (ino x) d q = q := by unfold fillN; rw [if_neg hi]
       have e2 : fillN (ino x) d r = r := by unfold fillN; rw [if_neg (fun z => hi (en.trans z))]
       rw [e1, e2]
       exact T.twins q hq r hr en
     ·
      obtain ⟨q, hq, rfl⟩ := List.mem_map.1 hn
      rw [IN]
      exact h.2 q hq
theorem inv_edit {l : List S46} {nx : Int} {x : S33} (h : Inv l nx) (h0 : (editT l nx x).2.2 = 0) : Inv (editT l nx x).1 (editT l nx x).2.1 := by
 unfold editT at h0 ⊢
 by_cases h1 : x.f0 = 1
 ·
  rw [if_pos h1] at h0 ⊢
  exact inv_remove h h0
 rw [if_neg h1] at h0 ⊢
 by_cases h5 : x.f0 = 5
 ·
  rw [if_pos h5] at h0 ⊢
  exact inv_link h h0
 rw [if_neg h5] at h0 ⊢
 by_cases h6 : x.f0 = 6
 ·
  rw [if_pos h6] at h0 ⊢
  exact inv_change h h0
 rw [if_neg h6] at h0 ⊢
 by_cases h4 : x.f0 = 4
 ·
  rw [if_pos h4] at h0 ⊢
  by_cases hs : splitE (pb x.f2) ≠ 0
  ·
   rw [if_pos hs] at h0
   exact absurd h0 hs
  ·
   rw [if_neg hs] at h0 ⊢
   exact inv_new h (fun q => may_3 q rfl (Decidable.not_not.1 hs)) h0
 rw [if_neg h4] at h0 ⊢
 by_cases h3 : x.f0 = 3
 ·
  rw [if_pos h3] at h0 ⊢
  by_cases hs : (x.f3.size : Int) > 5675264
  ·
   rw [if_pos hs] at h0
   cases h0
  ·
   rw [if_neg hs] at h0 ⊢
   exact inv_new h (fun q => may_1 q rfl (show (pb x.f3).length ≤ _ by rw [pb_len]; omega)) h0
 rw [if_neg h3] at h0 ⊢
 by_cases h2 : x.f0 = 2
 ·
  rw [if_pos h2] at h0 ⊢
  exact inv_new h (fun q => may_2 q rfl rfl) h0
 ·
  rw [if_neg h2] at h0
  cases h0
theorem Formed.inv {a : List S46} (h : Formed a) : Inv a ((a.length : Int) + 1) := ⟨h.1, fun n hn => by
 obtain ⟨k, hk, e⟩ := h.ir n hn
 omega⟩
end Go.Proofs.YtoggfapafjgkdaaDoor.T
namespace Go.Proofs.YtoggfapafjgkdaaDoor.T
open Go.RowKit Go.Proofs.YtoggfapafjgkdaaDoorW.PrintWords Go.Proofs.YtoggfapafjgkdaaDoorW.PrintLast Go.Proofs.YtoggfapafjgkdaaDoorW.PrintMore Go.Proofs.YtoggfapafjgkdaaDoor.PAll
set_option linter.unusedSimpArgs false
set_option linter.unusedVariables false
def vw (n : S46) : ByteArray × Int × ByteArray := (n.f0, knd n, n.f2)
def Tw (n m : S46) : Prop := vw n = vw m
theorem Tw.f0 {n m : S46} (h : Tw n m) : n.f0 = m.f0 := congrArg (fun x => x.1) h
theorem Tw.pth {n m : S46} (h : Tw n m) : T.pth n = T.pth m := congrArg pb h.f0
theorem Tw.knd {n m : S46} (h : Tw n m) : T.knd n = T.knd m := congrArg (fun x => x.2.1) h
theorem Tw.f2 {n m : S46} (h : Tw n m) : n.f2 = m.f2 := congrArg (fun x => x.2.2) h
theorem Tw.dat {n m : S46} (h : Tw n m) : T.dat n = T.dat m := congrArg pb h.f2
theorem Tw.mk {n m : S46} (h : n.f0 = m.f0) (h2 : T.knd n = T.knd m) (h3 : n.f2 = m.f2) : Tw n m := by
 unfold Tw vw
 rw [h, h2, h3]
structure Like (s a : List S46) : Prop where
 fwd : ∀ n ∈ s, ∃ m ∈ a, Tw n m
 bwd : ∀ m ∈ a, ∃ n ∈ s, Tw n m
 pat : ∀ n ∈ s, ∀ n' ∈ s, ∀ m ∈ a, ∀ m' ∈ a, Tw n m → Tw n' m' → (ino n = ino n' ↔ ino m = ino m')
theorem tw_sorted : ∀ (s a : List S46), SS s → SS a → (∀ n ∈ s, ∃ m ∈ a, Tw n m) → (∀ m ∈ a, ∃ n ∈ s, Tw n m) → s.map vw = a.map vw
 | [], [], _, _, _, _ => rfl
 | [], y :: b, _, _, _, h => by
  obtain ⟨n, hn, _⟩ := h y (List.mem_cons_self ..)
  cases hn
 | x :: a, [], _, _, h, _ => by
  obtain ⟨n, hn, _⟩ := h x (List.mem_cons_self ..)
  cases hn
 | x :: a, y :: b, ha, hb, hf, hg => by
  have ha1 := List.pairwise_cons.1 ha
  have hb1 := List.pairwise_cons.1 hb
  have hxy : Tw x y := by
   obtain ⟨m, hm, e⟩ := hf x (List.mem_cons_self ..)
   rcases List.mem_cons.1 hm with rfl | hm
   ·
    exact e
   ·
    obtain ⟨n, hn, e2⟩ := hg y (List.mem_cons_self ..)
    rcases List.mem_cons.1 hn with rfl | hn
    ·
     exact e2
    ·
     have h1 := hb1.1 m hm
     have h2 := ha1.1 n hn
     rw [← e.pth] at h1
     rw [e2.pth] at h2
     exact absurd (key_trans h1 h2) (key_irrefl _)
  rw [List.map_cons, List.map_cons, show vw x = vw y from hxy, tw_sorted a b ha1.2 hb1.2 (fun z hz => ?_) (fun z hz => ?_)]
  ·
   obtain ⟨m, hm, e⟩ := hf z (List.mem_cons_of_mem _ hz)
   rcases List.mem_cons.1 hm with rfl | hm
   ·
    have h1 := ha1.1 z hz
    rw [e.pth, hxy.pth] at h1
    exact absurd h1 (key_irrefl _)
   ·
    exact ⟨m, hm, e⟩
  ·
   obtain ⟨m, hm, e⟩ := hg z (List.mem_cons_of_mem _ hz)
   rcases List.mem_cons.1 hm with rfl | hm
   ·
    have h1 := hb1.1 z hz
    rw [← e.pth, ← hxy.pth] at h1
    exact absurd h1 (key_irrefl _)
   ·
    exact ⟨m, hm, e⟩
theorem map_vw {s a : List S46} (h : s.map vw = a.map vw) : s.length = a.length ∧ ∀ (i : Nat) (h1 : i < s.length) (h2 : i < a.length), Tw s[i] a[i] := by
 have hl : s.length = a.length := by
  have := congrArg List.length h
  simpa using this
 refine ⟨hl, fun i h1 h2 => ?_⟩
 have := congrArg (fun l => l[i]?) h
 show vw s[i] = vw a[i]
 simpa [h1, h2] using this
theorem fst_alike (x y : Int) : ∀ (s a : List S46) (j : Nat), s.length = a.length → (∀ (i : Nat) (h1 : i < s.length) (h2 : i < a.length), ino s[i] = x ↔ ino a[i] = y) → fstI x j s = fstI y j a ∧ cnt x s = cnt y a
 | [], [], j, _, _ => ⟨rfl, rfl⟩
 | [], m :: r, j, h, _ => by simp at h
 | n :: r, [], j, h, _ => by simp at h
 | n :: s, m :: a, j, h, hi => by
  obtain ⟨h1, h2⟩ := fst_alike x y s a (j + 1) (by simpa using h) (fun i q1 q2 => by
   have := hi (i + 1) (by simpa using q1) (by simpa using q2)
   simpa using this)
  have h0 : ino n = x ↔ ino m = y := by
   have := hi 0 (by simp) (by simp)
   simpa using this
  unfold fstI cnt
  by_cases e : ino n = x
  ·
   rw [if_pos e, if_pos (h0.1 e), if_pos e, if_pos (h0.1 e), h2]
   exact ⟨rfl, rfl⟩
  ·
   rw [if_neg e, if_neg (fun q => e (h0.2 q)), if_neg e, if_neg (fun q => e (h0.2 q)), h1, h2]
   exact ⟨rfl, rfl⟩
theorem canon_alike {s a : List S46} (h : s.map vw = a.map vw) (hp : ∀ (i j : Nat) (h1 : i < s.length) (h2 : j < s.length) (h3 : i < a.length) (h4 : j < a.length), ino s[i] = ino s[j] ↔ ino a[i] = ino a[j]) : canon s = canon a := by
 obtain ⟨hl, ht⟩ := map_vw h
 apply List.ext_getElem
 ·
  rw [canon_len, canon_len, hl]
 ·
  intro i h1 h2
  rw [canon_len] at h1 h2
  simp only [canon, List.getElem_map]
  obtain ⟨e1, e2⟩ := fst_alike (ino s[i]) (ino a[i]) s a 0 hl (fun k q1 q2 => hp k i q1 h1 q2 h2)
  have e3 := ht i h1 h2
  simp only [statOf]
  rw [e1, e2, e3.f0, e3.f2, e3.knd, e3.dat]
theorem Like.norm {s a : List S46} (S : Tree s) (A : Tree a) (h : Like s a) : normT s = normT a := by
 unfold normT
 rw [if_pos S, if_pos A]
 have ps := sortT_perm s
 have pa := sortT_perm a
 have ss := sortT_ss (fun n hn => may_clean (S.may n hn)) S.nodup
 have sa := sortT_ss (fun n hn => may_clean (A.may n hn)) A.nodup
 have hv := tw_sorted _ _ ss sa (fun n hn => by
  obtain ⟨m, hm, e⟩ := h.fwd n (ps.mem_iff.1 hn)
  exact ⟨m, pa.mem_iff.2 hm, e⟩) (fun n hn => by
  obtain ⟨m, hm, e⟩ := h.bwd n (pa.mem_iff.1 hn)
  exact ⟨m, ps.mem_iff.2 hm, e⟩)
 obtain ⟨hl, ht⟩ := map_vw hv
 rw [canon_alike hv (fun i j h1 h2 h3 h4 => h.pat _ (ps.mem_iff.1 (List.getElem_mem h1)) _ (ps.mem_iff.1 (List.getElem_mem h2)) _ (pa.mem_iff.1 (List.getElem_mem h3)) _ (pa.mem_iff.1 (List.getElem_mem h4)) (ht i h1 h3) (ht j h2 h4))]
theorem Like.refl (l : List S46) (T : Tree l) : Like l l :=
 ⟨fun n hn => ⟨n, hn, rfl⟩, fun n hn => ⟨n, hn, rfl⟩, fun n hn n' hn' m hm m' hm' e e' => by
  rw [T.node hn hm e.pth, T.node hn' hm' e'.pth]⟩
theorem canon_ss {s : List S46} (h : SS s) : SS (canon s) := by
 unfold SS canon
 rw [List.pairwise_map]
 exact h
theorem Formed.ss {l : List S46} (h : Formed l) : SS l := by
 rw [← h.2]
 exact canon_ss (sortT_ss (fun n hn => may_clean (h.1.may n hn)) h.1.nodup)
end Go.Proofs.YtoggfapafjgkdaaDoor.T
namespace Go.Proofs.YtoggfapafjgkdaaDoor.T
open Go.RowKit Go.Proofs.YtoggfapafjgkdaaDoorW.PrintWords Go.Proofs.YtoggfapafjgkdaaDoorW.PrintLast Go.Proofs.YtoggfapafjgkdaaDoorW.PrintMore Go.Proofs.YtoggfapafjgkdaaDoor.PAll
set_option linter.unusedSimpArgs false
set_option linter.unusedVariables false
def Run (l : List S46) (nx : Int) (L : List S33) (l' : List S46) (nx' : Int) : Prop := ∀ (q : List S33) (i : Nat), runE l nx (L ++ q) i = runE l' nx' q (i + L.length)
theorem Run.nil (l : List S46) (nx : Int) : Run l nx [] l nx := fun q i => rfl
theorem Run.append {l l1 l2 : List S46} {nx n1 n2 : Int} {L M : List S33} (h : Run l nx L l1 n1) (k : Run l1 n1 M l2 n2) : Run l nx (L ++ M) l2 n2 := fun q i => by
 rw [List.append_assoc, h, k, List.length_append, Nat.add_assoc]
theorem Run.out {l l1 : List S46} {nx n1 : Int} {L : List S33} (h : Run l nx L l1 n1) : runE l nx L 0 = (some l1, L.length, 0) := by
 have := h [] 0
 rw [List.append_nil] at this
 rw [this, Nat.zero_add]
 rfl
end Go.Proofs.YtoggfapafjgkdaaDoor.T
namespace Go.Proofs.YtoggfapafjgkdaaDoor.T
open Go.RowKit Go.Deep Go.Proofs.YtoggfapafjgkdaaDoorW.PrintWords Go.Proofs.YtoggfapafjgkdaaDoorW.PrintLast Go.Proofs.YtoggfapafjgkdaaDoorW.PrintMore Go.Proofs.YtoggfapafjgkdaaDoor.PAll
set_option linter.unusedSimpArgs false
set_option linter.unusedVariables false
theorem c33 : Tryd.prog.cellsOf 33 = 4 := by kernel_rfl
theorem edit_at {H : Type} {enc : TypeId × Value → H} {w : World} {base n : Nat} {spare : Nat → Bool} {held : Bool} {cs' : List Value} {y : DataW H × List MemPlace}
  (h : DataW.trod enc Tryd.prog w base spare held n 33 cs' = some y) : ∃ m : S33, cs' = [.int .i64 m.f0, .string m.f1, .string m.f2, .string m.f3] := by
 obtain ⟨ys, n', hn', hy, hlen, hyl, hf⟩ := DataW.trod_struct Tryd.underlying33 h
 rw [c33] at hlen
 have hys : ys.length = 4 := hyl
 have f0 : DataW.trod enc Tryd.prog w base spare held n' 3 ((cs'.drop 0).take (Tryd.prog.cellsOf 3)) = ys[0]? := hf 0 _ rfl
 have f1 : DataW.trod enc Tryd.prog w base spare held n' 9 ((cs'.drop 1).take (Tryd.prog.cellsOf 9)) = ys[1]? := hf 1 _ rfl
 have f2 : DataW.trod enc Tryd.prog w base spare held n' 9 ((cs'.drop 2).take (Tryd.prog.cellsOf 9)) = ys[2]? := hf 2 _ rfl
 have f3 : DataW.trod enc Tryd.prog w base spare held n' 9 ((cs'.drop 3).take (Tryd.prog.cellsOf 9)) = ys[3]? := hf 3 _ rfl
 rw [List.getElem?_eq_getElem (by omega)] at f0 f1 f2 f3
 obtain ⟨a0, e0, _⟩ := int_at (by omega) f0
 obtain ⟨a1, e1⟩ := str_at (by omega) f1
 obtain ⟨a2, e2⟩ := str_at (by omega) f2
 obtain ⟨a3, e3⟩ := str_at (by omega) f3
 refine ⟨⟨a0, a1, a2, a3⟩, ?_⟩
 apply List.ext_getElem?
 intro j
 match j with
 | 0 => exact e0
 | 1 => exact e1
 | 2 => exact e2
 | 3 => exact e3
 | j + 4 =>
  rw [List.getElem?_eq_none (by omega)]
  rfl
theorem edits_in {H : Type} {enc : TypeId × Value → H} {w : World} {base fuel : Nat} {spare : Nat → Bool} {held : Bool} {a : Option Addr} {len cap : Nat} {x : DataW H × List MemPlace}
  (h : DataW.trod enc Tryd.prog w base spare held fuel 24 (Value.slice a len cap).cells.toList = some x) : ∃ l : List S33, len = l.length ∧ l.length ≤ cap ∧ Kd.C k33 w a l.length l ∧ True := by
 rcases open_slice Tryd.underlying24 h with ⟨h0, _⟩ | ⟨ad, len', cap', m, n, D, Pl, hcs, hb, hl, hm, hmm, hx, hi⟩
 ·
  simp [Value.cells] at h0
  obtain ⟨rfl, rfl, rfl⟩ := h0
  exact ⟨[], rfl, Nat.zero_le _, ⟨rfl, by decide, fun h => absurd h (by decide)⟩, trivial⟩
 ·
  simp [Value.cells] at hcs
  obtain ⟨rfl, rfl, rfl⟩ := hcs
  have F : ∀ i, ∃ n : S33, i < len → (∀ j u, ([.int .i64 n.f0, .string n.f1, .string n.f2, .string n.f3] : List Value)[j]? = some u → w.cell? (ad.add (i * 4 + j)) = some u) := by
   intro i
   by_cases hil : i < len
   ·
    obtain ⟨cs', hc, ht'⟩ := hi i (by rw [hmm]; split <;> omega)
    rw [c33] at hc
    obtain ⟨nd, e⟩ := edit_at ht'
    obtain ⟨_, hcl, hat⟩ := World.cells?_some hc
    refine ⟨nd, fun _ j u hj => ?_⟩
    have hj4 : j < 4 := (List.getElem?_eq_some_iff.1 hj).1
    have := hat j hj4
    rw [e, Addr.add_add] at this
    rw [this, hj]
   ·
    exact ⟨z33, fun q => absurd q hil⟩
  obtain ⟨f, hf⟩ := Classical.axiomOfChoice F
  have hl' : ((List.range len).map f).length = len := by rw [List.length_map, List.length_range]
  refine ⟨(List.range len).map f, hl'.symm, by rw [hl']; exact hl, ?_, trivial⟩
  rw [hl']
  refine ⟨hl', by unfold maxLen at hm; omega, fun _ => ⟨ad, rfl, fun j p hj => ?_⟩⟩
  rw [List.getElem?_map] at hj
  obtain ⟨i, hi1, hi2⟩ := Option.map_eq_some_iff.1 hj
  obtain ⟨hi3, hi4⟩ := List.getElem?_eq_some_iff.1 hi1
  rw [List.getElem_range] at hi4
  subst hi4
  rw [List.length_range] at hi3
  subst hi2
  exact ⟨[.int .i64 (f j).f0, .string (f j).f1, .string (f j).f2, .string (f j).f3], rfl, k33_mk w (f j), fun i u hu => hf j hi3 i u hu⟩
end Go.Proofs.YtoggfapafjgkdaaDoor.T
namespace Go.Proofs.YtoggfapafjgkdaaDoor.T
open Go.RowKit Go.Deep Go.Proofs.YtoggfapafjgkdaaDoorW.PrintWords Go.Proofs.YtoggfapafjgkdaaDoorW.PrintLast Go.Proofs.YtoggfapafjgkdaaDoorW.PrintMore Go.Proofs.YtoggfapafjgkdaaDoor.PAll
set_option linter.unusedSimpArgs false
set_option linter.unusedVariables false
theorem one_c (y : List S46) (A B : Option Addr) (ca cb : Nat) (w : World) (hra : Kd.C k46 w A y.length y) (hca : y.length ≤ ca) (hrb : Kd.C k46 w B y.length y) (hcb : y.length ≤ cb) (hl : y.length < 2147483648) :
  Calls Tryd.prog 20 #[.slice A y.length ca, .slice B y.length cb] w fun e w' => e = .returned (.bool true) ∧ Below w.heap.size w w' := by
 obtain ⟨K, hK⟩ := evs_get (same_ev y y hl true ⟨fun _ => rfl, fun _ => rfl⟩)
 refine (grapnelref18_Same.calls K A ca y B cb y true w hra hca hrb hcb hK).mono ?_
 rintro e w' ⟨rfl, ⟨nd, rfl⟩⟩
 exact ⟨rfl, pw_below_drewN (Below.refl w.heap.size w) nd⟩
end Go.Proofs.YtoggfapafjgkdaaDoor.T
