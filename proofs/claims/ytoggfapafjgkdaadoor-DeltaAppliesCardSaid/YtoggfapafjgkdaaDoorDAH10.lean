/- The document's Apply: the walk, and that it is delta's. -/
import Derived.Test.YtoggfapafjgkdaaDoorDAH8
import Derived.Test.YtoggfapafjgkdaaDoorDAK4
import Derived.StillTailTactics
import Derived.Test.YtoggfapafjgkdaaDoorDAH9
import Derived.Test.YtoggfapafjgkdaaDoorDAK3

namespace Go.Proofs.YtoggfapafjgkdaaDoor.T
open Go.RowKit Go.Proofs.YtoggfapafjgkdaaDoorW.PrintWords Go.Proofs.YtoggfapafjgkdaaDoorW.PrintLast Go.Proofs.YtoggfapafjgkdaaDoorW.PrintMore Go.Proofs.YtoggfapafjgkdaaDoor.PAll
set_option linter.unusedSimpArgs false
set_option linter.unusedVariables false
theorem split_size {p : ByteArray} (h : splitE (pb p) = 0) : p.size ≤ 255 := by
 obtain ⟨t, e, _, hl⟩ := splitE_form h
 rw [pb_len] at hl
 exact hl
theorem spot_rev (l : List S46) (p : ByteArray) (hl : l.length < 2147483648) : Evs (fun k => grapnelref19_spot.f k l p) (spotT l (pb p)) := by
 simp only [grapnelref19_spot.f]
 obtain ⟨r, hr, er⟩ := split_ev p
 refine evs_bind er ?_
 unfold spotT
 by_cases h0 : splitE (pb p) = 0
 ·
  rw [if_neg (fun q => q h0)]
  refine evs_pos (hr.trans h0) ?_
  refine evs_bind (find_ev l p (by omega)) ?_
  by_cases h1 : 0 ≤ findI (pb p) 0 l
  ·
   rw [if_pos h1]
   exact evs_pos h1 (evs_const _)
  ·
   rw [if_neg h1]
   refine evs_neg h1 ?_
   obtain ⟨u, hu, eu⟩ := above_ev p (by have := split_size h0; omega)
   refine evs_bind eu ?_
   refine evs_bind (find_ev l u (by omega)) ?_
   rw [hu]
   rcases findI_cases (abv (pb p)) l 0 with ⟨e, _⟩ | ⟨k, hk, e, _⟩
   ·
    rw [e]
    exact evs_pos (by decide) (evs_val (if_pos (by decide)) (evs_const _))
   ·
    rw [e, Nat.zero_add]
    refine evs_val (if_neg (by omega)) ?_
    refine evs_neg (by omega) (evs_pos (by omega) (evs_pos (by omega) ?_))
    by_cases h2 : (rd_T46 l (k : Int)).f1.f2 = 2
    ·
     exact evs_pos h2 (evs_val (if_neg (fun q => q h2)) (evs_const _))
    ·
     exact evs_neg h2 (evs_val (if_pos (show knd (rd_T46 l (k : Int)) ≠ 2 from h2)) (evs_const _))
 ·
  rw [if_pos h0]
  refine evs_neg (fun q => h0 (hr.symm.trans q)) ?_
  rw [hr]
  exact evs_const _
open Classical in
theorem remove_l0 (l : List S46) (p : ByteArray) (i : Nat) (hi : i < l.length) (hl : l.length < 10000000) (hz : SZ l) : ∀ (n j : Nat), j + n = l.length →
  Evs (fun k => grapnelref19_remove.l0 k l p (i : Int) (j : Int)) (if ∃ m ∈ l.drop j, childN (pb p) m then (([] : List S46), (46 : Int)) else (l.eraseIdx i, 0)) := by
 intro n
 induction n with
 | zero =>
  intro j hj
  rw [List.drop_eq_nil_of_le (by omega), if_neg (by simp)]
  have hw : wrap64 ((i : Int) + 1) = ((i + 1 : Nat) : Int) := by rw [w64 (by omega) (by omega)]; rfl
  refine evs_step (g := fun _ => some (l.eraseIdx i, 0)) (fun k => ?_) (evs_const _)
  rw [grapnelref19_remove.l0, if_neg (by omega)]
  simp only [Option.bind_some, hw, List.nil_append, Int.toNat_natCast]
  rw [if_pos (by omega), if_pos (by omega), if_pos (by simp; omega), if_pos (by omega), if_pos (by omega), if_pos (by simp; omega), List.eraseIdx_eq_take_drop_succ]
 | succ n ih =>
  intro j hj
  have hjl : j < l.length := by omega
  have ih1 := ih (j + 1) (by omega)
  have hw : wrap64 ((j : Int) + 1) = ((j + 1 : Nat) : Int) := by rw [w64 (by omega) (by omega)]; rfl
  refine evs_step (fun k => by rw [grapnelref19_remove.l0, if_pos (by omega), if_pos (by omega), toL, toL, hw]) ?_
  rw [dropN hjl]
  have hmem : rd_T46 l (j : Int) ∈ l := rdn_mem hjl
  generalize rd_T46 l (j : Int) = m at hmem
  have E : ∀ {c : Prop}, (∃ q ∈ m :: l.drop (j + 1), childN (pb p) q) ↔ childN (pb p) m ∨ ∃ q ∈ l.drop (j + 1), childN (pb p) q := fun {c} => by simp
  by_cases hr : pth m = [47]
  ·
   refine evs_pos hr ?_
   have e : (∃ q ∈ m :: l.drop (j + 1), childN (pb p) q) ↔ ∃ q ∈ l.drop (j + 1), childN (pb p) q := by
    rw [E (c := True)]
    exact ⟨fun h => h.resolve_left (fun q => q.1 hr), .inr⟩
   simp only [e]
   exact ih1
  ·
   refine evs_neg hr ?_
   obtain ⟨u, hu, eu⟩ := above_ev m.f0 (by have := hz m hmem; omega)
   refine evs_bind eu ?_
   rw [toL, hu]
   by_cases hc : abv (pb m.f0) = pb p
   ·
    rw [if_pos ⟨m, List.mem_cons_self .., hr, hc⟩]
    exact evs_pos hc (evs_const _)
   ·
    refine evs_neg hc ?_
    have e : (∃ q ∈ m :: l.drop (j + 1), childN (pb p) q) ↔ ∃ q ∈ l.drop (j + 1), childN (pb p) q := by
     rw [E (c := True)]
     exact ⟨fun h => h.resolve_left (fun q => hc q.2), .inr⟩
    simp only [e]
    exact ih1
def ansT (r : List S46 × Int) : List S46 × Int := (if r.2 = 0 then r.1 else [], r.2)
theorem remove_rev (l : List S46) (p : ByteArray) (hl : l.length < 10000000) (hz : SZ l) : Evs (fun k => grapnelref19_remove.f k l p) (ansT (removeT l (pb p))) := by
 simp only [grapnelref19_remove.f]
 refine evs_bind (find_ev l p (by omega)) ?_
 unfold removeT
 rcases findI_cases (pb p) l 0 with ⟨e, _⟩ | ⟨i, hi, e, _⟩
 ·
  rw [e, if_pos (by decide)]
  exact evs_pos (by decide) (evs_const _)
 ·
  rw [e, Nat.zero_add, if_neg (by omega)]
  refine evs_neg (by omega) ?_
  rw [toL]
  by_cases hr : pb p = [47]
  ·
   rw [if_pos hr]
   exact evs_pos hr (evs_const _)
  ·
   rw [if_neg hr]
   refine evs_neg hr ?_
   have := remove_l0 l p i hi hl hz l.length 0 (by omega)
   rw [List.drop_zero] at this
   refine evs_val ?_ this
   rw [Int.toNat_natCast]
   split <;> rfl
theorem filled_l0 (l : List S46) (i : Int) (d : ByteArray) (hl : l.length < 10000000) : ∀ (n j : Nat), j + n = l.length →
  Evs (fun k => grapnelref19_filled.l0 k i d ((l.take j).map (fillN i d) ++ l.drop j) (j : Int)) (l.map (fillN i d), 0) := by
 intro n
 induction n with
 | zero =>
  intro j hj
  have hjl : j = l.length := by omega
  subst hjl
  rw [List.take_length, List.drop_length, List.append_nil]
  exact evs_step (fun k => by rw [grapnelref19_filled.l0, if_neg (by rw [List.length_map]; omega)]) (evs_const _)
 | succ n ih =>
  intro j hj
  have hjl : j < l.length := by omega
  have ih1 := ih (j + 1) (by omega)
  have hw : wrap64 ((j : Int) + 1) = ((j + 1 : Nat) : Int) := by rw [w64 (by omega) (by omega)]; rfl
  have hlen := fmix_len (f := fillN i d) (Nat.le_of_lt hjl)
  have hat := fmix_at (f := fillN i d) hjl
  have hrd : rd_T46 ((l.take j).map (fillN i d) ++ l.drop j) (j : Int) = rd_T46 l (j : Int) := by
   rw [rd_T46, Int.toNat_natCast, List.getD_eq_getElem?_getD, hat]
   rfl
  refine evs_step (fun k => by rw [grapnelref19_filled.l0, if_pos (by omega), if_pos (by omega), hrd, hw, Int.toNat_natCast]) ?_
  by_cases hi : (rd_T46 l (j : Int)).f1.f0 = i
  ·
   refine evs_pos hi ?_
   have hf : fillN i d (rd_T46 l (j : Int)) = ⟨(rd_T46 l (j : Int)).f0, (rd_T46 l (j : Int)).f1, d⟩ := by
    unfold fillN
    exact if_pos hi
   have hs := fmix_set (f := fillN i d) hjl
   rw [hf] at hs
   refine evs_congr (fun k => ?_) ih1
   rw [← hs]
  ·
   refine evs_neg hi ?_
   have hk := fmix_keep (f := fillN i d) hjl (by unfold fillN; exact if_neg hi)
   refine evs_congr (fun k => ?_) ih1
   rw [← hk]
theorem filled_rev (l : List S46) (i : Int) (d : ByteArray) (hl : l.length < 10000000) : Evs (fun k => grapnelref19_filled.f k l i d) (if (d.size : Int) > 5675264 then ([], 4) else (l.map (fillN i d), 0)) := by
 simp only [grapnelref19_filled.f]
 by_cases h : (d.size : Int) > 5675264
 ·
  rw [if_pos h]
  exact evs_pos h (evs_const _)
 ·
  rw [if_neg h]
  refine evs_neg h ?_
  refine evs_pos (by simp; omega) ?_
  have := filled_l0 l i d hl l.length 0 (by omega)
  simpa using this
end Go.Proofs.YtoggfapafjgkdaaDoor.T
namespace Go.Proofs.YtoggfapafjgkdaaDoor.T
open Go.RowKit Go.Deep Go.Proofs.YtoggfapafjgkdaaDoorW.PrintWords Go.Proofs.YtoggfapafjgkdaaDoorW.PrintLast Go.Proofs.YtoggfapafjgkdaaDoorW.PrintMore Go.Proofs.YtoggfapafjgkdaaDoor.PAll
set_option linter.unusedSimpArgs false
set_option linter.unusedVariables false
def RdRet (r : List S46 × Int) (w : World) (e : Ending) (w' : World) : Prop := ∃ v, e = .returned (.tuple #[v, .int .i64 r.2]) ∧ Kd.R k46 46 w' w.heap.size (fun _ => True) v r.1 ∧ Below w.heap.size w w'
theorem gen_w {P : Program} {c : Code} {Q : Exit → Act → World → Prop} {a : Act} {W : World} (R : World → Prop) (hR : R W) (h : ∀ W', R W' → c.wp P Q a W') : c.wp P Q a W := h W hR
theorem rspot_c (l : List S46) (A : Option Addr) (c : Nat) (s : ByteArray) (w : World) (hr : Kd.C k46 w A l.length l) (hc : l.length ≤ c) (hl : l.length < 10000000) :
    Calls Tryd.prog 54 #[.slice A l.length c, .string s] w fun e w' => e = .returned (.int .i64 (spotT l (pb s))) ∧ Below w.heap.size w w' := by
  obtain ⟨K, hK⟩ := evs_get (spot_rev l s (by omega))
  exact grapnelref19_spot.calls K A c l s _ w hr hc hK
theorem rfind_c (l : List S46) (A : Option Addr) (c : Nat) (s : ByteArray) (w : World) (hr : Kd.C k46 w A l.length l) (hc : l.length ≤ c) (hl : l.length < 10000000) :
    Calls Tryd.prog 31 #[.slice A l.length c, .string s] w fun e w' => e = .returned (.int .i64 (findI (pb s) 0 l)) ∧ Below w.heap.size w w' := by
  obtain ⟨K, hK⟩ := evs_get (find_ev l s (by omega))
  refine (grapnelref18_Find.calls K A c l s _ w hr hc hK).mono ?_
  rintro e w' ⟨rfl, ⟨nd, rfl⟩⟩
  exact ⟨rfl, pw_below_drewN (Below.refl w.heap.size w) nd⟩
theorem rremove_c (l : List S46) (A : Option Addr) (c : Nat) (s : ByteArray) (w : World) (hr : Kd.C k46 w A l.length l) (hc : l.length ≤ c) (hl : l.length < 10000000) (hz : SZ l) :
    Calls Tryd.prog 51 #[.slice A l.length c, .string s] w fun e w' => RdRet (ansT (removeT l (pb s))) w e w' := by
  obtain ⟨K, hK⟩ := evs_get (remove_rev l s hl hz)
  exact grapnelref19_remove.calls K A c l s _ _ w hr hc hK
theorem rfilled_c (l : List S46) (A : Option Addr) (c : Nat) (i : Int) (d : ByteArray) (w : World) (hr : Kd.C k46 w A l.length l) (hc : l.length ≤ c) (hl : l.length < 10000000) :
    Calls Tryd.prog 52 #[.slice A l.length c, .int .i64 i, .string d] w fun e w' => RdRet (if (d.size : Int) > 5675264 then ([], 4) else (l.map (fillN i d), 0)) w e w' := by
  obtain ⟨K, hK⟩ := evs_get (filled_rev l i d hl)
  exact grapnelref19_filled.calls K A c l i d _ _ w hr hc hK
theorem rsplit_c (s : ByteArray) (w : World) : Calls Tryd.prog 53 #[.string s] w fun e w' => (∃ v, e = .returned (.tuple #[v, .int .i64 (splitE (pb s))])) ∧ Below w.heap.size w w' := by
  obtain ⟨⟨r1, r2⟩, hr, er⟩ := split_ev s
  obtain ⟨K, hK⟩ := evs_get er
  refine (grapnelref10_Split.calls K s r1 r2 w hK).mono ?_
  rintro e w' ⟨v, rfl, _, hb⟩
  exact ⟨⟨v, by rw [show r2 = splitE (pb s) from hr]⟩, hb⟩
def redit.T17 : Bool × List (List Nat × List Nat) := (true, [([], []), ([], []), ([], []), ([1, 2], [1, 2]), ([3], [3]), ([4], [4]), ([5], [5]), ([], []), ([7], [7]), ([0, 6, 8], [0, 6, 8]), ([9], [9]), ([9], [9]), ([10, 9, 0, 1, 2, 3, 4, 5, 6, 7, 8, 9, 10, 11], [10]), ([11, 12, 0, 1, 2, 3, 4, 5, 6, 7, 8, 9, 10, 11, 12], [11])])
def redit.B17 : List Nat := [0, 0, 0, 6, 14, 30, 62, 0, 128, 511, 1023, 1023, 4095, 8191]
theorem redit.tab17 : rtab .any (opsOf Tryd.f33 17) = redit.T17 := by kernel_rfl
theorem redit.bits17 : waitsOk redit.T17.2 redit.B17 = true := by kernel_rfl
def redit.T36 : Bool × List (List Nat × List Nat) := (true, [([], []), ([], []), ([0, 1], [0, 1]), ([], []), ([3], [3]), ([2, 4, 2], [2, 4]), ([5, 5, 0, 1, 2, 3, 4, 5], [5]), ([6, 0, 1, 2, 3, 4, 5, 6], [])])
def redit.B36 : List Nat := [0, 0, 3, 0, 8, 31, 63, 127]
theorem redit.tab36 : rtab .any (opsOf Tryd.f33 36) = redit.T36 := by kernel_rfl
theorem redit.bits36 : waitsOk redit.T36.2 redit.B36 = true := by kernel_rfl
theorem ed_1 {l : List S46} {i : Int} {x : S33} (h : x.f0 = 1) : ansT ((editT l i x).1, (editT l i x).2.2) = ansT (removeT l (pb x.f1)) := by
  unfold editT
  rw [if_pos h]
theorem ed_5 {l : List S46} {i : Int} {x : S33} (h : x.f0 = 5) : ansT ((editT l i x).1, (editT l i x).2.2) = ansT (linkT l x.f1 (pb x.f2)) := by
  unfold editT
  rw [if_neg (by omega), if_pos h]
theorem ed_6 {l : List S46} {i : Int} {x : S33} (h : x.f0 = 6) : ansT ((editT l i x).1, (editT l i x).2.2) = ansT (changeT l (pb x.f1) x.f3) := by
  unfold editT
  rw [if_neg (by omega), if_neg (by omega), if_pos h]
theorem new_ans (l : List S46) (i k : Int) (p d : ByteArray) : ansT ((newT l i k p d).1, (newT l i k p d).2.2) = ansT (if spotT l (pb p) = 0 then (l ++ [⟨p, ⟨i, 0, k, 0, 0⟩, d⟩], 0) else ([], spotT l (pb p))) := by
  by_cases h : spotT l (pb p) = 0
  · rw [new_ok h, if_pos h]
  · rw [new_bad h, if_neg h]
    unfold ansT
    rw [if_neg h, if_neg h]
theorem ed_4b {l : List S46} {i : Int} {x : S33} (h : x.f0 = 4) (hs : splitE (pb x.f2) ≠ 0) : ansT ((editT l i x).1, (editT l i x).2.2) = ([], splitE (pb x.f2)) := by
  unfold editT
  rw [if_neg (by omega), if_neg (by omega), if_neg (by omega), if_pos h, if_pos hs]
  unfold ansT
  rw [if_neg hs]
theorem ed_4 {l : List S46} {i : Int} {x : S33} (h : x.f0 = 4) (hs : splitE (pb x.f2) = 0) : ansT ((editT l i x).1, (editT l i x).2.2) = ansT (if spotT l (pb x.f1) = 0 then (l ++ [⟨x.f1, ⟨i, 0, 3, 0, 0⟩, x.f2⟩], 0) else ([], spotT l (pb x.f1))) := by
  rw [← new_ans]
  unfold editT
  rw [if_neg (by omega), if_neg (by omega), if_neg (by omega), if_pos h, if_neg (fun q => q hs)]
theorem ed_3b {l : List S46} {i : Int} {x : S33} (h : x.f0 = 3) (hs : (x.f3.size : Int) > 5675264) : ansT ((editT l i x).1, (editT l i x).2.2) = ([], 4) := by
  unfold editT
  rw [if_neg (by omega), if_neg (by omega), if_neg (by omega), if_neg (by omega), if_pos h, if_pos hs]
  rfl
theorem ed_3 {l : List S46} {i : Int} {x : S33} (h : x.f0 = 3) (hs : ¬ (x.f3.size : Int) > 5675264) : ansT ((editT l i x).1, (editT l i x).2.2) = ansT (if spotT l (pb x.f1) = 0 then (l ++ [⟨x.f1, ⟨i, 0, 1, 0, 0⟩, x.f3⟩], 0) else ([], spotT l (pb x.f1))) := by
  rw [← new_ans]
  unfold editT
  rw [if_neg (by omega), if_neg (by omega), if_neg (by omega), if_neg (by omega), if_pos h, if_neg hs]
theorem ed_2 {l : List S46} {i : Int} {x : S33} (h : x.f0 = 2) : ansT ((editT l i x).1, (editT l i x).2.2) = ansT (if spotT l (pb x.f1) = 0 then (l ++ [⟨x.f1, ⟨i, 0, 2, 0, 0⟩, eB⟩], 0) else ([], spotT l (pb x.f1))) := by
  rw [← new_ans]
  unfold editT
  rw [if_neg (by omega), if_neg (by omega), if_neg (by omega), if_neg (by omega), if_neg (by omega), if_pos h]
theorem ed_0 {l : List S46} {i : Int} {x : S33} (h1 : x.f0 ≠ 1) (h5 : x.f0 ≠ 5) (h6 : x.f0 ≠ 6) (h4 : x.f0 ≠ 4) (h3 : x.f0 ≠ 3) (h2 : x.f0 ≠ 2) : ansT ((editT l i x).1, (editT l i x).2.2) = ([], 1) := by
  unfold editT
  rw [if_neg h1, if_neg h5, if_neg h6, if_neg h4, if_neg h3, if_neg h2]
  rfl
theorem link_0 {l : List S46} {p : ByteArray} {tt : List UInt8} (h : findI tt 0 l = -1) : ansT (linkT l p tt) = ([], 41) := by
  unfold linkT
  rw [h, if_pos (by decide)]
  rfl
theorem link_1 {l : List S46} {p : ByteArray} {tt : List UInt8} {k : Nat} (h : findI tt 0 l = (k : Int)) (hk : (rd_T46 l (k : Int)).f1.f2 ≠ 1) : ansT (linkT l p tt) = ([], 43) := by
  unfold linkT
  rw [h, if_neg (by omega), if_pos (show knd (rd_T46 l (k : Int)) ≠ 1 from hk)]
  rfl
theorem link_2 {l : List S46} {p : ByteArray} {tt : List UInt8} {k : Nat} (h : findI tt 0 l = (k : Int)) (hk : (rd_T46 l (k : Int)).f1.f2 = 1) : ansT (linkT l p tt) = ansT (if spotT l (pb p) = 0 then (l ++ [⟨p, (rd_T46 l (k : Int)).f1, (rd_T46 l (k : Int)).f2⟩], 0) else ([], spotT l (pb p))) := by
  unfold linkT
  rw [h, if_neg (by omega), if_neg (fun q => q hk)]
  by_cases hs : spotT l (pb p) = 0
  · rw [if_neg (fun q => q hs), if_pos hs]
  · rw [if_pos hs, if_neg hs]
    unfold ansT
    rw [if_neg hs, if_neg hs]
theorem ablk (a : Addr) (n : Nat) : (a.add n).block = a.block := by unfold Addr.add; split <;> rfl
theorem change_i {l : List S46} {p : List UInt8} {d : ByteArray} {t : Int} (h : findI p 0 l = t) : ansT (changeT l p d) = if t < 0 then ([], 41) else if (rd_T46 l t).f1.f2 ≠ 1 then ([], 43) else if (d.size : Int) > 5675264 then ([], 4) else (l.map (fillN (rd_T46 l t).f1.f0 d), 0) := by
  unfold changeT
  rw [h]
  by_cases h1 : t < 0
  · rw [if_pos h1, if_pos h1]
    rfl
  · rw [if_neg h1, if_neg h1]
    by_cases h2 : (rd_T46 l t).f1.f2 = 1
    · rw [if_neg (show ¬ (knd (rd_T46 l t) ≠ 1) from fun q => q h2), if_neg (show ¬ ((rd_T46 l t).f1.f2 ≠ 1) from fun q => q h2)]
      split <;> rfl
    · rw [if_pos (show knd (rd_T46 l t) ≠ 1 from h2), if_pos h2]
      rfl
theorem findI_lt {l : List S46} {p : List UInt8} {t : Int} (h : findI p 0 l = t) (h0 : ¬ t < 0) : t < (l.length : Int) := by
  rcases findI_cases p l 0 with ⟨e, _⟩ | ⟨k, hk, e, _⟩
  · omega
  · omega
set_option maxHeartbeats 8000000 in
set_option maxRecDepth 100000 in
theorem redit_c (l : List S46) (A : Option Addr) (c : Nat) (x : S33) (i : Int) (w : World) (hr0 : Kd.C k46 w A l.length l) (hc0 : l.length ≤ c) (hl : l.length < 1000000) (hz : SZ l) :
    Calls Tryd.prog 33 #[.slice A l.length c, editV x, .int .i64 i] w fun e w' => RdRet (ansT ((editT l i x).1, (editT l i x).2.2)) w e w' := by
  have hu33 := Tryd.underlying33
  have hu44 := Tryd.underlying44
  have hu46 := Tryd.underlying46
  have HR0 := Aside0.mk hr0
  have HC0 := Aside0.mk hc0
  have HL := Aside0.mk hl
  have HZ := Aside0.mk hz
  have HB := Aside0.mk (Below.refl w.heap.size w)
  obtain ⟨R, hR⟩ : ∃ R, ansT ((editT l i x).1, (editT l i x).2.2) = R := ⟨_, rfl⟩
  have HR := Aside0.mk hR
  rw [hR]
  clear hr0 hc0 hl hz hR
  go_enter Tryd.func33, Tryd.ntmps33
  go_upto_block 0 with (first | ((with_reducible refine gate_dst (N := 4) rfl ?_); refine box_event ?hg (N := 4) ?hd (cs := #[.int .i64 x.f0, .string x.f1, .string x.f2, .string x.f3]) (t := 33) ?hr ?_; (case hd => rfl); (case hg => rfl); (case hr => first | (go_simp; done) | (go_simp; rfl)); intro gx hg w6 hbox hb; have n0_ := Aside0.mk (below_step HB.out hb); have n1_ := Aside0.mk hbox; have n2_ := Aside0.mk ((by rw [hg]; exact below_size HB.out : w.heap.size ≤ gx)); clear HB; have HB := n0_; have BX := n1_; have GX := n2_; clear n0_ n1_ n2_; clear hb hbox hg; have hcza_0 : w6.cell? ⟨gx, 0, none⟩ = some (.int .i64 x.f0) := (blk_cell BX.out 0).trans rfl; have hfza_0 := blk_frozen BX.out 0; have hcza_1 : w6.cell? ⟨gx, 1, none⟩ = some (.string x.f1) := (blk_cell BX.out 1).trans rfl; have hfza_1 := blk_frozen BX.out 1; have hcza_2 : w6.cell? ⟨gx, 2, none⟩ = some (.string x.f2) := (blk_cell BX.out 2).trans rfl; have hfza_2 := blk_frozen BX.out 2; have hcza_3 : w6.cell? ⟨gx, 3, none⟩ = some (.string x.f3) := (blk_cell BX.out 3).trans rfl; have hfza_3 := blk_frozen BX.out 3) | ((with_reducible refine gate_dst (N := 8) rfl ?_); refine box_event ?hg (N := 8) ?hd (cs := #[.string (⟨#[]⟩ : ByteArray), .int .i64 0, .int .i64 0, .int .i64 0, .int .i64 0, .int .i64 0, .string (⟨#[]⟩ : ByteArray)]) (t := 46) ?hr ?_; (case hd => rfl); (case hg => rfl); (case hr => first | (go_simp; done) | (go_simp; rfl)); intro gn hg w8 hbox hb; have n0_ := Aside0.mk (blk_below (g := gx) (o := .cells #[.int .i64 x.f0, .string x.f1, .string x.f2, .string x.f3] 33 (0, 0)) BX.out hb); have n1_ := Aside0.mk (below_step HB.out hb); have n2_ := Aside0.mk hbox; have n3_ := Aside0.mk ((by rw [hg]; exact below_size HB.out : w.heap.size ≤ gn)); have n5_ := Aside0.mk ((by rw [hg]; exact Nat.ne_of_lt (blk_lt (g := gx) (o := .cells #[.int .i64 x.f0, .string x.f1, .string x.f2, .string x.f3] 33 (0, 0)) BX.out) : gx ≠ gn)); have n6_ := Aside0.mk ((by rw [hg]; exact Nat.ne_of_gt (blk_lt (g := gx) (o := .cells #[.int .i64 x.f0, .string x.f1, .string x.f2, .string x.f3] 33 (0, 0)) BX.out) : gn ≠ gx)); clear BX HB; have BX := n0_; have HB := n1_; have BN := n2_; have GN := n3_; have NXN := n5_; have NNX := n6_; clear n0_ n1_ n2_ n3_ n5_ n6_; clear hb hbox hg; have hnb1 := NNX.out; have hnc1 := NXN.out; have hczb_0 : w8.cell? ⟨gn, 0, none⟩ = some (.string (⟨#[]⟩ : ByteArray)) := (blk_cell BN.out 0).trans rfl; have hfzb_0 := blk_frozen BN.out 0; have hczb_1 : w8.cell? ⟨gn, 1, none⟩ = some (.int .i64 0) := (blk_cell BN.out 1).trans rfl; have hfzb_1 := blk_frozen BN.out 1; have hczb_2 : w8.cell? ⟨gn, 2, none⟩ = some (.int .i64 0) := (blk_cell BN.out 2).trans rfl; have hfzb_2 := blk_frozen BN.out 2; have hczb_3 : w8.cell? ⟨gn, 3, none⟩ = some (.int .i64 0) := (blk_cell BN.out 3).trans rfl; have hfzb_3 := blk_frozen BN.out 3; have hczb_4 : w8.cell? ⟨gn, 4, none⟩ = some (.int .i64 0) := (blk_cell BN.out 4).trans rfl; have hfzb_4 := blk_frozen BN.out 4; have hczb_5 : w8.cell? ⟨gn, 5, none⟩ = some (.int .i64 0) := (blk_cell BN.out 5).trans rfl; have hfzb_5 := blk_frozen BN.out 5; have hczb_6 : w8.cell? ⟨gn, 6, none⟩ = some (.string (⟨#[]⟩ : ByteArray)) := (blk_cell BN.out 6).trans rfl; have hfzb_6 := blk_frozen BN.out 6; have hczc_0 : w8.cell? ⟨gx, 0, none⟩ = some (.int .i64 x.f0) := (blk_cell BX.out 0).trans rfl; have hfzc_0 := blk_frozen BX.out 0; have hczc_1 : w8.cell? ⟨gx, 1, none⟩ = some (.string x.f1) := (blk_cell BX.out 1).trans rfl; have hfzc_1 := blk_frozen BX.out 1; have hczc_2 : w8.cell? ⟨gx, 2, none⟩ = some (.string x.f2) := (blk_cell BX.out 2).trans rfl; have hfzc_2 := blk_frozen BX.out 2; have hczc_3 : w8.cell? ⟨gx, 3, none⟩ = some (.string x.f3) := (blk_cell BX.out 3).trans rfl; have hfzc_3 := blk_frozen BX.out 3))
  refine gen_w (fun W => W.heap[gx]? = some (.cells #[.int .i64 x.f0, .string x.f1, .string x.f2, .string x.f3] 33 (0, 0)) ∧ W.heap[gn]? = some (.cells #[.string x.f1, .int .i64 i, .int .i64 0, .int .i64 0, .int .i64 0, .int .i64 0, .string (⟨#[]⟩ : ByteArray)] 46 (0, 0)) ∧ Below w.heap.size w W) ?_ ?_
  · refine ⟨?_, ?_, ?_⟩
    · (repeat (refine blk_far ?_ NXN.out _)); exact BX.out
    · refine blk_put (cs := #[.string x.f1, .int .i64 i, .int .i64 0, .int .i64 0, .int .i64 0, .int .i64 0, .string (⟨#[]⟩ : ByteArray)]) ?_ 6 _ rfl; refine blk_put (cs := #[.string x.f1, .int .i64 i, .int .i64 0, .int .i64 0, .int .i64 0, .int .i64 0, .string (⟨#[]⟩ : ByteArray)]) ?_ 5 _ rfl; refine blk_put (cs := #[.string x.f1, .int .i64 i, .int .i64 0, .int .i64 0, .int .i64 0, .int .i64 0, .string (⟨#[]⟩ : ByteArray)]) ?_ 4 _ rfl; refine blk_put (cs := #[.string x.f1, .int .i64 i, .int .i64 0, .int .i64 0, .int .i64 0, .int .i64 0, .string (⟨#[]⟩ : ByteArray)]) ?_ 3 _ rfl; refine blk_put (cs := #[.string x.f1, .int .i64 i, .int .i64 0, .int .i64 0, .int .i64 0, .int .i64 0, .string (⟨#[]⟩ : ByteArray)]) ?_ 2 _ rfl; refine blk_put (cs := #[.string x.f1, .int .i64 0, .int .i64 0, .int .i64 0, .int .i64 0, .int .i64 0, .string (⟨#[]⟩ : ByteArray)]) ?_ 1 _ rfl; refine blk_put (cs := #[.string (⟨#[]⟩ : ByteArray), .int .i64 0, .int .i64 0, .int .i64 0, .int .i64 0, .int .i64 0, .string (⟨#[]⟩ : ByteArray)]) ?_ 0 _ rfl; exact BN.out
    · (repeat (refine below_set ?_ GN.out)); exact HB.out
  clear BX BN HB hnb1 hnc1 hcza_0 hfza_0 hcza_1 hfza_1 hcza_2 hfza_2 hcza_3 hfza_3 hczb_0 hfzb_0 hczb_1 hfzb_1 hczb_2 hfzb_2 hczb_3 hfzb_3 hczb_4 hfzb_4 hczb_5 hfzb_5 hczb_6 hfzb_6 hczc_0 hfzc_0 hczc_1 hfzc_1 hczc_2 hfzc_2 hczc_3 hfzc_3
  rintro wb ⟨hbx, hbn, hb⟩
  have BX := Aside0.mk hbx
  have BN := Aside0.mk hbn
  have HB := Aside0.mk hb
  clear hbx hbn hb
  go_cut [] (fun wc => ∃ q : S46, Aside0 (R = ansT (if spotT l (pb x.f1) = 0 then (l ++ [q], 0) else ([], spotT l (pb x.f1)))) ∧ Aside0 (wc.heap[gx]? = some (.cells #[.int .i64 x.f0, .string x.f1, .string x.f2, .string x.f3] 33 (0, 0))) ∧ Aside0 (wc.heap[gn]? = some (.cells #[.string q.f0, .int .i64 q.f1.f0, .int .i64 q.f1.f1, .int .i64 q.f1.f2, .int .i64 q.f1.f3, .int .i64 q.f1.f4, .string q.f2] 46 (0, 0))) ∧ Aside0 (Below w.heap.size w wc))
  case first =>
    have hczx_0 : wb.cell? ⟨gx, 0, none⟩ = some (.int .i64 x.f0) := (blk_cell BX.out 0).trans rfl
    have hfzx_0 := blk_frozen BX.out 0
    have hczx_1 : wb.cell? ⟨gx, 1, none⟩ = some (.string x.f1) := (blk_cell BX.out 1).trans rfl
    have hfzx_1 := blk_frozen BX.out 1
    have hczx_2 : wb.cell? ⟨gx, 2, none⟩ = some (.string x.f2) := (blk_cell BX.out 2).trans rfl
    have hfzx_2 := blk_frozen BX.out 2
    have hczx_3 : wb.cell? ⟨gx, 3, none⟩ = some (.string x.f3) := (blk_cell BX.out 3).trans rfl
    have hfzx_3 := blk_frozen BX.out 3
    have hczn_0 : wb.cell? ⟨gn, 0, none⟩ = some (.string x.f1) := (blk_cell BN.out 0).trans rfl
    have hfzn_0 := blk_frozen BN.out 0
    have hczn_1 : wb.cell? ⟨gn, 1, none⟩ = some (.int .i64 i) := (blk_cell BN.out 1).trans rfl
    have hfzn_1 := blk_frozen BN.out 1
    have hczn_2 : wb.cell? ⟨gn, 2, none⟩ = some (.int .i64 0) := (blk_cell BN.out 2).trans rfl
    have hfzn_2 := blk_frozen BN.out 2
    have hczn_3 : wb.cell? ⟨gn, 3, none⟩ = some (.int .i64 0) := (blk_cell BN.out 3).trans rfl
    have hfzn_3 := blk_frozen BN.out 3
    have hczn_4 : wb.cell? ⟨gn, 4, none⟩ = some (.int .i64 0) := (blk_cell BN.out 4).trans rfl
    have hfzn_4 := blk_frozen BN.out 4
    have hczn_5 : wb.cell? ⟨gn, 5, none⟩ = some (.int .i64 0) := (blk_cell BN.out 5).trans rfl
    have hfzn_5 := blk_frozen BN.out 5
    have hczn_6 : wb.cell? ⟨gn, 6, none⟩ = some (.string (⟨#[]⟩ : ByteArray)) := (blk_cell BN.out 6).trans rfl
    have hfzn_6 := blk_frozen BN.out 6
    have hnb1 := NNX.out
    have hnc1 := NXN.out
    by_cases h1 : x.f0 = 1
    · have z1 : (x.f0 == 1) = true := beq_iff_eq.2 h1
      have hap := rremove_c l A c x.f1 wb (Kd.C_below HR0.out HB.out) HC0.out (by have := HL.out; omega) HZ.out
      rw [show ansT (removeT l (pb x.f1)) = R from by rw [← HR.out]; exact (ed_1 h1).symm] at hap
      clear h1
      go_wp2_with fail
      refine hap.mono ?_
      rintro e w1 ⟨v, rfl, hv, hb⟩
      have HV := Aside0.mk (Kd.R_lower hv (below_size HB.out))
      have HB1 := Aside0.mk (below_step HB.out hb)
      clear hv hb hap
      go_wp2_with fail
      go_ret2
      exact ⟨_, rfl, Kd.R_mono HV.out (fun _ _ => trivial), HB1.out⟩
    · have z1 : (x.f0 == 1) = false := beq_eq_false_iff_ne.2 h1
      have H1 := Aside0.mk h1
      clear h1
      by_cases h5 : x.f0 = 5
      · have z5 : (x.f0 == 5) = true := beq_iff_eq.2 h5
        have z6 : (x.f0 == 6) = false := beq_eq_false_iff_ne.2 (by omega)
        have H5 := Aside0.mk h5
        clear h5
        go_wp2_with fail
        refine (rfind_c l A c x.f2 wb (Kd.C_below HR0.out HB.out) HC0.out (by have := HL.out; omega)).mono ?_
        rintro e w1 ⟨rfl, hb⟩
        have n0_ := Aside0.mk (blk_below (g := gx) (o := .cells #[.int .i64 x.f0, .string x.f1, .string x.f2, .string x.f3] 33 (0, 0)) BX.out hb)
        have n1_ := Aside0.mk (blk_below (g := gn) (o := .cells #[.string x.f1, .int .i64 i, .int .i64 0, .int .i64 0, .int .i64 0, .int .i64 0, .string (⟨#[]⟩ : ByteArray)] 46 (0, 0)) BN.out hb)
        have n2_ := Aside0.mk (below_step HB.out hb)
        clear hczx_0 hfzx_0 hczx_1 hfzx_1 hczx_2 hfzx_2 hczx_3 hfzx_3 hczn_0 hfzn_0 hczn_1 hfzn_1 hczn_2 hfzn_2 hczn_3 hfzn_3 hczn_4 hfzn_4 hczn_5 hfzn_5 hczn_6 hfzn_6
        clear BX BN HB hb
        have BX := n0_
        have BN := n1_
        have HB := n2_
        clear n0_ n1_ n2_
        have hczx_0 : w1.cell? ⟨gx, 0, none⟩ = some (.int .i64 x.f0) := (blk_cell BX.out 0).trans rfl
        have hfzx_0 := blk_frozen BX.out 0
        have hczx_1 : w1.cell? ⟨gx, 1, none⟩ = some (.string x.f1) := (blk_cell BX.out 1).trans rfl
        have hfzx_1 := blk_frozen BX.out 1
        have hczx_2 : w1.cell? ⟨gx, 2, none⟩ = some (.string x.f2) := (blk_cell BX.out 2).trans rfl
        have hfzx_2 := blk_frozen BX.out 2
        have hczx_3 : w1.cell? ⟨gx, 3, none⟩ = some (.string x.f3) := (blk_cell BX.out 3).trans rfl
        have hfzx_3 := blk_frozen BX.out 3
        have hczn_0 : w1.cell? ⟨gn, 0, none⟩ = some (.string x.f1) := (blk_cell BN.out 0).trans rfl
        have hfzn_0 := blk_frozen BN.out 0
        have hczn_1 : w1.cell? ⟨gn, 1, none⟩ = some (.int .i64 i) := (blk_cell BN.out 1).trans rfl
        have hfzn_1 := blk_frozen BN.out 1
        have hczn_2 : w1.cell? ⟨gn, 2, none⟩ = some (.int .i64 0) := (blk_cell BN.out 2).trans rfl
        have hfzn_2 := blk_frozen BN.out 2
        have hczn_3 : w1.cell? ⟨gn, 3, none⟩ = some (.int .i64 0) := (blk_cell BN.out 3).trans rfl
        have hfzn_3 := blk_frozen BN.out 3
        have hczn_4 : w1.cell? ⟨gn, 4, none⟩ = some (.int .i64 0) := (blk_cell BN.out 4).trans rfl
        have hfzn_4 := blk_frozen BN.out 4
        have hczn_5 : w1.cell? ⟨gn, 5, none⟩ = some (.int .i64 0) := (blk_cell BN.out 5).trans rfl
        have hfzn_5 := blk_frozen BN.out 5
        have hczn_6 : w1.cell? ⟨gn, 6, none⟩ = some (.string (⟨#[]⟩ : ByteArray)) := (blk_cell BN.out 6).trans rfl
        have hfzn_6 := blk_frozen BN.out 6
        rcases findI_cases (pb x.f2) l 0 with ⟨e0, _⟩ | ⟨k, hk, e0, _⟩
        · rw [e0]
          obtain rfl : R = ([], 41) := by rw [← HR.out]; exact (ed_5 H5.out).trans (link_0 e0)
          clear HR
          clear e0
          go_wp2_with fail
          go_ret2
          exact ⟨_, rfl, Kd.R_nil _ _ _ _ _, HB.out⟩
        · rw [Nat.zero_add] at e0
          rw [e0]
          have HE0 := Aside0.mk e0
          have HK := Aside0.mk hk
          obtain ⟨ad, ea, x0, x1, x2, x3, x4, x5, x6⟩ := at_T46 (Kd.C_below HR0.out HB.out) (k : Int) (by omega) (by omega)
          obtain ⟨ad2, ea2, y0, _⟩ := at_T46 HR0.out (k : Int) (by omega) (by omega)
          cases ea
          cases ea2
          simp only [Int.toNat_natCast] at x0 x1 x2 x3 x4 x5 x6 y0
          have hne : ad.block ≠ gn := by have h1 := World.block_lt_of_cell? w _ y0; have h2 := GN.out; rw [ablk] at h1; omega
          have hne2 : gn ≠ ad.block := fun q => hne q.symm
          have p1 : (0 ≤ (k : Int)) = True := eq_true (by omega)
          have q1 : ((k : Int) < (l.length : Int)) = True := eq_true (by omega)
          have d1 : decide ((k : Int) < 0) = false := decide_eq_false (by omega)
          clear y0 e0 hk
          by_cases hkd : (rd_T46 l (k : Int)).f1.f2 = 1
          · have zk : ((rd_T46 l (k : Int)).f1.f2 != 1) = false := bne_eq_false_iff_eq.2 hkd
            have HKD := Aside0.mk hkd
            clear hkd
            go_wp2_with fail
            go_meet
            case rel =>
              refine ⟨⟨x.f1, (rd_T46 l (k : Int)).f1, (rd_T46 l (k : Int)).f2⟩, ⟨by rw [← HR.out]; exact (ed_5 H5.out).trans (link_2 HE0.out HKD.out)⟩, ⟨?_⟩, ⟨?_⟩, ⟨?_⟩⟩
              · (repeat (refine blk_far ?_ NXN.out _)); exact BX.out
              · refine blk_put (cs := #[.string x.f1, .int .i64 (rd_T46 l (k : Int)).f1.f0, .int .i64 (rd_T46 l (k : Int)).f1.f1, .int .i64 (rd_T46 l (k : Int)).f1.f2, .int .i64 (rd_T46 l (k : Int)).f1.f3, .int .i64 (rd_T46 l (k : Int)).f1.f4, .string (⟨#[]⟩ : ByteArray)]) ?_ 6 _ rfl; refine blk_put (cs := #[.string x.f1, .int .i64 (rd_T46 l (k : Int)).f1.f0, .int .i64 (rd_T46 l (k : Int)).f1.f1, .int .i64 (rd_T46 l (k : Int)).f1.f2, .int .i64 (rd_T46 l (k : Int)).f1.f3, .int .i64 0, .string (⟨#[]⟩ : ByteArray)]) ?_ 5 _ rfl; refine blk_put (cs := #[.string x.f1, .int .i64 (rd_T46 l (k : Int)).f1.f0, .int .i64 (rd_T46 l (k : Int)).f1.f1, .int .i64 (rd_T46 l (k : Int)).f1.f2, .int .i64 0, .int .i64 0, .string (⟨#[]⟩ : ByteArray)]) ?_ 4 _ rfl; refine blk_put (cs := #[.string x.f1, .int .i64 (rd_T46 l (k : Int)).f1.f0, .int .i64 (rd_T46 l (k : Int)).f1.f1, .int .i64 0, .int .i64 0, .int .i64 0, .string (⟨#[]⟩ : ByteArray)]) ?_ 3 _ rfl; refine blk_put (cs := #[.string x.f1, .int .i64 (rd_T46 l (k : Int)).f1.f0, .int .i64 0, .int .i64 0, .int .i64 0, .int .i64 0, .string (⟨#[]⟩ : ByteArray)]) ?_ 2 _ rfl; refine blk_put (cs := #[.string x.f1, .int .i64 i, .int .i64 0, .int .i64 0, .int .i64 0, .int .i64 0, .string (⟨#[]⟩ : ByteArray)]) ?_ 1 _ rfl; exact BN.out
              · (repeat (refine below_set ?_ GN.out)); exact HB.out
          · have zk : ((rd_T46 l (k : Int)).f1.f2 != 1) = true := bne_iff_ne.2 hkd
            obtain rfl : R = ([], 43) := by rw [← HR.out]; exact (ed_5 H5.out).trans (link_1 HE0.out hkd)
            clear HR
            clear hkd
            go_wp2_with fail
            go_ret2
            exact ⟨_, rfl, Kd.R_nil _ _ _ _ _, HB.out⟩
      · by_cases h6 : x.f0 = 6
        · have z6 : (x.f0 == 6) = true := beq_iff_eq.2 h6
          have z5 : (x.f0 == 5) = false := beq_eq_false_iff_ne.2 (by omega)
          have H6 := Aside0.mk h6
          clear h6
          go_wp2_with fail
          refine (rfind_c l A c x.f1 wb (Kd.C_below HR0.out HB.out) HC0.out (by have := HL.out; omega)).mono ?_
          rintro e w1 ⟨rfl, hb⟩
          have n0_ := Aside0.mk (blk_below (g := gx) (o := .cells #[.int .i64 x.f0, .string x.f1, .string x.f2, .string x.f3] 33 (0, 0)) BX.out hb)
          have n1_ := Aside0.mk (blk_below (g := gn) (o := .cells #[.string x.f1, .int .i64 i, .int .i64 0, .int .i64 0, .int .i64 0, .int .i64 0, .string (⟨#[]⟩ : ByteArray)] 46 (0, 0)) BN.out hb)
          have n2_ := Aside0.mk (below_step HB.out hb)
          clear hczx_0 hfzx_0 hczx_1 hfzx_1 hczx_2 hfzx_2 hczx_3 hfzx_3 hczn_0 hfzn_0 hczn_1 hfzn_1 hczn_2 hfzn_2 hczn_3 hfzn_3 hczn_4 hfzn_4 hczn_5 hfzn_5 hczn_6 hfzn_6
          clear BX BN HB hb
          have BX := n0_
          have BN := n1_
          have HB := n2_
          clear n0_ n1_ n2_
          have hczx_0 : w1.cell? ⟨gx, 0, none⟩ = some (.int .i64 x.f0) := (blk_cell BX.out 0).trans rfl
          have hfzx_0 := blk_frozen BX.out 0
          have hczx_1 : w1.cell? ⟨gx, 1, none⟩ = some (.string x.f1) := (blk_cell BX.out 1).trans rfl
          have hfzx_1 := blk_frozen BX.out 1
          have hczx_2 : w1.cell? ⟨gx, 2, none⟩ = some (.string x.f2) := (blk_cell BX.out 2).trans rfl
          have hfzx_2 := blk_frozen BX.out 2
          have hczx_3 : w1.cell? ⟨gx, 3, none⟩ = some (.string x.f3) := (blk_cell BX.out 3).trans rfl
          have hfzx_3 := blk_frozen BX.out 3
          have hczn_0 : w1.cell? ⟨gn, 0, none⟩ = some (.string x.f1) := (blk_cell BN.out 0).trans rfl
          have hfzn_0 := blk_frozen BN.out 0
          have hczn_1 : w1.cell? ⟨gn, 1, none⟩ = some (.int .i64 i) := (blk_cell BN.out 1).trans rfl
          have hfzn_1 := blk_frozen BN.out 1
          have hczn_2 : w1.cell? ⟨gn, 2, none⟩ = some (.int .i64 0) := (blk_cell BN.out 2).trans rfl
          have hfzn_2 := blk_frozen BN.out 2
          have hczn_3 : w1.cell? ⟨gn, 3, none⟩ = some (.int .i64 0) := (blk_cell BN.out 3).trans rfl
          have hfzn_3 := blk_frozen BN.out 3
          have hczn_4 : w1.cell? ⟨gn, 4, none⟩ = some (.int .i64 0) := (blk_cell BN.out 4).trans rfl
          have hfzn_4 := blk_frozen BN.out 4
          have hczn_5 : w1.cell? ⟨gn, 5, none⟩ = some (.int .i64 0) := (blk_cell BN.out 5).trans rfl
          have hfzn_5 := blk_frozen BN.out 5
          have hczn_6 : w1.cell? ⟨gn, 6, none⟩ = some (.string (⟨#[]⟩ : ByteArray)) := (blk_cell BN.out 6).trans rfl
          have hfzn_6 := blk_frozen BN.out 6
          obtain ⟨t275, e0⟩ : ∃ t, findI (pb x.f1) 0 l = t := ⟨_, rfl⟩
          rw [e0]
          have HE0 := Aside0.mk e0
          clear e0
          by_cases hn : t275 < 0
          · have d1 : decide (t275 < 0) = true := decide_eq_true hn
            obtain rfl : R = ([], 41) := by rw [← HR.out]; exact (ed_6 H6.out).trans ((change_i HE0.out).trans (if_pos hn))
            clear HR
            clear hn
            go_wp2_with fail
            go_ret2
            exact ⟨_, rfl, Kd.R_nil _ _ _ _ _, HB.out⟩
          · have d1 : decide (t275 < 0) = false := decide_eq_false hn
            have HN := Aside0.mk hn
            have HP0 : Aside0 (0 ≤ t275) := ⟨by omega⟩
            have HQ0 := Aside0.mk (findI_lt HE0.out hn)
            clear hn
            obtain ⟨ad276, e276, hx276_0, hx276_1, hx276_2, hx276_3, hx276_4, hx276_5, hx276_6⟩ := at_T46 HR0.out t275 HP0.out HQ0.out
            cases e276
            replace hx276_0 := (HB.out.cell (World.block_lt_of_cell? w _ hx276_0)).trans hx276_0
            replace hx276_1 := (HB.out.cell (World.block_lt_of_cell? w _ hx276_1)).trans hx276_1
            replace hx276_2 := (HB.out.cell (World.block_lt_of_cell? w _ hx276_2)).trans hx276_2
            replace hx276_3 := (HB.out.cell (World.block_lt_of_cell? w _ hx276_3)).trans hx276_3
            replace hx276_4 := (HB.out.cell (World.block_lt_of_cell? w _ hx276_4)).trans hx276_4
            replace hx276_5 := (HB.out.cell (World.block_lt_of_cell? w _ hx276_5)).trans hx276_5
            replace hx276_6 := (HB.out.cell (World.block_lt_of_cell? w _ hx276_6)).trans hx276_6
            have p276 := eq_true HP0.out
            have q276 := eq_true HQ0.out
            by_cases hkd : (rd_T46 l t275).f1.f2 = 1
            · have zk : ((rd_T46 l t275).f1.f2 != 1) = false := bne_eq_false_iff_eq.2 hkd
              have HKD := Aside0.mk hkd
              clear hkd
              have HAP : Aside0 (∀ W, Below w.heap.size w W → Calls Tryd.prog 52 #[.slice (some ad276) l.length c, .int .i64 (rd_T46 l t275).f1.f0, .string x.f3] W fun e w' => RdRet R W e w') := ⟨fun W h => by
                have e1 : (if (x.f3.size : Int) > 5675264 then ([], 4) else (l.map (fillN (rd_T46 l t275).f1.f0 x.f3), 0)) = R := by rw [← HR.out, ed_6 H6.out, change_i HE0.out, if_neg HN.out, if_neg (show ¬ ((rd_T46 l t275).f1.f2 ≠ 1) from fun q => q HKD.out)]
                rw [← e1]
                exact rfilled_c l _ c _ x.f3 W (Kd.C_below HR0.out h) HC0.out (by have := HL.out; omega)⟩
              go_wp2_with fail
              have n0_ := Aside0.mk (blk_drew BX.out)
              have n1_ := Aside0.mk (blk_drew BN.out)
              have n2_ := Aside0.mk (below_drew1 HB.out)
              clear BX; clear BN; clear HB
              have BX := n0_
              have BN := n1_
              have HB := n2_
              clear n0_ n1_ n2_
              have p277 : 0 ≤ t275 := HP0.out
              have q277 : t275 < (l.length : Int) := HQ0.out
              obtain ⟨ad277, e277, hx277_0, hx277_1, hx277_2, hx277_3, hx277_4, hx277_5, hx277_6⟩ := at_T46 HR0.out t275 p277 q277
              have hw277_6 := hx277_6
              have hw277_5 := hx277_5
              have hw277_4 := hx277_4
              have hw277_3 := hx277_3
              have hw277_2 := hx277_2
              have hw277_1 := hx277_1
              have hw277_0 := hx277_0
              obtain rfl : ad276 = ad277 := (by injection e277)
              replace hx277_0 := (HB.out.cell (World.block_lt_of_cell? w _ hx277_0)).trans hx277_0
              replace hx277_1 := (HB.out.cell (World.block_lt_of_cell? w _ hx277_1)).trans hx277_1
              replace hx277_2 := (HB.out.cell (World.block_lt_of_cell? w _ hx277_2)).trans hx277_2
              replace hx277_3 := (HB.out.cell (World.block_lt_of_cell? w _ hx277_3)).trans hx277_3
              replace hx277_4 := (HB.out.cell (World.block_lt_of_cell? w _ hx277_4)).trans hx277_4
              replace hx277_5 := (HB.out.cell (World.block_lt_of_cell? w _ hx277_5)).trans hx277_5
              replace hx277_6 := (HB.out.cell (World.block_lt_of_cell? w _ hx277_6)).trans hx277_6
              replace p277 := eq_true p277
              replace q277 := eq_true q277
              refine start_ (n := 14) (S := fun w' => w'.cell? ⟨gx, 0, none⟩ = some (.int .i64 x.f0) ∧ w'.cell? ⟨gx, 1, none⟩ = some (.string x.f1) ∧ w'.cell? ⟨gx, 2, none⟩ = some (.string x.f2) ∧ w'.cell? ⟨gx, 3, none⟩ = some (.string x.f3) ∧ w'.cell? (ad276.add ((t275).toNat * 7)) = some (.string ((rd_T46 l t275).f0)) ∧ w'.cell? ⟨(ad276.add ((t275).toNat * 7)).block, (ad276.add ((t275).toNat * 7)).off + 1, none⟩ = some (.int .i64 ((rd_T46 l t275).f1.f0)) ∧ w'.cell? ⟨(ad276.add ((t275).toNat * 7)).block, (ad276.add ((t275).toNat * 7)).off + 2, none⟩ = some (.int .i64 ((rd_T46 l t275).f1.f1)) ∧ w'.cell? ⟨(ad276.add ((t275).toNat * 7)).block, (ad276.add ((t275).toNat * 7)).off + 3, none⟩ = some (.int .i64 ((rd_T46 l t275).f1.f2)) ∧ w'.cell? ⟨(ad276.add ((t275).toNat * 7)).block, (ad276.add ((t275).toNat * 7)).off + 4, none⟩ = some (.int .i64 ((rd_T46 l t275).f1.f3)) ∧ w'.cell? ⟨(ad276.add ((t275).toNat * 7)).block, (ad276.add ((t275).toNat * 7)).off + 5, none⟩ = some (.int .i64 ((rd_T46 l t275).f1.f4)) ∧ w'.cell? ⟨(ad276.add ((t275).toNat * 7)).block, (ad276.add ((t275).toNat * 7)).off + 6, none⟩ = some (.string ((rd_T46 l t275).f2))) (ds := []) #[false, false, false, false, false, false, false, false, false, false, false, false, false, false] (by kernel_rfl) rfl rfl ⟨(blk_cell BX.out 0).trans rfl, (blk_cell BX.out 1).trans rfl, (blk_cell BX.out 2).trans rfl, (blk_cell BX.out 3).trans rfl, ((HB.out.cell (World.block_lt_of_cell? w _ hw277_0)).trans hw277_0), ((HB.out.cell (World.block_lt_of_cell? w _ hw277_1)).trans hw277_1), ((HB.out.cell (World.block_lt_of_cell? w _ hw277_2)).trans hw277_2), ((HB.out.cell (World.block_lt_of_cell? w _ hw277_3)).trans hw277_3), ((HB.out.cell (World.block_lt_of_cell? w _ hw277_4)).trans hw277_4), ((HB.out.cell (World.block_lt_of_cell? w _ hw277_5)).trans hw277_5), ((HB.out.cell (World.block_lt_of_cell? w _ hw277_6)).trans hw277_6)⟩ (fun hHeld => ?_); refine with_tabW redit.tab17 redit.bits17 (fun HT_ HW_ => ?_)
              generalize w1.drew = w37 at BX BN HB hx277_0 hx277_1 hx277_2 hx277_3 hx277_4 hx277_5 hx277_6 hHeld ⊢
              refine pure_ (i := 0) (N := some 54) (v := ?_) (a' := ?_) #[true, false, false, false, false, false, false, false, false, false, false, false, false, false] rfl rfl (any_of HT_.out (by kernel_rfl)) (fun _ _ _ h => h) (Or.inl ⟨by rfl, ?_⟩) ?_ ?_
              rotate_left; · intro w'; go_simp; with_reducible rfl
              rotate_left; · simp only [Act.put, List.setIfInBounds_toArray, List.set_cons_zero, List.set_cons_succ, i64_w, i32_w]; rfl
              refine pure_ (i := 1) (N := some 55) (v := ?_) (a' := ?_) #[true, true, false, false, false, false, false, false, false, false, false, false, false, false] rfl rfl (any_of HT_.out (by kernel_rfl)) (fun _ _ _ h => h) (Or.inl ⟨by rfl, ?_⟩) ?_ ?_
              rotate_left; · intro w'; go_simp; with_reducible rfl
              rotate_left; · simp only [Act.put, List.setIfInBounds_toArray, List.set_cons_zero, List.set_cons_succ, i64_w, i32_w]; rfl
              refine pure_ (i := 2) (N := some 56) (v := ?_) (a' := ?_) #[true, true, true, false, false, false, false, false, false, false, false, false, false, false] rfl rfl (any_of HT_.out (by kernel_rfl)) (fun _ _ _ h => h) (Or.inl ⟨by rfl, ?_⟩) ?_ ?_
              rotate_left; · intro w'; go_simp; with_reducible rfl
              rotate_left; · simp only [Act.put, List.setIfInBounds_toArray, List.set_cons_zero, List.set_cons_succ, i64_w, i32_w]; rfl
              refine pure_ (i := 3) (N := some 57) (v := ?_) (a' := ?_) #[true, true, true, true, false, false, false, false, false, false, false, false, false, false] rfl rfl (any_of HT_.out (by kernel_rfl)) (fun _ _ _ h => h) (Or.inl ⟨by rfl, ?_⟩) ?_ ?_
              rotate_left; · intro w'; go_simp; with_reducible rfl
              rotate_left; · simp only [Act.put, List.setIfInBounds_toArray, List.set_cons_zero, List.set_cons_succ, i64_w, i32_w]; rfl
              refine pure_ (i := 4) (N := some 58) (v := ?_) (a' := ?_) #[true, true, true, true, true, false, false, false, false, false, false, false, false, false] rfl rfl (any_of HT_.out (by kernel_rfl)) (fun _ _ _ h => h) (Or.inl ⟨by rfl, ?_⟩) ?_ ?_
              rotate_left; · intro w'; go_simp; with_reducible rfl
              rotate_left; · simp only [Act.put, List.setIfInBounds_toArray, List.set_cons_zero, List.set_cons_succ, i64_w, i32_w]; rfl
              refine pure_ (i := 5) (N := some 59) (v := ?_) (a' := ?_) #[true, true, true, true, true, true, false, false, false, false, false, false, false, false] rfl rfl (any_of HT_.out (by kernel_rfl)) (fun _ _ _ h => h) (Or.inl ⟨by rfl, ?_⟩) ?_ ?_
              rotate_left; · intro w'; go_simp; with_reducible rfl
              rotate_left; · simp only [Act.put, List.setIfInBounds_toArray, List.set_cons_zero, List.set_cons_succ, i64_w, i32_w]; rfl
              refine pure_ (i := 7) (N := some 61) (v := ?_) (a' := ?_) #[true, true, true, true, true, true, false, true, false, false, false, false, false, false] rfl rfl (any_of HT_.out (by kernel_rfl)) (fun _ _ _ h => h) (Or.inl ⟨by rfl, ?_⟩) ?_ ?_
              rotate_left; · intro w'; go_simp; with_reducible rfl
              rotate_left; · simp only [Act.put, List.setIfInBounds_toArray, List.set_cons_zero, List.set_cons_succ, i64_w, i32_w]; rfl
              refine take_ (i := 6) (N := some 60) (v := ?_) (a' := ?_) #[true, true, true, true, true, true, true, true, false, false, false, false, false, false] rfl rfl (take_ofW HT_.out HW_.out (by kernel_rfl)) (fun _ _ _ h => h) (Or.inl ⟨by rfl, ?_⟩) hHeld ?_ ?_
              rotate_left
              ·
               rintro w' ⟨s0, s1, s2, s3, s4, s5, s6, s7, s8, s9, s10⟩
               go_simp
               with_reducible rfl
              rotate_left; · simp only [Act.put, List.setIfInBounds_toArray, List.set_cons_zero, List.set_cons_succ, i64_w, i32_w]; rfl
              refine take_ (i := 8) (N := some 62) (v := ?_) (a' := ?_) #[true, true, true, true, true, true, true, true, true, false, false, false, false, false] rfl rfl (take_ofW HT_.out HW_.out (by kernel_rfl)) (fun _ _ _ h => h) (Or.inl ⟨by rfl, ?_⟩) hHeld ?_ ?_
              rotate_left
              ·
               rintro w' ⟨s0, s1, s2, s3, s4, s5, s6, s7, s8, s9, s10⟩
               go_simp
               with_reducible rfl
              rotate_left; · simp only [Act.put, List.setIfInBounds_toArray, List.set_cons_zero, List.set_cons_succ, i64_w, i32_w]; rfl
              refine one_ (i := 9) (N := some 63) #[true, true, true, true, true, true, true, true, true, true, false, false, false, false] rfl rfl (one_of HT_.out (by kernel_rfl)) (by decide) (fun K hK => ?_)
              refine goes_ Tryd.func52 (by kernel_rfl) rfl #[.slice (some ad276) l.length c, .int .i64 ((rd_T46 l t275).f1.f0), .string x.f3] (by rfl) rfl rfl (by (try simp only [List.map_toArray, List.map_cons, List.map_nil]); first | done | rfl | (simp only [List.length_drop, List.length_take]; rfl)) ?_
              refine (HAP.out _ HB.out).mono ?_
              rintro e w38 ⟨v280, rfl, ho0, hb⟩
              refine ⟨_, rfl, ?_⟩
              have n0_ := Aside0.mk (Kd.R_lower (Kd.R_newB ho0 (g := gn) (o := .cells #[.string x.f1, .int .i64 i, .int .i64 0, .int .i64 0, .int .i64 0, .int .i64 0, .string (⟨#[]⟩ : ByteArray)] 46 (0, 0)) BN.out) (below_size (HB.out)))
              have n1_ := Aside0.mk (blk_below (g := gx) (o := .cells #[.int .i64 x.f0, .string x.f1, .string x.f2, .string x.f3] 33 (0, 0)) BX.out hb)
              have n2_ := Aside0.mk (blk_below (g := gn) (o := .cells #[.string x.f1, .int .i64 i, .int .i64 0, .int .i64 0, .int .i64 0, .int .i64 0, .string (⟨#[]⟩ : ByteArray)] 46 (0, 0)) BN.out hb)
              have n3_ := Aside0.mk (below_step (HB.out) hb)
              clear BX; clear BN; clear HB
              have HO281 := n0_
              have BX := n1_
              have BN := n2_
              have HB := n3_
              clear n0_ n1_ n2_ n3_
              (try clear hb)
              (try clear hb2)
              (try clear hk)
              (try clear hi)
              (try clear ho0)
              refine hK.out _ _ ⟨(blk_cell BX.out 0).trans rfl, (blk_cell BX.out 1).trans rfl, (blk_cell BX.out 2).trans rfl, (blk_cell BX.out 3).trans rfl, ((HB.out.cell (World.block_lt_of_cell? w _ hw277_0)).trans hw277_0), ((HB.out.cell (World.block_lt_of_cell? w _ hw277_1)).trans hw277_1), ((HB.out.cell (World.block_lt_of_cell? w _ hw277_2)).trans hw277_2), ((HB.out.cell (World.block_lt_of_cell? w _ hw277_3)).trans hw277_3), ((HB.out.cell (World.block_lt_of_cell? w _ hw277_4)).trans hw277_4), ((HB.out.cell (World.block_lt_of_cell? w _ hw277_5)).trans hw277_5), ((HB.out.cell (World.block_lt_of_cell? w _ hw277_6)).trans hw277_6)⟩ (fun hHeld => ?_)
              clear hK K
              refine norm_ (a' := ?_) ?_ ?_
              rotate_left
              ·
               show Act.put _ (some 63) _ = _
               simp only [Act.put, List.setIfInBounds_toArray, List.set_cons_zero, List.set_cons_succ, i64_w, i32_w]
               rfl
              refine pure_ (i := 10) (N := some 64) (v := ?_) (a' := ?_) #[true, true, true, true, true, true, true, true, true, true, true, false, false, false] rfl rfl (any_of HT_.out (by kernel_rfl)) (fun _ _ _ h => h) (Or.inl ⟨by rfl, ?_⟩) ?_ ?_
              rotate_left; · intro w'; go_simp; with_reducible rfl
              rotate_left; · simp only [Act.put, List.setIfInBounds_toArray, List.set_cons_zero, List.set_cons_succ, i64_w, i32_w]; rfl
              refine pure_ (i := 11) (N := some 65) (v := ?_) (a' := ?_) #[true, true, true, true, true, true, true, true, true, true, true, true, false, false] rfl rfl (any_of HT_.out (by kernel_rfl)) (fun _ _ _ h => h) (Or.inl ⟨by rfl, ?_⟩) ?_ ?_
              rotate_left; · intro w'; go_simp; with_reducible rfl
              rotate_left; · simp only [Act.put, List.setIfInBounds_toArray, List.set_cons_zero, List.set_cons_succ, i64_w, i32_w]; rfl
              refine pure_ (i := 12) (N := some 6) (v := ?_) (a' := ?_) #[true, true, true, true, true, true, true, true, true, true, true, true, true, false] rfl rfl (any_of HT_.out (by kernel_rfl)) (fun _ _ _ h => h) (Or.inl ⟨by rfl, ?_⟩) ?_ ?_
              rotate_left; · intro w'; go_simp; with_reducible rfl
              rotate_left; · simp only [Act.put, List.setIfInBounds_toArray, List.set_cons_zero, List.set_cons_succ, i64_w, i32_w]; rfl
              refine pure_ (i := 13) (N := some 7) (v := ?_) (a' := ?_) #[true, true, true, true, true, true, true, true, true, true, true, true, true, true] rfl rfl (any_of HT_.out (by kernel_rfl)) (fun _ _ _ h => h) (Or.inl ⟨by rfl, ?_⟩) ?_ ?_
              rotate_left; · intro w'; go_simp; with_reducible rfl
              rotate_left; · simp only [Act.put, List.setIfInBounds_toArray, List.set_cons_zero, List.set_cons_succ, i64_w, i32_w]; rfl
              refine done_ (done_of HT_.out (by kernel_rfl)) ?_
              try go_wp2
              go_ret2
              exact ⟨_, rfl, Kd.R_mono HO281.out (fun _ _ => trivial), HB.out⟩
            · have zk : ((rd_T46 l t275).f1.f2 != 1) = true := bne_iff_ne.2 hkd
              obtain rfl : R = ([], 43) := by rw [← HR.out]; exact (ed_6 H6.out).trans ((change_i HE0.out).trans ((if_neg HN.out).trans (if_pos hkd)))
              clear HR
              clear hkd
              go_wp2_with fail
              go_ret2
              exact ⟨_, rfl, Kd.R_nil _ _ _ _ _, HB.out⟩
        · have z5 : (x.f0 == 5) = false := beq_eq_false_iff_ne.2 h5
          have z6 : (x.f0 == 6) = false := beq_eq_false_iff_ne.2 h6
          have H5 := Aside0.mk h5
          have H6 := Aside0.mk h6
          clear h5 h6
          by_cases h2 : x.f0 = 2
          · have z2 : (x.f0 == 2) = true := beq_iff_eq.2 h2
            have H2 := Aside0.mk h2
            clear h2
            go_wp2_with fail
            go_meet
            case rel =>
              refine ⟨⟨x.f1, ⟨i, 0, 2, 0, 0⟩, eB⟩, ⟨by rw [← HR.out]; exact (ed_2 H2.out)⟩, ⟨?_⟩, ⟨?_⟩, ⟨?_⟩⟩
              · (repeat (refine blk_far ?_ NXN.out _)); exact BX.out
              · refine blk_put (cs := #[.string x.f1, .int .i64 i, .int .i64 0, .int .i64 0, .int .i64 0, .int .i64 0, .string (⟨#[]⟩ : ByteArray)]) ?_ 3 _ rfl; exact BN.out
              · (repeat (refine below_set ?_ GN.out)); exact HB.out
          · have z2 : (x.f0 == 2) = false := beq_eq_false_iff_ne.2 h2
            have H2 := Aside0.mk h2
            clear h2
            by_cases h3 : x.f0 = 3
            · have z3 : (x.f0 == 3) = true := beq_iff_eq.2 h3
              have H3 := Aside0.mk h3
              clear h3
              by_cases hs : (x.f3.size : Int) > 5675264
              · have zs : decide ((5675264 : Int) < (x.f3.size : Int)) = true := decide_eq_true hs
                obtain rfl : R = ([], 4) := by rw [← HR.out]; exact ed_3b H3.out hs
                clear HR
                clear hs
                go_wp2_with fail
                go_ret2
                exact ⟨_, rfl, Kd.R_nil _ _ _ _ _, HB.out⟩
              · have zs : decide ((5675264 : Int) < (x.f3.size : Int)) = false := decide_eq_false hs
                have HS := Aside0.mk hs
                clear hs
                go_wp2_with fail
                go_meet
                case rel =>
                  refine ⟨⟨x.f1, ⟨i, 0, 1, 0, 0⟩, x.f3⟩, ⟨by rw [← HR.out]; exact (ed_3 H3.out (by have := HS.out; omega))⟩, ⟨?_⟩, ⟨?_⟩, ⟨?_⟩⟩
                  · (repeat (refine blk_far ?_ NXN.out _)); exact BX.out
                  · refine blk_put (cs := #[.string x.f1, .int .i64 i, .int .i64 0, .int .i64 1, .int .i64 0, .int .i64 0, .string (⟨#[]⟩ : ByteArray)]) ?_ 6 _ rfl; refine blk_put (cs := #[.string x.f1, .int .i64 i, .int .i64 0, .int .i64 0, .int .i64 0, .int .i64 0, .string (⟨#[]⟩ : ByteArray)]) ?_ 3 _ rfl; exact BN.out
                  · (repeat (refine below_set ?_ GN.out)); exact HB.out
            · have z3 : (x.f0 == 3) = false := beq_eq_false_iff_ne.2 h3
              have H3 := Aside0.mk h3
              clear h3
              by_cases h4 : x.f0 = 4
              · have z4 : (x.f0 == 4) = true := beq_iff_eq.2 h4
                have H4 := Aside0.mk h4
                clear h4
                go_wp2_with fail
                refine (rsplit_c x.f2 wb).mono ?_
                rintro e w1 ⟨⟨v, rfl⟩, hb⟩
                have n0_ := Aside0.mk (blk_below (g := gx) (o := .cells #[.int .i64 x.f0, .string x.f1, .string x.f2, .string x.f3] 33 (0, 0)) BX.out hb)
                have n1_ := Aside0.mk (blk_below (g := gn) (o := .cells #[.string x.f1, .int .i64 i, .int .i64 0, .int .i64 0, .int .i64 0, .int .i64 0, .string (⟨#[]⟩ : ByteArray)] 46 (0, 0)) BN.out hb)
                have n2_ := Aside0.mk (below_step HB.out hb)
                clear hczx_0 hfzx_0 hczx_1 hfzx_1 hczx_2 hfzx_2 hczx_3 hfzx_3 hczn_0 hfzn_0 hczn_1 hfzn_1 hczn_2 hfzn_2 hczn_3 hfzn_3 hczn_4 hfzn_4 hczn_5 hfzn_5 hczn_6 hfzn_6
                clear BX BN HB hb
                have BX := n0_
                have BN := n1_
                have HB := n2_
                clear n0_ n1_ n2_
                have hczx_0 : w1.cell? ⟨gx, 0, none⟩ = some (.int .i64 x.f0) := (blk_cell BX.out 0).trans rfl
                have hfzx_0 := blk_frozen BX.out 0
                have hczx_1 : w1.cell? ⟨gx, 1, none⟩ = some (.string x.f1) := (blk_cell BX.out 1).trans rfl
                have hfzx_1 := blk_frozen BX.out 1
                have hczx_2 : w1.cell? ⟨gx, 2, none⟩ = some (.string x.f2) := (blk_cell BX.out 2).trans rfl
                have hfzx_2 := blk_frozen BX.out 2
                have hczx_3 : w1.cell? ⟨gx, 3, none⟩ = some (.string x.f3) := (blk_cell BX.out 3).trans rfl
                have hfzx_3 := blk_frozen BX.out 3
                have hczn_0 : w1.cell? ⟨gn, 0, none⟩ = some (.string x.f1) := (blk_cell BN.out 0).trans rfl
                have hfzn_0 := blk_frozen BN.out 0
                have hczn_1 : w1.cell? ⟨gn, 1, none⟩ = some (.int .i64 i) := (blk_cell BN.out 1).trans rfl
                have hfzn_1 := blk_frozen BN.out 1
                have hczn_2 : w1.cell? ⟨gn, 2, none⟩ = some (.int .i64 0) := (blk_cell BN.out 2).trans rfl
                have hfzn_2 := blk_frozen BN.out 2
                have hczn_3 : w1.cell? ⟨gn, 3, none⟩ = some (.int .i64 0) := (blk_cell BN.out 3).trans rfl
                have hfzn_3 := blk_frozen BN.out 3
                have hczn_4 : w1.cell? ⟨gn, 4, none⟩ = some (.int .i64 0) := (blk_cell BN.out 4).trans rfl
                have hfzn_4 := blk_frozen BN.out 4
                have hczn_5 : w1.cell? ⟨gn, 5, none⟩ = some (.int .i64 0) := (blk_cell BN.out 5).trans rfl
                have hfzn_5 := blk_frozen BN.out 5
                have hczn_6 : w1.cell? ⟨gn, 6, none⟩ = some (.string (⟨#[]⟩ : ByteArray)) := (blk_cell BN.out 6).trans rfl
                have hfzn_6 := blk_frozen BN.out 6
                by_cases hs : splitE (pb x.f2) = 0
                · have HS := Aside0.mk hs
                  rw [hs]
                  clear hs
                  go_wp2_with fail
                  go_meet
                  case rel =>
                    refine ⟨⟨x.f1, ⟨i, 0, 3, 0, 0⟩, x.f2⟩, ⟨by rw [← HR.out]; exact (ed_4 H4.out HS.out)⟩, ⟨?_⟩, ⟨?_⟩, ⟨?_⟩⟩
                    · (repeat (refine blk_far ?_ NXN.out _)); exact BX.out
                    · refine blk_put (cs := #[.string x.f1, .int .i64 i, .int .i64 0, .int .i64 3, .int .i64 0, .int .i64 0, .string (⟨#[]⟩ : ByteArray)]) ?_ 6 _ rfl; refine blk_put (cs := #[.string x.f1, .int .i64 i, .int .i64 0, .int .i64 0, .int .i64 0, .int .i64 0, .string (⟨#[]⟩ : ByteArray)]) ?_ 3 _ rfl; exact BN.out
                    · (repeat (refine below_set ?_ GN.out)); exact HB.out
                · have zs : (splitE (pb x.f2) != 0) = true := bne_iff_ne.2 hs
                  obtain rfl : R = ([], splitE (pb x.f2)) := by rw [← HR.out]; exact ed_4b H4.out hs
                  clear HR
                  clear hs
                  go_wp2_with fail
                  go_ret2
                  exact ⟨_, rfl, Kd.R_nil _ _ _ _ _, HB.out⟩
              · have z4 : (x.f0 == 4) = false := beq_eq_false_iff_ne.2 h4
                obtain rfl : R = ([], 1) := by rw [← HR.out]; exact ed_0 H1.out H5.out H6.out h4 H3.out H2.out
                clear HR
                clear h4
                go_wp2_with fail
                go_ret2
                exact ⟨_, rfl, Kd.R_nil _ _ _ _ _, HB.out⟩
  case rest =>
    obtain ⟨q, HRQ, BX, BN, HB⟩ := hcut
    have HP := NXN.out
    clear HP
    have hczx_0 : wc.cell? ⟨gx, 0, none⟩ = some (.int .i64 x.f0) := (blk_cell BX.out 0).trans rfl
    have hfzx_0 := blk_frozen BX.out 0
    have hczx_1 : wc.cell? ⟨gx, 1, none⟩ = some (.string x.f1) := (blk_cell BX.out 1).trans rfl
    have hfzx_1 := blk_frozen BX.out 1
    have hczx_2 : wc.cell? ⟨gx, 2, none⟩ = some (.string x.f2) := (blk_cell BX.out 2).trans rfl
    have hfzx_2 := blk_frozen BX.out 2
    have hczx_3 : wc.cell? ⟨gx, 3, none⟩ = some (.string x.f3) := (blk_cell BX.out 3).trans rfl
    have hfzx_3 := blk_frozen BX.out 3
    go_wp2_with fail
    refine (rspot_c l A c x.f1 _ (Kd.C_below HR0.out HB.out) HC0.out (by have := HL.out; omega)).mono ?_
    rintro e w68 ⟨rfl, hb⟩
    have n0_ := Aside0.mk (blk_below (g := gx) (o := .cells #[.int .i64 x.f0, .string x.f1, .string x.f2, .string x.f3] 33 (0, 0)) BX.out hb)
    have n1_ := Aside0.mk (blk_below (g := gn) (o := .cells #[.string q.f0, .int .i64 q.f1.f0, .int .i64 q.f1.f1, .int .i64 q.f1.f2, .int .i64 q.f1.f3, .int .i64 q.f1.f4, .string q.f2] 46 (0, 0)) BN.out hb)
    have n2_ := Aside0.mk (below_step HB.out hb)
    clear BX BN HB hb hczx_0 hfzx_0 hczx_1 hfzx_1 hczx_2 hfzx_2 hczx_3 hfzx_3
    have BX := n0_
    have BN := n1_
    have HB := n2_
    clear n0_ n1_ n2_
    by_cases hs : spotT l (pb x.f1) = 0
    · obtain ⟨y298, hy298⟩ : ∃ y_ : List (S46), y_ = (([] : List (S46))) := ⟨_, rfl⟩
      obtain ⟨y301, hy301⟩ : ∃ y_ : List (S46), y_ = (y298 ++ l) := ⟨_, rfl⟩
      obtain ⟨y304, hy304⟩ : ∃ y_ : List (S46), y_ = ([q] : List S46) := ⟨_, rfl⟩
      obtain ⟨y307, hy307⟩ : ∃ y_ : List (S46), y_ = (y301 ++ y304) := ⟨_, rfl⟩
      obtain rfl : R = (y307, 0) := by rw [HRQ.out, if_pos hs, hy307, hy301, hy304, hy298]; rfl
      have LMc63 : Aside0 (y298.length + l.length < 1954687338268) := ⟨by have := HL.out; rw [hy298]; simp; omega⟩
      have LMc64 : Aside0 (y301.length + y304.length < 1954687338268) := ⟨by have := HL.out; rw [hy304, hy301, hy298]; simp; omega⟩
      have Ny298 := Aside0.mk hy298
      have Ny301 := Aside0.mk hy301
      have Ny304 := Aside0.mk hy304
      have Ny307 := Aside0.mk hy307
      rw [hs]
      clear hy298 hy301 hy304 hy307 hs HRQ HR
      have hcz1 : w68.cell? ⟨gn, 0, none⟩ = some (.string q.f0) := (blk_cell BN.out 0).trans rfl
      clear hcz1
      go_wp2_with fail
      have n0_ := Aside0.mk (blk_drew BX.out)
      have n1_ := Aside0.mk (blk_drew BN.out)
      have n2_ := Aside0.mk (below_drew1 HB.out)
      clear BX; clear BN; clear HB
      have BX := n0_
      have BN := n1_
      have HB := n2_
      clear n0_ n1_ n2_
      refine start_ (n := 8) (S := fun w' => w'.cell? ⟨gn, 0, none⟩ = some (.string q.f0) ∧ w'.cell? ⟨gn, 1, none⟩ = some (.int .i64 q.f1.f0) ∧ w'.cell? ⟨gn, 2, none⟩ = some (.int .i64 q.f1.f1) ∧ w'.cell? ⟨gn, 3, none⟩ = some (.int .i64 q.f1.f2) ∧ w'.cell? ⟨gn, 4, none⟩ = some (.int .i64 q.f1.f3) ∧ w'.cell? ⟨gn, 5, none⟩ = some (.int .i64 q.f1.f4) ∧ w'.cell? ⟨gn, 6, none⟩ = some (.string q.f2)) (ds := []) #[false, false, false, false, false, false, false, false] (by kernel_rfl) rfl rfl ⟨(blk_cell BN.out 0).trans rfl, (blk_cell BN.out 1).trans rfl, (blk_cell BN.out 2).trans rfl, (blk_cell BN.out 3).trans rfl, (blk_cell BN.out 4).trans rfl, (blk_cell BN.out 5).trans rfl, (blk_cell BN.out 6).trans rfl⟩ (fun hHeld => ?_); refine with_tabW redit.tab36 redit.bits36 (fun HT_ HW_ => ?_)
      generalize w68.drew = w69 at BX BN HB hHeld ⊢
      refine pure_ (i := 1) (N := some 117) (v := ?_) (a' := ?_) #[false, true, false, false, false, false, false, false] rfl rfl (any_of HT_.out (by kernel_rfl)) (fun _ _ _ h => h) (Or.inl ⟨by rfl, ?_⟩) ?_ ?_
      rotate_left; · intro w'; go_simp; with_reducible rfl
      rotate_left; · simp only [Act.put, List.setIfInBounds_toArray, List.set_cons_zero, List.set_cons_succ, i64_w, i32_w]; rfl
      refine take_ (i := 3) (N := some 119) (v := ?_) (a' := ?_) #[false, true, false, true, false, false, false, false] rfl rfl (take_ofW HT_.out HW_.out (by kernel_rfl)) (fun _ _ _ h => h) (Or.inl ⟨by rfl, ?_⟩) hHeld ?_ ?_
      rotate_left
      ·
       rintro w' ⟨s0, s1, s2, s3, s4, s5, s6⟩
       go_simp
       with_reducible rfl
      rotate_left; · simp only [Act.put, List.setIfInBounds_toArray, List.set_cons_zero, List.set_cons_succ, i64_w, i32_w]; rfl
      refine join_ (σ := Value × Value × Value) 3 #[true, true, true, true, true, false, false, false] (fun s_ => [(116, s_.1), (118, s_.2.1), (120, s_.2.2)]) (fun s_ w' => (w'.cell? ⟨gn, 0, none⟩ = some (.string q.f0) ∧ w'.cell? ⟨gn, 1, none⟩ = some (.int .i64 q.f1.f0) ∧ w'.cell? ⟨gn, 2, none⟩ = some (.int .i64 q.f1.f1) ∧ w'.cell? ⟨gn, 3, none⟩ = some (.int .i64 q.f1.f2) ∧ w'.cell? ⟨gn, 4, none⟩ = some (.int .i64 q.f1.f3) ∧ w'.cell? ⟨gn, 5, none⟩ = some (.int .i64 q.f1.f4) ∧ w'.cell? ⟨gn, 6, none⟩ = some (.string q.f2)) ∧ (Kd.R k46 46 w' w.heap.size (fun k_ => some k_ ≠ (s_.2.2 : Value).ownBlock ∧ k_ ≠ gn) s_.2.1 y301) ∧ (Kd.R k46 46 w' w.heap.size (fun k_ => some k_ ≠ (s_.2.1 : Value).ownBlock ∧ k_ ≠ gn) s_.2.2 y304) ∧ (w'.heap[gx]? = some (.cells #[.int .i64 x.f0, .string x.f1, .string x.f2, .string x.f3] 33 (0, 0))) ∧ (w'.heap[gn]? = some (.cells #[.string q.f0, .int .i64 q.f1.f0, .int .i64 q.f1.f1, .int .i64 q.f1.f2, .int .i64 q.f1.f3, .int .i64 q.f1.f4, .string q.f2] 46 (0, 0))) ∧ (Below w.heap.size w w')) ?_ ?_
      rotate_left
      ·
       intro hCont
       refine two_ (i := 0) (j := 4) (Ni := some 116) (Nj := some 120) #[true, true, false, true, false, false, false, false] #[false, true, false, true, true, false, false, false] rfl rfl rfl rfl (two_of HT_.out (by kernel_rfl)) (by decide) (by decide) (fun K hK => ?_) (fun K hK => ?_)
       ·
        skip
        refine Kd.R_lit_step k46 _ 46 ?hg (N := 116) ?hd (xs := ([] : List (S46))) (inner := []) (ok := fun _ => True) (okp := fun _ => True) ?hr ?hp (fun _ hk => hk) trivial (Below.refl _ _) (Nat.le_refl _) (by simp) ?_; (case hd => rfl); (case hg => rfl); (case hr => first | (go_simp; done) | (go_simp; rfl)); (case hp => exact (Reps.none _ _))
        intro v299 w70 ho71 hb hg_ hnew_
        clear hg_ hnew_
        (first | rw [← Ny298.out] at ho71 | (simp only [Int.reduceToNat] at ho71; rw [← Ny298.out] at ho71))
        have n0_ := Aside0.mk (Kd.R_lower (Kd.R_newB ho71 (g := gn) (o := .cells #[.string q.f0, .int .i64 q.f1.f0, .int .i64 q.f1.f1, .int .i64 q.f1.f2, .int .i64 q.f1.f3, .int .i64 q.f1.f4, .string q.f2] 46 (0, 0)) BN.out) (below_size (HB.out)))
        have n1_ := Aside0.mk (blk_below (g := gx) (o := .cells #[.int .i64 x.f0, .string x.f1, .string x.f2, .string x.f3] 33 (0, 0)) BX.out hb)
        have n2_ := Aside0.mk (blk_below (g := gn) (o := .cells #[.string q.f0, .int .i64 q.f1.f0, .int .i64 q.f1.f1, .int .i64 q.f1.f2, .int .i64 q.f1.f3, .int .i64 q.f1.f4, .string q.f2] 46 (0, 0)) BN.out hb)
        have n3_ := Aside0.mk (below_step (HB.out) hb)
        clear BX; clear BN; clear HB
        have HO300 := n0_
        have BX := n1_
        have BN := n2_
        have HB := n3_
        clear n0_ n1_ n2_ n3_; clear hb ho71
        refine hK.out _ _ ⟨(blk_cell BN.out 0).trans rfl, (blk_cell BN.out 1).trans rfl, (blk_cell BN.out 2).trans rfl, (blk_cell BN.out 3).trans rfl, (blk_cell BN.out 4).trans rfl, (blk_cell BN.out 5).trans rfl, (blk_cell BN.out 6).trans rfl⟩ (fun hHeld => ?_)
        clear hK K
        refine norm_ (a' := ?_) ?_ ?_
        rotate_left
        ·
         show Act.put _ (some 116) _ = _
         simp only [Act.put, List.setIfInBounds_toArray, List.set_cons_zero, List.set_cons_succ, i64_w, i32_w]
         rfl
        refine two_ (i := 2) (j := 4) (Ni := some 118) (Nj := some 120) #[true, true, true, true, false, false, false, false] #[true, true, false, true, true, false, false, false] rfl rfl rfl rfl (two_of HT_.out (by kernel_rfl)) (by decide) (by decide) (fun K hK => ?_) (fun K hK => ?_)
        ·
         skip
         refine Kd.R_append_rows_step k46 (w0 := w) w.heap.size (by rfl) (.tmp 116) (.tmp 117) 22 46 (.agg #[(.string ⟨#[]⟩), (.int .i64 0), (.int .i64 0), (.int .i64 0), (.int .i64 0), (.int .i64 0), (.string ⟨#[]⟩)]) 72 rfl Tryd.underlying22 info46 rfl (by decide) (by omega) v299 y298 l _ _ _ (fun k_ => k_ ≠ gn) (fun _ => False) rfl rfl ?aO ?aR (fun _ _ h => h) (fun _ h => h.elim) ?aF ?aB ?aS ?aL ?_
         (case aR => repeat (first | exact (Kd.C_below HR0.out HB.out) | (with_reducible refine Kd.C_alloc ?_ _) | (with_reducible refine Kd.C_drewN ?_ _) | (with_reducible refine Kd.C_drew ?_)))
         (case aB => exact (HB.out))
         (case aF => exact (fun k_ hk => Kd.freshB (g := gn) (o := .cells #[.string q.f0, .int .i64 q.f1.f0, .int .i64 q.f1.f1, .int .i64 q.f1.f2, .int .i64 q.f1.f3, .int .i64 q.f1.f4, .string q.f2] 46 (0, 0)) BN.out k_ hk))
         (case aO => exact (by (with_reducible repeat (first | apply Kd.R_alloc | apply Kd.R_drewN | apply Kd.R_drew)); exact Kd.R_mono HO300.out (fun _ hk => hk.2)))
         (case aS => exact (below_size (HB.out)))
         (case aL => have := LMc63.out; omega)
         intro v302 w72 ho hb hg hat
         rw [← Ny301.out] at ho
         have n0_ := Aside0.mk (blk_grown (g := gx) (o := .cells #[.int .i64 x.f0, .string x.f1, .string x.f2, .string x.f3] 33 (0, 0)) BX.out hg (Kd.R_ne HO300.out BX.out (by decide)))
         have n1_ := Aside0.mk (blk_grown (g := gn) (o := .cells #[.string q.f0, .int .i64 q.f1.f0, .int .i64 q.f1.f1, .int .i64 q.f1.f2, .int .i64 q.f1.f3, .int .i64 q.f1.f4, .string q.f2] 46 (0, 0)) BN.out hg (Kd.R_away HO300.out (fun _ hk => hk.2)))
         have n2_ := Aside0.mk (hb)
         have n3_ := Aside0.mk (ho)
         clear BX; clear BN; clear HB; clear HO300
         have BX := n0_
         have BN := n1_
         have HB := n2_
         have HO303 := n3_
         clear n0_ n1_ n2_ n3_; clear ho hb hg hat
         refine hK.out _ _ ⟨(blk_cell BN.out 0).trans rfl, (blk_cell BN.out 1).trans rfl, (blk_cell BN.out 2).trans rfl, (blk_cell BN.out 3).trans rfl, (blk_cell BN.out 4).trans rfl, (blk_cell BN.out 5).trans rfl, (blk_cell BN.out 6).trans rfl⟩ (fun hHeld => ?_)
         clear hK K
         refine norm_ (a' := ?_) ?_ ?_
         rotate_left
         ·
          show Act.put _ (some 118) _ = _
          simp only [Act.put, List.setIfInBounds_toArray, List.set_cons_zero, List.set_cons_succ, i64_w, i32_w]
          rfl
         refine one_ (i := 4) (N := some 120) #[true, true, true, true, true, false, false, false] rfl rfl (one_of HT_.out (by kernel_rfl)) (by decide) (fun K hK => ?_)
         refine Kd.R_lit_step k46 _ 46 ?hg (N := 120) ?hd (xs := ([q] : List (S46))) (inner := [.string q.f0, .int .i64 q.f1.f0, .int .i64 q.f1.f1, .int .i64 q.f1.f2, .int .i64 q.f1.f3, .int .i64 q.f1.f4, .string q.f2]) (ok := fun _ => True) (okp := fun _ => True) ?hr ?hp (fun _ hk => hk) trivial (Below.refl _ _) (Nat.le_refl _) (by simp) ?_; (case hd => rfl); (case hg => rfl); (case hr => first | (go_simp; done) | (go_simp; rfl)); (case hp => exact (Reps.c7 (show Kd.M k46 _ _ _ q [.string q.f0, .int .i64 q.f1.f0, .int .i64 q.f1.f1, .int .i64 q.f1.f2, .int .i64 q.f1.f3, .int .i64 q.f1.f4, .string q.f2] from (k46_mkM _ _ _ q )) (Reps.none _ _)))
         intro v305 w73 ho74 hb hg_ hnew_
         clear hg_ hnew_
         (first | rw [← Ny304.out] at ho74 | (simp only [Int.reduceToNat] at ho74; rw [← Ny304.out] at ho74))
         have n0_ := Aside0.mk (Kd.R_elder' (by (with_reducible repeat (first | apply Kd.R_alloc | apply Kd.R_drewN | apply Kd.R_drew)); exact HO303.out) (Kd.R_base ho74) hb)
         have n1_ := Aside0.mk (Kd.R_lower (Kd.R_newB (Kd.R_new' ho74 (Kd.R_lt (by (with_reducible repeat (first | apply Kd.R_alloc | apply Kd.R_drewN | apply Kd.R_drew)); exact HO303.out))) (g := gn) (o := .cells #[.string q.f0, .int .i64 q.f1.f0, .int .i64 q.f1.f1, .int .i64 q.f1.f2, .int .i64 q.f1.f3, .int .i64 q.f1.f4, .string q.f2] 46 (0, 0)) BN.out) (below_size (HB.out)))
         have n2_ := Aside0.mk (blk_below (g := gx) (o := .cells #[.int .i64 x.f0, .string x.f1, .string x.f2, .string x.f3] 33 (0, 0)) BX.out hb)
         have n3_ := Aside0.mk (blk_below (g := gn) (o := .cells #[.string q.f0, .int .i64 q.f1.f0, .int .i64 q.f1.f1, .int .i64 q.f1.f2, .int .i64 q.f1.f3, .int .i64 q.f1.f4, .string q.f2] 46 (0, 0)) BN.out hb)
         have n4_ := Aside0.mk (below_step (HB.out) hb)
         clear HO303; clear BX; clear BN; clear HB
         have HO303 := n0_
         have HO306 := n1_
         have BX := n2_
         have BN := n3_
         have HB := n4_
         clear n0_ n1_ n2_ n3_ n4_; clear hb ho74
         refine hK.out _ _ ⟨(blk_cell BN.out 0).trans rfl, (blk_cell BN.out 1).trans rfl, (blk_cell BN.out 2).trans rfl, (blk_cell BN.out 3).trans rfl, (blk_cell BN.out 4).trans rfl, (blk_cell BN.out 5).trans rfl, (blk_cell BN.out 6).trans rfl⟩ (fun hHeld => ?_)
         clear hK K
         refine norm_ (a' := ?_) ?_ ?_
         rotate_left
         ·
          show Act.put _ (some 120) _ = _
          simp only [Act.put, List.setIfInBounds_toArray, List.set_cons_zero, List.set_cons_succ, i64_w, i32_w]
          rfl
         exact norm_ (by simp only [putAll, Act.put, List.setIfInBounds_toArray, List.set_cons_zero, List.set_cons_succ]) (hCont (v299, v302, v305) _ ⟨hHeld, (by (with_reducible repeat (first | apply Kd.R_alloc | apply Kd.R_drewN | apply Kd.R_drew)); exact Kd.R_mono HO303.out (fun _ hk => ⟨hk.2, hk.1⟩)), (by (with_reducible repeat (first | apply Kd.R_alloc | apply Kd.R_drewN | apply Kd.R_drew)); exact Kd.R_mono HO306.out (fun _ hk => ⟨hk.1.2, hk.2⟩)), BX.out, BN.out, (HB.out)⟩)
        ·
         skip
         refine Kd.R_lit_step k46 _ 46 ?hg (N := 120) ?hd (xs := ([q] : List (S46))) (inner := [.string q.f0, .int .i64 q.f1.f0, .int .i64 q.f1.f1, .int .i64 q.f1.f2, .int .i64 q.f1.f3, .int .i64 q.f1.f4, .string q.f2]) (ok := fun _ => True) (okp := fun _ => True) ?hr ?hp (fun _ hk => hk) trivial (Below.refl _ _) (Nat.le_refl _) (by simp) ?_; (case hd => rfl); (case hg => rfl); (case hr => first | (go_simp; done) | (go_simp; rfl)); (case hp => exact (Reps.c7 (show Kd.M k46 _ _ _ q [.string q.f0, .int .i64 q.f1.f0, .int .i64 q.f1.f1, .int .i64 q.f1.f2, .int .i64 q.f1.f3, .int .i64 q.f1.f4, .string q.f2] from (k46_mkM _ _ _ q )) (Reps.none _ _)))
         intro v305 w72 ho73 hb hg_ hnew_
         clear hg_ hnew_
         (first | rw [← Ny304.out] at ho73 | (simp only [Int.reduceToNat] at ho73; rw [← Ny304.out] at ho73))
         have n0_ := Aside0.mk (Kd.R_elder' (by (with_reducible repeat (first | apply Kd.R_alloc | apply Kd.R_drewN | apply Kd.R_drew)); exact HO300.out) (Kd.R_base ho73) hb)
         have n1_ := Aside0.mk (Kd.R_lower (Kd.R_newB (Kd.R_new' ho73 (Kd.R_lt (by (with_reducible repeat (first | apply Kd.R_alloc | apply Kd.R_drewN | apply Kd.R_drew)); exact HO300.out))) (g := gn) (o := .cells #[.string q.f0, .int .i64 q.f1.f0, .int .i64 q.f1.f1, .int .i64 q.f1.f2, .int .i64 q.f1.f3, .int .i64 q.f1.f4, .string q.f2] 46 (0, 0)) BN.out) (below_size (HB.out)))
         have n2_ := Aside0.mk (blk_below (g := gx) (o := .cells #[.int .i64 x.f0, .string x.f1, .string x.f2, .string x.f3] 33 (0, 0)) BX.out hb)
         have n3_ := Aside0.mk (blk_below (g := gn) (o := .cells #[.string q.f0, .int .i64 q.f1.f0, .int .i64 q.f1.f1, .int .i64 q.f1.f2, .int .i64 q.f1.f3, .int .i64 q.f1.f4, .string q.f2] 46 (0, 0)) BN.out hb)
         have n4_ := Aside0.mk (below_step (HB.out) hb)
         clear HO300; clear BX; clear BN; clear HB
         have HO300 := n0_
         have HO306 := n1_
         have BX := n2_
         have BN := n3_
         have HB := n4_
         clear n0_ n1_ n2_ n3_ n4_; clear hb ho73
         refine hK.out _ _ ⟨(blk_cell BN.out 0).trans rfl, (blk_cell BN.out 1).trans rfl, (blk_cell BN.out 2).trans rfl, (blk_cell BN.out 3).trans rfl, (blk_cell BN.out 4).trans rfl, (blk_cell BN.out 5).trans rfl, (blk_cell BN.out 6).trans rfl⟩ (fun hHeld => ?_)
         clear hK K
         refine norm_ (a' := ?_) ?_ ?_
         rotate_left
         ·
          show Act.put _ (some 120) _ = _
          simp only [Act.put, List.setIfInBounds_toArray, List.set_cons_zero, List.set_cons_succ, i64_w, i32_w]
          rfl
         refine one_ (i := 2) (N := some 118) #[true, true, true, true, true, false, false, false] rfl rfl (one_of HT_.out (by kernel_rfl)) (by decide) (fun K hK => ?_)
         refine Kd.R_append_rows_step k46 (w0 := w) w.heap.size (by rfl) (.tmp 116) (.tmp 117) 22 46 (.agg #[(.string ⟨#[]⟩), (.int .i64 0), (.int .i64 0), (.int .i64 0), (.int .i64 0), (.int .i64 0), (.string ⟨#[]⟩)]) 72 rfl Tryd.underlying22 info46 rfl (by decide) (by omega) v299 y298 l _ _ _ (fun k_ => some k_ ≠ (v305 : Value).ownBlock ∧ k_ ≠ gn) (fun _ => False) rfl rfl ?aO ?aR (fun _ _ h => h) (fun _ h => h.elim) ?aF ?aB ?aS ?aL ?_
         (case aR => repeat (first | exact (Kd.C_below HR0.out HB.out) | (with_reducible refine Kd.C_alloc ?_ _) | (with_reducible refine Kd.C_drewN ?_ _) | (with_reducible refine Kd.C_drew ?_)))
         (case aB => exact (HB.out))
         (case aF => exact (fun k_ hk => ⟨Kd.fresh' (Kd.R_lt (by (with_reducible repeat (first | apply Kd.R_alloc | apply Kd.R_drewN | apply Kd.R_drew)); exact HO306.out)) k_ hk, Kd.freshB (g := gn) (o := .cells #[.string q.f0, .int .i64 q.f1.f0, .int .i64 q.f1.f1, .int .i64 q.f1.f2, .int .i64 q.f1.f3, .int .i64 q.f1.f4, .string q.f2] 46 (0, 0)) BN.out k_ hk⟩))
         (case aO => exact (by (with_reducible repeat (first | apply Kd.R_alloc | apply Kd.R_drewN | apply Kd.R_drew)); exact Kd.R_mono HO300.out (fun _ hk => ⟨hk.2, hk.1.2⟩)))
         (case aS => exact (below_size (HB.out)))
         (case aL => have := LMc63.out; omega)
         intro v302 w74 ho hb hg hat
         rw [← Ny301.out] at ho
         have n0_ := Aside0.mk (blk_grown (g := gx) (o := .cells #[.int .i64 x.f0, .string x.f1, .string x.f2, .string x.f3] 33 (0, 0)) BX.out hg (Kd.R_ne HO300.out BX.out (by decide)))
         have n1_ := Aside0.mk (blk_grown (g := gn) (o := .cells #[.string q.f0, .int .i64 q.f1.f0, .int .i64 q.f1.f1, .int .i64 q.f1.f2, .int .i64 q.f1.f3, .int .i64 q.f1.f4, .string q.f2] 46 (0, 0)) BN.out hg (Kd.R_away HO300.out (fun _ hk => hk.1.2)))
         have n2_ := Aside0.mk (Kd.R_after (ok := (fun k_ => k_ ≠ gn)) (by (with_reducible repeat (first | apply Kd.R_alloc | apply Kd.R_drewN | apply Kd.R_drew)); exact Kd.R_mono HO306.out (fun _ hk => ⟨hk.2, hk.1.2⟩)) hg hat)
         have n3_ := Aside0.mk (hb)
         have n4_ := Aside0.mk (ho)
         clear BX; clear BN; clear HO306; clear HB; clear HO300
         have BX := n0_
         have BN := n1_
         have HO306 := n2_
         have HB := n3_
         have HO303 := n4_
         clear n0_ n1_ n2_ n3_ n4_; clear ho hb hg hat
         refine hK.out _ _ ⟨(blk_cell BN.out 0).trans rfl, (blk_cell BN.out 1).trans rfl, (blk_cell BN.out 2).trans rfl, (blk_cell BN.out 3).trans rfl, (blk_cell BN.out 4).trans rfl, (blk_cell BN.out 5).trans rfl, (blk_cell BN.out 6).trans rfl⟩ (fun hHeld => ?_)
         clear hK K
         refine norm_ (a' := ?_) ?_ ?_
         rotate_left
         ·
          show Act.put _ (some 118) _ = _
          simp only [Act.put, List.setIfInBounds_toArray, List.set_cons_zero, List.set_cons_succ, i64_w, i32_w]
          rfl
         exact norm_ (by simp only [putAll, Act.put, List.setIfInBounds_toArray, List.set_cons_zero, List.set_cons_succ]) (hCont (v299, v302, v305) _ ⟨hHeld, (by (with_reducible repeat (first | apply Kd.R_alloc | apply Kd.R_drewN | apply Kd.R_drew)); exact HO303.out), (by (with_reducible repeat (first | apply Kd.R_alloc | apply Kd.R_drewN | apply Kd.R_drew)); exact Kd.R_mono HO306.out (fun _ hk => ⟨hk.2, hk.1⟩)), BX.out, BN.out, (HB.out)⟩)
       ·
        skip
        refine Kd.R_lit_step k46 _ 46 ?hg (N := 120) ?hd (xs := ([q] : List (S46))) (inner := [.string q.f0, .int .i64 q.f1.f0, .int .i64 q.f1.f1, .int .i64 q.f1.f2, .int .i64 q.f1.f3, .int .i64 q.f1.f4, .string q.f2]) (ok := fun _ => True) (okp := fun _ => True) ?hr ?hp (fun _ hk => hk) trivial (Below.refl _ _) (Nat.le_refl _) (by simp) ?_; (case hd => rfl); (case hg => rfl); (case hr => first | (go_simp; done) | (go_simp; rfl)); (case hp => exact (Reps.c7 (show Kd.M k46 _ _ _ q [.string q.f0, .int .i64 q.f1.f0, .int .i64 q.f1.f1, .int .i64 q.f1.f2, .int .i64 q.f1.f3, .int .i64 q.f1.f4, .string q.f2] from (k46_mkM _ _ _ q )) (Reps.none _ _)))
        intro v305 w70 ho71 hb hg_ hnew_
        clear hg_ hnew_
        (first | rw [← Ny304.out] at ho71 | (simp only [Int.reduceToNat] at ho71; rw [← Ny304.out] at ho71))
        have n0_ := Aside0.mk (Kd.R_lower (Kd.R_newB ho71 (g := gn) (o := .cells #[.string q.f0, .int .i64 q.f1.f0, .int .i64 q.f1.f1, .int .i64 q.f1.f2, .int .i64 q.f1.f3, .int .i64 q.f1.f4, .string q.f2] 46 (0, 0)) BN.out) (below_size (HB.out)))
        have n1_ := Aside0.mk (blk_below (g := gx) (o := .cells #[.int .i64 x.f0, .string x.f1, .string x.f2, .string x.f3] 33 (0, 0)) BX.out hb)
        have n2_ := Aside0.mk (blk_below (g := gn) (o := .cells #[.string q.f0, .int .i64 q.f1.f0, .int .i64 q.f1.f1, .int .i64 q.f1.f2, .int .i64 q.f1.f3, .int .i64 q.f1.f4, .string q.f2] 46 (0, 0)) BN.out hb)
        have n3_ := Aside0.mk (below_step (HB.out) hb)
        clear BX; clear BN; clear HB
        have HO306 := n0_
        have BX := n1_
        have BN := n2_
        have HB := n3_
        clear n0_ n1_ n2_ n3_; clear hb ho71
        refine hK.out _ _ ⟨(blk_cell BN.out 0).trans rfl, (blk_cell BN.out 1).trans rfl, (blk_cell BN.out 2).trans rfl, (blk_cell BN.out 3).trans rfl, (blk_cell BN.out 4).trans rfl, (blk_cell BN.out 5).trans rfl, (blk_cell BN.out 6).trans rfl⟩ (fun hHeld => ?_)
        clear hK K
        refine norm_ (a' := ?_) ?_ ?_
        rotate_left
        ·
         show Act.put _ (some 120) _ = _
         simp only [Act.put, List.setIfInBounds_toArray, List.set_cons_zero, List.set_cons_succ, i64_w, i32_w]
         rfl
        refine one_ (i := 0) (N := some 116) #[true, true, false, true, true, false, false, false] rfl rfl (one_of HT_.out (by kernel_rfl)) (by decide) (fun K hK => ?_)
        refine Kd.R_lit_step k46 _ 46 ?hg (N := 116) ?hd (xs := ([] : List (S46))) (inner := []) (ok := fun _ => True) (okp := fun _ => True) ?hr ?hp (fun _ hk => hk) trivial (Below.refl _ _) (Nat.le_refl _) (by simp) ?_; (case hd => rfl); (case hg => rfl); (case hr => first | (go_simp; done) | (go_simp; rfl)); (case hp => exact (Reps.none _ _))
        intro v299 w72 ho73 hb hg_ hnew_
        clear hg_ hnew_
        (first | rw [← Ny298.out] at ho73 | (simp only [Int.reduceToNat] at ho73; rw [← Ny298.out] at ho73))
        have n0_ := Aside0.mk (Kd.R_elder' (by (with_reducible repeat (first | apply Kd.R_alloc | apply Kd.R_drewN | apply Kd.R_drew)); exact HO306.out) (Kd.R_base ho73) hb)
        have n1_ := Aside0.mk (Kd.R_lower (Kd.R_newB (Kd.R_new' ho73 (Kd.R_lt (by (with_reducible repeat (first | apply Kd.R_alloc | apply Kd.R_drewN | apply Kd.R_drew)); exact HO306.out))) (g := gn) (o := .cells #[.string q.f0, .int .i64 q.f1.f0, .int .i64 q.f1.f1, .int .i64 q.f1.f2, .int .i64 q.f1.f3, .int .i64 q.f1.f4, .string q.f2] 46 (0, 0)) BN.out) (below_size (HB.out)))
        have n2_ := Aside0.mk (blk_below (g := gx) (o := .cells #[.int .i64 x.f0, .string x.f1, .string x.f2, .string x.f3] 33 (0, 0)) BX.out hb)
        have n3_ := Aside0.mk (blk_below (g := gn) (o := .cells #[.string q.f0, .int .i64 q.f1.f0, .int .i64 q.f1.f1, .int .i64 q.f1.f2, .int .i64 q.f1.f3, .int .i64 q.f1.f4, .string q.f2] 46 (0, 0)) BN.out hb)
        have n4_ := Aside0.mk (below_step (HB.out) hb)
        clear HO306; clear BX; clear BN; clear HB
        have HO306 := n0_
        have HO300 := n1_
        have BX := n2_
        have BN := n3_
        have HB := n4_
        clear n0_ n1_ n2_ n3_ n4_; clear hb ho73
        refine hK.out _ _ ⟨(blk_cell BN.out 0).trans rfl, (blk_cell BN.out 1).trans rfl, (blk_cell BN.out 2).trans rfl, (blk_cell BN.out 3).trans rfl, (blk_cell BN.out 4).trans rfl, (blk_cell BN.out 5).trans rfl, (blk_cell BN.out 6).trans rfl⟩ (fun hHeld => ?_)
        clear hK K
        refine norm_ (a' := ?_) ?_ ?_
        rotate_left
        ·
         show Act.put _ (some 116) _ = _
         simp only [Act.put, List.setIfInBounds_toArray, List.set_cons_zero, List.set_cons_succ, i64_w, i32_w]
         rfl
        refine one_ (i := 2) (N := some 118) #[true, true, true, true, true, false, false, false] rfl rfl (one_of HT_.out (by kernel_rfl)) (by decide) (fun K hK => ?_)
        refine Kd.R_append_rows_step k46 (w0 := w) w.heap.size (by rfl) (.tmp 116) (.tmp 117) 22 46 (.agg #[(.string ⟨#[]⟩), (.int .i64 0), (.int .i64 0), (.int .i64 0), (.int .i64 0), (.int .i64 0), (.string ⟨#[]⟩)]) 72 rfl Tryd.underlying22 info46 rfl (by decide) (by omega) v299 y298 l _ _ _ (fun k_ => some k_ ≠ (v305 : Value).ownBlock ∧ k_ ≠ gn) (fun _ => False) rfl rfl ?aO ?aR (fun _ _ h => h) (fun _ h => h.elim) ?aF ?aB ?aS ?aL ?_
        (case aR => repeat (first | exact (Kd.C_below HR0.out HB.out) | (with_reducible refine Kd.C_alloc ?_ _) | (with_reducible refine Kd.C_drewN ?_ _) | (with_reducible refine Kd.C_drew ?_)))
        (case aB => exact (HB.out))
        (case aF => exact (fun k_ hk => ⟨Kd.fresh' (Kd.R_lt (by (with_reducible repeat (first | apply Kd.R_alloc | apply Kd.R_drewN | apply Kd.R_drew)); exact HO306.out)) k_ hk, Kd.freshB (g := gn) (o := .cells #[.string q.f0, .int .i64 q.f1.f0, .int .i64 q.f1.f1, .int .i64 q.f1.f2, .int .i64 q.f1.f3, .int .i64 q.f1.f4, .string q.f2] 46 (0, 0)) BN.out k_ hk⟩))
        (case aO => exact (by (with_reducible repeat (first | apply Kd.R_alloc | apply Kd.R_drewN | apply Kd.R_drew)); exact Kd.R_mono HO300.out (fun _ hk => ⟨hk.1.2, hk.2⟩)))
        (case aS => exact (below_size (HB.out)))
        (case aL => have := LMc63.out; omega)
        intro v302 w74 ho hb hg hat
        rw [← Ny301.out] at ho
        have n0_ := Aside0.mk (blk_grown (g := gx) (o := .cells #[.int .i64 x.f0, .string x.f1, .string x.f2, .string x.f3] 33 (0, 0)) BX.out hg (Kd.R_ne HO300.out BX.out (by decide)))
        have n1_ := Aside0.mk (blk_grown (g := gn) (o := .cells #[.string q.f0, .int .i64 q.f1.f0, .int .i64 q.f1.f1, .int .i64 q.f1.f2, .int .i64 q.f1.f3, .int .i64 q.f1.f4, .string q.f2] 46 (0, 0)) BN.out hg (Kd.R_away HO300.out (fun _ hk => hk.2)))
        have n2_ := Aside0.mk (Kd.R_after (ok := (fun k_ => k_ ≠ gn)) (by (with_reducible repeat (first | apply Kd.R_alloc | apply Kd.R_drewN | apply Kd.R_drew)); exact Kd.R_mono HO306.out (fun _ hk => ⟨hk.1.2, hk.2⟩)) hg hat)
        have n3_ := Aside0.mk (hb)
        have n4_ := Aside0.mk (ho)
        clear BX; clear BN; clear HO306; clear HB; clear HO300
        have BX := n0_
        have BN := n1_
        have HO306 := n2_
        have HB := n3_
        have HO303 := n4_
        clear n0_ n1_ n2_ n3_ n4_; clear ho hb hg hat
        refine hK.out _ _ ⟨(blk_cell BN.out 0).trans rfl, (blk_cell BN.out 1).trans rfl, (blk_cell BN.out 2).trans rfl, (blk_cell BN.out 3).trans rfl, (blk_cell BN.out 4).trans rfl, (blk_cell BN.out 5).trans rfl, (blk_cell BN.out 6).trans rfl⟩ (fun hHeld => ?_)
        clear hK K
        refine norm_ (a' := ?_) ?_ ?_
        rotate_left
        ·
         show Act.put _ (some 118) _ = _
         simp only [Act.put, List.setIfInBounds_toArray, List.set_cons_zero, List.set_cons_succ, i64_w, i32_w]
         rfl
        exact norm_ (by simp only [putAll, Act.put, List.setIfInBounds_toArray, List.set_cons_zero, List.set_cons_succ]) (hCont (v299, v302, v305) _ ⟨hHeld, (by (with_reducible repeat (first | apply Kd.R_alloc | apply Kd.R_drewN | apply Kd.R_drew)); exact HO303.out), (by (with_reducible repeat (first | apply Kd.R_alloc | apply Kd.R_drewN | apply Kd.R_drew)); exact Kd.R_mono HO306.out (fun _ hk => ⟨hk.2, hk.1⟩)), BX.out, BN.out, (HB.out)⟩)
      rintro ⟨v299, v302, v305⟩ w75 ⟨hS_, h0_, h1_, h2_, h3_, h4_⟩
      have n0_ : Aside0 (Kd.R k46 46 w75 w.heap.size (fun k_ => some k_ ≠ (v305 : Value).ownBlock ∧ k_ ≠ gn) v302 y301) := ⟨h0_⟩
      have n1_ : Aside0 (Kd.R k46 46 w75 w.heap.size (fun k_ => some k_ ≠ (v302 : Value).ownBlock ∧ k_ ≠ gn) v305 y304) := ⟨h1_⟩
      have n2_ : Aside0 (w75.heap[gx]? = some (.cells #[.int .i64 x.f0, .string x.f1, .string x.f2, .string x.f3] 33 (0, 0))) := ⟨h2_⟩
      have n3_ : Aside0 (w75.heap[gn]? = some (.cells #[.string q.f0, .int .i64 q.f1.f0, .int .i64 q.f1.f1, .int .i64 q.f1.f2, .int .i64 q.f1.f3, .int .i64 q.f1.f4, .string q.f2] 46 (0, 0))) := ⟨h3_⟩
      have n4_ : Aside0 (Below w.heap.size w w75) := ⟨h4_⟩
      clear BX; clear BN; clear HB; clear h0_ h1_ h2_ h3_ h4_
      have HO303 := n0_
      have HO306 := n1_
      have BX := n2_
      have BN := n3_
      have HB := n4_
      clear n0_ n1_ n2_ n3_ n4_
      have hHeld : w75.cell? ⟨gn, 0, none⟩ = some (.string q.f0) ∧ w75.cell? ⟨gn, 1, none⟩ = some (.int .i64 q.f1.f0) ∧ w75.cell? ⟨gn, 2, none⟩ = some (.int .i64 q.f1.f1) ∧ w75.cell? ⟨gn, 3, none⟩ = some (.int .i64 q.f1.f2) ∧ w75.cell? ⟨gn, 4, none⟩ = some (.int .i64 q.f1.f3) ∧ w75.cell? ⟨gn, 5, none⟩ = some (.int .i64 q.f1.f4) ∧ w75.cell? ⟨gn, 6, none⟩ = some (.string q.f2) := hS_
      obtain ⟨Ao77, co77, eo77⟩ := Kd.R_slice HO306.out
      (first | subst eo77 | (injection eo77 with f1_ f2_ f3_; have f4_ := f1_.symm; have f5_ := f3_.symm; clear f1_ f2_ f3_; subst f4_; subst f5_))
      refine norm_ (a' := ?_) ?_ ?_
      rotate_left; · simp only [putAll, Act.put, List.setIfInBounds_toArray, List.set_cons_zero, List.set_cons_succ]; rfl
      refine one_ (i := 5) (N := some 121) #[true, true, true, true, true, true, false, false] rfl rfl (one_of HT_.out (by kernel_rfl)) (by decide) (fun K hK => ?_)
      refine Kd.R_append_rows_step k46 (w0 := w) w.heap.size (by rfl) (.tmp 118) (.tmp 120) 22 46 (.agg #[(.string ⟨#[]⟩), (.int .i64 0), (.int .i64 0), (.int .i64 0), (.int .i64 0), (.int .i64 0), (.string ⟨#[]⟩)]) 72 rfl Tryd.underlying22 info46 rfl (by decide) (by omega) v302 y301 y304 _ _ _ (fun k_ => some k_ ≠ (.slice Ao77 y304.length co77 : Value).ownBlock ∧ k_ ≠ gn) (fun _ => False) rfl rfl ?aO ?aR (fun _ _ h => h) (fun _ h => h.elim) ?aF ?aB ?aS ?aL ?_
      (case aR => repeat (first | exact (Kd.R_reads' HO306.out).2.2 | (with_reducible refine Kd.C_alloc ?_ _) | (with_reducible refine Kd.C_drewN ?_ _) | (with_reducible refine Kd.C_drew ?_)))
      (case aB => exact (HB.out))
      (case aF => exact (fun k_ hk => ⟨Kd.fresh' (Kd.R_lt (by (with_reducible repeat (first | apply Kd.R_alloc | apply Kd.R_drewN | apply Kd.R_drew)); exact HO306.out)) k_ hk, Kd.freshB (g := gn) (o := .cells #[.string q.f0, .int .i64 q.f1.f0, .int .i64 q.f1.f1, .int .i64 q.f1.f2, .int .i64 q.f1.f3, .int .i64 q.f1.f4, .string q.f2] 46 (0, 0)) BN.out k_ hk⟩))
      (case aO => exact (by (with_reducible repeat (first | apply Kd.R_alloc | apply Kd.R_drewN | apply Kd.R_drew)); exact HO303.out))
      (case aS => exact (below_size (HB.out)))
      (case aL => have := LMc64.out; omega)
      intro v308 w76 ho hb hg hat
      rw [← Ny307.out] at ho
      have n0_ := Aside0.mk (blk_grown (g := gx) (o := .cells #[.int .i64 x.f0, .string x.f1, .string x.f2, .string x.f3] 33 (0, 0)) BX.out hg (Kd.R_ne HO303.out BX.out (by decide)))
      have n1_ := Aside0.mk (blk_grown (g := gn) (o := .cells #[.string q.f0, .int .i64 q.f1.f0, .int .i64 q.f1.f1, .int .i64 q.f1.f2, .int .i64 q.f1.f3, .int .i64 q.f1.f4, .string q.f2] 46 (0, 0)) BN.out hg (Kd.R_away HO303.out (fun _ hk => hk.2)))
      have n2_ := Aside0.mk (Kd.R_after (ok := (fun k_ => k_ ≠ gn)) (by (with_reducible repeat (first | apply Kd.R_alloc | apply Kd.R_drewN | apply Kd.R_drew)); exact Kd.R_mono HO306.out (fun _ hk => ⟨hk.2, hk.1⟩)) hg hat)
      have n3_ := Aside0.mk (hb)
      have n4_ := Aside0.mk (ho)
      clear BX; clear BN; clear HO306; clear HB; clear HO303
      have BX := n0_
      have BN := n1_
      have HO306 := n2_
      have HB := n3_
      have HO309 := n4_
      clear n0_ n1_ n2_ n3_ n4_; clear ho hb hg hat
      refine hK.out _ _ ⟨(blk_cell BN.out 0).trans rfl, (blk_cell BN.out 1).trans rfl, (blk_cell BN.out 2).trans rfl, (blk_cell BN.out 3).trans rfl, (blk_cell BN.out 4).trans rfl, (blk_cell BN.out 5).trans rfl, (blk_cell BN.out 6).trans rfl⟩ (fun hHeld => ?_)
      clear hK K
      refine norm_ (a' := ?_) ?_ ?_
      rotate_left
      ·
       show Act.put _ (some 121) _ = _
       simp only [Act.put, List.setIfInBounds_toArray, List.set_cons_zero, List.set_cons_succ, i64_w, i32_w]
       rfl
      refine pure_ (i := 6) (N := some 6) (v := ?_) (a' := ?_) #[true, true, true, true, true, true, true, false] rfl rfl (any_of HT_.out (by kernel_rfl)) (fun _ _ _ h => h) (Or.inl ⟨by rfl, ?_⟩) ?_ ?_
      rotate_left; · intro w'; go_simp; with_reducible rfl
      rotate_left; · simp only [Act.put, List.setIfInBounds_toArray, List.set_cons_zero, List.set_cons_succ, i64_w, i32_w]; rfl
      refine pure_ (i := 7) (N := some 7) (v := ?_) (a' := ?_) #[true, true, true, true, true, true, true, true] rfl rfl (any_of HT_.out (by kernel_rfl)) (fun _ _ _ h => h) (Or.inl ⟨by rfl, ?_⟩) ?_ ?_
      rotate_left; · intro w'; go_simp; with_reducible rfl
      rotate_left; · simp only [Act.put, List.setIfInBounds_toArray, List.set_cons_zero, List.set_cons_succ, i64_w, i32_w]; rfl
      refine done_ (done_of HT_.out (by kernel_rfl)) ?_
      try go_wp2
      go_ret2
      exact ⟨_, rfl, Kd.R_mono HO309.out (fun _ _ => trivial), HB.out⟩
    · have z : (spotT l (pb x.f1) != 0) = true := bne_iff_ne.2 hs
      obtain rfl : R = ([], spotT l (pb x.f1)) := by rw [HRQ.out, if_neg hs, ansT]; simp only [ite_self]
      clear hs
      go_wp2_with fail
      go_ret2
      exact ⟨_, rfl, Kd.R_nil _ _ _ _ _, HB.out⟩
end Go.Proofs.YtoggfapafjgkdaaDoor.T
namespace Go.Proofs.YtoggfapafjgkdaaDoor.T
open Go.RowKit Go.Deep Go.Proofs.YtoggfapafjgkdaaDoorW.PrintWords Go.Proofs.YtoggfapafjgkdaaDoorW.PrintLast Go.Proofs.YtoggfapafjgkdaaDoorW.PrintMore Go.Proofs.YtoggfapafjgkdaaDoor.PAll
set_option linter.unusedSimpArgs false
set_option linter.unusedVariables false
noncomputable def rrunE : List S46 → Int → List S33 → Nat → Option (List S46) × Nat × Int
 | l, b, [], i => (some l, i, 0)
 | l, b, x :: r, i => if (editT l (b + i) x).2.2 = 0 then rrunE (editT l (b + i) x).1 b r (i + 1) else (none, i, (editT l (b + i) x).2.2)
open Classical in
noncomputable def rapplyT (a : List S46) (L : List S33) : List S46 × Int × Int := if Formed a then outE (rrunE a ((a.length : Int) + 1) L 0) else ([], 0, 5)
def rn (f : Int → Int) (n : S46) : S46 := ⟨n.f0, ⟨f n.f1.f0, n.f1.f1, n.f1.f2, n.f1.f3, n.f1.f4⟩, n.f2⟩
theorem rn_find (f : Int → Int) (p : List UInt8) : ∀ (l : List S46) (i : Nat), findI p i (l.map (rn f)) = findI p i l
 | [], i => rfl
 | n :: r, i => by
  rw [List.map_cons]
  unfold findI
  rw [rn_find f p r (i + 1)]
  rfl
theorem rn_at (f : Int → Int) (l : List S46) {k : Nat} (h : k < l.length) : rd_T46 (l.map (rn f)) (k : Int) = rn f (rd_T46 l (k : Int)) := by
 have h1 : rd_T46 (l.map (rn f)) (k : Int) = (l.map (rn f))[k]'(by rw [List.length_map]; exact h) := rd_at (by rw [List.length_map]; exact h)
 have h2 : rd_T46 l (k : Int) = l[k] := rd_at h
 rw [h1, h2, List.getElem_map]
theorem rn_spot (f : Int → Int) (l : List S46) (p : List UInt8) : spotT (l.map (rn f)) p = spotT l p := by
 unfold spotT
 rw [rn_find, rn_find]
 rcases findI_cases (abv p) l 0 with ⟨e, _⟩ | ⟨k, hk, e, _⟩
 ·
  rw [e, if_pos (show (-1 : Int) < 0 by decide), if_pos (show (-1 : Int) < 0 by decide)]
 ·
  rw [e, Nat.zero_add, rn_at f l hk]
  rfl
def Inj (f : Int → Int) (l : List S46) : Prop := ∀ n ∈ l, ∀ m ∈ l, f (ino n) = f (ino m) → ino n = ino m
theorem rn_remove (f : Int → Int) (l : List S46) (p : List UInt8) : (removeT (l.map (rn f)) p) = ((removeT l p).1.map (rn f), (removeT l p).2) := by
 classical
 unfold removeT
 rw [rn_find]
 have e : (∃ n ∈ l.map (rn f), childN p n) ↔ ∃ n ∈ l, childN p n := by
  constructor
  ·
   rintro ⟨n, hn, h⟩
   obtain ⟨m, hm, rfl⟩ := List.mem_map.1 hn
   exact ⟨m, hm, h⟩
  ·
   rintro ⟨n, hn, h⟩
   exact ⟨_, List.mem_map.2 ⟨n, hn, rfl⟩, h⟩
 by_cases h1 : findI p 0 l < 0
 ·
  rw [if_pos h1, if_pos h1]
 ·
  rw [if_neg h1, if_neg h1]
  by_cases h2 : p = [47]
  ·
   rw [if_pos h2, if_pos h2]
  ·
   rw [if_neg h2, if_neg h2]
   by_cases h3 : ∃ n ∈ l, childN p n
   ·
    rw [if_pos h3, if_pos (e.2 h3)]
   ·
    rw [if_neg h3, if_neg (fun q => h3 (e.1 q))]
    simp only [List.eraseIdx_eq_take_drop_succ, List.map_append, List.map_take, List.map_drop]
theorem rn_link (f : Int → Int) (l : List S46) (p : ByteArray) (tt : List UInt8) : (linkT (l.map (rn f)) p tt) = ((linkT l p tt).1.map (rn f), (linkT l p tt).2) := by
 unfold linkT
 rw [rn_find, rn_spot]
 rcases findI_cases tt l 0 with ⟨e, _⟩ | ⟨k, hk, e, _⟩
 ·
  rw [e, if_pos (show (-1 : Int) < 0 by decide), if_pos (show (-1 : Int) < 0 by decide)]
 ·
  have hk0 : ¬ ((k : Int) < 0) := by omega
  rw [e, Nat.zero_add, rn_at f l hk, if_neg hk0, if_neg hk0]
  by_cases h2 : knd (rd_T46 l (k : Int)) ≠ 1
  ·
   rw [if_pos h2, if_pos (show knd (rn f (rd_T46 l (k : Int))) ≠ 1 from h2)]
  ·
   rw [if_neg h2, if_neg (show ¬ (knd (rn f (rd_T46 l (k : Int))) ≠ 1) from h2)]
   by_cases h3 : spotT l (pb p) ≠ 0
   ·
    rw [if_pos h3, if_pos h3]
   ·
    rw [if_neg h3, if_neg h3, List.map_append]
    rfl
theorem rn_change (f : Int → Int) (l : List S46) (hf : Inj f l) (p : List UInt8) (d : ByteArray) : (changeT (l.map (rn f)) p d) = ((changeT l p d).1.map (rn f), (changeT l p d).2) := by
 unfold changeT
 rw [rn_find]
 rcases findI_cases p l 0 with ⟨e, _⟩ | ⟨k, hk, e, _⟩
 ·
  rw [e, if_pos (show (-1 : Int) < 0 by decide), if_pos (show (-1 : Int) < 0 by decide)]
 ·
  have hk0 : ¬ ((k : Int) < 0) := by omega
  rw [e, Nat.zero_add, rn_at f l hk, if_neg hk0, if_neg hk0]
  by_cases h2 : knd (rd_T46 l (k : Int)) ≠ 1
  ·
   rw [if_pos h2, if_pos (show knd (rn f (rd_T46 l (k : Int))) ≠ 1 from h2)]
  ·
   rw [if_neg h2, if_neg (show ¬ (knd (rn f (rd_T46 l (k : Int))) ≠ 1) from h2)]
   by_cases h3 : (d.size : Int) > 5675264
   ·
    rw [if_pos h3, if_pos h3]
   ·
    rw [if_neg h3, if_neg h3, List.map_map, List.map_map]
    refine Prod.ext (List.map_congr_left (fun n hn => ?_)) rfl
    have hx : rd_T46 l (k : Int) ∈ l := rdn_mem hk
    generalize rd_T46 l (k : Int) = x at hx
    show fillN (ino (rn f x)) d (rn f n) = rn f (fillN (ino x) d n)
    unfold fillN
    by_cases hi : ino n = ino x
    ·
     rw [if_pos hi, if_pos (show ino (rn f n) = ino (rn f x) from congrArg f hi)]
     rfl
    ·
     rw [if_neg hi, if_neg (show ¬ (ino (rn f n) = ino (rn f x)) from fun q => hi (hf n hn x hx q))]
theorem rn_edit {f : Int → Int} {l : List S46} {nx b : Int} (x : S33) (hf : Inj f l) (h1 : ∀ n ∈ l, ino n < nx) (h2 : ∀ n ∈ l, f (ino n) < b) :
  (editT (l.map (rn f)) b x).2.2 = (editT l nx x).2.2 ∧ ((editT l nx x).2.2 = 0 → ∃ g, (editT (l.map (rn f)) b x).1 = (editT l nx x).1.map (rn g) ∧ Inj g (editT l nx x).1 ∧ (∀ n ∈ (editT l nx x).1, ino n < (editT l nx x).2.1) ∧ ∀ n ∈ (editT l nx x).1, g (ino n) < b + 1) := by
 have SUB : ∀ {l' : List S46}, (∀ n ∈ l', ∃ m ∈ l, ino n = ino m) → Inj f l' ∧ (∀ n ∈ l', ino n < nx) ∧ ∀ n ∈ l', f (ino n) < b + 1 := fun {l'} h => by
  refine ⟨fun n hn m hm e => ?_, fun n hn => ?_, fun n hn => ?_⟩
  ·
   obtain ⟨n', hn', e1⟩ := h n hn
   obtain ⟨m', hm', e2⟩ := h m hm
   rw [e1, e2] at e ⊢
   exact hf n' hn' m' hm' e
  ·
   obtain ⟨n', hn', e1⟩ := h n hn
   rw [e1]
   exact h1 n' hn'
  ·
   obtain ⟨n', hn', e1⟩ := h n hn
   have := h2 n' hn'
   rw [e1]
   omega
 have NEW : ∀ (k : Int) (p d : ByteArray), (newT (l.map (rn f)) b k p d).2.2 = (newT l nx k p d).2.2 ∧ ((newT l nx k p d).2.2 = 0 → ∃ g, (newT (l.map (rn f)) b k p d).1 = (newT l nx k p d).1.map (rn g) ∧ Inj g (newT l nx k p d).1 ∧ (∀ n ∈ (newT l nx k p d).1, ino n < (newT l nx k p d).2.1) ∧ ∀ n ∈ (newT l nx k p d).1, g (ino n) < b + 1) := fun k p d => by
  by_cases hs : spotT l (pb p) = 0
  ·
   have hs2 : spotT (l.map (rn f)) (pb p) = 0 := by rw [rn_spot]; exact hs
   rw [new_ok hs, new_ok hs2]
   refine ⟨rfl, fun _ => ⟨fun z => if z = nx then b else f z, ?_, ?_, ?_, ?_⟩⟩
   ·
    rw [List.map_append]
    refine congr (congrArg _ (List.map_congr_left (fun n hn => ?_))) ?_
    ·
     have := h1 n hn
     have e : ino n ≠ nx := by omega
     unfold rn
     simp only [if_neg (show ¬ n.f1.f0 = nx from e)]
    ·
     simp [rn]
   ·
    intro n hn m hm e
    rcases List.mem_append.1 hn with hn | hn
    ·
     have a1 := h1 n hn
     have a2 := h2 n hn
     rcases List.mem_append.1 hm with hm | hm
     ·
      have a3 := h1 m hm
      simp only [if_neg (show ¬ ino n = nx by omega), if_neg (show ¬ ino m = nx by omega)] at e
      exact hf n hn m hm e
     ·
      obtain rfl := List.mem_singleton.1 hm
      simp only [if_neg (show ¬ ino n = nx by omega)] at e
      rw [if_pos (show ino (⟨p, ⟨nx, 0, k, 0, 0⟩, d⟩ : S46) = nx from rfl)] at e
      omega
    ·
     obtain rfl := List.mem_singleton.1 hn
     rcases List.mem_append.1 hm with hm | hm
     ·
      have a1 := h1 m hm
      have a2 := h2 m hm
      simp only [if_neg (show ¬ ino m = nx by omega)] at e
      rw [if_pos (show ino (⟨p, ⟨nx, 0, k, 0, 0⟩, d⟩ : S46) = nx from rfl)] at e
      omega
     ·
      obtain rfl := List.mem_singleton.1 hm
      rfl
   ·
    intro n hn
    show ino n < nx + 1
    rcases List.mem_append.1 hn with hn | hn
    ·
     have := h1 n hn
     omega
    ·
     obtain rfl := List.mem_singleton.1 hn
     show nx < nx + 1
     omega
   ·
    intro n hn
    rcases List.mem_append.1 hn with hn | hn
    ·
     have a1 := h1 n hn
     have a2 := h2 n hn
     simp only [if_neg (show ¬ ino n = nx by omega)]
     omega
    ·
     obtain rfl := List.mem_singleton.1 hn
     simp only [if_pos (show ino (⟨p, ⟨nx, 0, k, 0, 0⟩, d⟩ : S46) = nx from rfl)]
     omega
  ·
   have hs2 : spotT (l.map (rn f)) (pb p) ≠ 0 := by rw [rn_spot]; exact hs
   rw [new_bad hs, new_bad hs2, rn_spot]
   exact ⟨rfl, fun q => absurd q hs⟩
 have OLD : ∀ (r : List S46 × Int) (hr : r.2 = 0 → ∀ n ∈ r.1, ∃ m ∈ l, ino n = ino m), True ∧ (r.2 = 0 → ∃ g, r.1.map (rn f) = r.1.map (rn g) ∧ Inj g r.1 ∧ (∀ n ∈ r.1, ino n < nx) ∧ ∀ n ∈ r.1, g (ino n) < b + 1) := fun r hr =>
  ⟨trivial, fun h => ⟨f, rfl, SUB (hr h)⟩⟩
 unfold editT
 by_cases c1 : x.f0 = 1
 ·
  simp only [if_pos c1, rn_remove]
  refine OLD (removeT l (pb x.f1)) (fun h n hn => ⟨n, ?_, rfl⟩)
  unfold removeT at hn
  split at hn
  ·
   exact hn
  ·
   split at hn
   ·
    exact hn
   ·
    split at hn
    ·
     exact hn
    ·
     exact List.mem_of_mem_eraseIdx hn
 simp only [if_neg c1]
 by_cases c5 : x.f0 = 5
 ·
  simp only [if_pos c5, rn_link]
  refine OLD (linkT l x.f1 (pb x.f2)) (fun h n hn => ?_)
  unfold linkT at hn
  rcases findI_cases (pb x.f2) l 0 with ⟨e, _⟩ | ⟨k, hk, e, _⟩
  ·
   rw [e, if_pos (by decide)] at hn
   exact ⟨n, hn, rfl⟩
  ·
   rw [e, Nat.zero_add] at hn
   split at hn
   ·
    exact ⟨n, hn, rfl⟩
   ·
    split at hn
    ·
     exact ⟨n, hn, rfl⟩
    ·
     split at hn
     ·
      exact ⟨n, hn, rfl⟩
     ·
      rcases List.mem_append.1 hn with hn | hn
      ·
       exact ⟨n, hn, rfl⟩
      ·
       obtain rfl := List.mem_singleton.1 hn
       exact ⟨_, rdn_mem hk, rfl⟩
 simp only [if_neg c5]
 by_cases c6 : x.f0 = 6
 ·
  simp only [if_pos c6, rn_change f l hf]
  refine OLD (changeT l (pb x.f1) x.f3) (fun h n hn => ?_)
  unfold changeT at hn
  split at hn
  ·
   exact ⟨n, hn, rfl⟩
  ·
   split at hn
   ·
    exact ⟨n, hn, rfl⟩
   ·
    split at hn
    ·
     exact ⟨n, hn, rfl⟩
    ·
     obtain ⟨m, hm, rfl⟩ := List.mem_map.1 hn
     exact ⟨m, hm, by unfold fillN; split <;> rfl⟩
 simp only [if_neg c6]
 by_cases c4 : x.f0 = 4
 ·
  simp only [if_pos c4]
  by_cases hs : splitE (pb x.f2) ≠ 0
  ·
   simp only [if_pos hs]
   exact ⟨trivial, fun q => absurd q hs⟩
  ·
   simp only [if_neg hs]
   exact NEW 3 x.f1 x.f2
 simp only [if_neg c4]
 by_cases c3 : x.f0 = 3
 ·
  simp only [if_pos c3]
  by_cases hs : (x.f3.size : Int) > 5675264
  ·
   simp only [if_pos hs]
   exact ⟨trivial, fun q => by cases q⟩
  ·
   simp only [if_neg hs]
   exact NEW 1 x.f1 x.f3
 simp only [if_neg c3]
 by_cases c2 : x.f0 = 2
 ·
  simp only [if_pos c2]
  exact NEW 2 x.f1 eB
 ·
  simp only [if_neg c2]
  exact ⟨trivial, fun q => by cases q⟩
theorem rn_norm {f : Int → Int} {l : List S46} (hf : Inj f l) (T : Tree l) (T2 : Tree (l.map (rn f))) : normT (l.map (rn f)) = normT l := by
 refine (Like.norm T T2 ⟨fun n hn => ⟨_, List.mem_map.2 ⟨n, hn, rfl⟩, rfl⟩, fun m hm => ?_, fun n hn n' hn' m hm m' hm' e e' => ?_⟩).symm
 ·
  obtain ⟨n, hn, rfl⟩ := List.mem_map.1 hm
  exact ⟨n, hn, rfl⟩
 ·
  obtain ⟨k, hk, rfl⟩ := List.mem_map.1 hm
  obtain ⟨k', hk', rfl⟩ := List.mem_map.1 hm'
  rw [T.node hn hk e.pth, T.node hn' hk' e'.pth]
  exact ⟨fun q => congrArg f q, fun q => hf k hk k' hk' q⟩
theorem run_rrun : ∀ (L : List S33) (l : List S46) (nx b : Int) (f : Int → Int) (i : Nat), Inv l nx → Inv (l.map (rn f)) (b + i) → Inj f l → outE (rrunE (l.map (rn f)) b L i) = outE (runE l nx L i)
 | [], l, nx, b, f, i, h, h2, hf => by
  show ((normT (l.map (rn f))).1, (i : Int), (normT (l.map (rn f))).2) = ((normT l).1, (i : Int), (normT l).2)
  rw [rn_norm hf h.1 h2.1]
 | x :: r, l, nx, b, f, i, h, h2, hf => by
  obtain ⟨e1, e2⟩ := rn_edit (nx := nx) (b := b + i) x hf h.2 (fun n hn => h2.2 _ (List.mem_map.2 ⟨n, hn, rfl⟩))
  unfold rrunE runE
  rw [e1]
  by_cases h0 : (editT l nx x).2.2 = 0
  ·
   rw [if_pos h0, if_pos h0]
   obtain ⟨g, g1, g2, g3, g4⟩ := e2 h0
   have I1 := inv_edit h h0
   have I2 := inv_edit h2 (x := x) (e1.trans h0)
   rw [g1] at I2 ⊢
   refine run_rrun r _ _ b g (i + 1) I1 ⟨I2.1, fun n hn => ?_⟩ g2
   obtain ⟨m, hm, rfl⟩ := List.mem_map.1 hn
   have := g4 m hm
   show g (ino m) < b + ((i + 1 : Nat) : Int)
   omega
  ·
   rw [if_neg h0, if_neg h0]
theorem rn_id (l : List S46) : l.map (rn id) = l := by
 have : rn id = id := rfl
 rw [this, List.map_id]
theorem rapply_eq (a : List S46) (L : List S33) : rapplyT a L = applyT a L := by
 unfold rapplyT applyT
 by_cases F : Formed a
 ·
  rw [if_pos F, if_pos F]
  have h := run_rrun L a (a.length + 1) ((a.length : Int) + 1) id 0 F.inv (by rw [rn_id]; simpa using F.inv) (fun n _ m _ e => e)
  rwa [rn_id] at h
 ·
  rw [if_neg F, if_neg F]
theorem Gd.red {l : List S46} {nx : Int} {m : Nat} (h : Gd l nx m) (hm : m < 1000000) (hx : nx = m + 1) (x : S33) : Gd (editT l nx x).1 (nx + 1) (m + 1) :=
 ⟨(h.edit hm x).len, (h.edit hm x).sz, (h.edit hm x).wf, by have := h.lo; omega, by omega⟩
set_option maxHeartbeats 1000000 in
set_option maxRecDepth 100000 in
theorem rapply_c (a : List S46) (L : List S33) (A B : Option Addr) (ca cb : Nat) (w : World) (hra : Kd.C k46 w A a.length a) (hca : a.length ≤ ca) (hrb : Kd.C k33 w B L.length L) (hcb : L.length ≤ cb)
  (hla : a.length < 10000) (hlb : L.length < 10000) (hwa : Wf a) :
  Calls Tryd.prog 19 #[.slice A a.length ca, .slice B L.length cb] w fun e w' => ApRet (applyT a L) w e w' := by
 have hu46 := Tryd.underlying46
 have hu44 := Tryd.underlying44
 have hu33 := Tryd.underlying33
 have HRA := Aside0.mk hra
 have HCA := Aside0.mk hca
 have HRB := Aside0.mk hrb
 have HCB := Aside0.mk hcb
 have HLA := Aside0.mk hla
 have HLB := Aside0.mk hlb
 have HWA := Aside0.mk hwa
 obtain ⟨R, hR⟩ : ∃ R, rapplyT a L = R := ⟨_, rfl⟩
 have HR := Aside0.mk hR
 rw [← rapply_eq, hR]
 obtain ⟨r, hr⟩ : ∃ r : Bool, r = true ↔ Formed a := by
  by_cases h : Formed a
  ·
   exact ⟨true, by simp [h]⟩
  ·
   exact ⟨false, by simp [h]⟩
 obtain ⟨K, hK⟩ := evs_get (rformed_ev2 a (by omega) r hr)
 have HK := Aside0.mk hK
 have HF := Aside0.mk hr
 clear hra hca hrb hcb hla hlb hwa hR hr hK
 go_enter Tryd.func19, Tryd.ntmps19
 go_wp2_with fail
 refine (grapnelref19_formed.calls K A ca a r w HRA.out HCA.out HK.out).mono ?_
 rintro e w1 ⟨rfl, hb1⟩
 have HB := Aside0.mk hb1
 clear hb1 HK
 cases r with
 | false =>
  have HX : Aside0 (ApRet R w (.returned (.tuple #[.slice none 0 0, .int .i64 0, .int .i64 5])) w1) := ⟨by
   rw [← HR.out, rapplyT, if_neg (fun q => by have := HF.out.2 q; cases this)]
   exact ⟨_, rfl, Kd.R_nil _ _ _ _ _, HB.out⟩⟩
  go_wp2_with fail
  go_ret3
  exact HX.out
 | true =>
  have HFa := Aside0.mk (HF.out.1 rfl)
  have hw1 : wrap64 ((a.length : Int) + 1) = (a.length : Int) + 1 := by have := HLA.out; rw [w64 (by omega) (by omega)]
  have HR2 : Aside0 (R = outE (rrunE a ((a.length : Int) + 1) L 0)) := ⟨by
   rw [← HR.out, rapplyT, if_pos HFa.out]⟩
  obtain ⟨Q, hQ⟩ : ∃ Q, rrunE a ((a.length : Int) + 1) L 0 = Q := ⟨_, rfl⟩
  have HQ := Aside0.mk hQ
  rw [hQ] at HR2
  have HGD : Aside0 (Gd a ((a.length : Int) + 1 + (0 : Nat)) (a.length + 0)) := ⟨⟨Nat.le_refl _, fun n hn => may_size (HFa.out.1.may n hn), HWA.out, by omega, by omega⟩⟩
  have HRX := Aside0.mk (Kd.C_below HRA.out HB.out)
  clear hQ HF
  go_wp2_with fail
  go_loopw [7, 8] (fun tv iv wr => ∃ (k : Nat) (l : List S46) (X : Option Addr) (cx : Nat), k ≤ L.length ∧ tv = .slice X l.length cx ∧ iv = .int .i64 k ∧ Aside0 (rrunE l ((a.length : Int) + 1) (L.drop k) k = Q) ∧ Aside0 (Gd l ((a.length : Int) + 1 + k) (a.length + k)) ∧ Aside0 (Kd.C k46 wr X l.length l) ∧ Aside0 (l.length ≤ cx) ∧ Aside0 (Below w.heap.size w wr)) (fun _ iv _ => L.length - (intOf iv).toNat)
  case atStart => exact ⟨0, a, _, _, by omega, rfl, rfl, HQ, HGD, HRX, HCA, HB⟩
  case round =>
   clear HB HGD HRX
   obtain ⟨k, l, X, cx, hk, rfl, rfl, HQk, HGD, HRX, HCX, HB⟩ := hrel
   by_cases hkl : k < L.length
   ·
    have HK := Aside0.mk hkl
    obtain ⟨ad, ea, x0, x1, x2, x3⟩ := at_T33 (Kd.C_below HRB.out HB.out) (k : Int) (by omega) (by omega)
    cases ea
    simp only [Int.toNat_natCast] at x0 x1 x2 x3
    have p1 : (0 ≤ (k : Int)) = True := eq_true (by omega)
    have q1 : ((k : Int) < (L.length : Int)) = True := eq_true (by omega)
    have q2 : (k < L.length) = True := eq_true hkl
    have hw2 : wrap64 ((a.length : Int) + 1 + (k : Int)) = (a.length : Int) + 1 + (k : Int) := by have := HLA.out; have := HLB.out; rw [w64 (by omega) (by omega)]
    clear hkl hk
    obtain ⟨E, hE⟩ : ∃ E, editT l ((a.length : Int) + 1 + (k : Int)) (rd_T33 L (k : Int)) = E := ⟨_, rfl⟩
    have HE := Aside0.mk hE
    have hedit := redit_c l X cx (rd_T33 L (k : Int)) ((a.length : Int) + 1 + (k : Int)) wr HRX.out HCX.out (by have := HGD.out.len; have := HLA.out; have := HLB.out; have := HK.out; omega) HGD.out.sz
    rw [hE] at hedit
    have HED := Aside0.mk hedit
    clear hE hedit
    go_wp2_with fail
    refine HED.out.mono ?_
    rintro e w7 ⟨v7, rfl, hv7, hb7⟩
    have HB7 := Aside0.mk (below_step HB.out hb7)
    have HQ2 : Aside0 ((if E.2.2 = 0 then rrunE E.1 ((a.length : Int) + 1) (L.drop (k + 1)) (k + 1) else (none, k, E.2.2)) = Q) := ⟨by
     have := HQk.out
     rw [drop33 HK.out, rrunE, HE.out] at this
     exact this⟩
    by_cases h0 : E.2.2 = 0
    ·
     have HQ3 := Aside0.mk ((if_pos h0).symm.trans HQ2.out)
     have HG3 : Aside0 (Gd E.1 ((a.length : Int) + 1 + ((k + 1 : Nat) : Int)) (a.length + (k + 1))) := ⟨by
      have h1 := HLA.out
      have h2 := HLB.out
      have h3 := HK.out
      have := HGD.out.red (by omega) (by omega) (rd_T33 L (k : Int))
      rw [HE.out] at this
      rw [show (a.length : Int) + 1 + ((k + 1 : Nat) : Int) = (a.length : Int) + 1 + (k : Int) + 1 by omega]
      exact this⟩
     have z0 : ((ansT (E.1, E.2.2)).2 != 0) = false := by simpa [ansT] using h0
     have ea : (ansT (E.1, E.2.2)).1 = E.1 := if_pos h0
     rw [ea] at hv7
     obtain ⟨X7, c7, e7⟩ := Kd.R_slice hv7
     subst e7
     have HRX7 := Aside0.mk (Kd.R_reads' hv7).2.2
     have HCX7 := Aside0.mk (Kd.R_reads' hv7).2.1
     clear HQ2 hv7 hb7 ea HRX HB
     go_wp2_with fail
     clear h0 z0
     go_roundw
     case rel =>
      have h1 := HK.out
      have h2 := HLB.out
      exact ⟨k + 1, _, _, _, by omega, rfl, by rw [w64 (by omega) (by omega)]; rfl, HQ3, HG3, HRX7, HCX7, HB7⟩
     case measure =>
      have := HK.out
      have := HLB.out
      rw [w64 (by omega) (by omega)]
      first
       | (simp [intOf]; done)
       | (simp [intOf]; omega)
    ·
     have z0 : ((ansT (E.1, E.2.2)).2 != 0) = true := by simpa [ansT] using h0
     have HX : Aside0 (ApRet R w (.returned (.tuple #[.slice none 0 0, .int .i64 (k : Int), .int .i64 (ansT (E.1, E.2.2)).2])) w7) := ⟨by
      have e := (if_neg h0).symm.trans HQ2.out
      rw [HR2.out, ← e]
      exact ⟨_, rfl, Kd.R_nil _ _ _ _ _, HB7.out⟩⟩
     clear h0 hv7 hb7
     go_wp2_with fail
     go_ret3
     exact HX.out
   ·
    have hke : k = L.length := by omega
    subst hke
    have q1 : ((L.length : Int) < (L.length : Int)) = False := eq_false (by omega)
    have q2 : (L.length < L.length) = False := eq_false (by omega)
    have HQ3 : Aside0 (Q = (some l, L.length, 0)) := ⟨by
     have := HQk.out
     rw [List.drop_length] at this
     exact this.symm⟩
    obtain ⟨K, hK⟩ := evs_get (normT_ev l (by have := HGD.out.len; have := HLA.out; have := HLB.out; omega))
    have HN := Aside0.mk (grapnelref18_Normal.calls K X cx l (normT l).1 (normT l).2 wr HRX.out HCX.out hK)
    clear hkl hk hK
    go_wp2_with fail
    refine HN.out.mono ?_
    rintro e w9 ⟨v9, rfl, hv9, hb9⟩
    have HX : Aside0 (ApRet R w (.returned (.tuple #[v9, .int .i64 (L.length : Int), .int .i64 (normT l).2])) w9) := ⟨by
     rw [HR2.out, HQ3.out]
     exact ⟨_, rfl, Kd.R_lower hv9 (below_size HB.out), below_step HB.out hb9⟩⟩
    clear hv9 hb9
    go_wp2_with fail
    go_ret3
    exact HX.out
end Go.Proofs.YtoggfapafjgkdaaDoor.T
