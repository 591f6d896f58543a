/- delta.sapling: edit. -/
import Derived.Test.YtoggfapafjgkdaaDoorDAH4
import Derived.Test.YtoggfapafjgkdaaDoorDAH5
import Derived.Test.YtoggfapafjgkdaaDoorDAH1
import Derived.Test.YtoggfapafjgkdaaDoorDAK1
import Derived.Test.YtoggfapafjgkdaaDoorDAH2
import Derived.Deep.RegionLaw
import Derived.Lib.SliceRun
import Derived.Test.YtoggfapafjgkdaaDoorDAH3

namespace Go.Proofs.YtoggfapafjgkdaaDoor.T
open Go.RowKit Go.Proofs.YtoggfapafjgkdaaDoorW.PrintWords Go.Proofs.YtoggfapafjgkdaaDoorW.PrintLast Go.Proofs.YtoggfapafjgkdaaDoorW.PrintMore Go.Proofs.YtoggfapafjgkdaaDoor.PAll
set_option linter.unusedSimpArgs false
set_option linter.unusedVariables false
def Sap (w : World) (g base : Nat) (l : List S46) (next : Int) : Prop :=
 ∃ v : Value, w.heap[g]? = some (.cells #[v, .int .i64 next] 58 (0, 0)) ∧ Kd.R k46 46 w base (fun k => k ≠ g) v l ∧ base ≤ g
theorem Sap.below {w w' : World} {g base : Nat} {l : List S46} {n : Int} (h : Sap w g base l n) (hb : Below w.heap.size w w') : Sap w' g base l n := by
 obtain ⟨v, h1, h2, h3⟩ := h
 exact ⟨v, blk_below h1 hb, Kd.R_below h2 hb, h3⟩
theorem Sap.lt {w : World} {g base : Nat} {l : List S46} {n : Int} (h : Sap w g base l n) : g < w.heap.size := by
 obtain ⟨v, h1, h2, h3⟩ := h
 exact blk_lt h1
set_option maxHeartbeats 8000000 in
set_option maxRecDepth 100000 in
theorem findf_c (n : S46) (gs : Nat) (s : ByteArray) (r : Bool) (w : World) (hs : w.cell? ⟨gs, 0, none⟩ = some (.string s)) (h : decide (pth n = pb s) = r) :
  Calls Tryd.prog 97 #[.agg #[.string n.f0, .int .i64 n.f1.f0, .int .i64 n.f1.f1, .int .i64 n.f1.f2, .int .i64 n.f1.f3, .int .i64 n.f1.f4, .string n.f2], .pointer (some ⟨gs, 0, none⟩)] w fun e w' => e = .returned (.bool r) ∧ Below w.heap.size w w' := by
 have hu46 := Tryd.underlying46
 have hu44 := Tryd.underlying44
 have HB := Aside0.mk (Below.refl w.heap.size w)
 have er : (n.f0.toList == s.toList) = r := by
  rw [toL, toL, ← h]
  by_cases e : pb n.f0 = pb s
  ·
   rw [decide_eq_true (show pth n = pb s from e)]; exact beq_iff_eq.2 e
  ·
   rw [decide_eq_false (show ¬ pth n = pb s from e)]; exact beq_eq_false_iff_ne.2 e
 have HS := Aside0.mk hs
 clear h hs
 obtain ⟨p, i, g, kd, lk, sz, d, hn⟩ : ∃ p i g kd lk sz d, n = ⟨p, ⟨i, g, kd, lk, sz⟩, d⟩ := ⟨n.f0, n.f1.f0, n.f1.f1, n.f1.f2, n.f1.f3, n.f1.f4, n.f2, rfl⟩
 subst hn
 simp only at er ⊢
 subst er
 go_enter Tryd.func97, Tryd.ntmps97
 go_wp2_with (first | ((with_reducible refine gate_dst (N := 2) rfl ?_); (try (refine gate_guard (by rfl) ?_; dsimp only)); refine box_event ?hg (N := 2) ?hd (cs := #[.string p, .int .i64 i, .int .i64 g, .int .i64 kd, .int .i64 lk, .int .i64 sz, .string d]) (t := 46) ?hr ?_; (case hd => rfl); (case hg => rfl); (case hr => first | (go_simp; done) | (go_simp; rfl)); intro gb hg w5 hbox hb; have n0_ := Aside0.mk (below_step HB.out hb); have c0 : w5.cell? ⟨gb, 0, none⟩ = some (.string p) := (blk_cell hbox 0).trans rfl; have cs := (hb.cell (World.block_lt_of_cell? w _ HS.out)).trans HS.out; clear HB; have HB := n0_; clear n0_ hb hbox hg))
 go_ret
 exact ⟨rfl, HB.out⟩
theorem findI_first {p : List UInt8} {l : List S46} {k : Nat} (hk : k < l.length) (h : pth (rd_T46 l (k : Int)) = p) (hf : ∀ t : Nat, t < k → pth (rd_T46 l (t : Int)) ≠ p) : findI p 0 l = (k : Int) := by
 rcases findI_cases p l 0 with ⟨_, e⟩ | ⟨j, hj, e, e1, e2⟩
 ·
  exact absurd h (e _ (rdn_mem hk))
 ·
  rw [e, Nat.zero_add]
  rcases Nat.lt_trichotomy j k with q | q | q
  ·
   exact absurd e1 (hf j q)
  ·
   rw [q]
  ·
   exact absurd h (e2 k q)
theorem findI_none {p : List UInt8} {l : List S46} (hf : ∀ t : Nat, t < l.length → pth (rd_T46 l (t : Int)) ≠ p) : findI p 0 l = -1 := by
 rcases findI_cases p l 0 with ⟨e, _⟩ | ⟨j, hj, e, e1, e2⟩
 ·
  exact e
 ·
  exact absurd e1 (hf j hj)
set_option maxHeartbeats 8000000 in
set_option maxRecDepth 100000 in
theorem idx_c (l : List S46) (A : Option Addr) (c gs : Nat) (s : ByteArray) (r : Int) (w : World) (hr0 : Kd.C k46 w A l.length l) (hc : l.length ≤ c) (hl : l.length < 2147483648) (hs : w.cell? ⟨gs, 0, none⟩ = some (.string s)) (h : findI (pb s) 0 l = r) :
  Calls Tryd.prog 96 #[.slice A l.length c, .func (.func 97) #[] #[.pointer (some ⟨gs, 0, none⟩)]] w fun e w' => e = .returned (.int .i64 r) ∧ Below w.heap.size w w' := by
 have hu46 := Tryd.underlying46
 have hu44 := Tryd.underlying44
 have HR := Aside0.mk hr0
 have HC := Aside0.mk hc
 have HL := Aside0.mk hl
 have HS := Aside0.mk hs
 have HH := Aside0.mk h
 clear hr0 hc hl hs h
 go_enter Tryd.func96, Tryd.ntmps96
 go_wp2_with fail
 go_loopw [8] (fun i wr => ∃ (k : Nat), k ≤ l.length ∧ i = .int .i64 k ∧ Aside0 (∀ t : Nat, t < k → pth (rd_T46 l (t : Int)) ≠ pb s) ∧ Aside0 (Below w.heap.size w wr)) (fun i _ => l.length - (intOf i).toNat)
 case atStart => exact ⟨0, by omega, rfl, ⟨fun j hj => absurd hj (by omega)⟩, ⟨Below.refl _ _⟩⟩
 case round =>
  obtain ⟨k, hk, rfl, HF, HB⟩ := hrel
  by_cases hkl : k < l.length
  ·
   have HK := Aside0.mk hkl
   obtain ⟨ad, ea, x0, x1, x2, x3, x4, x5, x6⟩ := at_T46 (Kd.C_below HR.out HB.out) (k : Int) (by omega) (by omega)
   cases ea
   simp only [Int.toNat_natCast] at x0 x1 x2 x3 x4 x5 x6
   have p1 : (0 ≤ (k : Int)) = True := eq_true (by omega)
   have q1 : ((k : Int) < (l.length : Int)) = True := eq_true (by omega)
   have q2 : (k < l.length) = True := eq_true hkl
   clear hkl hk
   go_wp2_with fail
   clear x0 x1 x2 x3 x4 x5 x6
   obtain ⟨b, hb⟩ : ∃ b, decide (pth (rd_T46 l (k : Int)) = pb s) = b := ⟨_, rfl⟩
   have HBb := Aside0.mk hb
   clear hb
   refine (findf_c (rd_T46 l (k : Int)) gs s b wr ((HB.out.cell (World.block_lt_of_cell? w _ HS.out)).trans HS.out) HBb.out).mono ?_
   rintro e w1 ⟨rfl, hb1⟩
   have HB1 := Aside0.mk (below_then HB.out HB.out.size hb1)
   clear hb1 HB
   cases b with
   | true =>
    have er : r = (k : Int) := by rw [← HH.out]; exact findI_first HK.out (of_decide_eq_true HBb.out) HF.out
    subst er
    go_wp2_with fail
    go_ret
    exact ⟨rfl, HB1.out⟩
   | false =>
    go_wp2_with fail
    go_roundw
    case rel =>
     have h1 := HK.out
     have h2 := HL.out
     exact ⟨k + 1, by omega, by rw [w64 (by omega) (by omega)]; rfl, ⟨fun t ht => by
      by_cases e : t = k
      ·
       rw [e]; exact of_decide_eq_false HBb.out
      ·
       exact HF.out t (by omega)⟩, HB1⟩
    case measure =>
     have := HK.out
     have := HL.out
     rw [w64 (by omega) (by omega)]
     first
      | (simp [intOf]; done)
      | (simp [intOf]; omega)
  ·
   have hke : k = l.length := by omega
   subst hke
   have q1 : ((l.length : Int) < (l.length : Int)) = False := eq_false (by omega)
   have q2 : (l.length < l.length) = False := eq_false (by omega)
   have er : r = -1 := by rw [← HH.out]; exact findI_none HF.out
   subst er
   clear hkl hk
   go_wp2_with fail
   go_ret
   exact ⟨rfl, HB.out⟩
set_option maxHeartbeats 8000000 in
set_option maxRecDepth 100000 in
theorem find_c (l : List S46) (g base : Nat) (nx : Int) (s : ByteArray) (r : Int) (w : World) (hS : Sap w g base l nx) (hl : l.length < 2147483648) (h : findI (pb s) 0 l = r) :
  Calls Tryd.prog 66 #[.pointer (some ⟨g, 0, none⟩), .string s] w fun e w' => e = .returned (.int .i64 r) ∧ Below w.heap.size w w' := by
 obtain ⟨v, h1, h2, hge⟩ := hS
 obtain ⟨A, c, e⟩ := Kd.R_slice h2
 subst e
 have HR := Aside0.mk (Kd.R_reads' h2).2.2
 have HC := Aside0.mk (Kd.R_reads' h2).2.1
 have HL := Aside0.mk hl
 have HH := Aside0.mk h
 have HG := Aside0.mk h1
 have HB := Aside0.mk (Below.refl w.heap.size w)
 clear h h1 h2 hl hge
 go_enter Tryd.func66, Tryd.ntmps66
 go_wp2_with (first | ((with_reducible refine gate_dst (N := 3) rfl ?_); refine box_event ?hg (N := 3) ?hd (cs := #[.string s]) (t := 9) ?hr ?_; (case hd => rfl); (case hg => rfl); (case hr => first | (go_simp; done) | (go_simp; rfl)); intro gs hg w5 hbox hb; have n0_ := Aside0.mk (below_step HB.out hb); have n1_ := Aside0.mk (Kd.C_below HR.out hb); have n2_ : Aside0 (w5.cell? ⟨gs, 0, none⟩ = some (.string s)) := ⟨(blk_cell hbox 0).trans rfl⟩; have c0 : w5.cell? ⟨g, 0, none⟩ = some (.slice A l.length c) := (blk_cell (blk_below HG.out hb) 0).trans rfl; clear HB HR; have HB := n0_; have HR := n1_; have HS := n2_; clear n0_ n1_ n2_ hb hbox hg))
 refine (idx_c l A c gs s r w5 HR.out HC.out HL.out HS.out HH.out).mono ?_
 rintro e w6 ⟨rfl, hb6⟩
 have HB6 := Aside0.mk (below_then HB.out HB.out.size hb6)
 clear hb6 c0
 go_wp2_with fail
 go_ret
 exact ⟨rfl, HB6.out⟩
end Go.Proofs.YtoggfapafjgkdaaDoor.T
namespace Go.Proofs.YtoggfapafjgkdaaDoor.T
open Go.RowKit Go.Proofs.YtoggfapafjgkdaaDoorW.PrintWords Go.Proofs.YtoggfapafjgkdaaDoorW.PrintLast Go.Proofs.YtoggfapafjgkdaaDoorW.PrintMore Go.Proofs.YtoggfapafjgkdaaDoor.PAll
set_option linter.unusedSimpArgs false
set_option linter.unusedVariables false
def spotT (l : List S46) (p : List UInt8) : Int :=
 if splitE p ≠ 0 then splitE p else if 0 ≤ findI p 0 l then 44 else if findI (abv p) 0 l < 0 then 41
 else if knd (rd_T46 l (findI (abv p) 0 l)) ≠ 2 then 42 else 0
set_option maxHeartbeats 8000000 in
set_option maxRecDepth 100000 in
theorem spot_c (l : List S46) (g base : Nat) (nx : Int) (s : ByteArray) (r : Int) (w : World) (hS : Sap w g base l nx) (hl : l.length < 2147483648) (hT : Tab w) (h : spotT l (pb s) = r) :
  Calls Tryd.prog 49 #[.pointer (some ⟨g, 0, none⟩), .string s] w fun e w' => e = .returned (.int .i64 r) ∧ Below w.heap.size w w' := by
 have HS := Aside0.mk hS
 have HL := Aside0.mk hl
 have HT := Aside0.mk hT
 have HH := Aside0.mk h
 clear hS hl hT h
 go_enter Tryd.func49, Tryd.ntmps49
 go_wp2_with fail
 obtain ⟨e0, he0⟩ : ∃ e0, splitE (pb s) = e0 := ⟨_, rfl⟩
 have HE := Aside0.mk he0
 refine (split_c s e0 w HT.out he0).mono ?_
 rintro e w1 ⟨⟨v, rfl⟩, hb1⟩
 have HB1 := Aside0.mk hb1
 have HS1 := Aside0.mk (HS.out.below hb1)
 clear hb1 he0 HS
 by_cases h0 : e0 = 0
 ·
  subst h0
  have HR : Aside0 ((if 0 ≤ findI (pb s) 0 l then (44 : Int) else if findI (abv (pb s)) 0 l < 0 then 41 else if knd (rd_T46 l (findI (abv (pb s)) 0 l)) ≠ 2 then 42 else 0) = r) := ⟨by
   have := HH.out
   unfold spotT at this
   rw [if_neg (fun q => q HE.out)] at this
   exact this⟩
  clear HH
  obtain ⟨x, hx⟩ : ∃ x, findI (pb s) 0 l = x := ⟨_, rfl⟩
  have HX := Aside0.mk hx
  go_wp2_with fail
  refine (find_c l g base nx s x w1 HS1.out HL.out hx).mono ?_
  rintro e w2 ⟨rfl, hb2⟩
  have HB2 := Aside0.mk (below_then HB1.out HB1.out.size hb2)
  have HS2 := Aside0.mk (HS1.out.below hb2)
  clear hb2 HB1 HS1 hx
  by_cases h1 : 0 ≤ x
  ·
   have z1 : decide (0 ≤ x) = true := decide_eq_true h1
   have er : r = 44 := by rw [← HR.out, if_pos (by rw [HX.out]; exact h1)]
   subst er
   clear h1 HR
   go_wp2_with fail
   go_ret
   exact ⟨rfl, HB2.out⟩
  ·
   have z1 : decide (0 ≤ x) = false := decide_eq_false h1
   have HR2 := Aside0.mk ((if_neg (by rw [HX.out]; exact h1)).symm.trans HR.out)
   have hsz : s.size < 4294967296 := by
    obtain ⟨t, e, _, hlen⟩ := splitE_form HE.out
    rw [pb_len] at hlen
    omega
   obtain ⟨q, hq, hQ⟩ := dabove_ev s hsz
   obtain ⟨K, hK⟩ := evs_get hQ
   have HK := Aside0.mk hK
   have HQ := Aside0.mk hq
   obtain ⟨y, hy⟩ : ∃ y, findI (abv (pb s)) 0 l = y := ⟨_, rfl⟩
   have HY := Aside0.mk hy
   clear h1 HR hsz hQ hK hq hy
   go_wp2_with fail
   refine (delta_above.calls K s q w2 HK.out).mono ?_
   rintro e w3 ⟨rfl, hd3⟩
   have HB3 := Aside0.mk (below_then HB2.out HB2.out.size (below_drawn hd3))
   have HS3 := Aside0.mk (HS2.out.below (below_drawn hd3))
   clear hd3 HB2 HS2
   go_wp2_with fail
   refine (find_c l g base nx q y w3 HS3.out HL.out (by rw [HQ.out]; exact HY.out)).mono ?_
   rintro e w4 ⟨rfl, hb4⟩
   have HB4 := Aside0.mk (below_then HB3.out HB3.out.size hb4)
   have HS4 := Aside0.mk (HS3.out.below hb4)
   clear hb4 HB3 HS3
   by_cases h2 : y < 0
   ·
    have z2 : decide (y < 0) = true := decide_eq_true h2
    have er : r = 41 := by rw [← HR2.out, if_pos (by rw [HY.out]; exact h2)]
    subst er
    clear h2 HR2
    go_wp2_with fail
    go_ret
    exact ⟨rfl, HB4.out⟩
   ·
    have z2 : decide (y < 0) = false := decide_eq_false h2
    have HR3 := Aside0.mk ((if_neg (by rw [HY.out]; exact h2)).symm.trans HR2.out)
    obtain ⟨k, hk, hyk⟩ : ∃ k : Nat, k < l.length ∧ y = (k : Int) := by
     rcases findI_cases (abv (pb s)) l 0 with ⟨e, _⟩ | ⟨k, hk, e, _⟩
     ·
      rw [HY.out] at e
      omega
     ·
      exact ⟨k, hk, by rw [← HY.out, e, Nat.zero_add]⟩
    subst hyk
    obtain ⟨v4, g4, r4, _⟩ := HS4.out
    obtain ⟨A, c, e4⟩ := Kd.R_slice r4
    subst e4
    have c0 : w4.cell? ⟨g, 0, none⟩ = some (.slice A l.length c) := (blk_cell g4 0).trans rfl
    obtain ⟨ad, ea, x0, x1, x2, x3, x4, x5, x6⟩ := at_T46 (Kd.R_reads' r4).2.2 (k : Int) (by omega) (by omega)
    cases ea
    simp only [Int.toNat_natCast] at x3
    have p1 : (0 ≤ (k : Int)) = True := eq_true (by omega)
    have q1 : ((k : Int) < (l.length : Int)) = True := eq_true (by omega)
    have q2 : (k < l.length) = True := eq_true hk
    clear h2 HR2 x0 x1 x2 x4 x5 x6 r4 g4 hk
    by_cases h3 : (rd_T46 l (k : Int)).f1.f2 = 2
    ·
     have z3 : ((rd_T46 l (k : Int)).f1.f2 != 2) = false := by simpa using h3
     have er : r = 0 := by rw [← HR3.out, HY.out, if_neg (fun q => q h3)]
     subst er
     clear h3 HR3
     go_wp2_with fail
     go_ret
     exact ⟨rfl, HB4.out⟩
    ·
     have z3 : ((rd_T46 l (k : Int)).f1.f2 != 2) = true := by simpa using h3
     have er : r = 42 := by rw [← HR3.out, HY.out, if_pos (show knd (rd_T46 l (k : Int)) ≠ 2 from h3)]
     subst er
     clear h3 HR3
     go_wp2_with fail
     go_ret
     exact ⟨rfl, HB4.out⟩
 ·
  have z0 : (e0 != 0) = true := by simpa using h0
  have er : r = e0 := by rw [← HH.out, spotT, if_pos (by rw [HE.out]; exact h0), HE.out]
  subst er
  clear h0
  go_wp2_with fail
  go_ret
  exact ⟨rfl, HB1.out⟩
end Go.Proofs.YtoggfapafjgkdaaDoor.T
namespace Go.Proofs.YtoggfapafjgkdaaDoor.T
open Go.RowKit Go.Proofs.YtoggfapafjgkdaaDoorW.PrintWords Go.Proofs.YtoggfapafjgkdaaDoorW.PrintLast Go.Proofs.YtoggfapafjgkdaaDoorW.PrintMore Go.Proofs.YtoggfapafjgkdaaDoor.PAll
set_option linter.unusedSimpArgs false
set_option linter.unusedVariables false
set_option maxHeartbeats 8000000 in
set_option maxRecDepth 100000 in
theorem put_c (l : List S46) (g base : Nat) (nx kind : Int) (p d : ByteArray) (w : World) (hS : Sap w g base l nx) (hl : l.length < 2147483648) :
  Calls Tryd.prog 50 #[.pointer (some ⟨g, 0, none⟩), .int .i64 kind, .string p, .string d] w fun e w' => e = .returned (.tuple #[]) ∧ Sap w' g base (l ++ [⟨p, ⟨nx, 0, kind, 0, 0⟩, d⟩]) (wrap64 (nx + 1)) ∧ Below base w w' := by
 obtain ⟨v, h1, h2, h3⟩ := hS
 have HR := Aside0.mk h2
 have HG := Aside0.mk h1
 have HL : Aside0 ((l.length + 1) * 72 ≤ 140737488355328) := ⟨by omega⟩
 have HGB := Aside0.mk h3
 have c0 : w.cell? ⟨g, 0, none⟩ = some v := (blk_cell h1 0).trans rfl
 have c1 : w.cell? ⟨g, 1, none⟩ = some (.int .i64 nx) := (blk_cell h1 1).trans rfl
 have ca0 : ∀ o, (w.alloc o).cell? ⟨g, 0, none⟩ = some v := fun o => (blk_cell (blk_below h1 (below_alloc (Below.refl _ _) o)) 0).trans rfl
 have ca1 : ∀ o, (w.alloc o).cell? ⟨g, 1, none⟩ = some (.int .i64 nx) := fun o => (blk_cell (blk_below h1 (below_alloc (Below.refl _ _) o)) 1).trans rfl
 clear h1 h2 h3 hl
 go_enter Tryd.func50, Tryd.ntmps50
 go_wp2_with fail
 have HRd := Aside0.mk (Kd.R_drew HR.out)
 have HLT : Aside0 (g < w.heap.size) := ⟨blk_lt HG.out⟩
 go_region_law (refine Kd.R_append_step k46 (w0 := w) (W := w.drew) base (by simp [Region.wanted]) (.tmp 12) (.tmp 22) 22 46 (.agg #[(.string ⟨#[]⟩), (.int .i64 0), (.int .i64 0), (.int .i64 0), (.int .i64 0), (.int .i64 0), (.string ⟨#[]⟩)]) 72 rfl Tryd.underlying22 info46 rfl (by decide) (by omega) v l (⟨p, (⟨nx, 0, kind, 0, 0⟩ : S44), d⟩ : S46) [.string p, .int .i64 nx, .int .i64 0, .int .i64 kind, .int .i64 0, .int .i64 0, .string d] (fun k => k ≠ g) (fun _ => False) (by simp [Act.eval, Act.put]) (by simp [Act.eval, Act.put]) (k46_mkM _ _ _ (⟨p, (⟨nx, 0, kind, 0, 0⟩ : S44), d⟩ : S46)) (fun _ hk => hk.elim) (fun k hk e => absurd hk (by have := HLT.out; have e2 : w.drew.heap.size = w.heap.size := rfl; omega)) HRd.out (below_drew (Below.refl _ _)) (by have := HLT.out; have := HGB.out; have e2 : w.drew.heap.size = w.heap.size := rfl; omega) HL.out ?_; intro v1 w1 ho hb hg hat; obtain ⟨A1, k1, e1⟩ := Kd.R_slice ho; subst e1; have n0_ := Aside0.mk ho; have n1_ := Aside0.mk hb; have d0 : w1.cell? ⟨g, 0, none⟩ = some v := (blk_cell (blk_grown HG.out (w := w.drew) hg (Kd.R_away HRd.out (fun _ hk => hk))) 0).trans rfl; have d1 : w1.cell? ⟨g, 1, none⟩ = some (.int .i64 nx) := (blk_cell (blk_grown HG.out (w := w.drew) hg (Kd.R_away HRd.out (fun _ hk => hk))) 1).trans rfl; have f1 : w1.frozen? ⟨g, 1, none⟩ = false := blk_frozen (blk_grown HG.out (w := w.drew) hg (Kd.R_away HRd.out (fun _ hk => hk))) 1; have f0 : w1.frozen? ⟨g, 0, none⟩ = false := blk_frozen (blk_grown HG.out (w := w.drew) hg (Kd.R_away HRd.out (fun _ hk => hk))) 0; have n2_ := Aside0.mk (blk_grown HG.out (w := w.drew) hg (Kd.R_away HRd.out (fun _ hk => hk))); clear ho hb hg hat)
 all_goals go_wp2_with fail
 all_goals (
  go_end0
  have h0 := n0_.out
  simp only [List.length_append, List.length_cons, List.length_nil, Nat.zero_add] at h0
  refine ⟨rfl, ⟨_, blk_put (cs' := #[.slice A1 (l.length + 1) k1, .int .i64 (wrap64 (nx + 1))]) (blk_put (cs' := #[.slice A1 (l.length + 1) k1, .int .i64 nx]) n2_.out 0 _ rfl) 1 _ rfl, Kd.R_far (p := ⟨g, 1, none⟩) (Kd.R_far (p := ⟨g, 0, none⟩) h0 (fun _ hk => hk) _) (fun _ hk => hk) _, HGB.out⟩, (n1_.out.setCell HGB.out _).setCell HGB.out _⟩)
end Go.Proofs.YtoggfapafjgkdaaDoor.T
namespace Go.Proofs.YtoggfapafjgkdaaDoor.T
open Go.RowKit Go.Proofs.YtoggfapafjgkdaaDoorW.PrintWords Go.Proofs.YtoggfapafjgkdaaDoorW.PrintLast Go.Proofs.YtoggfapafjgkdaaDoorW.PrintMore Go.Proofs.YtoggfapafjgkdaaDoor.PAll
set_option linter.unusedSimpArgs false
set_option linter.unusedVariables false
theorem run_clear_node (w : World) (b o c ty : Nat) (hc : ∀ j, j < 7 → (w.cell? ⟨b, o + j, none⟩).isSome = true) (hf : ∀ j, j < 7 → w.frozen? ⟨b, o + j, none⟩ = false) :
  (Builtin.clear_ #[22] ty #[.slice (some ⟨b, o, none⟩) 1 c]).run Tryd.prog w = .ok (.tuple #[]) (w.setCells b o (encN z46)) := by
 have hst := run_storeCells_cells (P := Tryd.prog) b o (encN z46) 0 w (fun j hj => by rw [Nat.add_zero]; exact hc j hj) (fun j hj => by rw [Nat.add_zero]; exact hf j hj) (by
  intro v hv
  simp only [encN, List.mem_cons, List.mem_nil_iff, or_false] at hv
  rcases hv with rfl | rfl | rfl | rfl | rfl | rfl | rfl <;> rfl)
 simp only [Nat.add_zero] at hst
 have hz := Tryd.zeroValue46 w
 have hzc : (Builtin.zeroCells (Value.agg #[Value.string ⟨#[]⟩, Value.int .i64 0, Value.int .i64 0, Value.int .i64 0, Value.int .i64 0, Value.int .i64 0, Value.string ⟨#[]⟩]).cells 1).toList = encN z46 := by kernel_rfl
 simp [Builtin.clear_, run_underlying Tryd.underlying22, hz, hzc, hst]
theorem flat_take : ∀ (l : List S46) (i : Nat), (l.take i).flatMap encN = (l.flatMap encN).take (i * 7)
 | [], i => by simp
 | n :: r, 0 => by simp
 | n :: r, i + 1 => by
  rw [List.take_succ_cons, List.flatMap_cons, List.flatMap_cons, flat_take r i, show (i + 1) * 7 = i * 7 + 7 by omega]
  rfl
set_option maxHeartbeats 8000000 in
set_option maxRecDepth 100000 in
theorem delete_c (l : List S46) (gr c i j base : Nat) (ok : Nat → Prop) (w : World) (hR : Kd.R k46 46 w base ok (.slice (some ⟨gr, 0, none⟩) l.length c) l) (hi : i < l.length) (hj : j = i + 1) (hl : l.length < 2147483648) :
  Calls Tryd.prog 68 #[.slice (some ⟨gr, 0, none⟩) l.length c, .int .i64 (i : Int), .int .i64 (j : Int)] w fun e w' => e = .returned (.slice (some ⟨gr, 0, none⟩) (l.eraseIdx i).length c) ∧
   Kd.R k46 46 w' base ok (.slice (some ⟨gr, 0, none⟩) (l.eraseIdx i).length c) (l.eraseIdx i) ∧ Below base w w' ∧ ∀ k, k ≠ gr → w'.heap[k]? = w.heap[k]? := by
 have hu46 := Tryd.underlying46
 have hij : i ≤ j := by omega
 have hlt : i < j := by omega
 have hjn : j ≤ l.length := by omega
 have hcap : l.length ≤ c := (Kd.R_reads' hR).2.1
 have hic : i ≤ c := by omega
 have hjc : j ≤ c := by omega
 have HRR := Aside0.mk hR
 obtain ⟨cur, hg, hb, hsz, htk, hm⟩ : ∃ cur : Array Value, w.heap[gr]? = some (.cells cur 46 (0, 0)) ∧ base ≤ gr ∧ cur.size = c * 7 ∧ cur.toList.take (l.length * 7) = l.flatMap encN ∧ c ≤ maxLen := by
  rcases row_open hR with ⟨e, _⟩ | ⟨g', cap', cur, e, hb, hg, h1, h2, h3, h4⟩
  ·
   cases e
  ·
   injection e with e1 e2 e3
   injection e1 with e1
   injection e1 with e1
   subst e1
   subst e3
   exact ⟨cur, hg, hb, h3, h4, h2⟩
 have ne : ((i : Int) == (j : Int)) = false := beq_eq_false_iff_ne.2 (by omega)
 have hjb : ((j : Int) ≤ (l.length : Int)) = True := eq_true (by omega)
 have hml : c ≤ 9223372036854775807 := by unfold maxLen at hm; omega
 obtain ⟨news, hnews⟩ : ∃ news, news = (l.drop j).flatMap encN := ⟨_, rfl⟩
 have hlen : news.length = (l.length - j) * 7 := by rw [hnews, flatN_len, List.length_drop]
 have cell : ∀ t, t < cur.size → w.cell? ⟨gr, t, none⟩ = cur[t]? := fun t _ => blk_cell hg t
 have hsrc0 : ∀ t u, news[t]? = some u → w.cell? ⟨gr, j * 7 + t, none⟩ = some u := by
  intro t u hu
  have ht : t < (l.length - j) * 7 := by
   have := (List.getElem?_eq_some_iff.1 hu).1
   rwa [hlen] at this
  rw [blk_cell hg, ← Array.getElem?_toList]
  have h1 : (cur.toList.take (l.length * 7))[j * 7 + t]? = cur.toList[j * 7 + t]? := by rw [List.getElem?_take, if_pos (by omega)]
  rw [← h1, htk, flatN_get]
  rw [hnews, flatN_get, List.getElem?_drop] at hu
  rw [show (j * 7 + t) / 7 = j + t / 7 by omega, show (j * 7 + t) % 7 = t % 7 by omega]
  exact hu
 obtain ⟨A, hA, hsrc⟩ : ∃ A : Addr, (if c = j then (some (⟨gr, 0, none⟩ : Addr)) else some ⟨gr, j * 7, none⟩) = some A ∧ Aside0 (∀ t u, news[t]? = some u → w.drew.cell? (A.add t) = some u) := by
  by_cases h : c = j
  ·
   refine ⟨⟨gr, 0, none⟩, by simp [h], ⟨fun t u hu => ?_⟩⟩
   have := (List.getElem?_eq_some_iff.1 hu).1
   rw [hlen] at this
   omega
  ·
   refine ⟨⟨gr, j * 7, none⟩, by simp [h], ⟨fun t u hu => ?_⟩⟩
   rw [Addr.add_lit]
   exact hsrc0 t u hu
 have s1 := Aside0.mk hlen
 have s2 : Aside0 (∀ u ∈ news, u.oneCell' = true) := ⟨by
  intro u hu
  rw [hnews] at hu
  obtain ⟨x, _, hx⟩ := List.mem_flatMap.1 hu
  simp only [encN, List.mem_cons, List.mem_nil_iff, or_false] at hx
  rcases hx with rfl | rfl | rfl | rfl | rfl | rfl | rfl <;> rfl⟩
 have s3 : Aside0 (∀ t, t < news.length → (w.drew.cell? ⟨gr, 0 + i * 7 + t, none⟩).isSome = true ∧ w.drew.frozen? ⟨gr, 0 + i * 7 + t, none⟩ = false) := ⟨by
  intro t ht
  rw [hlen] at ht
  refine ⟨?_, blk_frozen (w := w.drew) hg _⟩
  rw [blk_cell (w := w.drew) hg, Array.getElem?_eq_getElem (by omega)]
  rfl⟩
 obtain ⟨W1, hW1⟩ : ∃ W1, W1 = w.drew.setCells gr (0 + i * 7) news := ⟨_, rfl⟩
 have HW1 := Aside0.mk hW1
 have HG := Aside0.mk hg
 have HN := Aside0.mk hnews
 have HSZ := Aside0.mk hsz
 have HTK := Aside0.mk htk
 have HM := Aside0.mk hm
 have HBG := Aside0.mk hb
 have HJ := Aside0.mk hj
 have HI := Aside0.mk hi
 have HLL := Aside0.mk hl
 clear hW1 hg hnews hsz htk hm hb hj hsrc0 cell hlen hi hl
 clear hR
 go_enter Tryd.func68, Tryd.ntmps68
 go_wp2_with fail
 obtain ⟨i46, hi46, hs46⟩ : ∃ q, Tryd.prog.info? 46 = some q ∧ q.size = 7 := by
  have hi := info46
  cases hq : Tryd.prog.info? 46 with
  | none => simp [hq] at hi
  | some q => exact ⟨q, rfl, by simp [hq] at hi; exact hi.2.1⟩
 have HI46 := Aside0.mk hi46
 have HS46 := Aside0.mk hs46
 clear hi46 hs46
 go_region_law (refine step_append_room rfl (.tmp 22) (.tmp 25) 22 rfl 46 i46 7 Tryd.underlying22 HI46.out HS46.out gr 0 i c (by simp [Act.eval, Act.put]) A (l.length - j) (c - j) news (by simp [Act.eval, Act.put]) s1.out hsrc.out s2.out (by omega) s3.out ?_; rw [← HW1.out])
 have h1 := HJ.out
 have h2 := HI.out
 have HC1 : Aside0 (∃ cur1 : Array Value, W1.heap[gr]? = some (.cells cur1 46 (0, 0)) ∧ cur1.size = c * 7 ∧ cur1.toList.take ((l.length - 1) * 7) = (l.eraseIdx i).flatMap encN) := ⟨by
  obtain ⟨cur1, e1, e2, e3⟩ := setCells_row news (0 + i * 7) w.drew cur HG.out (by have := s1.out; have := HSZ.out; omega)
  refine ⟨cur1, by rw [HW1.out]; exact e1, by rw [e2]; exact HSZ.out, ?_⟩
  have h3 := s1.out
  have h4 := HSZ.out
  have hX : cur.toList.length = c * 7 := by rw [Array.length_toList, h4]
  have h6 : cur.toList.take (i * 7) = (l.take i).flatMap encN := by
   rw [flat_take, ← HTK.out, List.take_take, show min (i * 7) (l.length * 7) = i * 7 by omega]
  rw [e3, Nat.zero_add, List.take_append_of_le_length (by rw [List.length_append, List.length_take]; omega), List.take_of_length_le (by rw [List.length_append, List.length_take]; omega),
   List.eraseIdx_eq_take_drop_succ, List.flatMap_append, h6, HN.out, h1]⟩
 have hcl : ∀ ty, (Builtin.clear_ #[22] ty #[.slice (some ⟨gr, (i + (l.length - j)) * 7, none⟩) (l.length - (i + (l.length - j))) (c - (i + (l.length - j)))]).run Tryd.prog W1 = .ok (.tuple #[]) (W1.setCells gr ((i + (l.length - j)) * 7) (encN z46)) := fun ty => by
  obtain ⟨cur1, e1, e2, _⟩ := HC1.out
  rw [show l.length - (i + (l.length - j)) = 1 by omega]
  exact run_clear_node W1 gr _ _ ty (fun t ht => by
   rw [blk_cell e1, Array.getElem?_eq_getElem (by omega)]
   rfl) (fun t ht => blk_frozen e1 _)
 have hcm : (c = i + (l.length - j)) = False := eq_false (by omega)
 have hb1 : (((i + (l.length - j) : Nat) : Int) ≤ (l.length : Int)) = True := eq_true (by omega)
 have hb2 : (i + (l.length - j) ≤ l.length) = True := eq_true (by omega)
 have HFin : Aside0 ((fun e w' => e = Ending.returned (.slice (some ⟨gr, 0, none⟩) (l.eraseIdx i).length c) ∧ Kd.R k46 46 w' base ok (.slice (some ⟨gr, 0, none⟩) (l.eraseIdx i).length c) (l.eraseIdx i) ∧ Below base w w' ∧ ∀ k, k ≠ gr → w'.heap[k]? = w.heap[k]?) (.returned (.slice (some ⟨gr, 0, none⟩) (i + (l.length - j)) c)) (W1.setCells gr ((i + (l.length - j)) * 7) (encN z46))) := ⟨by
  have hm : i + (l.length - j) = l.length - 1 := by omega
  have he : (l.eraseIdx i).length = l.length - 1 := by rw [List.length_eraseIdx_of_lt h2]
  obtain ⟨cur1, e1, e2, e3⟩ := HC1.out
  have h7 : (encN z46).length = 7 := rfl
  obtain ⟨cur2, f1, f2, f3⟩ := setCells_row (encN z46) ((l.length - 1) * 7) W1 cur1 e1 (by rw [e2, h7]; omega)
  rw [hm]
  have hfar : ∀ k, k ≠ gr → (W1.setCells gr ((l.length - 1) * 7) (encN z46)).heap[k]? = w.heap[k]? := fun k hne => by
   rw [setCells_far _ _ k hne, HW1.out, setCells_far _ _ k hne]
   rfl
  refine ⟨by rw [he], ?_, ?_, hfar⟩
  ·
   refine Kd.R_reok (ok1 := fun _ => True) rfl (row_shut (l := l.eraseIdx i) (cap := c) (cur := cur2) HBG.out f1 (by rw [he]; omega) HM.out (by rw [f2, e2]) ?_) (fun k hk => HRR.out.1 k hk)
   rw [he, ← e3, f3]
   have hX : cur1.toList.length = c * 7 := by rw [Array.length_toList, e2]
   rw [List.take_append_of_le_length (by rw [List.length_append, List.length_take]; omega), List.take_append_of_le_length (by rw [List.length_take]; omega), List.take_take, Nat.min_self]
  ·
   obtain ⟨a1, a2, a3, a4⟩ := setCells_same gr (encN z46) ((l.length - 1) * 7) W1
   obtain ⟨b1, b2, b3, b4⟩ := setCells_same gr news (0 + i * 7) w.drew
   rw [← HW1.out] at b1 b2 b3 b4
   exact ⟨a1.trans b1, a2.trans b2, a3.trans b3, Nat.le_of_eq (a4.trans b4).symm, fun k hk => hfar k (by have := HBG.out; omega)⟩⟩
 clear h1 h2
 go_wp2_with fail
 go_ret
 exact HFin.out
end Go.Proofs.YtoggfapafjgkdaaDoor.T
namespace Go.Proofs.YtoggfapafjgkdaaDoor.T
open Go.RowKit Go.Proofs.YtoggfapafjgkdaaDoorW.PrintWords Go.Proofs.YtoggfapafjgkdaaDoorW.PrintLast Go.Proofs.YtoggfapafjgkdaaDoorW.PrintMore Go.Proofs.YtoggfapafjgkdaaDoor.PAll
set_option linter.unusedSimpArgs false
set_option linter.unusedVariables false
def childN (p : List UInt8) (n : S46) : Prop := pth n ≠ [47] ∧ abv (pth n) = p
open Classical in
noncomputable def removeT (l : List S46) (p : List UInt8) : List S46 × Int :=
 if findI p 0 l < 0 then (l, 41) else if p = [47] then (l, 45) else if ∃ n ∈ l, childN p n then (l, 46) else (l.eraseIdx (findI p 0 l).toNat, 0)
def SZ (l : List S46) : Prop := ∀ n ∈ l, n.f0.size ≤ 255
def ChRet (r : List S46 × Int) (g base : Nat) (nx : Int) (w : World) (e : Ending) (w' : World) : Prop := e = .returned (.int .i64 r.2) ∧ Sap w' g base r.1 nx ∧ Below base w w'
set_option maxHeartbeats 8000000 in
set_option maxRecDepth 100000 in
theorem remove_c (l : List S46) (g base : Nat) (nx : Int) (s : ByteArray) (w : World) (hS : Sap w g base l nx) (hl : l.length < 2147483648) (hz : SZ l) :
  Calls Tryd.prog 45 #[.pointer (some ⟨g, 0, none⟩), .string s] w fun e w' => ChRet (removeT l (pb s)) g base nx w e w' := by
 have hu46 := Tryd.underlying46
 have hu44 := Tryd.underlying44
 have HL := Aside0.mk hl
 have HZ := Aside0.mk hz
 have HS := Aside0.mk hS
 obtain ⟨x, hx⟩ : ∃ x, findI (pb s) 0 l = x := ⟨_, rfl⟩
 have HX := Aside0.mk hx
 obtain ⟨R, hR⟩ : ∃ R, removeT l (pb s) = R := ⟨_, rfl⟩
 have HR := Aside0.mk hR
 rw [hR]
 have hble : base ≤ w.heap.size := by obtain ⟨v, h1, h2, h3⟩ := hS; have := blk_lt h1; omega
 have HBL := Aside0.mk hble
 clear hS hl hz hx hR hble
 go_enter Tryd.func45, Tryd.ntmps45
 go_wp2_with fail
 refine (find_c l g base nx s x w HS.out HL.out HX.out).mono ?_
 rintro e w1 ⟨rfl, hb1⟩
 have HB0 : Aside0 (Below base w w1) := ⟨below_then (Below.refl base w) HBL.out hb1⟩
 have HS1 := Aside0.mk (HS.out.below hb1)
 clear HS hb1
 by_cases h0 : x < 0
 ·
  have z0 : decide (x < 0) = true := decide_eq_true h0
  have HF : Aside0 (ChRet R g base nx w (.returned (.int .i64 41)) w1) := ⟨by
   have e : R = (l, 41) := by rw [← HR.out, removeT, if_pos (by rw [HX.out]; exact h0)]
   rw [e]
   exact ⟨rfl, HS1.out, HB0.out⟩⟩
  clear h0
  go_wp2_with fail
  go_ret
  exact HF.out
 ·
  have z0 : decide (x < 0) = false := decide_eq_false h0
  by_cases h1 : pb s = [47]
  ·
   have z1 : (s.toList == ([47] : List UInt8)) = true := by rw [toL]; exact beq_iff_eq.2 h1
   have HF : Aside0 (ChRet R g base nx w (.returned (.int .i64 45)) w1) := ⟨by
    have e : R = (l, 45) := by rw [← HR.out, removeT, if_neg (by rw [HX.out]; exact h0), if_pos h1]
    rw [e]
    exact ⟨rfl, HS1.out, HB0.out⟩⟩
   clear h0 h1
   go_wp2_with fail
   go_ret
   exact HF.out
  ·
   have z1 : (s.toList == ([47] : List UInt8)) = false := by rw [toL]; exact beq_eq_false_iff_ne.2 h1
   obtain ⟨i, hi, hxi⟩ : ∃ i : Nat, i < l.length ∧ x = (i : Int) := by
    rcases findI_cases (pb s) l 0 with ⟨e, _⟩ | ⟨k, hk, e, _⟩
    ·
     rw [HX.out] at e
     omega
    ·
     exact ⟨k, hk, by rw [← HX.out, e, Nat.zero_add]⟩
   subst hxi
   have HI := Aside0.mk hi
   have HR2 : Aside0 (R = (open Classical in if ∃ n ∈ l, childN (pb s) n then (l, 46) else (l.eraseIdx i, 0))) := ⟨by
    rw [← HR.out, removeT, if_neg (by rw [HX.out]; exact h0), if_neg h1, HX.out]
    rfl⟩
   obtain ⟨v1, g1, r1, hge⟩ := HS1.out
   obtain ⟨A, c, e1⟩ := Kd.R_slice r1
   subst e1
   have HRR := Aside0.mk (Kd.R_reads' r1).2.2
   have HG := Aside0.mk g1
   have HRW := Aside0.mk r1
   have HGE := Aside0.mk hge
   have c0 : w1.cell? ⟨g, 0, none⟩ = some (.slice A l.length c) := (blk_cell g1 0).trans rfl
   clear g1 r1 hge h0 h1 hi HR
   go_wp2_with fail
   clear c0
   go_loopw [22] (fun iv wr => ∃ (k : Nat), k ≤ l.length ∧ iv = .int .i64 k ∧ Aside0 (∀ t : Nat, t < k → ¬ childN (pb s) (rd_T46 l (t : Int))) ∧ Aside0 (Below w1.heap.size w1 wr)) (fun iv _ => l.length - (intOf iv).toNat)
   case atStart => exact ⟨0, by omega, rfl, ⟨fun j hj => absurd hj (by omega)⟩, ⟨Below.refl _ _⟩⟩
   case round =>
    obtain ⟨k, hk, rfl, HF, HB⟩ := hrel
    by_cases hkl : k < l.length
    ·
     have HK := Aside0.mk hkl
     obtain ⟨ad, ea, x0, x1, x2, x3, x4, x5, x6⟩ := at_T46 (Kd.C_below HRR.out HB.out) (k : Int) (by omega) (by omega)
     cases ea
     simp only [Int.toNat_natCast] at x0 x1 x2 x3 x4 x5 x6
     have p1 : (0 ≤ (k : Int)) = True := eq_true (by omega)
     have q1 : ((k : Int) < (l.length : Int)) = True := eq_true (by omega)
     have q2 : (k < l.length) = True := eq_true hkl
     have hsz : (rd_T46 l (k : Int)).f0.size < 4294967296 := by
      have := HZ.out _ (rdn_mem hkl)
      have e : (rdn l k).f0.size = (rd_T46 l (k : Int)).f0.size := rfl
      omega
     obtain ⟨qq, hq, hQ⟩ := dabove_ev (rd_T46 l (k : Int)).f0 hsz
     obtain ⟨K, hK⟩ := evs_get hQ
     have HKK := Aside0.mk hK
     have HQ := Aside0.mk hq
     clear hkl hk hsz hQ hK hq
     by_cases h1 : pb (rd_T46 l (k : Int)).f0 = [47]
     ·
      have z3 : ((rd_T46 l (k : Int)).f0.toList == ([47] : List UInt8)) = true := by rw [toL]; exact beq_iff_eq.2 h1
      have HNK : Aside0 (¬ childN (pb s) (rd_T46 l (k : Int))) := ⟨fun q => q.1 h1⟩
      clear h1
      go_wp2_with (first | ((with_reducible refine gate_dst (N := 7) rfl ?_); refine box_event ?hg (N := 7) ?hd (cs := #[.string (⟨#[]⟩ : ByteArray), .int .i64 0, .int .i64 0, .int .i64 0, .int .i64 0, .int .i64 0, .string (⟨#[]⟩ : ByteArray)]) (t := 46) ?hr ?_; (case hd => rfl); (case hg => rfl); (case hr => first | (go_simp; done) | (go_simp; rfl)); intro gx hg w5 hbox hb; have n1_ := Aside0.mk (below_then HB.out HB.out.size hb); have n2_ := Aside0.mk hbox; have n3_ := Aside0.mk ((by rw [hg]; exact below_size HB.out) : w1.heap.size ≤ gx); clear HB; have HB := n1_; have BK := n2_; have GE := n3_; clear n1_ n2_ n3_ hb hbox hg) | ((with_reducible refine gate_store (t := 46) rfl ?_); refine store_node' rfl rfl _ _ rfl gx _ (rd_T46 l (k : Int)) BK.out rfl rfl rfl ?_; intro w6 hS1 hS2; have s1_ := Aside0.mk (HB.out.grown hS2 HB.out.size (fun q hq => by injection hq with hq; rw [← hq]; exact GE.out)); have c0 : w6.cell? ⟨gx, 0, none⟩ = some (.string (rd_T46 l (k : Int)).f0) := (blk_cell hS1 0).trans rfl; clear HB BK hS1 hS2; have HB := s1_; clear s1_))
      go_roundw
      case rel =>
       have h1 := HK.out
       have h2 := HL.out
       exact ⟨k + 1, by omega, by rw [w64 (by omega) (by omega)]; rfl, ⟨fun t ht => by
        by_cases e : t = k
        ·
         rw [e]; exact HNK.out
        ·
         exact HF.out t (by omega)⟩, HB⟩
      case measure =>
       have := HK.out
       have := HL.out
       rw [w64 (by omega) (by omega)]
       first
        | (simp [intOf]; done)
        | (simp [intOf]; omega)
     ·
      have z3 : ((rd_T46 l (k : Int)).f0.toList == ([47] : List UInt8)) = false := by rw [toL]; exact beq_eq_false_iff_ne.2 h1
      go_wp2_with (first | ((with_reducible refine gate_dst (N := 7) rfl ?_); refine box_event ?hg (N := 7) ?hd (cs := #[.string (⟨#[]⟩ : ByteArray), .int .i64 0, .int .i64 0, .int .i64 0, .int .i64 0, .int .i64 0, .string (⟨#[]⟩ : ByteArray)]) (t := 46) ?hr ?_; (case hd => rfl); (case hg => rfl); (case hr => first | (go_simp; done) | (go_simp; rfl)); intro gx hg w5 hbox hb; have n1_ := Aside0.mk (below_then HB.out HB.out.size hb); have n2_ := Aside0.mk hbox; have n3_ := Aside0.mk ((by rw [hg]; exact below_size HB.out) : w1.heap.size ≤ gx); clear HB; have HB := n1_; have BK := n2_; have GE := n3_; clear n1_ n2_ n3_ hb hbox hg) | ((with_reducible refine gate_store (t := 46) rfl ?_); refine store_node' rfl rfl _ _ rfl gx _ (rd_T46 l (k : Int)) BK.out rfl rfl rfl ?_; intro w6 hS1 hS2; have s1_ := Aside0.mk (HB.out.grown hS2 HB.out.size (fun q hq => by injection hq with hq; rw [← hq]; exact GE.out)); have c0 : w6.cell? ⟨gx, 0, none⟩ = some (.string (rd_T46 l (k : Int)).f0) := (blk_cell hS1 0).trans rfl; clear HB BK hS1 hS2; have HB := s1_; clear s1_))
      clear x0 x1 x2 x3 x4 x5 x6
      refine (delta_above.calls K (rd_T46 l (k : Int)).f0 qq w6 HKK.out).mono ?_
      rintro e w7 ⟨rfl, hd7⟩
      have n1_ := Aside0.mk (below_then HB.out HB.out.size (below_drawn hd7))
      clear HB c0 hd7
      have HB := n1_
      clear n1_
      by_cases h2 : pb qq = pb s
      ·
       have z4 : (qq.toList == s.toList) = true := by rw [toL, toL]; exact beq_iff_eq.2 h2
       have HFin : Aside0 (ChRet R g base nx w (.returned (.int .i64 46)) w7) := ⟨by
        have e : R = (l, 46) := by
         rw [HR2.out, if_pos ⟨_, rdn_mem HK.out, h1, by rw [← h2, HQ.out]; rfl⟩]
        rw [e]
        have hble2 : base ≤ w1.heap.size := Nat.le_trans HBL.out HB0.out.size
        exact ⟨rfl, HS1.out.below HB.out, below_then HB0.out hble2 HB.out⟩⟩
       clear h1 h2
       go_wp2_with fail
       go_ret
       exact HFin.out
      ·
       have z4 : (qq.toList == s.toList) = false := by rw [toL, toL]; exact beq_eq_false_iff_ne.2 h2
       have HNK : Aside0 (¬ childN (pb s) (rd_T46 l (k : Int))) := ⟨fun q => h2 (by rw [HQ.out]; exact q.2)⟩
       clear h1 h2
       go_wp2_with fail
       go_roundw
       case rel =>
        have h1 := HK.out
        have h2 := HL.out
        exact ⟨k + 1, by omega, by rw [w64 (by omega) (by omega)]; rfl, ⟨fun t ht => by
         by_cases e : t = k
         ·
          rw [e]; exact HNK.out
         ·
          exact HF.out t (by omega)⟩, HB⟩
       case measure =>
        have := HK.out
        have := HL.out
        rw [w64 (by omega) (by omega)]
        first
         | (simp [intOf]; done)
         | (simp [intOf]; omega)
    ·
     have hke : k = l.length := by omega
     subst hke
     have q1 : ((l.length : Int) < (l.length : Int)) = False := eq_false (by omega)
     have q2 : (l.length < l.length) = False := eq_false (by omega)
     have hRe : R = (l.eraseIdx i, 0) := by
      rw [HR2.out, if_neg]
      rintro ⟨n, hn, hc⟩
      obtain ⟨t, ht, rfl⟩ := mem_rdn hn
      exact HF.out t ht hc
     have HRE := Aside0.mk hRe
     have HGr := Aside0.mk (blk_below HG.out HB.out)
     have HRWr := Aside0.mk (Kd.R_below HRW.out HB.out)
     have HB3 : Aside0 (Below base w wr) := ⟨below_then HB0.out (Nat.le_trans HBL.out HB0.out.size) HB.out⟩
     obtain ⟨gr, hA⟩ : ∃ gr, A = some ⟨gr, 0, none⟩ := by
      rcases row_open HRWr.out with ⟨_, e⟩ | ⟨g', cap', cur, e, _⟩
      ·
       have := HI.out
       omega
      ·
       injection e with e1 _ _
       exact ⟨g', e1⟩
     subst hA
     have hc0 : wr.cell? ⟨g, 0, none⟩ = some (.slice (some ⟨gr, 0, none⟩) l.length c) := (blk_cell HGr.out 0).trans rfl
     have hw : wrap64 ((i : Int) + 1) = ((i + 1 : Nat) : Int) := by have := HI.out; have := HL.out; rw [w64 (by omega) (by omega)]; rfl
     obtain ⟨j, hj⟩ : ∃ j, j = i + 1 := ⟨_, rfl⟩
     rw [← hj] at hw
     have HJ := Aside0.mk hj
     clear hkl hk hRe HB HF HR2 hj
     go_wp2_with fail
     refine (delete_c l gr c i j base (fun k => k ≠ g) wr HRWr.out HI.out HJ.out HL.out).mono ?_
     rintro e w8 ⟨rfl, hR8, hB8, hfar⟩
     have hne : g ≠ gr := fun e => (HRWr.out.1 gr rfl) e.symm
     have HG8 := Aside0.mk ((hfar g hne).trans HGr.out)
     have HR8 := Aside0.mk hR8
     have HB8 := Aside0.mk (HB3.out.trans hB8)
     have d0 : w8.cell? ⟨g, 0, none⟩ = some (.slice (some ⟨gr, 0, none⟩) l.length c) := (blk_cell HG8.out 0).trans rfl
     have f0 : w8.frozen? ⟨g, 0, none⟩ = false := blk_frozen HG8.out 0
     clear hR8 hB8 hfar hne hc0
     go_wp2_with fail
     go_ret
     rw [HRE.out]
     exact ⟨rfl, ⟨_, blk_put (cs' := #[.slice (some ⟨gr, 0, none⟩) (l.eraseIdx i).length c, .int .i64 nx]) HG8.out 0 _ rfl, Kd.R_far (p := ⟨g, 0, none⟩) HR8.out (fun _ hk => hk) _, HGE.out⟩, HB8.out.setCell HGE.out _⟩
end Go.Proofs.YtoggfapafjgkdaaDoor.T
namespace Go.Proofs.YtoggfapafjgkdaaDoor.T
open Go.RowKit Go.Proofs.YtoggfapafjgkdaaDoorW.PrintWords Go.Proofs.YtoggfapafjgkdaaDoorW.PrintLast Go.Proofs.YtoggfapafjgkdaaDoorW.PrintMore Go.Proofs.YtoggfapafjgkdaaDoor.PAll
set_option linter.unusedSimpArgs false
set_option linter.unusedVariables false
def linkT (l : List S46) (p : ByteArray) (tt : List UInt8) : List S46 × Int :=
 if findI tt 0 l < 0 then (l, 41) else if knd (rd_T46 l (findI tt 0 l)) ≠ 1 then (l, 43) else if spotT l (pb p) ≠ 0 then (l, spotT l (pb p))
 else (l ++ [⟨p, (rd_T46 l (findI tt 0 l)).f1, (rd_T46 l (findI tt 0 l)).f2⟩], 0)
theorem below_setC {B : Nat} {w W : World} {p : Addr} (h : Below B w W) (hg : B ≤ p.block) (v : Value) : Below B w (W.setCell p v) := h.setCell hg v
def Sap2 (w : World) (g gx base : Nat) (l : List S46) (n : Int) : Prop :=
 ∃ v : Value, w.heap[g]? = some (.cells #[v, .int .i64 n] 58 (0, 0)) ∧ Kd.R k46 46 w base (fun k => k ≠ g ∧ k ≠ gx) v l ∧ base ≤ g
theorem Sap.fresh {w w' : World} {g gx base : Nat} {l : List S46} {n : Int} (h : Sap w g base l n) (hx : w.heap.size ≤ gx) (hb : Below w.heap.size w w') : Sap2 w' g gx base l n := by
 obtain ⟨v, h1, h2, h3⟩ := h
 exact ⟨v, blk_below h1 hb, Kd.R_below (Kd.R_elderB h2 gx hx) hb, h3⟩
theorem Sap2.grown {w w' : World} {g gx base : Nat} {l : List S46} {n : Int} (h : Sap2 w g gx base l n) (hg : w.grownBy w' (some gx)) (hne : g ≠ gx) : Sap2 w' g gx base l n := by
 obtain ⟨v, h1, h2, h3⟩ := h
 exact ⟨v, blk_grown h1 hg (fun e => hne (Option.some.inj e)), Kd.R_grown h2 hg (fun q hq e => hq.2 (Option.some.inj e)), h3⟩
theorem Sap2.set {w : World} {g gx base : Nat} {l : List S46} {n : Int} (h : Sap2 w g gx base l n) (hne : g ≠ gx) (j : Nat) (u : Value) : Sap2 (w.setCell ⟨gx, j, none⟩ u) g gx base l n := by
 obtain ⟨v, h1, h2, h3⟩ := h
 exact ⟨v, (Below.heap_setCell w ⟨gx, j, none⟩ u g hne).trans h1, Kd.R_far (p := ⟨gx, j, none⟩) h2 (fun _ hk => hk.2) u, h3⟩
theorem Sap2.sap {w : World} {g gx base : Nat} {l : List S46} {n : Int} (h : Sap2 w g gx base l n) : Sap w g base l n := by
 obtain ⟨v, h1, h2, h3⟩ := h
 exact ⟨v, h1, Kd.R_mono h2 (fun _ hk => hk.1), h3⟩
set_option maxHeartbeats 8000000 in
set_option maxRecDepth 100000 in
theorem link_c (l : List S46) (g base : Nat) (nx : Int) (s tt : ByteArray) (w : World) (hS : Sap w g base l nx) (hl : l.length < 2147483648) (hT : Tab w) :
  Calls Tryd.prog 46 #[.pointer (some ⟨g, 0, none⟩), .string s, .string tt] w fun e w' => ChRet (linkT l s (pb tt)) g base nx w e w' := by
 have hu46 := Tryd.underlying46
 have hu44 := Tryd.underlying44
 have HL := Aside0.mk hl
 have HT := Aside0.mk hT
 have HS := Aside0.mk hS
 obtain ⟨x, hx⟩ : ∃ x, findI (pb tt) 0 l = x := ⟨_, rfl⟩
 have HX := Aside0.mk hx
 obtain ⟨R, hR⟩ : ∃ R, linkT l s (pb tt) = R := ⟨_, rfl⟩
 have HR := Aside0.mk hR
 rw [hR]
 have HBL : Aside0 (base ≤ w.heap.size) := ⟨by obtain ⟨v, h1, h2, h3⟩ := hS; have := blk_lt h1; omega⟩
 clear hS hl hT hx hR
 go_enter Tryd.func46, Tryd.ntmps46
 go_wp2_with fail
 refine (find_c l g base nx tt x w HS.out HL.out HX.out).mono ?_
 rintro e w1 ⟨rfl, hb1⟩
 have HB : Aside0 (Below base w w1) := ⟨below_then (Below.refl base w) HBL.out hb1⟩
 have HS1 := Aside0.mk (HS.out.below hb1)
 have HT1 := Aside0.mk (HT.out.below hb1)
 clear HS hb1 HT
 by_cases h0 : x < 0
 ·
  have z0 : decide (x < 0) = true := decide_eq_true h0
  have HF : Aside0 (ChRet R g base nx w (.returned (.int .i64 41)) w1) := ⟨by
   have e : R = (l, 41) := by rw [← HR.out, linkT, if_pos (by rw [HX.out]; exact h0)]
   rw [e]
   exact ⟨rfl, HS1.out, HB.out⟩⟩
  clear h0
  go_wp2_with fail
  go_ret
  exact HF.out
 ·
  have z0 : decide (x < 0) = false := decide_eq_false h0
  obtain ⟨k, hk, hxk⟩ : ∃ k : Nat, k < l.length ∧ x = (k : Int) := by
   rcases findI_cases (pb tt) l 0 with ⟨e, _⟩ | ⟨k, hk, e, _⟩
   ·
    rw [HX.out] at e
    omega
   ·
    exact ⟨k, hk, by rw [← HX.out, e, Nat.zero_add]⟩
  subst hxk
  have HK := Aside0.mk hk
  have HR2 : Aside0 (R = (if knd (rd_T46 l (k : Int)) ≠ 1 then (l, 43) else if spotT l (pb s) ≠ 0 then (l, spotT l (pb s)) else (l ++ [⟨s, (rd_T46 l (k : Int)).f1, (rd_T46 l (k : Int)).f2⟩], 0))) := ⟨by
   rw [← HR.out, linkT, if_neg (by rw [HX.out]; exact h0), HX.out]⟩
  obtain ⟨v1, g1, r1, hge⟩ := HS1.out
  obtain ⟨A, c, e1⟩ := Kd.R_slice r1
  subst e1
  have c0 : w1.cell? ⟨g, 0, none⟩ = some (.slice A l.length c) := (blk_cell g1 0).trans rfl
  obtain ⟨ad, ea, x0, x1, x2, x3, x4, x5, x6⟩ := at_T46 (Kd.R_reads' r1).2.2 (k : Int) (by omega) (by omega)
  cases ea
  simp only [Int.toNat_natCast] at x3
  have p1 : (0 ≤ (k : Int)) = True := eq_true (by omega)
  have q1 : ((k : Int) < (l.length : Int)) = True := eq_true (by omega)
  have q2 : (k < l.length) = True := eq_true hk
  clear x0 x1 x2 x4 x5 x6 g1 r1 h0 hk HR hge
  by_cases h1 : (rd_T46 l (k : Int)).f1.f2 = 1
  ·
   have z1 : ((rd_T46 l (k : Int)).f1.f2 != 1) = false := by simpa using h1
   obtain ⟨q, hq⟩ : ∃ q, spotT l (pb s) = q := ⟨_, rfl⟩
   have HQ := Aside0.mk hq
   have HR3 : Aside0 (R = (if q ≠ 0 then (l, q) else (l ++ [⟨s, (rd_T46 l (k : Int)).f1, (rd_T46 l (k : Int)).f2⟩], 0))) := ⟨by rw [HR2.out, if_neg (fun z => z h1), hq]⟩
   clear h1 hq HR2
   go_wp2_with fail
   clear c0 x3
   refine (spot_c l g base nx s q w1 HS1.out HL.out HT1.out HQ.out).mono ?_
   rintro e w2 ⟨rfl, hb2⟩
   have HS := Aside0.mk (HS1.out.below hb2)
   have n1_ := Aside0.mk (below_then HB.out (Nat.le_trans HBL.out HB.out.size) hb2)
   clear HB HS1 hb2
   have HB := n1_
   clear n1_
   by_cases h2 : q = 0
   ·
    subst h2
    have HR4 : Aside0 (R = (l ++ [⟨s, (rd_T46 l (k : Int)).f1, (rd_T46 l (k : Int)).f2⟩], 0)) := ⟨by rw [HR3.out, if_neg (fun z => z rfl)]⟩
    obtain ⟨v1, g1, r1, hge⟩ := HS.out
    obtain ⟨A', c', e1⟩ := Kd.R_slice r1
    subst e1
    have c0 : w2.cell? ⟨g, 0, none⟩ = some (.slice A' l.length c') := (blk_cell g1 0).trans rfl
    obtain ⟨ad', ea, x0, x1, x2, x3, x4, x5, x6⟩ := at_T46 (Kd.R_reads' r1).2.2 (k : Int) (by have := HK.out; omega) (by have := HK.out; omega)
    cases ea
    simp only [Int.toNat_natCast] at x0 x1 x2 x3 x4 x5 x6
    clear g1 r1 HR3 hge
    go_wp2_with (first | ((with_reducible refine gate_dst (N := 9) rfl ?_); refine box_event ?hg (N := 9) ?hd (cs := #[.string (⟨#[]⟩ : ByteArray), .int .i64 0, .int .i64 0, .int .i64 0, .int .i64 0, .int .i64 0, .string (⟨#[]⟩ : ByteArray)]) (t := 46) ?hr ?_; (case hd => rfl); (case hg => rfl); (case hr => first | (go_simp; done) | (go_simp; rfl)); intro gx hg w5 hbox hb; have n1_ := Aside0.mk (HS.out.fresh (Nat.le_of_eq hg.symm) hb); have n2_ := Aside0.mk hbox; have n3_ := Aside0.mk (below_then HB.out (Nat.le_trans HBL.out HB.out.size) hb); have n4_ : Aside0 (g ≠ gx ∧ base ≤ gx) := ⟨by have := HS.out.lt; have := HBL.out; have := HB.out.size; rw [hg]; omega⟩; clear HS HB; have HS := n1_; have BK := n2_; have HB := n3_; have GX := n4_; clear n1_ n2_ n3_ n4_ hb hbox hg) | ((with_reducible refine gate_store (t := 46) rfl ?_); refine store_node' rfl rfl _ _ rfl gx _ (rd_T46 l (k : Int)) BK.out rfl rfl rfl ?_; intro w6 hS1 hS2; have n1_ := Aside0.mk (HS.out.grown hS2 GX.out.1); have n2_ := Aside0.mk hS1; have n3_ := Aside0.mk (HB.out.grown hS2 (Nat.le_trans HBL.out HB.out.size) (fun q hq => by injection hq with hq; have := GX.out.2; omega)); clear HS HB BK hS1 hS2; have HS := n1_; have BK := n2_; have HB := n3_; clear n1_ n2_ n3_; have d0 : w6.cell? ⟨gx, 0, none⟩ = some (.string (rd_T46 l (k : Int)).f0) := (blk_cell BK.out 0).trans rfl; have fz : w6.frozen? ⟨gx, 0, none⟩ = false := blk_frozen BK.out 0) | ((with_reducible refine gate_store (t := 9) (p := 41) rfl ?_); refine store_event (t := 9) (p := 41) (v := ?vo_p) (w1 := (w6.setCell ⟨gx, 0, none⟩ (.string s))) ?hg ?ho ?hn ?hr ?_; (case ho => rfl); (case hg => rfl); (case hn => rfl); (case hr => first | (go_simp; done) | (go_simp; rfl)); intro w7 hw; have n1_ := Aside0.mk (HS.out.set GX.out.1 0 (.string s)); have n2_ := Aside0.mk (blk_put (cs' := #[.string s, .int .i64 (rd_T46 l (k : Int)).f1.f0, .int .i64 (rd_T46 l (k : Int)).f1.f1, .int .i64 (rd_T46 l (k : Int)).f1.f2, .int .i64 (rd_T46 l (k : Int)).f1.f3, .int .i64 (rd_T46 l (k : Int)).f1.f4, .string (rd_T46 l (k : Int)).f2]) BK.out 0 (.string s) rfl); have n3_ := Aside0.mk (below_setC (p := ⟨gx, 0, none⟩) HB.out GX.out.2 (.string s)); rw [← hw] at n1_ n2_ n3_; clear HS HB BK hw d0 fz; have HS := n1_; have BK := n2_; have HB := n3_; clear n1_ n2_ n3_))
    clear x0 x1 x2 x3 x4 x5 x6 c0
    have HG0 := HS.out.sap
    obtain ⟨v, g7, r7, hge⟩ := HG0
    have HG := Aside0.mk g7
    have HRd := Aside0.mk (Kd.R_drew r7)
    have HGE := Aside0.mk hge
    have HLT : Aside0 (g < w7.heap.size) := ⟨blk_lt g7⟩
    have HLX : Aside0 ((l.length + 1) * 72 ≤ 140737488355328) := ⟨by have := HL.out; omega⟩
    have c0 : w7.cell? ⟨g, 0, none⟩ = some v := (blk_cell g7 0).trans rfl
    have ca0 : ∀ o, (w7.alloc o).cell? ⟨g, 0, none⟩ = some v := fun o => (blk_cell (blk_below g7 (below_alloc (Below.refl _ _) o)) 0).trans rfl
    have y0 : w7.cell? ⟨gx, 0, none⟩ = some (.string s) := (blk_cell BK.out 0).trans rfl
    have y1 : w7.cell? ⟨gx, 1, none⟩ = some (.int .i64 (rd_T46 l (k : Int)).f1.f0) := (blk_cell BK.out 1).trans rfl
    have y2 : w7.cell? ⟨gx, 2, none⟩ = some (.int .i64 (rd_T46 l (k : Int)).f1.f1) := (blk_cell BK.out 2).trans rfl
    have y3 : w7.cell? ⟨gx, 3, none⟩ = some (.int .i64 (rd_T46 l (k : Int)).f1.f2) := (blk_cell BK.out 3).trans rfl
    have y4 : w7.cell? ⟨gx, 4, none⟩ = some (.int .i64 (rd_T46 l (k : Int)).f1.f3) := (blk_cell BK.out 4).trans rfl
    have y5 : w7.cell? ⟨gx, 5, none⟩ = some (.int .i64 (rd_T46 l (k : Int)).f1.f4) := (blk_cell BK.out 5).trans rfl
    have y6 : w7.cell? ⟨gx, 6, none⟩ = some (.string (rd_T46 l (k : Int)).f2) := (blk_cell BK.out 6).trans rfl
    clear g7 r7 hge
    go_region_law (refine Kd.R_append_step k46 (w0 := w) (W := w7.drew) base (by simp [Region.wanted]) (.tmp 46) (.tmp 48) 22 46 (.agg #[(.string ⟨#[]⟩), (.int .i64 0), (.int .i64 0), (.int .i64 0), (.int .i64 0), (.int .i64 0), (.string ⟨#[]⟩)]) 72 rfl Tryd.underlying22 info46 rfl (by decide) (by omega) v l (⟨s, (⟨(rd_T46 l (k : Int)).f1.f0, (rd_T46 l (k : Int)).f1.f1, (rd_T46 l (k : Int)).f1.f2, (rd_T46 l (k : Int)).f1.f3, (rd_T46 l (k : Int)).f1.f4⟩ : S44), (rd_T46 l (k : Int)).f2⟩ : S46) [.string s, .int .i64 (rd_T46 l (k : Int)).f1.f0, .int .i64 (rd_T46 l (k : Int)).f1.f1, .int .i64 (rd_T46 l (k : Int)).f1.f2, .int .i64 (rd_T46 l (k : Int)).f1.f3, .int .i64 (rd_T46 l (k : Int)).f1.f4, .string (rd_T46 l (k : Int)).f2] (fun k => k ≠ g) (fun _ => False) (by simp [Act.eval, Act.put]) (by simp [Act.eval, Act.put]) (k46_mkM _ _ _ (⟨s, (⟨(rd_T46 l (k : Int)).f1.f0, (rd_T46 l (k : Int)).f1.f1, (rd_T46 l (k : Int)).f1.f2, (rd_T46 l (k : Int)).f1.f3, (rd_T46 l (k : Int)).f1.f4⟩ : S44), (rd_T46 l (k : Int)).f2⟩ : S46)) (fun _ hk => hk.elim) (fun k hk e => absurd hk (by have := HLT.out; have e2 : w7.drew.heap.size = w7.heap.size := rfl; omega)) HRd.out (below_drew HB.out) (by have := HBL.out; have := HB.out.size; have e2 : w7.drew.heap.size = w7.heap.size := rfl; omega) HLX.out ?_; intro v1 w8 ho hb hg hat; obtain ⟨A1, k1, e1⟩ := Kd.R_slice ho; subst e1; have n0_ := Aside0.mk ho; have n1_ := Aside0.mk hb; have d0 : w8.cell? ⟨g, 0, none⟩ = some v := (blk_cell (blk_grown HG.out (w := w7.drew) hg (Kd.R_away HRd.out (fun _ hk => hk))) 0).trans rfl; have f0 : w8.frozen? ⟨g, 0, none⟩ = false := blk_frozen (blk_grown HG.out (w := w7.drew) hg (Kd.R_away HRd.out (fun _ hk => hk))) 0; have n2_ := Aside0.mk (blk_grown HG.out (w := w7.drew) hg (Kd.R_away HRd.out (fun _ hk => hk))); clear ho hb hg hat)
    all_goals go_wp2_with fail
    all_goals (
     go_ret
     rw [HR4.out]
     have h0 := n0_.out
     simp only [List.length_append, List.length_cons, List.length_nil, Nat.zero_add] at h0
     refine ⟨rfl, ⟨_, blk_put (cs' := #[.slice A1 (l.length + 1) k1, .int .i64 nx]) n2_.out 0 _ rfl, Kd.R_far (p := ⟨g, 0, none⟩) h0 (fun _ hk => hk) _, HGE.out⟩, n1_.out.setCell HGE.out _⟩)
   ·
    have z2 : (q != 0) = true := by simpa using h2
    have HF : Aside0 (ChRet R g base nx w (.returned (.int .i64 q)) w2) := ⟨by
     rw [HR3.out, if_pos h2]
     exact ⟨rfl, HS.out, HB.out⟩⟩
    clear h2
    go_wp2_with fail
    go_ret
    exact HF.out
  ·
   have z1 : ((rd_T46 l (k : Int)).f1.f2 != 1) = true := by simpa using h1
   have HF : Aside0 (ChRet R g base nx w (.returned (.int .i64 43)) w1) := ⟨by
    rw [HR2.out, if_pos (show knd (rd_T46 l (k : Int)) ≠ 1 from h1)]
    exact ⟨rfl, HS1.out, HB.out⟩⟩
   clear h1
   go_wp2_with fail
   go_ret
   exact HF.out
end Go.Proofs.YtoggfapafjgkdaaDoor.T
namespace Go.Proofs.YtoggfapafjgkdaaDoor.T
open Go.RowKit Go.Proofs.YtoggfapafjgkdaaDoorW.PrintWords Go.Proofs.YtoggfapafjgkdaaDoorW.PrintLast Go.Proofs.YtoggfapafjgkdaaDoorW.PrintMore Go.Proofs.YtoggfapafjgkdaaDoor.PAll
set_option linter.unusedSimpArgs false
set_option linter.unusedVariables false
def fillN (a : Int) (d : ByteArray) (n : S46) : S46 := if ino n = a then ⟨n.f0, n.f1, d⟩ else n
def changeT (l : List S46) (p : List UInt8) (d : ByteArray) : List S46 × Int :=
 if findI p 0 l < 0 then (l, 41) else if knd (rd_T46 l (findI p 0 l)) ≠ 1 then (l, 43) else if (d.size : Int) > 5675264 then (l, 4)
 else (l.map (fillN (ino (rd_T46 l (findI p 0 l))) d), 0)
theorem flat_set6 : ∀ (l : List S46) (i : Nat) (n : S46) (d : ByteArray), l[i]? = some n → (l.set i ⟨n.f0, n.f1, d⟩).flatMap encN = (l.flatMap encN).set (i * 7 + 6) (.string d)
 | [], i, n, d, h => by simp at h
 | m :: r, 0, n, d, h => by
  simp only [List.getElem?_cons_zero, Option.some.injEq] at h
  subst h
  rw [List.set_cons_zero, List.flatMap_cons, List.flatMap_cons]
  rfl
 | m :: r, i + 1, n, d, h => by
  rw [List.getElem?_cons_succ] at h
  rw [List.set_cons_succ, List.flatMap_cons, List.flatMap_cons, flat_set6 r i n d h, show (i + 1) * 7 + 6 = (i * 7 + 6) + 7 by omega]
  rfl
theorem set_data {w : World} {base gr c : Nat} {ok : Nat → Prop} {l : List S46} (h : Kd.R k46 46 w base ok (.slice (some ⟨gr, 0, none⟩) l.length c) l) {i : Nat} {n : S46} (hn : l[i]? = some n) (d : ByteArray) :
  Kd.R k46 46 (w.setCell ⟨gr, i * 7 + 6, none⟩ (.string d)) base ok (.slice (some ⟨gr, 0, none⟩) l.length c) (l.set i ⟨n.f0, n.f1, d⟩) := by
 have hi : i < l.length := (List.getElem?_eq_some_iff.1 hn).1
 rcases row_open h with ⟨e, _⟩ | ⟨g', cap', cur, e, hb, hg, h1, h2, h3, h4⟩
 ·
  cases e
 ·
  injection e with e1 e2 e3
  injection e1 with e1
  injection e1 with e1
  subst e1
  subst e3
  have hsl : (l.set i ⟨n.f0, n.f1, d⟩).length = l.length := List.length_set
  have := row_shut (l := l.set i ⟨n.f0, n.f1, d⟩) (base := base) (cap := c) (cur := cur.setIfInBounds (i * 7 + 6) (.string d)) hb (blk_put hg (i * 7 + 6) _ rfl) (by rw [hsl]; exact h1) h2 (by rw [Array.size_setIfInBounds, h3]) (by
   rw [hsl, Array.toList_setIfInBounds, List.take_set, h4, flat_set6 l i n d hn])
  rw [hsl] at this
  exact Kd.R_reok rfl this (fun k hk => h.1 k hk)
theorem fmix_at {l : List S46} {f : S46 → S46} {k : Nat} (hk : k < l.length) : ((l.take k).map f ++ l.drop k)[k]? = some (rd_T46 l (k : Int)) := by
 have e1 : ((l.take k).map f).length = k := by rw [List.length_map, List.length_take]; omega
 rw [List.getElem?_append_right (by omega), e1, Nat.sub_self, List.getElem?_drop, Nat.add_zero, List.getElem?_eq_getElem hk]
 exact congrArg some (rd_at hk).symm
theorem fmix_len {l : List S46} {f : S46 → S46} {k : Nat} (hk : k ≤ l.length) : ((l.take k).map f ++ l.drop k).length = l.length := by
 rw [List.length_append, List.length_map, List.length_take, List.length_drop]
 omega
theorem fmix_set {l : List S46} {f : S46 → S46} {k : Nat} (hk : k < l.length) : ((l.take k).map f ++ l.drop k).set k (f (rd_T46 l (k : Int))) = (l.take (k + 1)).map f ++ l.drop (k + 1) := by
 have e1 : ((l.take k).map f).length = k := by rw [List.length_map, List.length_take]; omega
 have e2 : rd_T46 l (k : Int) = l[k] := rd_at hk
 rw [List.set_append_right _ _ (by omega), e1, Nat.sub_self, List.drop_eq_getElem_cons hk, List.set_cons_zero, List.take_add_one, List.getElem?_eq_getElem hk, e2, List.map_append]
 simp only [Option.toList_some, List.map_cons, List.map_nil, List.append_assoc, List.cons_append, List.nil_append]
theorem fmix_keep {l : List S46} {f : S46 → S46} {k : Nat} (hk : k < l.length) (h : f (rd_T46 l (k : Int)) = rd_T46 l (k : Int)) : (l.take k).map f ++ l.drop k = (l.take (k + 1)).map f ++ l.drop (k + 1) := by
 rw [← fmix_set hk, h]
 have := fmix_at (f := f) hk
 obtain ⟨h1, h2⟩ := List.getElem?_eq_some_iff.1 this
 rw [← h2]
 exact (List.set_getElem_self h1).symm
set_option maxHeartbeats 8000000 in
set_option maxRecDepth 100000 in
theorem change_c (l : List S46) (g base : Nat) (nx : Int) (s d : ByteArray) (w : World) (hS : Sap w g base l nx) (hl : l.length < 2147483648) :
  Calls Tryd.prog 47 #[.pointer (some ⟨g, 0, none⟩), .string s, .string d] w fun e w' => ChRet (changeT l (pb s) d) g base nx w e w' := by
 have hu46 := Tryd.underlying46
 have hu44 := Tryd.underlying44
 have HL := Aside0.mk hl
 have HS := Aside0.mk hS
 obtain ⟨x, hx⟩ : ∃ x, findI (pb s) 0 l = x := ⟨_, rfl⟩
 have HX := Aside0.mk hx
 obtain ⟨R, hR⟩ : ∃ R, changeT l (pb s) d = R := ⟨_, rfl⟩
 have HR := Aside0.mk hR
 rw [hR]
 have HBL : Aside0 (base ≤ w.heap.size) := ⟨by obtain ⟨v, h1, h2, h3⟩ := hS; have := blk_lt h1; omega⟩
 clear hS hl hx hR
 go_enter Tryd.func47, Tryd.ntmps47
 go_wp2_with fail
 refine (find_c l g base nx s x w HS.out HL.out HX.out).mono ?_
 rintro e w1 ⟨rfl, hb1⟩
 have HB : Aside0 (Below base w w1) := ⟨below_then (Below.refl base w) HBL.out hb1⟩
 have HS1 := Aside0.mk (HS.out.below hb1)
 clear HS hb1
 by_cases h0 : x < 0
 ·
  have z0 : decide (x < 0) = true := decide_eq_true h0
  have HF : Aside0 (ChRet R g base nx w (.returned (.int .i64 41)) w1) := ⟨by
   have e : R = (l, 41) := by rw [← HR.out, changeT, if_pos (by rw [HX.out]; exact h0)]
   rw [e]
   exact ⟨rfl, HS1.out, HB.out⟩⟩
  clear h0
  go_wp2_with fail
  go_ret
  exact HF.out
 ·
  have z0 : decide (x < 0) = false := decide_eq_false h0
  obtain ⟨k, hk, hxk⟩ : ∃ k : Nat, k < l.length ∧ x = (k : Int) := by
   rcases findI_cases (pb s) l 0 with ⟨e, _⟩ | ⟨k, hk, e, _⟩
   ·
    rw [HX.out] at e
    omega
   ·
    exact ⟨k, hk, by rw [← HX.out, e, Nat.zero_add]⟩
  subst hxk
  have HK := Aside0.mk hk
  have HR2 : Aside0 (R = (if knd (rd_T46 l (k : Int)) ≠ 1 then (l, 43) else if (d.size : Int) > 5675264 then (l, 4) else (l.map (fillN (ino (rd_T46 l (k : Int))) d), 0))) := ⟨by
   rw [← HR.out, changeT, if_neg (by rw [HX.out]; exact h0), HX.out]⟩
  obtain ⟨v1, g1, r1, hge⟩ := HS1.out
  have HGE := Aside0.mk hge
  have HRW := Aside0.mk r1
  have HG := Aside0.mk g1
  obtain ⟨gr, c, hv1⟩ : ∃ gr c, v1 = .slice (some ⟨gr, 0, none⟩) l.length c := by
   rcases row_open r1 with ⟨_, e⟩ | ⟨g', cap', cur, e, _⟩
   ·
    omega
   ·
    exact ⟨g', cap', e⟩
  subst hv1
  have c0 : w1.cell? ⟨g, 0, none⟩ = some (.slice (some ⟨gr, 0, none⟩) l.length c) := (blk_cell g1 0).trans rfl
  obtain ⟨ad, ea, x0, x1, x2, x3, x4, x5, x6⟩ := at_T46 (Kd.R_reads' r1).2.2 (k : Int) (by omega) (by omega)
  cases ea
  have e0 : (⟨gr, 0, none⟩ : Addr).add (k * 7) = ⟨gr, k * 7, none⟩ := by rw [Addr.add_lit, Nat.zero_add]
  simp only [Int.toNat_natCast, e0] at x1 x3
  have p1 : (0 ≤ (k : Int)) = True := eq_true (by omega)
  have q1 : ((k : Int) < (l.length : Int)) = True := eq_true (by omega)
  have q2 : (k < l.length) = True := eq_true hk
  clear x0 x2 x4 x5 x6 g1 r1 h0 hk HR hge e0
  by_cases h1 : (rd_T46 l (k : Int)).f1.f2 = 1
  ·
   have z1 : ((rd_T46 l (k : Int)).f1.f2 != 1) = false := by simpa using h1
   by_cases h2 : (d.size : Int) > 5675264
   ·
    have z2 : decide ((5675264 : Int) < (d.size : Int)) = true := decide_eq_true h2
    have HF : Aside0 (ChRet R g base nx w (.returned (.int .i64 4)) w1) := ⟨by
     rw [HR2.out, if_neg (fun z => z h1), if_pos h2]
     exact ⟨rfl, HS1.out, HB.out⟩⟩
    clear h1 h2
    go_wp2_with fail
    go_ret
    exact HF.out
   ·
    have z2 : decide ((5675264 : Int) < (d.size : Int)) = false := decide_eq_false h2
    obtain ⟨a, ha⟩ : ∃ a, (rd_T46 l (k : Int)).f1.f0 = a := ⟨_, rfl⟩
    have HR3 : Aside0 (R = (l.map (fillN a d), 0)) := ⟨by rw [HR2.out, if_neg (fun z => z h1), if_neg h2, ← ha]; rfl⟩
    rw [ha] at x1
    clear h1 h2 HR2 ha
    go_wp2_with fail
    clear c0 x1 x3 p1 q1 q2
    go_loopw [45] (fun iv wr => ∃ (m : Nat), m ≤ l.length ∧ iv = .int .i64 m ∧ Aside0 (wr.heap[g]? = some (.cells #[.slice (some ⟨gr, 0, none⟩) l.length c, .int .i64 nx] 58 (0, 0))) ∧ Aside0 (Kd.R k46 46 wr base (fun q => q ≠ g) (.slice (some ⟨gr, 0, none⟩) l.length c) ((l.take m).map (fillN a d) ++ l.drop m)) ∧ Aside0 (Below base w wr)) (fun iv _ => l.length - (intOf iv).toNat)
    case atStart => exact ⟨0, by omega, rfl, HG, ⟨by simpa using HRW.out⟩, HB⟩
    case round =>
     clear HB HG HRW HS1
     obtain ⟨m, hm, rfl, HG, HRW, HB⟩ := hrel
     by_cases hml : m < l.length
     ·
      have HM := Aside0.mk hml
      have hlen : ((l.take m).map (fillN a d) ++ l.drop m).length = l.length := fmix_len (by omega)
      have hrd : rd_T46 ((l.take m).map (fillN a d) ++ l.drop m) (m : Int) = rd_T46 l (m : Int) := by
       have h1 := fmix_at (f := fillN a d) hml
       obtain ⟨h2, h3⟩ := List.getElem?_eq_some_iff.1 h1
       exact (rd_at h2).trans h3
      have c0 : wr.cell? ⟨g, 0, none⟩ = some (.slice (some ⟨gr, 0, none⟩) l.length c) := (blk_cell HG.out 0).trans rfl
      obtain ⟨ad, ea, x0, x1, x2, x3, x4, x5, x6⟩ := at_T46 (Kd.R_reads' HRW.out).2.2 (m : Int) (by omega) (by omega)
      cases ea
      have e0 : (⟨gr, 0, none⟩ : Addr).add (m * 7) = ⟨gr, m * 7, none⟩ := by rw [Addr.add_lit, Nat.zero_add]
      rw [hrd] at x1 x6
      simp only [Int.toNat_natCast, e0] at x1 x6
      have p1 : (0 ≤ (m : Int)) = True := eq_true (by omega)
      have q1 : ((m : Int) < (l.length : Int)) = True := eq_true (by omega)
      have q2 : (m < l.length) = True := eq_true hml
      have hgne : g ≠ gr := fun e => (HRW.out.1 gr rfl) e.symm
      have hbgr : base ≤ gr := by
       rcases row_open HRW.out with ⟨e, _⟩ | ⟨g', cap', cur, e, hb, _⟩
       ·
        cases e
       ·
        injection e with e1 _ _
        injection e1 with e1
        injection e1 with e1
        subst e1
        exact hb
      have hfz : wr.frozen? ⟨gr, m * 7 + 6, none⟩ = false := by
       rcases row_open HRW.out with ⟨e, _⟩ | ⟨g', cap', cur, e, hb, hg, _⟩
       ·
        cases e
       ·
        injection e with e1 _ _
        injection e1 with e1
        injection e1 with e1
        subst e1
        exact blk_frozen hg _
      clear x0 x2 x3 x4 x5 e0 hml hm
      by_cases he : (rd_T46 l (m : Int)).f1.f0 = a
      ·
       have ze : ((rd_T46 l (m : Int)).f1.f0 == a) = true := beq_iff_eq.2 he
       have HFN : Aside0 (fillN a d (rd_T46 l (m : Int)) = ⟨(rd_T46 l (m : Int)).f0, (rd_T46 l (m : Int)).f1, d⟩) := ⟨by unfold fillN; rw [if_pos (show ino _ = a from he)]⟩
       have HR5 : Aside0 (Kd.R k46 46 (wr.setCell ⟨gr, m * 7 + 6, none⟩ (.string d)) base (fun q => q ≠ g) (.slice (some ⟨gr, 0, none⟩) l.length c) ((l.take (m + 1)).map (fillN a d) ++ l.drop (m + 1))) := ⟨by
        have hR := HRW.out
        rw [← hlen] at hR
        have := set_data hR (fmix_at HM.out) d
        rw [hlen, ← HFN.out, fmix_set HM.out] at this
        exact this⟩
       have HG5 : Aside0 ((wr.setCell ⟨gr, m * 7 + 6, none⟩ (.string d)).heap[g]? = some (.cells #[.slice (some ⟨gr, 0, none⟩) l.length c, .int .i64 nx] 58 (0, 0))) := ⟨(Below.heap_setCell wr ⟨gr, m * 7 + 6, none⟩ (.string d) g hgne).trans HG.out⟩
       have HB5 : Aside0 (Below base w (wr.setCell ⟨gr, m * 7 + 6, none⟩ (.string d))) := ⟨HB.out.setCell hbgr _⟩
       clear he hlen hrd hgne hbgr
       go_wp2_with fail
       clear x1 x6 c0 hfz HRW HG HB
       generalize wr.setCell ⟨gr, m * 7 + 6, none⟩ (.string d) = w5 at HR5 HG5 HB5 ⊢
       go_roundw
       case rel =>
        have h1 := HM.out
        have h2 := HL.out
        exact ⟨m + 1, by omega, by rw [w64 (by omega) (by omega)]; rfl, HG5, HR5, HB5⟩
       case measure =>
        have := HM.out
        have := HL.out
        rw [w64 (by omega) (by omega)]
        first
         | (simp [intOf]; done)
         | (simp [intOf]; omega)
      ·
       have ze : ((rd_T46 l (m : Int)).f1.f0 == a) = false := beq_eq_false_iff_ne.2 he
       have HR5 : Aside0 (Kd.R k46 46 wr base (fun q => q ≠ g) (.slice (some ⟨gr, 0, none⟩) l.length c) ((l.take (m + 1)).map (fillN a d) ++ l.drop (m + 1))) := ⟨by
        rw [← fmix_keep HM.out (by unfold fillN; rw [if_neg (show ¬ ino _ = a from he)])]
        exact HRW.out⟩
       clear he hlen hrd hgne hbgr
       go_wp2_with fail
       clear x1 x6 c0 hfz HRW
       go_roundw
       case rel =>
        have h1 := HM.out
        have h2 := HL.out
        exact ⟨m + 1, by omega, by rw [w64 (by omega) (by omega)]; rfl, HG, HR5, HB⟩
       case measure =>
        have := HM.out
        have := HL.out
        rw [w64 (by omega) (by omega)]
        first
         | (simp [intOf]; done)
         | (simp [intOf]; omega)
     ·
      have hme : m = l.length := by omega
      subst hme
      have q1 : ((l.length : Int) < (l.length : Int)) = False := eq_false (by omega)
      have q2 : (l.length < l.length) = False := eq_false (by omega)
      have HF : Aside0 (ChRet R g base nx w (.returned (.int .i64 0)) wr) := ⟨by
       rw [HR3.out]
       have hR := HRW.out
       rw [List.take_length, List.drop_length, List.append_nil] at hR
       exact ⟨rfl, ⟨_, HG.out, hR, HGE.out⟩, HB.out⟩⟩
      clear hml hm
      go_wp2_with fail
      go_ret
      exact HF.out
  ·
   have z1 : ((rd_T46 l (k : Int)).f1.f2 != 1) = true := by simpa using h1
   have HF : Aside0 (ChRet R g base nx w (.returned (.int .i64 43)) w1) := ⟨by
    rw [HR2.out, if_pos (show knd (rd_T46 l (k : Int)) ≠ 1 from h1)]
    exact ⟨rfl, HS1.out, HB.out⟩⟩
   clear h1
   go_wp2_with fail
   go_ret
   exact HF.out
end Go.Proofs.YtoggfapafjgkdaaDoor.T
namespace Go.Proofs.YtoggfapafjgkdaaDoor.T
open Go.RowKit Go.Proofs.YtoggfapafjgkdaaDoorW.PrintWords Go.Proofs.YtoggfapafjgkdaaDoorW.PrintLast Go.Proofs.YtoggfapafjgkdaaDoorW.PrintMore Go.Proofs.YtoggfapafjgkdaaDoor.PAll
set_option linter.unusedSimpArgs false
set_option linter.unusedVariables false
def newT (l : List S46) (nx : Int) (kind : Int) (p d : ByteArray) : List S46 × Int × Int :=
 if spotT l (pb p) ≠ 0 then (l, nx, spotT l (pb p)) else (l ++ [⟨p, ⟨nx, 0, kind, 0, 0⟩, d⟩], nx + 1, 0)
noncomputable def editT (l : List S46) (nx : Int) (x : S33) : List S46 × Int × Int :=
 if x.f0 = 1 then ((removeT l (pb x.f1)).1, nx, (removeT l (pb x.f1)).2)
 else if x.f0 = 5 then ((linkT l x.f1 (pb x.f2)).1, nx, (linkT l x.f1 (pb x.f2)).2)
 else if x.f0 = 6 then ((changeT l (pb x.f1) x.f3).1, nx, (changeT l (pb x.f1) x.f3).2)
 else if x.f0 = 4 then (if splitE (pb x.f2) ≠ 0 then (l, nx, splitE (pb x.f2)) else newT l nx 3 x.f1 x.f2)
 else if x.f0 = 3 then (if (x.f3.size : Int) > 5675264 then (l, nx, 4) else newT l nx 1 x.f1 x.f3)
 else if x.f0 = 2 then newT l nx 2 x.f1 eB else (l, nx, 1)
def EdRet (r : List S46 × Int × Int) (g base : Nat) (w : World) (e : Ending) (w' : World) : Prop := e = .returned (.int .i64 r.2.2) ∧ Sap w' g base r.1 r.2.1 ∧ Below base w w'
theorem new_ok {l : List S46} {nx kind : Int} {p d : ByteArray} (h : spotT l (pb p) = 0) : newT l nx kind p d = (l ++ [⟨p, ⟨nx, 0, kind, 0, 0⟩, d⟩], nx + 1, 0) := by
 unfold newT
 rw [if_neg (fun q => q h)]
theorem new_bad {l : List S46} {nx kind : Int} {p d : ByteArray} (h : spotT l (pb p) ≠ 0) : newT l nx kind p d = (l, nx, spotT l (pb p)) := by
 unfold newT
 rw [if_pos h]
set_option maxHeartbeats 16000000 in
set_option maxRecDepth 100000 in
theorem edit_c (l : List S46) (g base : Nat) (nx : Int) (x : S33) (w : World) (hS : Sap w g base l nx) (hl : l.length < 2147483648) (hz : SZ l) (hn : 0 ≤ nx ∧ nx < 2147483648) (hT : Tab w) :
  Calls Tryd.prog 32 #[.pointer (some ⟨g, 0, none⟩), editV x] w fun e w' => EdRet (editT l nx x) g base w e w' := by
 have hu33 := Tryd.underlying33
 have HL := Aside0.mk hl
 have HZ := Aside0.mk hz
 have HN := Aside0.mk hn
 have HS := Aside0.mk hS
 have HT := Aside0.mk hT
 have HBL : Aside0 (base ≤ w.heap.size) := ⟨by obtain ⟨v, h1, h2, h3⟩ := hS; have := blk_lt h1; omega⟩
 clear hS hl hz hn hT
 obtain ⟨kd, p, tt, d, hx⟩ : ∃ kd p tt d, x = ⟨kd, p, tt, d⟩ := ⟨x.f0, x.f1, x.f2, x.f3, rfl⟩
 subst hx
 obtain ⟨R, hR⟩ : ∃ R, editT l nx ⟨kd, p, tt, d⟩ = R := ⟨_, rfl⟩
 have HR := Aside0.mk hR
 rw [hR]
 clear hR
 dsimp only [editV]
 go_enter Tryd.func32, Tryd.ntmps32
 by_cases hk : kd = 1
 ·
  subst hk
  go_wp2_with (first | ((with_reducible refine gate_dst (N := 3) rfl ?_); refine box_event ?hg (N := 3) ?hd (cs := #[.int .i64 1, .string p, .string tt, .string d]) (t := 33) ?hr ?_; (case hd => rfl); (case hg => rfl); (case hr => first | (go_simp; done) | (go_simp; rfl)); intro gb hg w5 hbox hb; have n0_ := Aside0.mk (HS.out.below hb); have n1_ := Aside0.mk (HT.out.below hb); have n2_ : Aside0 (Below base w w5) := ⟨below_then (Below.refl base w) HBL.out hb⟩; have n3_ := Aside0.mk hbox; clear HS HT; have HS := n0_; have HT := n1_; have HB := n2_; have BK := n3_; clear n0_ n1_ n2_ n3_ hb hbox hg; have c0 : w5.cell? ⟨gb, 0, none⟩ = some (.int .i64 1) := (blk_cell BK.out 0).trans rfl; have c1 : w5.cell? ⟨gb, 1, none⟩ = some (.string p) := (blk_cell BK.out 1).trans rfl; have c2 : w5.cell? ⟨gb, 2, none⟩ = some (.string tt) := (blk_cell BK.out 2).trans rfl; have c3 : w5.cell? ⟨gb, 3, none⟩ = some (.string d) := (blk_cell BK.out 3).trans rfl))
  clear c0 c1 c2 c3
  refine (remove_c l g base nx p w5 HS.out HL.out HZ.out).mono ?_
  rintro e w6 ⟨rfl, hs6, hb6⟩
  have HF : Aside0 (EdRet ((removeT l (pb p)).1, nx, (removeT l (pb p)).2) g base w (.returned (.int .i64 (removeT l (pb p)).2)) w6) := ⟨⟨rfl, hs6, HB.out.trans hb6⟩⟩
  clear hs6 hb6
  have HE := Aside0.mk ((show editT l nx ⟨1, p, tt, d⟩ = ((removeT l (pb p)).1, nx, (removeT l (pb p)).2) from rfl).symm.trans HR.out)
  go_wp2_with fail
  go_ret
  rw [← HE.out]
  exact HF.out
 by_cases hk5 : kd = 5
 ·
  subst hk5
  go_wp2_with (first | ((with_reducible refine gate_dst (N := 3) rfl ?_); refine box_event ?hg (N := 3) ?hd (cs := #[.int .i64 5, .string p, .string tt, .string d]) (t := 33) ?hr ?_; (case hd => rfl); (case hg => rfl); (case hr => first | (go_simp; done) | (go_simp; rfl)); intro gb hg w5 hbox hb; have n0_ := Aside0.mk (HS.out.below hb); have n1_ := Aside0.mk (HT.out.below hb); have n2_ : Aside0 (Below base w w5) := ⟨below_then (Below.refl base w) HBL.out hb⟩; have n3_ := Aside0.mk hbox; clear HS HT; have HS := n0_; have HT := n1_; have HB := n2_; have BK := n3_; clear n0_ n1_ n2_ n3_ hb hbox hg; have c0 : w5.cell? ⟨gb, 0, none⟩ = some (.int .i64 5) := (blk_cell BK.out 0).trans rfl; have c1 : w5.cell? ⟨gb, 1, none⟩ = some (.string p) := (blk_cell BK.out 1).trans rfl; have c2 : w5.cell? ⟨gb, 2, none⟩ = some (.string tt) := (blk_cell BK.out 2).trans rfl; have c3 : w5.cell? ⟨gb, 3, none⟩ = some (.string d) := (blk_cell BK.out 3).trans rfl))
  clear c0 c1 c2 c3
  refine (link_c l g base nx p tt w5 HS.out HL.out HT.out).mono ?_
  rintro e w6 ⟨rfl, hs6, hb6⟩
  have HF : Aside0 (EdRet ((linkT l p (pb tt)).1, nx, (linkT l p (pb tt)).2) g base w (.returned (.int .i64 (linkT l p (pb tt)).2)) w6) := ⟨⟨rfl, hs6, HB.out.trans hb6⟩⟩
  clear hs6 hb6
  have HE := Aside0.mk ((show editT l nx ⟨5, p, tt, d⟩ = ((linkT l p (pb tt)).1, nx, (linkT l p (pb tt)).2) from rfl).symm.trans HR.out)
  go_wp2_with fail
  go_ret
  rw [← HE.out]
  exact HF.out
 by_cases hk6 : kd = 6
 ·
  subst hk6
  go_wp2_with (first | ((with_reducible refine gate_dst (N := 3) rfl ?_); refine box_event ?hg (N := 3) ?hd (cs := #[.int .i64 6, .string p, .string tt, .string d]) (t := 33) ?hr ?_; (case hd => rfl); (case hg => rfl); (case hr => first | (go_simp; done) | (go_simp; rfl)); intro gb hg w5 hbox hb; have n0_ := Aside0.mk (HS.out.below hb); have n1_ := Aside0.mk (HT.out.below hb); have n2_ : Aside0 (Below base w w5) := ⟨below_then (Below.refl base w) HBL.out hb⟩; have n3_ := Aside0.mk hbox; clear HS HT; have HS := n0_; have HT := n1_; have HB := n2_; have BK := n3_; clear n0_ n1_ n2_ n3_ hb hbox hg; have c0 : w5.cell? ⟨gb, 0, none⟩ = some (.int .i64 6) := (blk_cell BK.out 0).trans rfl; have c1 : w5.cell? ⟨gb, 1, none⟩ = some (.string p) := (blk_cell BK.out 1).trans rfl; have c2 : w5.cell? ⟨gb, 2, none⟩ = some (.string tt) := (blk_cell BK.out 2).trans rfl; have c3 : w5.cell? ⟨gb, 3, none⟩ = some (.string d) := (blk_cell BK.out 3).trans rfl))
  clear c0 c1 c2 c3
  refine (change_c l g base nx p d w5 HS.out HL.out).mono ?_
  rintro e w6 ⟨rfl, hs6, hb6⟩
  have HF : Aside0 (EdRet ((changeT l (pb p) d).1, nx, (changeT l (pb p) d).2) g base w (.returned (.int .i64 (changeT l (pb p) d).2)) w6) := ⟨⟨rfl, hs6, HB.out.trans hb6⟩⟩
  clear hs6 hb6
  have HE := Aside0.mk ((show editT l nx ⟨6, p, tt, d⟩ = ((changeT l (pb p) d).1, nx, (changeT l (pb p) d).2) from rfl).symm.trans HR.out)
  go_wp2_with fail
  go_ret
  rw [← HE.out]
  exact HF.out
 by_cases hk4 : kd = 4
 ·
  subst hk4
  obtain ⟨q0, hq0⟩ : ∃ q0, splitE (pb tt) = q0 := ⟨_, rfl⟩
  have HQ0 := Aside0.mk hq0
  clear hq0
  go_wp2_with (first | ((with_reducible refine gate_dst (N := 3) rfl ?_); refine box_event ?hg (N := 3) ?hd (cs := #[.int .i64 4, .string p, .string tt, .string d]) (t := 33) ?hr ?_; (case hd => rfl); (case hg => rfl); (case hr => first | (go_simp; done) | (go_simp; rfl)); intro gb hg w5 hbox hb; have n0_ := Aside0.mk (HS.out.below hb); have n1_ := Aside0.mk (HT.out.below hb); have n2_ : Aside0 (Below base w w5) := ⟨below_then (Below.refl base w) HBL.out hb⟩; have n3_ := Aside0.mk hbox; clear HS HT; have HS := n0_; have HT := n1_; have HB := n2_; have BK := n3_; clear n0_ n1_ n2_ n3_ hb hbox hg; have c0 : w5.cell? ⟨gb, 0, none⟩ = some (.int .i64 4) := (blk_cell BK.out 0).trans rfl; have c1 : w5.cell? ⟨gb, 1, none⟩ = some (.string p) := (blk_cell BK.out 1).trans rfl; have c2 : w5.cell? ⟨gb, 2, none⟩ = some (.string tt) := (blk_cell BK.out 2).trans rfl; have c3 : w5.cell? ⟨gb, 3, none⟩ = some (.string d) := (blk_cell BK.out 3).trans rfl))
  refine (split_c tt q0 w5 HT.out HQ0.out).mono ?_
  rintro e w6 ⟨⟨v6, rfl⟩, hb6⟩
  have n0_ := Aside0.mk (HS.out.below hb6)
  have n1_ := Aside0.mk (below_then HB.out (Nat.le_trans HBL.out HB.out.size) hb6)
  have n2_ := Aside0.mk (HT.out.below hb6)
  have n3_ := Aside0.mk (blk_below BK.out hb6)
  clear HS HB BK HT c0 c1 c2 c3 hb6
  have HS := n0_
  have HB := n1_
  have HT := n2_
  have BK := n3_
  clear n0_ n1_ n2_ n3_
  by_cases h4 : q0 = 0
  ·
   have HR4 : Aside0 (newT l nx 3 p tt = R) := ⟨by rw [← HR.out]; exact (if_neg (c := splitE (pb tt) ≠ 0) (fun z => z (HQ0.out.trans h4))).symm⟩
   subst h4
   have c0 : w6.cell? ⟨gb, 0, none⟩ = some (.int .i64 4) := (blk_cell BK.out 0).trans rfl
   have c1 : w6.cell? ⟨gb, 1, none⟩ = some (.string p) := (blk_cell BK.out 1).trans rfl
   have c2 : w6.cell? ⟨gb, 2, none⟩ = some (.string tt) := (blk_cell BK.out 2).trans rfl
   have c3 : w6.cell? ⟨gb, 3, none⟩ = some (.string d) := (blk_cell BK.out 3).trans rfl
   go_wp2_with fail
   obtain ⟨q, hq⟩ : ∃ q, spotT l (pb p) = q := ⟨_, rfl⟩
   have HQ := Aside0.mk hq
   clear hq
   refine (spot_c l g base nx p q w6 HS.out HL.out HT.out HQ.out).mono ?_
   rintro e w7 ⟨rfl, hb7⟩
   have n0_ := Aside0.mk (HS.out.below hb7)
   have n1_ := Aside0.mk (below_then HB.out (Nat.le_trans HBL.out HB.out.size) hb7)
   have n3_ := Aside0.mk (blk_below BK.out hb7)
   clear HS HB BK c0 c1 c2 c3 hb7
   have HS := n0_
   have HB := n1_
   have BK := n3_
   clear n0_ n1_ n3_
   by_cases h7 : q = 0
   ·
    have HE : Aside0 (R = (l ++ [⟨p, ⟨nx, 0, 3, 0, 0⟩, tt⟩], nx + 1, 0)) := ⟨by rw [← HR4.out]; exact new_ok (by rw [HQ.out]; exact h7)⟩
    subst h7
    have c0 : w7.cell? ⟨gb, 0, none⟩ = some (.int .i64 4) := (blk_cell BK.out 0).trans rfl
    have c1 : w7.cell? ⟨gb, 1, none⟩ = some (.string p) := (blk_cell BK.out 1).trans rfl
    have c2 : w7.cell? ⟨gb, 2, none⟩ = some (.string tt) := (blk_cell BK.out 2).trans rfl
    have c3 : w7.cell? ⟨gb, 3, none⟩ = some (.string d) := (blk_cell BK.out 3).trans rfl
    go_wp2_with fail
    clear c0 c1 c2 c3
    refine (put_c l g base nx 3 p tt w7 HS.out HL.out).mono ?_
    rintro e w8 ⟨rfl, hs8, hb8⟩
    rw [w64 (by have := HN.out; omega) (by have := HN.out; omega)] at hs8
    have HF : Aside0 (EdRet R g base w (.returned (.int .i64 0)) w8) := ⟨by rw [HE.out]; exact ⟨rfl, hs8, HB.out.trans hb8⟩⟩
    clear hs8 hb8
    go_wp2_with fail
    go_ret
    exact HF.out
   ·
    have z7 : (q != 0) = true := by simpa using h7
    have HF : Aside0 (EdRet R g base w (.returned (.int .i64 q)) w7) := ⟨by
     have e : R = (l, nx, q) := by rw [← HR4.out, ← HQ.out]; exact new_bad (by rw [HQ.out]; exact h7)
     rw [e]
     exact ⟨rfl, HS.out, HB.out⟩⟩
    clear h7
    go_wp2_with fail
    go_ret
    exact HF.out
  ·
   have z4 : (q0 != 0) = true := by simpa using h4
   have HE : Aside0 (R = (l, nx, q0)) := ⟨by rw [← HR.out, ← HQ0.out]; exact if_pos (c := splitE (pb tt) ≠ 0) (by rw [HQ0.out]; exact h4)⟩
   have HF : Aside0 (EdRet R g base w (.returned (.int .i64 q0)) w6) := ⟨by rw [HE.out]; exact ⟨rfl, HS.out, HB.out⟩⟩
   clear h4
   go_wp2_with fail
   go_ret
   exact HF.out
 by_cases hk3 : kd = 3
 ·
  subst hk3
  by_cases h3 : (d.size : Int) > 5675264
  ·
   have z3 : decide ((5675264 : Int) < (d.size : Int)) = true := decide_eq_true h3
   have HE : Aside0 (R = (l, nx, 4)) := ⟨by rw [← HR.out]; exact if_pos h3⟩
   clear h3
   go_wp2_with (first | ((with_reducible refine gate_dst (N := 3) rfl ?_); refine box_event ?hg (N := 3) ?hd (cs := #[.int .i64 3, .string p, .string tt, .string d]) (t := 33) ?hr ?_; (case hd => rfl); (case hg => rfl); (case hr => first | (go_simp; done) | (go_simp; rfl)); intro gb hg w5 hbox hb; have n0_ := Aside0.mk (HS.out.below hb); have n1_ := Aside0.mk (HT.out.below hb); have n2_ : Aside0 (Below base w w5) := ⟨below_then (Below.refl base w) HBL.out hb⟩; have n3_ := Aside0.mk hbox; clear HS HT; have HS := n0_; have HT := n1_; have HB := n2_; have BK := n3_; clear n0_ n1_ n2_ n3_ hb hbox hg; have c0 : w5.cell? ⟨gb, 0, none⟩ = some (.int .i64 3) := (blk_cell BK.out 0).trans rfl; have c1 : w5.cell? ⟨gb, 1, none⟩ = some (.string p) := (blk_cell BK.out 1).trans rfl; have c2 : w5.cell? ⟨gb, 2, none⟩ = some (.string tt) := (blk_cell BK.out 2).trans rfl; have c3 : w5.cell? ⟨gb, 3, none⟩ = some (.string d) := (blk_cell BK.out 3).trans rfl))
   have HF : Aside0 (EdRet R g base w (.returned (.int .i64 4)) w5) := ⟨by rw [HE.out]; exact ⟨rfl, HS.out, HB.out⟩⟩
   go_ret
   exact HF.out
  ·
   have z3 : decide ((5675264 : Int) < (d.size : Int)) = false := decide_eq_false h3
   have HR3 : Aside0 (newT l nx 1 p d = R) := ⟨by rw [← HR.out]; exact (if_neg h3).symm⟩
   clear h3
   go_wp2_with (first | ((with_reducible refine gate_dst (N := 3) rfl ?_); refine box_event ?hg (N := 3) ?hd (cs := #[.int .i64 3, .string p, .string tt, .string d]) (t := 33) ?hr ?_; (case hd => rfl); (case hg => rfl); (case hr => first | (go_simp; done) | (go_simp; rfl)); intro gb hg w5 hbox hb; have n0_ := Aside0.mk (HS.out.below hb); have n1_ := Aside0.mk (HT.out.below hb); have n2_ : Aside0 (Below base w w5) := ⟨below_then (Below.refl base w) HBL.out hb⟩; have n3_ := Aside0.mk hbox; clear HS HT; have HS := n0_; have HT := n1_; have HB := n2_; have BK := n3_; clear n0_ n1_ n2_ n3_ hb hbox hg; have c0 : w5.cell? ⟨gb, 0, none⟩ = some (.int .i64 3) := (blk_cell BK.out 0).trans rfl; have c1 : w5.cell? ⟨gb, 1, none⟩ = some (.string p) := (blk_cell BK.out 1).trans rfl; have c2 : w5.cell? ⟨gb, 2, none⟩ = some (.string tt) := (blk_cell BK.out 2).trans rfl; have c3 : w5.cell? ⟨gb, 3, none⟩ = some (.string d) := (blk_cell BK.out 3).trans rfl))
   obtain ⟨q, hq⟩ : ∃ q, spotT l (pb p) = q := ⟨_, rfl⟩
   have HQ := Aside0.mk hq
   clear hq
   refine (spot_c l g base nx p q w5 HS.out HL.out HT.out HQ.out).mono ?_
   rintro e w7 ⟨rfl, hb7⟩
   have n0_ := Aside0.mk (HS.out.below hb7)
   have n1_ := Aside0.mk (below_then HB.out (Nat.le_trans HBL.out HB.out.size) hb7)
   have n3_ := Aside0.mk (blk_below BK.out hb7)
   clear HS HB BK c0 c1 c2 c3 hb7
   have HS := n0_
   have HB := n1_
   have BK := n3_
   clear n0_ n1_ n3_
   by_cases h7 : q = 0
   ·
    have HE : Aside0 (R = (l ++ [⟨p, ⟨nx, 0, 1, 0, 0⟩, d⟩], nx + 1, 0)) := ⟨by rw [← HR3.out]; exact new_ok (by rw [HQ.out]; exact h7)⟩
    subst h7
    have c0 : w7.cell? ⟨gb, 0, none⟩ = some (.int .i64 3) := (blk_cell BK.out 0).trans rfl
    have c1 : w7.cell? ⟨gb, 1, none⟩ = some (.string p) := (blk_cell BK.out 1).trans rfl
    have c2 : w7.cell? ⟨gb, 2, none⟩ = some (.string tt) := (blk_cell BK.out 2).trans rfl
    have c3 : w7.cell? ⟨gb, 3, none⟩ = some (.string d) := (blk_cell BK.out 3).trans rfl
    go_wp2_with fail
    clear c0 c1 c2 c3
    refine (put_c l g base nx 1 p d w7 HS.out HL.out).mono ?_
    rintro e w8 ⟨rfl, hs8, hb8⟩
    rw [w64 (by have := HN.out; omega) (by have := HN.out; omega)] at hs8
    have HF : Aside0 (EdRet R g base w (.returned (.int .i64 0)) w8) := ⟨by rw [HE.out]; exact ⟨rfl, hs8, HB.out.trans hb8⟩⟩
    clear hs8 hb8
    go_wp2_with fail
    go_ret
    exact HF.out
   ·
    have z7 : (q != 0) = true := by simpa using h7
    have HF : Aside0 (EdRet R g base w (.returned (.int .i64 q)) w7) := ⟨by
     have e : R = (l, nx, q) := by rw [← HR3.out, ← HQ.out]; exact new_bad (by rw [HQ.out]; exact h7)
     rw [e]
     exact ⟨rfl, HS.out, HB.out⟩⟩
    clear h7
    go_wp2_with fail
    go_ret
    exact HF.out
 by_cases hk2 : kd = 2
 ·
  subst hk2
  go_wp2_with (first | ((with_reducible refine gate_dst (N := 3) rfl ?_); refine box_event ?hg (N := 3) ?hd (cs := #[.int .i64 2, .string p, .string tt, .string d]) (t := 33) ?hr ?_; (case hd => rfl); (case hg => rfl); (case hr => first | (go_simp; done) | (go_simp; rfl)); intro gb hg w5 hbox hb; have n0_ := Aside0.mk (HS.out.below hb); have n1_ := Aside0.mk (HT.out.below hb); have n2_ : Aside0 (Below base w w5) := ⟨below_then (Below.refl base w) HBL.out hb⟩; have n3_ := Aside0.mk hbox; clear HS HT; have HS := n0_; have HT := n1_; have HB := n2_; have BK := n3_; clear n0_ n1_ n2_ n3_ hb hbox hg; have c0 : w5.cell? ⟨gb, 0, none⟩ = some (.int .i64 2) := (blk_cell BK.out 0).trans rfl; have c1 : w5.cell? ⟨gb, 1, none⟩ = some (.string p) := (blk_cell BK.out 1).trans rfl; have c2 : w5.cell? ⟨gb, 2, none⟩ = some (.string tt) := (blk_cell BK.out 2).trans rfl; have c3 : w5.cell? ⟨gb, 3, none⟩ = some (.string d) := (blk_cell BK.out 3).trans rfl))
  obtain ⟨q, hq⟩ : ∃ q, spotT l (pb p) = q := ⟨_, rfl⟩
  have HQ := Aside0.mk hq
  clear hq
  refine (spot_c l g base nx p q w5 HS.out HL.out HT.out HQ.out).mono ?_
  rintro e w7 ⟨rfl, hb7⟩
  have n0_ := Aside0.mk (HS.out.below hb7)
  have n1_ := Aside0.mk (below_then HB.out (Nat.le_trans HBL.out HB.out.size) hb7)
  have n3_ := Aside0.mk (blk_below BK.out hb7)
  clear HS HB BK c0 c1 c2 c3 hb7
  have HS := n0_
  have HB := n1_
  have BK := n3_
  clear n0_ n1_ n3_
  by_cases h7 : q = 0
  ·
   have HE : Aside0 (R = (l ++ [⟨p, ⟨nx, 0, 2, 0, 0⟩, eB⟩], nx + 1, 0)) := ⟨by rw [← HR.out]; exact new_ok (by rw [HQ.out]; exact h7)⟩
   subst h7
   have c0 : w7.cell? ⟨gb, 0, none⟩ = some (.int .i64 2) := (blk_cell BK.out 0).trans rfl
   have c1 : w7.cell? ⟨gb, 1, none⟩ = some (.string p) := (blk_cell BK.out 1).trans rfl
   have c2 : w7.cell? ⟨gb, 2, none⟩ = some (.string tt) := (blk_cell BK.out 2).trans rfl
   have c3 : w7.cell? ⟨gb, 3, none⟩ = some (.string d) := (blk_cell BK.out 3).trans rfl
   go_wp2_with fail
   clear c0 c1 c2 c3
   refine (put_c l g base nx 2 p eB w7 HS.out HL.out).mono ?_
   rintro e w8 ⟨rfl, hs8, hb8⟩
   rw [w64 (by have := HN.out; omega) (by have := HN.out; omega)] at hs8
   have HF : Aside0 (EdRet R g base w (.returned (.int .i64 0)) w8) := ⟨by rw [HE.out]; exact ⟨rfl, hs8, HB.out.trans hb8⟩⟩
   clear hs8 hb8
   go_wp2_with fail
   go_ret
   exact HF.out
  ·
   have z7 : (q != 0) = true := by simpa using h7
   have HF : Aside0 (EdRet R g base w (.returned (.int .i64 q)) w7) := ⟨by
    have e : R = (l, nx, q) := by rw [← HR.out, ← HQ.out]; exact new_bad (by rw [HQ.out]; exact h7)
    rw [e]
    exact ⟨rfl, HS.out, HB.out⟩⟩
   clear h7
   go_wp2_with fail
   go_ret
   exact HF.out
 ·
  have z1 : (kd == 1) = false := beq_eq_false_iff_ne.2 hk
  have z2 : (kd == 2) = false := beq_eq_false_iff_ne.2 hk2
  have z3 : (kd == 3) = false := beq_eq_false_iff_ne.2 hk3
  have z4 : (kd == 4) = false := beq_eq_false_iff_ne.2 hk4
  have z5 : (kd == 5) = false := beq_eq_false_iff_ne.2 hk5
  have z6 : (kd == 6) = false := beq_eq_false_iff_ne.2 hk6
  have HE : Aside0 (R = (l, nx, 1)) := ⟨by rw [← HR.out, editT, if_neg hk, if_neg hk5, if_neg hk6, if_neg hk4, if_neg hk3, if_neg hk2]⟩
  clear hk hk2 hk3 hk4 hk5 hk6
  go_wp2_with (first | ((with_reducible refine gate_dst (N := 3) rfl ?_); refine box_event ?hg (N := 3) ?hd (cs := #[.int .i64 kd, .string p, .string tt, .string d]) (t := 33) ?hr ?_; (case hd => rfl); (case hg => rfl); (case hr => first | (go_simp; done) | (go_simp; rfl)); intro gb hg w5 hbox hb; have n0_ := Aside0.mk (HS.out.below hb); have n1_ := Aside0.mk (HT.out.below hb); have n2_ : Aside0 (Below base w w5) := ⟨below_then (Below.refl base w) HBL.out hb⟩; have n3_ := Aside0.mk hbox; clear HS HT; have HS := n0_; have HT := n1_; have HB := n2_; have BK := n3_; clear n0_ n1_ n2_ n3_ hb hbox hg; have c0 : w5.cell? ⟨gb, 0, none⟩ = some (.int .i64 kd) := (blk_cell BK.out 0).trans rfl; have c1 : w5.cell? ⟨gb, 1, none⟩ = some (.string p) := (blk_cell BK.out 1).trans rfl; have c2 : w5.cell? ⟨gb, 2, none⟩ = some (.string tt) := (blk_cell BK.out 2).trans rfl; have c3 : w5.cell? ⟨gb, 3, none⟩ = some (.string d) := (blk_cell BK.out 3).trans rfl))
  have HF : Aside0 (EdRet R g base w (.returned (.int .i64 1)) w5) := ⟨by rw [HE.out]; exact ⟨rfl, HS.out, HB.out⟩⟩
  go_ret
  exact HF.out
end Go.Proofs.YtoggfapafjgkdaaDoor.T
