/- A tree that is changed and changed back is what it was. -/
import Derived.Test.YtoggfapafjgkdaaDoorDTH4
import Derived.Test.YtoggfapafjgkdaaDoorDTH5
import Derived.Test.YtoggfapafjgkdaaDoorDTH1
import Derived.Test.YtoggfapafjgkdaaDoorDTK1
import Derived.Test.YtoggfapafjgkdaaDoorDTH2
import Derived.Deep.RegionLaw
import Derived.Lib.SliceRun
import Derived.Test.YtoggfapafjgkdaaDoorDTH3
import Derived.Test.YtoggfapafjgkdaaDoorDTH6
import Derived.Test.YtoggfapafjgkdaaDoorDTH7
import Derived.Test.YtoggfapafjgkdaaDoorTie
import Derived.Test.YtoggfapafjgkdaaDoorCards
import Derived.WalkKit
import Derived.ProofKit
import Derived.OpenShut
import Derived.ShutString
import Derived.ChangeOld
import Derived.Below
import Derived.SizedLaws
import Derived.Lay
import Derived.LaidMore
import Derived.LaidOnce
import Derived.SevenTiedAt
namespace Go.Proofs.YtoggfapafjgkdaaDoor.T
open Go.RowKit Go.Proofs.YtoggfapafjgkdaaDoorW.PrintWords Go.Proofs.YtoggfapafjgkdaaDoorW.PrintLast Go.Proofs.YtoggfapafjgkdaaDoorW.PrintMore Go.Proofs.YtoggfapafjgkdaaDoor.PAll
set_option linter.unusedSimpArgs false
set_option linter.unusedVariables false
/-- Block g is a tree that is being changed: its nodes' row (of the call's own, at base or behind) and the next number. -/
def Sap (w : World) (g base : Nat) (l : List S46) (next : Int) : Prop :=
 ∃ v : Value, w.heap[g]? = some (.cells #[v, .int .i64 next] 58 (0, 0)) ∧ Kd.R k46 46 w base (fun k => k ≠ g) v l ∧ base ≤ g
theorem Sap.below {w w' : World} {g base : Nat} {l : List S46} {n : Int} (h : Sap w g base l n) (hb : Below w.heap.size w w') : Sap w' g base l n := by
 obtain ⟨v, h1, h2, h3⟩ := h
 exact ⟨v, blk_below h1 hb, Kd.R_below h2 hb, h3⟩
theorem Sap.lt {w : World} {g base : Nat} {l : List S46} {n : Int} (h : Sap w g base l n) : g < w.heap.size := by
 obtain ⟨v, h1, h2, h3⟩ := h
 exact blk_lt h1
set_option maxHeartbeats 8000000 in
set_option maxRecDepth 100000 in
theorem findf_c (n : S46) (gs : Nat) (s : ByteArray) (r : Bool) (w : World) (hs : w.cell? ⟨gs, 0, none⟩ = some (.string s)) (h : decide (pth n = pb s) = r) :
  Calls Tryd.prog 97 #[.agg #[.string n.f0, .int .i64 n.f1.f0, .int .i64 n.f1.f1, .int .i64 n.f1.f2, .int .i64 n.f1.f3, .int .i64 n.f1.f4, .string n.f2], .pointer (some ⟨gs, 0, none⟩)] w fun e w' => e = .returned (.bool r) ∧ Below w.heap.size w w' := by
 have hu46 := Tryd.underlying46
 have hu44 := Tryd.underlying44
 have HB := Aside0.mk (Below.refl w.heap.size w)
 have er : (n.f0.toList == s.toList) = r := by
  rw [toL, toL, ← h]
  by_cases e : pb n.f0 = pb s
  ·
   rw [decide_eq_true (show pth n = pb s from e)]; exact beq_iff_eq.2 e
  ·
   rw [decide_eq_false (show ¬ pth n = pb s from e)]; exact beq_eq_false_iff_ne.2 e
 have HS := Aside0.mk hs
 clear h hs
 obtain ⟨p, i, g, kd, lk, sz, d, hn⟩ : ∃ p i g kd lk sz d, n = ⟨p, ⟨i, g, kd, lk, sz⟩, d⟩ := ⟨n.f0, n.f1.f0, n.f1.f1, n.f1.f2, n.f1.f3, n.f1.f4, n.f2, rfl⟩
 subst hn
 simp only at er ⊢
 subst er
 go_enter Tryd.func97, Tryd.ntmps97
 go_wp2_with (first | ((with_reducible refine gate_dst (N := 2) rfl ?_); (try (refine gate_guard (by rfl) ?_; dsimp only)); refine box_event ?hg (N := 2) ?hd (cs := #[.string p, .int .i64 i, .int .i64 g, .int .i64 kd, .int .i64 lk, .int .i64 sz, .string d]) (t := 46) ?hr ?_; (case hd => rfl); (case hg => rfl); (case hr => first | (go_simp; done) | (go_simp; rfl)); intro gb hg w5 hbox hb; have n0_ := Aside0.mk (below_step HB.out hb); have c0 : w5.cell? ⟨gb, 0, none⟩ = some (.string p) := (blk_cell hbox 0).trans rfl; have cs := (hb.cell (World.block_lt_of_cell? w _ HS.out)).trans HS.out; clear HB; have HB := n0_; clear n0_ hb hbox hg))
 go_ret
 exact ⟨rfl, HB.out⟩
theorem findI_first {p : List UInt8} {l : List S46} {k : Nat} (hk : k < l.length) (h : pth (rd_T46 l (k : Int)) = p) (hf : ∀ t : Nat, t < k → pth (rd_T46 l (t : Int)) ≠ p) : findI p 0 l = (k : Int) := by
 rcases findI_cases p l 0 with ⟨_, e⟩ | ⟨j, hj, e, e1, e2⟩
 ·
  exact absurd h (e _ (rdn_mem hk))
 ·
  rw [e, Nat.zero_add]
  rcases Nat.lt_trichotomy j k with q | q | q
  ·
   exact absurd e1 (hf j q)
  ·
   rw [q]
  ·
   exact absurd h (e2 k q)
theorem findI_none {p : List UInt8} {l : List S46} (hf : ∀ t : Nat, t < l.length → pth (rd_T46 l (t : Int)) ≠ p) : findI p 0 l = -1 := by
 rcases findI_cases p l 0 with ⟨e, _⟩ | ⟨j, hj, e, e1, e2⟩
 ·
  exact e
 ·
  exact absurd e1 (hf j hj)
set_option maxHeartbeats 8000000 in
set_option maxRecDepth 100000 in
theorem idx_c (l : List S46) (A : Option Addr) (c gs : Nat) (s : ByteArray) (r : Int) (w : World) (hr0 : Kd.C k46 w A l.length l) (hc : l.length ≤ c) (hl : l.length < 2147483648) (hs : w.cell? ⟨gs, 0, none⟩ = some (.string s)) (h : findI (pb s) 0 l = r) :
  Calls Tryd.prog 96 #[.slice A l.length c, .func (.func 97) #[] #[.pointer (some ⟨gs, 0, none⟩)]] w fun e w' => e = .returned (.int .i64 r) ∧ Below w.heap.size w w' := by
 have hu46 := Tryd.underlying46
 have hu44 := Tryd.underlying44
 have HR := Aside0.mk hr0
 have HC := Aside0.mk hc
 have HL := Aside0.mk hl
 have HS := Aside0.mk hs
 have HH := Aside0.mk h
 clear hr0 hc hl hs h
 go_enter Tryd.func96, Tryd.ntmps96
 go_wp2_with fail
 go_loopw [8] (fun i wr => ∃ (k : Nat), k ≤ l.length ∧ i = .int .i64 k ∧ Aside0 (∀ t : Nat, t < k → pth (rd_T46 l (t : Int)) ≠ pb s) ∧ Aside0 (Below w.heap.size w wr)) (fun i _ => l.length - (intOf i).toNat)
 case atStart => exact ⟨0, by omega, rfl, ⟨fun j hj => absurd hj (by omega)⟩, ⟨Below.refl _ _⟩⟩
 case round =>
  obtain ⟨k, hk, rfl, HF, HB⟩ := hrel
  by_cases hkl : k < l.length
  ·
   have HK := Aside0.mk hkl
   obtain ⟨ad, ea, x0, x1, x2, x3, x4, x5, x6⟩ := at_T46 (Kd.C_below HR.out HB.out) (k : Int) (by omega) (by omega)
   cases ea
   simp only [Int.toNat_natCast] at x0 x1 x2 x3 x4 x5 x6
   have p1 : (0 ≤ (k : Int)) = True := eq_true (by omega)
   have q1 : ((k : Int) < (l.length : Int)) = True := eq_true (by omega)
   have q2 : (k < l.length) = True := eq_true hkl
   clear hkl hk
   go_wp2_with fail
   clear x0 x1 x2 x3 x4 x5 x6
   obtain ⟨b, hb⟩ : ∃ b, decide (pth (rd_T46 l (k : Int)) = pb s) = b := ⟨_, rfl⟩
   have HBb := Aside0.mk hb
   clear hb
   refine (findf_c (rd_T46 l (k : Int)) gs s b wr ((HB.out.cell (World.block_lt_of_cell? w _ HS.out)).trans HS.out) HBb.out).mono ?_
   rintro e w1 ⟨rfl, hb1⟩
   have HB1 := Aside0.mk (below_then HB.out HB.out.size hb1)
   clear hb1 HB
   cases b with
   | true =>
    have er : r = (k : Int) := by rw [← HH.out]; exact findI_first HK.out (of_decide_eq_true HBb.out) HF.out
    subst er
    go_wp2_with fail
    go_ret
    exact ⟨rfl, HB1.out⟩
   | false =>
    go_wp2_with fail
    go_roundw
    case rel =>
     have h1 := HK.out
     have h2 := HL.out
     exact ⟨k + 1, by omega, by rw [w64 (by omega) (by omega)]; rfl, ⟨fun t ht => by
      by_cases e : t = k
      ·
       rw [e]; exact of_decide_eq_false HBb.out
      ·
       exact HF.out t (by omega)⟩, HB1⟩
    case measure =>
     have := HK.out
     have := HL.out
     rw [w64 (by omega) (by omega)]
     first
      | (simp [intOf]; done)
      | (simp [intOf]; omega)
  ·
   have hke : k = l.length := by omega
   subst hke
   have q1 : ((l.length : Int) < (l.length : Int)) = False := eq_false (by omega)
   have q2 : (l.length < l.length) = False := eq_false (by omega)
   have er : r = -1 := by rw [← HH.out]; exact findI_none HF.out
   subst er
   clear hkl hk
   go_wp2_with fail
   go_ret
   exact ⟨rfl, HB.out⟩
set_option maxHeartbeats 8000000 in
set_option maxRecDepth 100000 in
theorem find_c (l : List S46) (g base : Nat) (nx : Int) (s : ByteArray) (r : Int) (w : World) (hS : Sap w g base l nx) (hl : l.length < 2147483648) (h : findI (pb s) 0 l = r) :
  Calls Tryd.prog 66 #[.pointer (some ⟨g, 0, none⟩), .string s] w fun e w' => e = .returned (.int .i64 r) ∧ Below w.heap.size w w' := by
 obtain ⟨v, h1, h2, hge⟩ := hS
 obtain ⟨A, c, e⟩ := Kd.R_slice h2
 subst e
 have HR := Aside0.mk (Kd.R_reads' h2).2.2
 have HC := Aside0.mk (Kd.R_reads' h2).2.1
 have HL := Aside0.mk hl
 have HH := Aside0.mk h
 have HG := Aside0.mk h1
 have HB := Aside0.mk (Below.refl w.heap.size w)
 clear h h1 h2 hl hge
 go_enter Tryd.func66, Tryd.ntmps66
 go_wp2_with (first | ((with_reducible refine gate_dst (N := 3) rfl ?_); refine box_event ?hg (N := 3) ?hd (cs := #[.string s]) (t := 9) ?hr ?_; (case hd => rfl); (case hg => rfl); (case hr => first | (go_simp; done) | (go_simp; rfl)); intro gs hg w5 hbox hb; have n0_ := Aside0.mk (below_step HB.out hb); have n1_ := Aside0.mk (Kd.C_below HR.out hb); have n2_ : Aside0 (w5.cell? ⟨gs, 0, none⟩ = some (.string s)) := ⟨(blk_cell hbox 0).trans rfl⟩; have c0 : w5.cell? ⟨g, 0, none⟩ = some (.slice A l.length c) := (blk_cell (blk_below HG.out hb) 0).trans rfl; clear HB HR; have HB := n0_; have HR := n1_; have HS := n2_; clear n0_ n1_ n2_ hb hbox hg))
 refine (idx_c l A c gs s r w5 HR.out HC.out HL.out HS.out HH.out).mono ?_
 rintro e w6 ⟨rfl, hb6⟩
 have HB6 := Aside0.mk (below_then HB.out HB.out.size hb6)
 clear hb6 c0
 go_wp2_with fail
 go_ret
 exact ⟨rfl, HB6.out⟩
end Go.Proofs.YtoggfapafjgkdaaDoor.T
namespace Go.Proofs.YtoggfapafjgkdaaDoor.T
open Go.RowKit Go.Proofs.YtoggfapafjgkdaaDoorW.PrintWords Go.Proofs.YtoggfapafjgkdaaDoorW.PrintLast Go.Proofs.YtoggfapafjgkdaaDoorW.PrintMore Go.Proofs.YtoggfapafjgkdaaDoor.PAll
set_option linter.unusedSimpArgs false
set_option linter.unusedVariables false
/-- May something new be put at a path? -/
def spotT (l : List S46) (p : List UInt8) : Int :=
 if splitE p ≠ 0 then splitE p else if 0 ≤ findI p 0 l then 44 else if findI (abv p) 0 l < 0 then 41
 else if knd (rd_T46 l (findI (abv p) 0 l)) ≠ 2 then 42 else 0
set_option maxHeartbeats 8000000 in
set_option maxRecDepth 100000 in
theorem spot_c (l : List S46) (g base : Nat) (nx : Int) (s : ByteArray) (r : Int) (w : World) (hS : Sap w g base l nx) (hl : l.length < 2147483648) (hT : Tab w) (h : spotT l (pb s) = r) :
  Calls Tryd.prog 49 #[.pointer (some ⟨g, 0, none⟩), .string s] w fun e w' => e = .returned (.int .i64 r) ∧ Below w.heap.size w w' := by
 have HS := Aside0.mk hS
 have HL := Aside0.mk hl
 have HT := Aside0.mk hT
 have HH := Aside0.mk h
 clear hS hl hT h
 go_enter Tryd.func49, Tryd.ntmps49
 go_wp2_with fail
 obtain ⟨e0, he0⟩ : ∃ e0, splitE (pb s) = e0 := ⟨_, rfl⟩
 have HE := Aside0.mk he0
 refine (split_c s e0 w HT.out he0).mono ?_
 rintro e w1 ⟨⟨v, rfl⟩, hb1⟩
 have HB1 := Aside0.mk hb1
 have HS1 := Aside0.mk (HS.out.below hb1)
 clear hb1 he0 HS
 by_cases h0 : e0 = 0
 ·
  subst h0
  have HR : Aside0 ((if 0 ≤ findI (pb s) 0 l then (44 : Int) else if findI (abv (pb s)) 0 l < 0 then 41 else if knd (rd_T46 l (findI (abv (pb s)) 0 l)) ≠ 2 then 42 else 0) = r) := ⟨by
   have := HH.out
   unfold spotT at this
   rw [if_neg (fun q => q HE.out)] at this
   exact this⟩
  clear HH
  obtain ⟨x, hx⟩ : ∃ x, findI (pb s) 0 l = x := ⟨_, rfl⟩
  have HX := Aside0.mk hx
  go_wp2_with fail
  refine (find_c l g base nx s x w1 HS1.out HL.out hx).mono ?_
  rintro e w2 ⟨rfl, hb2⟩
  have HB2 := Aside0.mk (below_then HB1.out HB1.out.size hb2)
  have HS2 := Aside0.mk (HS1.out.below hb2)
  clear hb2 HB1 HS1 hx
  by_cases h1 : 0 ≤ x
  ·
   have z1 : decide (0 ≤ x) = true := decide_eq_true h1
   have er : r = 44 := by rw [← HR.out, if_pos (by rw [HX.out]; exact h1)]
   subst er
   clear h1 HR
   go_wp2_with fail
   go_ret
   exact ⟨rfl, HB2.out⟩
  ·
   have z1 : decide (0 ≤ x) = false := decide_eq_false h1
   have HR2 := Aside0.mk ((if_neg (by rw [HX.out]; exact h1)).symm.trans HR.out)
   have hsz : s.size < 4294967296 := by
    obtain ⟨t, e, _, hlen⟩ := splitE_form HE.out
    rw [pb_len] at hlen
    omega
   obtain ⟨q, hq, hQ⟩ := dabove_ev s hsz
   obtain ⟨K, hK⟩ := evs_get hQ
   have HK := Aside0.mk hK
   have HQ := Aside0.mk hq
   obtain ⟨y, hy⟩ : ∃ y, findI (abv (pb s)) 0 l = y := ⟨_, rfl⟩
   have HY := Aside0.mk hy
   clear h1 HR hsz hQ hK hq hy
   go_wp2_with fail
   refine (delta_above.calls K s q w2 HK.out).mono ?_
   rintro e w3 ⟨rfl, hd3⟩
   have HB3 := Aside0.mk (below_then HB2.out HB2.out.size (below_drawn hd3))
   have HS3 := Aside0.mk (HS2.out.below (below_drawn hd3))
   clear hd3 HB2 HS2
   go_wp2_with fail
   refine (find_c l g base nx q y w3 HS3.out HL.out (by rw [HQ.out]; exact HY.out)).mono ?_
   rintro e w4 ⟨rfl, hb4⟩
   have HB4 := Aside0.mk (below_then HB3.out HB3.out.size hb4)
   have HS4 := Aside0.mk (HS3.out.below hb4)
   clear hb4 HB3 HS3
   by_cases h2 : y < 0
   ·
    have z2 : decide (y < 0) = true := decide_eq_true h2
    have er : r = 41 := by rw [← HR2.out, if_pos (by rw [HY.out]; exact h2)]
    subst er
    clear h2 HR2
    go_wp2_with fail
    go_ret
    exact ⟨rfl, HB4.out⟩
   ·
    have z2 : decide (y < 0) = false := decide_eq_false h2
    have HR3 := Aside0.mk ((if_neg (by rw [HY.out]; exact h2)).symm.trans HR2.out)
    obtain ⟨k, hk, hyk⟩ : ∃ k : Nat, k < l.length ∧ y = (k : Int) := by
     rcases findI_cases (abv (pb s)) l 0 with ⟨e, _⟩ | ⟨k, hk, e, _⟩
     ·
      rw [HY.out] at e
      omega
     ·
      exact ⟨k, hk, by rw [← HY.out, e, Nat.zero_add]⟩
    subst hyk
    obtain ⟨v4, g4, r4, _⟩ := HS4.out
    obtain ⟨A, c, e4⟩ := Kd.R_slice r4
    subst e4
    have c0 : w4.cell? ⟨g, 0, none⟩ = some (.slice A l.length c) := (blk_cell g4 0).trans rfl
    obtain ⟨ad, ea, x0, x1, x2, x3, x4, x5, x6⟩ := at_T46 (Kd.R_reads' r4).2.2 (k : Int) (by omega) (by omega)
    cases ea
    simp only [Int.toNat_natCast] at x3
    have p1 : (0 ≤ (k : Int)) = True := eq_true (by omega)
    have q1 : ((k : Int) < (l.length : Int)) = True := eq_true (by omega)
    have q2 : (k < l.length) = True := eq_true hk
    clear h2 HR2 x0 x1 x2 x4 x5 x6 r4 g4 hk
    by_cases h3 : (rd_T46 l (k : Int)).f1.f2 = 2
    ·
     have z3 : ((rd_T46 l (k : Int)).f1.f2 != 2) = false := by simpa using h3
     have er : r = 0 := by rw [← HR3.out, HY.out, if_neg (fun q => q h3)]
     subst er
     clear h3 HR3
     go_wp2_with fail
     go_ret
     exact ⟨rfl, HB4.out⟩
    ·
     have z3 : ((rd_T46 l (k : Int)).f1.f2 != 2) = true := by simpa using h3
     have er : r = 42 := by rw [← HR3.out, HY.out, if_pos (show knd (rd_T46 l (k : Int)) ≠ 2 from h3)]
     subst er
     clear h3 HR3
     go_wp2_with fail
     go_ret
     exact ⟨rfl, HB4.out⟩
 ·
  have z0 : (e0 != 0) = true := by simpa using h0
  have er : r = e0 := by rw [← HH.out, spotT, if_pos (by rw [HE.out]; exact h0), HE.out]
  subst er
  clear h0
  go_wp2_with fail
  go_ret
  exact ⟨rfl, HB1.out⟩
end Go.Proofs.YtoggfapafjgkdaaDoor.T
namespace Go.Proofs.YtoggfapafjgkdaaDoor.T
open Go.RowKit Go.Proofs.YtoggfapafjgkdaaDoorW.PrintWords Go.Proofs.YtoggfapafjgkdaaDoorW.PrintLast Go.Proofs.YtoggfapafjgkdaaDoorW.PrintMore Go.Proofs.YtoggfapafjgkdaaDoor.PAll
set_option linter.unusedSimpArgs false
set_option linter.unusedVariables false
set_option maxHeartbeats 8000000 in
set_option maxRecDepth 100000 in
theorem put_c (l : List S46) (g base : Nat) (nx kind : Int) (p d : ByteArray) (w : World) (hS : Sap w g base l nx) (hl : l.length < 2147483648) :
  Calls Tryd.prog 50 #[.pointer (some ⟨g, 0, none⟩), .int .i64 kind, .string p, .string d] w fun e w' => e = .returned (.tuple #[]) ∧ Sap w' g base (l ++ [⟨p, ⟨nx, 0, kind, 0, 0⟩, d⟩]) (wrap64 (nx + 1)) ∧ Below base w w' := by
 obtain ⟨v, h1, h2, h3⟩ := hS
 have HR := Aside0.mk h2
 have HG := Aside0.mk h1
 have HL : Aside0 ((l.length + 1) * 72 ≤ 140737488355328) := ⟨by omega⟩
 have HGB := Aside0.mk h3
 have c0 : w.cell? ⟨g, 0, none⟩ = some v := (blk_cell h1 0).trans rfl
 have c1 : w.cell? ⟨g, 1, none⟩ = some (.int .i64 nx) := (blk_cell h1 1).trans rfl
 have ca0 : ∀ o, (w.alloc o).cell? ⟨g, 0, none⟩ = some v := fun o => (blk_cell (blk_below h1 (below_alloc (Below.refl _ _) o)) 0).trans rfl
 have ca1 : ∀ o, (w.alloc o).cell? ⟨g, 1, none⟩ = some (.int .i64 nx) := fun o => (blk_cell (blk_below h1 (below_alloc (Below.refl _ _) o)) 1).trans rfl
 clear h1 h2 h3 hl
 go_enter Tryd.func50, Tryd.ntmps50
 go_wp2_with fail
 have HRd := Aside0.mk (Kd.R_drew HR.out)
 have HLT : Aside0 (g < w.heap.size) := ⟨blk_lt HG.out⟩
 go_region_law (refine Kd.R_append_step k46 (w0 := w) (W := w.drew) base (by simp [Region.wanted]) (.tmp 12) (.tmp 22) 22 46 (.agg #[(.string ⟨#[]⟩), (.int .i64 0), (.int .i64 0), (.int .i64 0), (.int .i64 0), (.int .i64 0), (.string ⟨#[]⟩)]) 72 rfl Tryd.underlying22 info46 rfl (by decide) (by omega) v l (⟨p, (⟨nx, 0, kind, 0, 0⟩ : S44), d⟩ : S46) [.string p, .int .i64 nx, .int .i64 0, .int .i64 kind, .int .i64 0, .int .i64 0, .string d] (fun k => k ≠ g) (fun _ => False) (by simp [Act.eval, Act.put]) (by simp [Act.eval, Act.put]) (k46_mkM _ _ _ (⟨p, (⟨nx, 0, kind, 0, 0⟩ : S44), d⟩ : S46)) (fun _ hk => hk.elim) (fun k hk e => absurd hk (by have := HLT.out; have e2 : w.drew.heap.size = w.heap.size := rfl; omega)) HRd.out (below_drew (Below.refl _ _)) (by have := HLT.out; have := HGB.out; have e2 : w.drew.heap.size = w.heap.size := rfl; omega) HL.out ?_; intro v1 w1 ho hb hg hat; obtain ⟨A1, k1, e1⟩ := Kd.R_slice ho; subst e1; have n0_ := Aside0.mk ho; have n1_ := Aside0.mk hb; have d0 : w1.cell? ⟨g, 0, none⟩ = some v := (blk_cell (blk_grown HG.out (w := w.drew) hg (Kd.R_away HRd.out (fun _ hk => hk))) 0).trans rfl; have d1 : w1.cell? ⟨g, 1, none⟩ = some (.int .i64 nx) := (blk_cell (blk_grown HG.out (w := w.drew) hg (Kd.R_away HRd.out (fun _ hk => hk))) 1).trans rfl; have f1 : w1.frozen? ⟨g, 1, none⟩ = false := blk_frozen (blk_grown HG.out (w := w.drew) hg (Kd.R_away HRd.out (fun _ hk => hk))) 1; have f0 : w1.frozen? ⟨g, 0, none⟩ = false := blk_frozen (blk_grown HG.out (w := w.drew) hg (Kd.R_away HRd.out (fun _ hk => hk))) 0; have n2_ := Aside0.mk (blk_grown HG.out (w := w.drew) hg (Kd.R_away HRd.out (fun _ hk => hk))); clear ho hb hg hat)
 all_goals go_wp2_with fail
 all_goals (
  go_end0
  have h0 := n0_.out
  simp only [List.length_append, List.length_cons, List.length_nil, Nat.zero_add] at h0
  refine ⟨rfl, ⟨_, blk_put (cs' := #[.slice A1 (l.length + 1) k1, .int .i64 (wrap64 (nx + 1))]) (blk_put (cs' := #[.slice A1 (l.length + 1) k1, .int .i64 nx]) n2_.out 0 _ rfl) 1 _ rfl, Kd.R_far (p := ⟨g, 1, none⟩) (Kd.R_far (p := ⟨g, 0, none⟩) h0 (fun _ hk => hk) _) (fun _ hk => hk) _, HGB.out⟩, (n1_.out.setCell HGB.out _).setCell HGB.out _⟩)
end Go.Proofs.YtoggfapafjgkdaaDoor.T
namespace Go.Proofs.YtoggfapafjgkdaaDoor.T
open Go.RowKit Go.Proofs.YtoggfapafjgkdaaDoorW.PrintWords Go.Proofs.YtoggfapafjgkdaaDoorW.PrintLast Go.Proofs.YtoggfapafjgkdaaDoorW.PrintMore Go.Proofs.YtoggfapafjgkdaaDoor.PAll
set_option linter.unusedSimpArgs false
set_option linter.unusedVariables false
theorem run_clear_node (w : World) (b o c ty : Nat) (hc : ∀ j, j < 7 → (w.cell? ⟨b, o + j, none⟩).isSome = true) (hf : ∀ j, j < 7 → w.frozen? ⟨b, o + j, none⟩ = false) :
  (Builtin.clear_ #[22] ty #[.slice (some ⟨b, o, none⟩) 1 c]).run Tryd.prog w = .ok (.tuple #[]) (w.setCells b o (encN z46)) := by
 have hst := run_storeCells_cells (P := Tryd.prog) b o (encN z46) 0 w (fun j hj => by rw [Nat.add_zero]; exact hc j hj) (fun j hj => by rw [Nat.add_zero]; exact hf j hj) (by
  intro v hv
  simp only [encN, List.mem_cons, List.mem_nil_iff, or_false] at hv
  rcases hv with rfl | rfl | rfl | rfl | rfl | rfl | rfl <;> rfl)
 simp only [Nat.add_zero] at hst
 have hz := Tryd.zeroValue46 w
 have hzc : (Builtin.zeroCells (Value.agg #[Value.string ⟨#[]⟩, Value.int .i64 0, Value.int .i64 0, Value.int .i64 0, Value.int .i64 0, Value.int .i64 0, Value.string ⟨#[]⟩]).cells 1).toList = encN z46 := by kernel_rfl
 simp [Builtin.clear_, run_underlying Tryd.underlying22, hz, hzc, hst]
theorem flat_take : ∀ (l : List S46) (i : Nat), (l.take i).flatMap encN = (l.flatMap encN).take (i * 7)
 | [], i => by simp
 | n :: r, 0 => by simp
 | n :: r, i + 1 => by
  rw [List.take_succ_cons, List.flatMap_cons, List.flatMap_cons, flat_take r i, show (i + 1) * 7 = i * 7 + 7 by omega]
  rfl
set_option maxHeartbeats 8000000 in
set_option maxRecDepth 100000 in
theorem delete_c (l : List S46) (gr c i j base : Nat) (ok : Nat → Prop) (w : World) (hR : Kd.R k46 46 w base ok (.slice (some ⟨gr, 0, none⟩) l.length c) l) (hi : i < l.length) (hj : j = i + 1) (hl : l.length < 2147483648) :
  Calls Tryd.prog 68 #[.slice (some ⟨gr, 0, none⟩) l.length c, .int .i64 (i : Int), .int .i64 (j : Int)] w fun e w' => e = .returned (.slice (some ⟨gr, 0, none⟩) (l.eraseIdx i).length c) ∧
   Kd.R k46 46 w' base ok (.slice (some ⟨gr, 0, none⟩) (l.eraseIdx i).length c) (l.eraseIdx i) ∧ Below base w w' ∧ ∀ k, k ≠ gr → w'.heap[k]? = w.heap[k]? := by
 have hu46 := Tryd.underlying46
 have hij : i ≤ j := by omega
 have hlt : i < j := by omega
 have hjn : j ≤ l.length := by omega
 have hcap : l.length ≤ c := (Kd.R_reads' hR).2.1
 have hic : i ≤ c := by omega
 have hjc : j ≤ c := by omega
 have HRR := Aside0.mk hR
 obtain ⟨cur, hg, hb, hsz, htk, hm⟩ : ∃ cur : Array Value, w.heap[gr]? = some (.cells cur 46 (0, 0)) ∧ base ≤ gr ∧ cur.size = c * 7 ∧ cur.toList.take (l.length * 7) = l.flatMap encN ∧ c ≤ maxLen := by
  rcases row_open hR with ⟨e, _⟩ | ⟨g', cap', cur, e, hb, hg, h1, h2, h3, h4⟩
  ·
   cases e
  ·
   injection e with e1 e2 e3
   injection e1 with e1
   injection e1 with e1
   subst e1
   subst e3
   exact ⟨cur, hg, hb, h3, h4, h2⟩
 have ne : ((i : Int) == (j : Int)) = false := beq_eq_false_iff_ne.2 (by omega)
 have hjb : ((j : Int) ≤ (l.length : Int)) = True := eq_true (by omega)
 have hml : c ≤ 9223372036854775807 := by unfold maxLen at hm; omega
 -- what is moved
 obtain ⟨news, hnews⟩ : ∃ news, news = (l.drop j).flatMap encN := ⟨_, rfl⟩
 have hlen : news.length = (l.length - j) * 7 := by rw [hnews, flatN_len, List.length_drop]
 have cell : ∀ t, t < cur.size → w.cell? ⟨gr, t, none⟩ = cur[t]? := fun t _ => blk_cell hg t
 have hsrc0 : ∀ t u, news[t]? = some u → w.cell? ⟨gr, j * 7 + t, none⟩ = some u := by
  intro t u hu
  have ht : t < (l.length - j) * 7 := by
   have := (List.getElem?_eq_some_iff.1 hu).1
   rwa [hlen] at this
  rw [blk_cell hg, ← Array.getElem?_toList]
  have h1 : (cur.toList.take (l.length * 7))[j * 7 + t]? = cur.toList[j * 7 + t]? := by rw [List.getElem?_take, if_pos (by omega)]
  rw [← h1, htk, flatN_get]
  rw [hnews, flatN_get, List.getElem?_drop] at hu
  rw [show (j * 7 + t) / 7 = j + t / 7 by omega, show (j * 7 + t) % 7 = t % 7 by omega]
  exact hu
 obtain ⟨A, hA, hsrc⟩ : ∃ A : Addr, (if c = j then (some (⟨gr, 0, none⟩ : Addr)) else some ⟨gr, j * 7, none⟩) = some A ∧ Aside0 (∀ t u, news[t]? = some u → w.drew.cell? (A.add t) = some u) := by
  by_cases h : c = j
  ·
   refine ⟨⟨gr, 0, none⟩, by simp [h], ⟨fun t u hu => ?_⟩⟩
   have := (List.getElem?_eq_some_iff.1 hu).1
   rw [hlen] at this
   omega
  ·
   refine ⟨⟨gr, j * 7, none⟩, by simp [h], ⟨fun t u hu => ?_⟩⟩
   rw [Addr.add_lit]
   exact hsrc0 t u hu
 have s1 := Aside0.mk hlen
 have s2 : Aside0 (∀ u ∈ news, u.oneCell' = true) := ⟨by
  intro u hu
  rw [hnews] at hu
  obtain ⟨x, _, hx⟩ := List.mem_flatMap.1 hu
  simp only [encN, List.mem_cons, List.mem_nil_iff, or_false] at hx
  rcases hx with rfl | rfl | rfl | rfl | rfl | rfl | rfl <;> rfl⟩
 have s3 : Aside0 (∀ t, t < news.length → (w.drew.cell? ⟨gr, 0 + i * 7 + t, none⟩).isSome = true ∧ w.drew.frozen? ⟨gr, 0 + i * 7 + t, none⟩ = false) := ⟨by
  intro t ht
  rw [hlen] at ht
  refine ⟨?_, blk_frozen (w := w.drew) hg _⟩
  rw [blk_cell (w := w.drew) hg, Array.getElem?_eq_getElem (by omega)]
  rfl⟩
 obtain ⟨W1, hW1⟩ : ∃ W1, W1 = w.drew.setCells gr (0 + i * 7) news := ⟨_, rfl⟩
 have HW1 := Aside0.mk hW1
 have HG := Aside0.mk hg
 have HN := Aside0.mk hnews
 have HSZ := Aside0.mk hsz
 have HTK := Aside0.mk htk
 have HM := Aside0.mk hm
 have HBG := Aside0.mk hb
 have HJ := Aside0.mk hj
 have HI := Aside0.mk hi
 have HLL := Aside0.mk hl
 clear hW1 hg hnews hsz htk hm hb hj hsrc0 cell hlen hi hl
 clear hR
 go_enter Tryd.func68, Tryd.ntmps68
 go_wp2_with fail
 obtain ⟨i46, hi46, hs46⟩ : ∃ q, Tryd.prog.info? 46 = some q ∧ q.size = 7 := by
  have hi := info46
  cases hq : Tryd.prog.info? 46 with
  | none => simp [hq] at hi
  | some q => exact ⟨q, rfl, by simp [hq] at hi; exact hi.2.1⟩
 have HI46 := Aside0.mk hi46
 have HS46 := Aside0.mk hs46
 clear hi46 hs46
 go_region_law (refine step_append_room rfl (.tmp 22) (.tmp 25) 22 rfl 46 i46 7 Tryd.underlying22 HI46.out HS46.out gr 0 i c (by simp [Act.eval, Act.put]) A (l.length - j) (c - j) news (by simp [Act.eval, Act.put]) s1.out hsrc.out s2.out (by omega) s3.out ?_; rw [← HW1.out])
 have h1 := HJ.out
 have h2 := HI.out
 have HC1 : Aside0 (∃ cur1 : Array Value, W1.heap[gr]? = some (.cells cur1 46 (0, 0)) ∧ cur1.size = c * 7 ∧ cur1.toList.take ((l.length - 1) * 7) = (l.eraseIdx i).flatMap encN) := ⟨by
  obtain ⟨cur1, e1, e2, e3⟩ := setCells_row news (0 + i * 7) w.drew cur HG.out (by have := s1.out; have := HSZ.out; omega)
  refine ⟨cur1, by rw [HW1.out]; exact e1, by rw [e2]; exact HSZ.out, ?_⟩
  have h3 := s1.out
  have h4 := HSZ.out
  have hX : cur.toList.length = c * 7 := by rw [Array.length_toList, h4]
  have h6 : cur.toList.take (i * 7) = (l.take i).flatMap encN := by
   rw [flat_take, ← HTK.out, List.take_take, show min (i * 7) (l.length * 7) = i * 7 by omega]
  rw [e3, Nat.zero_add, List.take_append_of_le_length (by rw [List.length_append, List.length_take]; omega), List.take_of_length_le (by rw [List.length_append, List.length_take]; omega),
   List.eraseIdx_eq_take_drop_succ, List.flatMap_append, h6, HN.out, h1]⟩
 have hcl : ∀ ty, (Builtin.clear_ #[22] ty #[.slice (some ⟨gr, (i + (l.length - j)) * 7, none⟩) (l.length - (i + (l.length - j))) (c - (i + (l.length - j)))]).run Tryd.prog W1 = .ok (.tuple #[]) (W1.setCells gr ((i + (l.length - j)) * 7) (encN z46)) := fun ty => by
  obtain ⟨cur1, e1, e2, _⟩ := HC1.out
  rw [show l.length - (i + (l.length - j)) = 1 by omega]
  exact run_clear_node W1 gr _ _ ty (fun t ht => by
   rw [blk_cell e1, Array.getElem?_eq_getElem (by omega)]
   rfl) (fun t ht => blk_frozen e1 _)
 have hcm : (c = i + (l.length - j)) = False := eq_false (by omega)
 have hb1 : (((i + (l.length - j) : Nat) : Int) ≤ (l.length : Int)) = True := eq_true (by omega)
 have hb2 : (i + (l.length - j) ≤ l.length) = True := eq_true (by omega)
 have HFin : Aside0 ((fun e w' => e = Ending.returned (.slice (some ⟨gr, 0, none⟩) (l.eraseIdx i).length c) ∧ Kd.R k46 46 w' base ok (.slice (some ⟨gr, 0, none⟩) (l.eraseIdx i).length c) (l.eraseIdx i) ∧ Below base w w' ∧ ∀ k, k ≠ gr → w'.heap[k]? = w.heap[k]?) (.returned (.slice (some ⟨gr, 0, none⟩) (i + (l.length - j)) c)) (W1.setCells gr ((i + (l.length - j)) * 7) (encN z46))) := ⟨by
  have hm : i + (l.length - j) = l.length - 1 := by omega
  have he : (l.eraseIdx i).length = l.length - 1 := by rw [List.length_eraseIdx_of_lt h2]
  obtain ⟨cur1, e1, e2, e3⟩ := HC1.out
  have h7 : (encN z46).length = 7 := rfl
  obtain ⟨cur2, f1, f2, f3⟩ := setCells_row (encN z46) ((l.length - 1) * 7) W1 cur1 e1 (by rw [e2, h7]; omega)
  rw [hm]
  have hfar : ∀ k, k ≠ gr → (W1.setCells gr ((l.length - 1) * 7) (encN z46)).heap[k]? = w.heap[k]? := fun k hne => by
   rw [setCells_far _ _ k hne, HW1.out, setCells_far _ _ k hne]
   rfl
  refine ⟨by rw [he], ?_, ?_, hfar⟩
  ·
   refine Kd.R_reok (ok1 := fun _ => True) rfl (row_shut (l := l.eraseIdx i) (cap := c) (cur := cur2) HBG.out f1 (by rw [he]; omega) HM.out (by rw [f2, e2]) ?_) (fun k hk => HRR.out.1 k hk)
   rw [he, ← e3, f3]
   have hX : cur1.toList.length = c * 7 := by rw [Array.length_toList, e2]
   rw [List.take_append_of_le_length (by rw [List.length_append, List.length_take]; omega), List.take_append_of_le_length (by rw [List.length_take]; omega), List.take_take, Nat.min_self]
  ·
   obtain ⟨a1, a2, a3, a4⟩ := setCells_same gr (encN z46) ((l.length - 1) * 7) W1
   obtain ⟨b1, b2, b3, b4⟩ := setCells_same gr news (0 + i * 7) w.drew
   rw [← HW1.out] at b1 b2 b3 b4
   exact ⟨a1.trans b1, a2.trans b2, a3.trans b3, Nat.le_of_eq (a4.trans b4).symm, fun k hk => hfar k (by have := HBG.out; omega)⟩⟩
 clear h1 h2
 go_wp2_with fail
 go_ret
 exact HFin.out
end Go.Proofs.YtoggfapafjgkdaaDoor.T
namespace Go.Proofs.YtoggfapafjgkdaaDoor.T
open Go.RowKit Go.Proofs.YtoggfapafjgkdaaDoorW.PrintWords Go.Proofs.YtoggfapafjgkdaaDoorW.PrintLast Go.Proofs.YtoggfapafjgkdaaDoorW.PrintMore Go.Proofs.YtoggfapafjgkdaaDoor.PAll
set_option linter.unusedSimpArgs false
set_option linter.unusedVariables false
/-- Something stands in the directory p. -/
def childN (p : List UInt8) (n : S46) : Prop := pth n ≠ [47] ∧ abv (pth n) = p
open Classical in
/-- What stands at a path goes. -/
noncomputable def removeT (l : List S46) (p : List UInt8) : List S46 × Int :=
 if findI p 0 l < 0 then (l, 41) else if p = [47] then (l, 45) else if ∃ n ∈ l, childN p n then (l, 46) else (l.eraseIdx (findI p 0 l).toNat, 0)
/-- All paths are short. -/
def SZ (l : List S46) : Prop := ∀ n ∈ l, n.f0.size ≤ 255
/-- How a change ends. -/
def ChRet (r : List S46 × Int) (g base : Nat) (nx : Int) (w : World) (e : Ending) (w' : World) : Prop := e = .returned (.int .i64 r.2) ∧ Sap w' g base r.1 nx ∧ Below base w w'
set_option maxHeartbeats 8000000 in
set_option maxRecDepth 100000 in
theorem remove_c (l : List S46) (g base : Nat) (nx : Int) (s : ByteArray) (w : World) (hS : Sap w g base l nx) (hl : l.length < 2147483648) (hz : SZ l) :
  Calls Tryd.prog 45 #[.pointer (some ⟨g, 0, none⟩), .string s] w fun e w' => ChRet (removeT l (pb s)) g base nx w e w' := by
 have hu46 := Tryd.underlying46
 have hu44 := Tryd.underlying44
 have HL := Aside0.mk hl
 have HZ := Aside0.mk hz
 have HS := Aside0.mk hS
 obtain ⟨x, hx⟩ : ∃ x, findI (pb s) 0 l = x := ⟨_, rfl⟩
 have HX := Aside0.mk hx
 obtain ⟨R, hR⟩ : ∃ R, removeT l (pb s) = R := ⟨_, rfl⟩
 have HR := Aside0.mk hR
 rw [hR]
 have hble : base ≤ w.heap.size := by obtain ⟨v, h1, h2, h3⟩ := hS; have := blk_lt h1; omega
 have HBL := Aside0.mk hble
 clear hS hl hz hx hR hble
 go_enter Tryd.func45, Tryd.ntmps45
 go_wp2_with fail
 refine (find_c l g base nx s x w HS.out HL.out HX.out).mono ?_
 rintro e w1 ⟨rfl, hb1⟩
 have HB0 : Aside0 (Below base w w1) := ⟨below_then (Below.refl base w) HBL.out hb1⟩
 have HS1 := Aside0.mk (HS.out.below hb1)
 clear HS hb1
 by_cases h0 : x < 0
 ·
  have z0 : decide (x < 0) = true := decide_eq_true h0
  have HF : Aside0 (ChRet R g base nx w (.returned (.int .i64 41)) w1) := ⟨by
   have e : R = (l, 41) := by rw [← HR.out, removeT, if_pos (by rw [HX.out]; exact h0)]
   rw [e]
   exact ⟨rfl, HS1.out, HB0.out⟩⟩
  clear h0
  go_wp2_with fail
  go_ret
  exact HF.out
 ·
  have z0 : decide (x < 0) = false := decide_eq_false h0
  by_cases h1 : pb s = [47]
  ·
   have z1 : (s.toList == ([47] : List UInt8)) = true := by rw [toL]; exact beq_iff_eq.2 h1
   have HF : Aside0 (ChRet R g base nx w (.returned (.int .i64 45)) w1) := ⟨by
    have e : R = (l, 45) := by rw [← HR.out, removeT, if_neg (by rw [HX.out]; exact h0), if_pos h1]
    rw [e]
    exact ⟨rfl, HS1.out, HB0.out⟩⟩
   clear h0 h1
   go_wp2_with fail
   go_ret
   exact HF.out
  ·
   have z1 : (s.toList == ([47] : List UInt8)) = false := by rw [toL]; exact beq_eq_false_iff_ne.2 h1
   obtain ⟨i, hi, hxi⟩ : ∃ i : Nat, i < l.length ∧ x = (i : Int) := by
    rcases findI_cases (pb s) l 0 with ⟨e, _⟩ | ⟨k, hk, e, _⟩
    ·
     rw [HX.out] at e
     omega
    ·
     exact ⟨k, hk, by rw [← HX.out, e, Nat.zero_add]⟩
   subst hxi
   have HI := Aside0.mk hi
   have HR2 : Aside0 (R = (open Classical in if ∃ n ∈ l, childN (pb s) n then (l, 46) else (l.eraseIdx i, 0))) := ⟨by
    rw [← HR.out, removeT, if_neg (by rw [HX.out]; exact h0), if_neg h1, HX.out]
    rfl⟩
   obtain ⟨v1, g1, r1, hge⟩ := HS1.out
   obtain ⟨A, c, e1⟩ := Kd.R_slice r1
   subst e1
   have HRR := Aside0.mk (Kd.R_reads' r1).2.2
   have HG := Aside0.mk g1
   have HRW := Aside0.mk r1
   have HGE := Aside0.mk hge
   have c0 : w1.cell? ⟨g, 0, none⟩ = some (.slice A l.length c) := (blk_cell g1 0).trans rfl
   clear g1 r1 hge h0 h1 hi HR
   go_wp2_with fail
   clear c0
   go_loopw [22] (fun iv wr => ∃ (k : Nat), k ≤ l.length ∧ iv = .int .i64 k ∧ Aside0 (∀ t : Nat, t < k → ¬ childN (pb s) (rd_T46 l (t : Int))) ∧ Aside0 (Below w1.heap.size w1 wr)) (fun iv _ => l.length - (intOf iv).toNat)
   case atStart => exact ⟨0, by omega, rfl, ⟨fun j hj => absurd hj (by omega)⟩, ⟨Below.refl _ _⟩⟩
   case round =>
    obtain ⟨k, hk, rfl, HF, HB⟩ := hrel
    by_cases hkl : k < l.length
    ·
     have HK := Aside0.mk hkl
     obtain ⟨ad, ea, x0, x1, x2, x3, x4, x5, x6⟩ := at_T46 (Kd.C_below HRR.out HB.out) (k : Int) (by omega) (by omega)
     cases ea
     simp only [Int.toNat_natCast] at x0 x1 x2 x3 x4 x5 x6
     have p1 : (0 ≤ (k : Int)) = True := eq_true (by omega)
     have q1 : ((k : Int) < (l.length : Int)) = True := eq_true (by omega)
     have q2 : (k < l.length) = True := eq_true hkl
     have hsz : (rd_T46 l (k : Int)).f0.size < 4294967296 := by
      have := HZ.out _ (rdn_mem hkl)
      have e : (rdn l k).f0.size = (rd_T46 l (k : Int)).f0.size := rfl
      omega
     obtain ⟨qq, hq, hQ⟩ := dabove_ev (rd_T46 l (k : Int)).f0 hsz
     obtain ⟨K, hK⟩ := evs_get hQ
     have HKK := Aside0.mk hK
     have HQ := Aside0.mk hq
     clear hkl hk hsz hQ hK hq
     by_cases h1 : pb (rd_T46 l (k : Int)).f0 = [47]
     ·
      have z3 : ((rd_T46 l (k : Int)).f0.toList == ([47] : List UInt8)) = true := by rw [toL]; exact beq_iff_eq.2 h1
      have HNK : Aside0 (¬ childN (pb s) (rd_T46 l (k : Int))) := ⟨fun q => q.1 h1⟩
      clear h1
      go_wp2_with (first | ((with_reducible refine gate_dst (N := 7) rfl ?_); refine box_event ?hg (N := 7) ?hd (cs := #[.string (⟨#[]⟩ : ByteArray), .int .i64 0, .int .i64 0, .int .i64 0, .int .i64 0, .int .i64 0, .string (⟨#[]⟩ : ByteArray)]) (t := 46) ?hr ?_; (case hd => rfl); (case hg => rfl); (case hr => first | (go_simp; done) | (go_simp; rfl)); intro gx hg w5 hbox hb; have n1_ := Aside0.mk (below_then HB.out HB.out.size hb); have n2_ := Aside0.mk hbox; have n3_ := Aside0.mk ((by rw [hg]; exact below_size HB.out) : w1.heap.size ≤ gx); clear HB; have HB := n1_; have BK := n2_; have GE := n3_; clear n1_ n2_ n3_ hb hbox hg) | ((with_reducible refine gate_store (t := 46) rfl ?_); refine store_node' rfl rfl _ _ rfl gx _ (rd_T46 l (k : Int)) BK.out rfl rfl rfl ?_; intro w6 hS1 hS2; have s1_ := Aside0.mk (HB.out.grown hS2 HB.out.size (fun q hq => by injection hq with hq; rw [← hq]; exact GE.out)); have c0 : w6.cell? ⟨gx, 0, none⟩ = some (.string (rd_T46 l (k : Int)).f0) := (blk_cell hS1 0).trans rfl; clear HB BK hS1 hS2; have HB := s1_; clear s1_))
      go_roundw
      case rel =>
       have h1 := HK.out
       have h2 := HL.out
       exact ⟨k + 1, by omega, by rw [w64 (by omega) (by omega)]; rfl, ⟨fun t ht => by
        by_cases e : t = k
        ·
         rw [e]; exact HNK.out
        ·
         exact HF.out t (by omega)⟩, HB⟩
      case measure =>
       have := HK.out
       have := HL.out
       rw [w64 (by omega) (by omega)]
       first
        | (simp [intOf]; done)
        | (simp [intOf]; omega)
     ·
      have z3 : ((rd_T46 l (k : Int)).f0.toList == ([47] : List UInt8)) = false := by rw [toL]; exact beq_eq_false_iff_ne.2 h1
      go_wp2_with (first | ((with_reducible refine gate_dst (N := 7) rfl ?_); refine box_event ?hg (N := 7) ?hd (cs := #[.string (⟨#[]⟩ : ByteArray), .int .i64 0, .int .i64 0, .int .i64 0, .int .i64 0, .int .i64 0, .string (⟨#[]⟩ : ByteArray)]) (t := 46) ?hr ?_; (case hd => rfl); (case hg => rfl); (case hr => first | (go_simp; done) | (go_simp; rfl)); intro gx hg w5 hbox hb; have n1_ := Aside0.mk (below_then HB.out HB.out.size hb); have n2_ := Aside0.mk hbox; have n3_ := Aside0.mk ((by rw [hg]; exact below_size HB.out) : w1.heap.size ≤ gx); clear HB; have HB := n1_; have BK := n2_; have GE := n3_; clear n1_ n2_ n3_ hb hbox hg) | ((with_reducible refine gate_store (t := 46) rfl ?_); refine store_node' rfl rfl _ _ rfl gx _ (rd_T46 l (k : Int)) BK.out rfl rfl rfl ?_; intro w6 hS1 hS2; have s1_ := Aside0.mk (HB.out.grown hS2 HB.out.size (fun q hq => by injection hq with hq; rw [← hq]; exact GE.out)); have c0 : w6.cell? ⟨gx, 0, none⟩ = some (.string (rd_T46 l (k : Int)).f0) := (blk_cell hS1 0).trans rfl; clear HB BK hS1 hS2; have HB := s1_; clear s1_))
      clear x0 x1 x2 x3 x4 x5 x6
      refine (delta_above.calls K (rd_T46 l (k : Int)).f0 qq w6 HKK.out).mono ?_
      rintro e w7 ⟨rfl, hd7⟩
      have n1_ := Aside0.mk (below_then HB.out HB.out.size (below_drawn hd7))
      clear HB c0 hd7
      have HB := n1_
      clear n1_
      by_cases h2 : pb qq = pb s
      ·
       have z4 : (qq.toList == s.toList) = true := by rw [toL, toL]; exact beq_iff_eq.2 h2
       have HFin : Aside0 (ChRet R g base nx w (.returned (.int .i64 46)) w7) := ⟨by
        have e : R = (l, 46) := by
         rw [HR2.out, if_pos ⟨_, rdn_mem HK.out, h1, by rw [← h2, HQ.out]; rfl⟩]
        rw [e]
        have hble2 : base ≤ w1.heap.size := Nat.le_trans HBL.out HB0.out.size
        exact ⟨rfl, HS1.out.below HB.out, below_then HB0.out hble2 HB.out⟩⟩
       clear h1 h2
       go_wp2_with fail
       go_ret
       exact HFin.out
      ·
       have z4 : (qq.toList == s.toList) = false := by rw [toL, toL]; exact beq_eq_false_iff_ne.2 h2
       have HNK : Aside0 (¬ childN (pb s) (rd_T46 l (k : Int))) := ⟨fun q => h2 (by rw [HQ.out]; exact q.2)⟩
       clear h1 h2
       go_wp2_with fail
       go_roundw
       case rel =>
        have h1 := HK.out
        have h2 := HL.out
        exact ⟨k + 1, by omega, by rw [w64 (by omega) (by omega)]; rfl, ⟨fun t ht => by
         by_cases e : t = k
         ·
          rw [e]; exact HNK.out
         ·
          exact HF.out t (by omega)⟩, HB⟩
       case measure =>
        have := HK.out
        have := HL.out
        rw [w64 (by omega) (by omega)]
        first
         | (simp [intOf]; done)
         | (simp [intOf]; omega)
    ·
     have hke : k = l.length := by omega
     subst hke
     have q1 : ((l.length : Int) < (l.length : Int)) = False := eq_false (by omega)
     have q2 : (l.length < l.length) = False := eq_false (by omega)
     have hRe : R = (l.eraseIdx i, 0) := by
      rw [HR2.out, if_neg]
      rintro ⟨n, hn, hc⟩
      obtain ⟨t, ht, rfl⟩ := mem_rdn hn
      exact HF.out t ht hc
     have HRE := Aside0.mk hRe
     have HGr := Aside0.mk (blk_below HG.out HB.out)
     have HRWr := Aside0.mk (Kd.R_below HRW.out HB.out)
     have HB3 : Aside0 (Below base w wr) := ⟨below_then HB0.out (Nat.le_trans HBL.out HB0.out.size) HB.out⟩
     obtain ⟨gr, hA⟩ : ∃ gr, A = some ⟨gr, 0, none⟩ := by
      rcases row_open HRWr.out with ⟨_, e⟩ | ⟨g', cap', cur, e, _⟩
      ·
       have := HI.out
       omega
      ·
       injection e with e1 _ _
       exact ⟨g', e1⟩
     subst hA
     have hc0 : wr.cell? ⟨g, 0, none⟩ = some (.slice (some ⟨gr, 0, none⟩) l.length c) := (blk_cell HGr.out 0).trans rfl
     have hw : wrap64 ((i : Int) + 1) = ((i + 1 : Nat) : Int) := by have := HI.out; have := HL.out; rw [w64 (by omega) (by omega)]; rfl
     obtain ⟨j, hj⟩ : ∃ j, j = i + 1 := ⟨_, rfl⟩
     rw [← hj] at hw
     have HJ := Aside0.mk hj
     clear hkl hk hRe HB HF HR2 hj
     go_wp2_with fail
     refine (delete_c l gr c i j base (fun k => k ≠ g) wr HRWr.out HI.out HJ.out HL.out).mono ?_
     rintro e w8 ⟨rfl, hR8, hB8, hfar⟩
     have hne : g ≠ gr := fun e => (HRWr.out.1 gr rfl) e.symm
     have HG8 := Aside0.mk ((hfar g hne).trans HGr.out)
     have HR8 := Aside0.mk hR8
     have HB8 := Aside0.mk (HB3.out.trans hB8)
     have d0 : w8.cell? ⟨g, 0, none⟩ = some (.slice (some ⟨gr, 0, none⟩) l.length c) := (blk_cell HG8.out 0).trans rfl
     have f0 : w8.frozen? ⟨g, 0, none⟩ = false := blk_frozen HG8.out 0
     clear hR8 hB8 hfar hne hc0
     go_wp2_with fail
     go_ret
     rw [HRE.out]
     exact ⟨rfl, ⟨_, blk_put (cs' := #[.slice (some ⟨gr, 0, none⟩) (l.eraseIdx i).length c, .int .i64 nx]) HG8.out 0 _ rfl, Kd.R_far (p := ⟨g, 0, none⟩) HR8.out (fun _ hk => hk) _, HGE.out⟩, HB8.out.setCell HGE.out _⟩
end Go.Proofs.YtoggfapafjgkdaaDoor.T
namespace Go.Proofs.YtoggfapafjgkdaaDoor.T
open Go.RowKit Go.Proofs.YtoggfapafjgkdaaDoorW.PrintWords Go.Proofs.YtoggfapafjgkdaaDoorW.PrintLast Go.Proofs.YtoggfapafjgkdaaDoorW.PrintMore Go.Proofs.YtoggfapafjgkdaaDoor.PAll
set_option linter.unusedSimpArgs false
set_option linter.unusedVariables false
/-- A file gets another name. -/
def linkT (l : List S46) (p : ByteArray) (tt : List UInt8) : List S46 × Int :=
 if findI tt 0 l < 0 then (l, 41) else if knd (rd_T46 l (findI tt 0 l)) ≠ 1 then (l, 43) else if spotT l (pb p) ≠ 0 then (l, spotT l (pb p))
 else (l ++ [⟨p, (rd_T46 l (findI tt 0 l)).f1, (rd_T46 l (findI tt 0 l)).f2⟩], 0)
theorem below_setC {B : Nat} {w W : World} {p : Addr} (h : Below B w W) (hg : B ≤ p.block) (v : Value) : Below B w (W.setCell p v) := h.setCell hg v
/-- Sap beside a box. -/
def Sap2 (w : World) (g gx base : Nat) (l : List S46) (n : Int) : Prop :=
 ∃ v : Value, w.heap[g]? = some (.cells #[v, .int .i64 n] 58 (0, 0)) ∧ Kd.R k46 46 w base (fun k => k ≠ g ∧ k ≠ gx) v l ∧ base ≤ g
theorem Sap.fresh {w w' : World} {g gx base : Nat} {l : List S46} {n : Int} (h : Sap w g base l n) (hx : w.heap.size ≤ gx) (hb : Below w.heap.size w w') : Sap2 w' g gx base l n := by
 obtain ⟨v, h1, h2, h3⟩ := h
 exact ⟨v, blk_below h1 hb, Kd.R_below (Kd.R_elderB h2 gx hx) hb, h3⟩
theorem Sap2.grown {w w' : World} {g gx base : Nat} {l : List S46} {n : Int} (h : Sap2 w g gx base l n) (hg : w.grownBy w' (some gx)) (hne : g ≠ gx) : Sap2 w' g gx base l n := by
 obtain ⟨v, h1, h2, h3⟩ := h
 exact ⟨v, blk_grown h1 hg (fun e => hne (Option.some.inj e)), Kd.R_grown h2 hg (fun q hq e => hq.2 (Option.some.inj e)), h3⟩
theorem Sap2.set {w : World} {g gx base : Nat} {l : List S46} {n : Int} (h : Sap2 w g gx base l n) (hne : g ≠ gx) (j : Nat) (u : Value) : Sap2 (w.setCell ⟨gx, j, none⟩ u) g gx base l n := by
 obtain ⟨v, h1, h2, h3⟩ := h
 exact ⟨v, (Below.heap_setCell w ⟨gx, j, none⟩ u g hne).trans h1, Kd.R_far (p := ⟨gx, j, none⟩) h2 (fun _ hk => hk.2) u, h3⟩
theorem Sap2.sap {w : World} {g gx base : Nat} {l : List S46} {n : Int} (h : Sap2 w g gx base l n) : Sap w g base l n := by
 obtain ⟨v, h1, h2, h3⟩ := h
 exact ⟨v, h1, Kd.R_mono h2 (fun _ hk => hk.1), h3⟩
set_option maxHeartbeats 8000000 in
set_option maxRecDepth 100000 in
theorem link_c (l : List S46) (g base : Nat) (nx : Int) (s tt : ByteArray) (w : World) (hS : Sap w g base l nx) (hl : l.length < 2147483648) (hT : Tab w) :
  Calls Tryd.prog 46 #[.pointer (some ⟨g, 0, none⟩), .string s, .string tt] w fun e w' => ChRet (linkT l s (pb tt)) g base nx w e w' := by
 have hu46 := Tryd.underlying46
 have hu44 := Tryd.underlying44
 have HL := Aside0.mk hl
 have HT := Aside0.mk hT
 have HS := Aside0.mk hS
 obtain ⟨x, hx⟩ : ∃ x, findI (pb tt) 0 l = x := ⟨_, rfl⟩
 have HX := Aside0.mk hx
 obtain ⟨R, hR⟩ : ∃ R, linkT l s (pb tt) = R := ⟨_, rfl⟩
 have HR := Aside0.mk hR
 rw [hR]
 have HBL : Aside0 (base ≤ w.heap.size) := ⟨by obtain ⟨v, h1, h2, h3⟩ := hS; have := blk_lt h1; omega⟩
 clear hS hl hT hx hR
 go_enter Tryd.func46, Tryd.ntmps46
 go_wp2_with fail
 refine (find_c l g base nx tt x w HS.out HL.out HX.out).mono ?_
 rintro e w1 ⟨rfl, hb1⟩
 have HB : Aside0 (Below base w w1) := ⟨below_then (Below.refl base w) HBL.out hb1⟩
 have HS1 := Aside0.mk (HS.out.below hb1)
 have HT1 := Aside0.mk (HT.out.below hb1)
 clear HS hb1 HT
 by_cases h0 : x < 0
 ·
  have z0 : decide (x < 0) = true := decide_eq_true h0
  have HF : Aside0 (ChRet R g base nx w (.returned (.int .i64 41)) w1) := ⟨by
   have e : R = (l, 41) := by rw [← HR.out, linkT, if_pos (by rw [HX.out]; exact h0)]
   rw [e]
   exact ⟨rfl, HS1.out, HB.out⟩⟩
  clear h0
  go_wp2_with fail
  go_ret
  exact HF.out
 ·
  have z0 : decide (x < 0) = false := decide_eq_false h0
  obtain ⟨k, hk, hxk⟩ : ∃ k : Nat, k < l.length ∧ x = (k : Int) := by
   rcases findI_cases (pb tt) l 0 with ⟨e, _⟩ | ⟨k, hk, e, _⟩
   ·
    rw [HX.out] at e
    omega
   ·
    exact ⟨k, hk, by rw [← HX.out, e, Nat.zero_add]⟩
  subst hxk
  have HK := Aside0.mk hk
  have HR2 : Aside0 (R = (if knd (rd_T46 l (k : Int)) ≠ 1 then (l, 43) else if spotT l (pb s) ≠ 0 then (l, spotT l (pb s)) else (l ++ [⟨s, (rd_T46 l (k : Int)).f1, (rd_T46 l (k : Int)).f2⟩], 0))) := ⟨by
   rw [← HR.out, linkT, if_neg (by rw [HX.out]; exact h0), HX.out]⟩
  obtain ⟨v1, g1, r1, hge⟩ := HS1.out
  obtain ⟨A, c, e1⟩ := Kd.R_slice r1
  subst e1
  have c0 : w1.cell? ⟨g, 0, none⟩ = some (.slice A l.length c) := (blk_cell g1 0).trans rfl
  obtain ⟨ad, ea, x0, x1, x2, x3, x4, x5, x6⟩ := at_T46 (Kd.R_reads' r1).2.2 (k : Int) (by omega) (by omega)
  cases ea
  simp only [Int.toNat_natCast] at x3
  have p1 : (0 ≤ (k : Int)) = True := eq_true (by omega)
  have q1 : ((k : Int) < (l.length : Int)) = True := eq_true (by omega)
  have q2 : (k < l.length) = True := eq_true hk
  clear x0 x1 x2 x4 x5 x6 g1 r1 h0 hk HR hge
  by_cases h1 : (rd_T46 l (k : Int)).f1.f2 = 1
  ·
   have z1 : ((rd_T46 l (k : Int)).f1.f2 != 1) = false := by simpa using h1
   obtain ⟨q, hq⟩ : ∃ q, spotT l (pb s) = q := ⟨_, rfl⟩
   have HQ := Aside0.mk hq
   have HR3 : Aside0 (R = (if q ≠ 0 then (l, q) else (l ++ [⟨s, (rd_T46 l (k : Int)).f1, (rd_T46 l (k : Int)).f2⟩], 0))) := ⟨by rw [HR2.out, if_neg (fun z => z h1), hq]⟩
   clear h1 hq HR2
   go_wp2_with fail
   clear c0 x3
   refine (spot_c l g base nx s q w1 HS1.out HL.out HT1.out HQ.out).mono ?_
   rintro e w2 ⟨rfl, hb2⟩
   have HS := Aside0.mk (HS1.out.below hb2)
   have n1_ := Aside0.mk (below_then HB.out (Nat.le_trans HBL.out HB.out.size) hb2)
   clear HB HS1 hb2
   have HB := n1_
   clear n1_
   by_cases h2 : q = 0
   ·
    subst h2
    have HR4 : Aside0 (R = (l ++ [⟨s, (rd_T46 l (k : Int)).f1, (rd_T46 l (k : Int)).f2⟩], 0)) := ⟨by rw [HR3.out, if_neg (fun z => z rfl)]⟩
    obtain ⟨v1, g1, r1, hge⟩ := HS.out
    obtain ⟨A', c', e1⟩ := Kd.R_slice r1
    subst e1
    have c0 : w2.cell? ⟨g, 0, none⟩ = some (.slice A' l.length c') := (blk_cell g1 0).trans rfl
    obtain ⟨ad', ea, x0, x1, x2, x3, x4, x5, x6⟩ := at_T46 (Kd.R_reads' r1).2.2 (k : Int) (by have := HK.out; omega) (by have := HK.out; omega)
    cases ea
    simp only [Int.toNat_natCast] at x0 x1 x2 x3 x4 x5 x6
    clear g1 r1 HR3 hge
    go_wp2_with (first | ((with_reducible refine gate_dst (N := 9) rfl ?_); refine box_event ?hg (N := 9) ?hd (cs := #[.string (⟨#[]⟩ : ByteArray), .int .i64 0, .int .i64 0, .int .i64 0, .int .i64 0, .int .i64 0, .string (⟨#[]⟩ : ByteArray)]) (t := 46) ?hr ?_; (case hd => rfl); (case hg => rfl); (case hr => first | (go_simp; done) | (go_simp; rfl)); intro gx hg w5 hbox hb; have n1_ := Aside0.mk (HS.out.fresh (Nat.le_of_eq hg.symm) hb); have n2_ := Aside0.mk hbox; have n3_ := Aside0.mk (below_then HB.out (Nat.le_trans HBL.out HB.out.size) hb); have n4_ : Aside0 (g ≠ gx ∧ base ≤ gx) := ⟨by have := HS.out.lt; have := HBL.out; have := HB.out.size; rw [hg]; omega⟩; clear HS HB; have HS := n1_; have BK := n2_; have HB := n3_; have GX := n4_; clear n1_ n2_ n3_ n4_ hb hbox hg) | ((with_reducible refine gate_store (t := 46) rfl ?_); refine store_node' rfl rfl _ _ rfl gx _ (rd_T46 l (k : Int)) BK.out rfl rfl rfl ?_; intro w6 hS1 hS2; have n1_ := Aside0.mk (HS.out.grown hS2 GX.out.1); have n2_ := Aside0.mk hS1; have n3_ := Aside0.mk (HB.out.grown hS2 (Nat.le_trans HBL.out HB.out.size) (fun q hq => by injection hq with hq; have := GX.out.2; omega)); clear HS HB BK hS1 hS2; have HS := n1_; have BK := n2_; have HB := n3_; clear n1_ n2_ n3_; have d0 : w6.cell? ⟨gx, 0, none⟩ = some (.string (rd_T46 l (k : Int)).f0) := (blk_cell BK.out 0).trans rfl; have fz : w6.frozen? ⟨gx, 0, none⟩ = false := blk_frozen BK.out 0) | ((with_reducible refine gate_store (t := 9) (p := 41) rfl ?_); refine store_event (t := 9) (p := 41) (v := ?vo_p) (w1 := (w6.setCell ⟨gx, 0, none⟩ (.string s))) ?hg ?ho ?hn ?hr ?_; (case ho => rfl); (case hg => rfl); (case hn => rfl); (case hr => first | (go_simp; done) | (go_simp; rfl)); intro w7 hw; have n1_ := Aside0.mk (HS.out.set GX.out.1 0 (.string s)); have n2_ := Aside0.mk (blk_put (cs' := #[.string s, .int .i64 (rd_T46 l (k : Int)).f1.f0, .int .i64 (rd_T46 l (k : Int)).f1.f1, .int .i64 (rd_T46 l (k : Int)).f1.f2, .int .i64 (rd_T46 l (k : Int)).f1.f3, .int .i64 (rd_T46 l (k : Int)).f1.f4, .string (rd_T46 l (k : Int)).f2]) BK.out 0 (.string s) rfl); have n3_ := Aside0.mk (below_setC (p := ⟨gx, 0, none⟩) HB.out GX.out.2 (.string s)); rw [← hw] at n1_ n2_ n3_; clear HS HB BK hw d0 fz; have HS := n1_; have BK := n2_; have HB := n3_; clear n1_ n2_ n3_))
    clear x0 x1 x2 x3 x4 x5 x6 c0
    have HG0 := HS.out.sap
    obtain ⟨v, g7, r7, hge⟩ := HG0
    have HG := Aside0.mk g7
    have HRd := Aside0.mk (Kd.R_drew r7)
    have HGE := Aside0.mk hge
    have HLT : Aside0 (g < w7.heap.size) := ⟨blk_lt g7⟩
    have HLX : Aside0 ((l.length + 1) * 72 ≤ 140737488355328) := ⟨by have := HL.out; omega⟩
    have c0 : w7.cell? ⟨g, 0, none⟩ = some v := (blk_cell g7 0).trans rfl
    have ca0 : ∀ o, (w7.alloc o).cell? ⟨g, 0, none⟩ = some v := fun o => (blk_cell (blk_below g7 (below_alloc (Below.refl _ _) o)) 0).trans rfl
    have y0 : w7.cell? ⟨gx, 0, none⟩ = some (.string s) := (blk_cell BK.out 0).trans rfl
    have y1 : w7.cell? ⟨gx, 1, none⟩ = some (.int .i64 (rd_T46 l (k : Int)).f1.f0) := (blk_cell BK.out 1).trans rfl
    have y2 : w7.cell? ⟨gx, 2, none⟩ = some (.int .i64 (rd_T46 l (k : Int)).f1.f1) := (blk_cell BK.out 2).trans rfl
    have y3 : w7.cell? ⟨gx, 3, none⟩ = some (.int .i64 (rd_T46 l (k : Int)).f1.f2) := (blk_cell BK.out 3).trans rfl
    have y4 : w7.cell? ⟨gx, 4, none⟩ = some (.int .i64 (rd_T46 l (k : Int)).f1.f3) := (blk_cell BK.out 4).trans rfl
    have y5 : w7.cell? ⟨gx, 5, none⟩ = some (.int .i64 (rd_T46 l (k : Int)).f1.f4) := (blk_cell BK.out 5).trans rfl
    have y6 : w7.cell? ⟨gx, 6, none⟩ = some (.string (rd_T46 l (k : Int)).f2) := (blk_cell BK.out 6).trans rfl
    clear g7 r7 hge
    go_region_law (refine Kd.R_append_step k46 (w0 := w) (W := w7.drew) base (by simp [Region.wanted]) (.tmp 46) (.tmp 48) 22 46 (.agg #[(.string ⟨#[]⟩), (.int .i64 0), (.int .i64 0), (.int .i64 0), (.int .i64 0), (.int .i64 0), (.string ⟨#[]⟩)]) 72 rfl Tryd.underlying22 info46 rfl (by decide) (by omega) v l (⟨s, (⟨(rd_T46 l (k : Int)).f1.f0, (rd_T46 l (k : Int)).f1.f1, (rd_T46 l (k : Int)).f1.f2, (rd_T46 l (k : Int)).f1.f3, (rd_T46 l (k : Int)).f1.f4⟩ : S44), (rd_T46 l (k : Int)).f2⟩ : S46) [.string s, .int .i64 (rd_T46 l (k : Int)).f1.f0, .int .i64 (rd_T46 l (k : Int)).f1.f1, .int .i64 (rd_T46 l (k : Int)).f1.f2, .int .i64 (rd_T46 l (k : Int)).f1.f3, .int .i64 (rd_T46 l (k : Int)).f1.f4, .string (rd_T46 l (k : Int)).f2] (fun k => k ≠ g) (fun _ => False) (by simp [Act.eval, Act.put]) (by simp [Act.eval, Act.put]) (k46_mkM _ _ _ (⟨s, (⟨(rd_T46 l (k : Int)).f1.f0, (rd_T46 l (k : Int)).f1.f1, (rd_T46 l (k : Int)).f1.f2, (rd_T46 l (k : Int)).f1.f3, (rd_T46 l (k : Int)).f1.f4⟩ : S44), (rd_T46 l (k : Int)).f2⟩ : S46)) (fun _ hk => hk.elim) (fun k hk e => absurd hk (by have := HLT.out; have e2 : w7.drew.heap.size = w7.heap.size := rfl; omega)) HRd.out (below_drew HB.out) (by have := HBL.out; have := HB.out.size; have e2 : w7.drew.heap.size = w7.heap.size := rfl; omega) HLX.out ?_; intro v1 w8 ho hb hg hat; obtain ⟨A1, k1, e1⟩ := Kd.R_slice ho; subst e1; have n0_ := Aside0.mk ho; have n1_ := Aside0.mk hb; have d0 : w8.cell? ⟨g, 0, none⟩ = some v := (blk_cell (blk_grown HG.out (w := w7.drew) hg (Kd.R_away HRd.out (fun _ hk => hk))) 0).trans rfl; have f0 : w8.frozen? ⟨g, 0, none⟩ = false := blk_frozen (blk_grown HG.out (w := w7.drew) hg (Kd.R_away HRd.out (fun _ hk => hk))) 0; have n2_ := Aside0.mk (blk_grown HG.out (w := w7.drew) hg (Kd.R_away HRd.out (fun _ hk => hk))); clear ho hb hg hat)
    all_goals go_wp2_with fail
    all_goals (
     go_ret
     rw [HR4.out]
     have h0 := n0_.out
     simp only [List.length_append, List.length_cons, List.length_nil, Nat.zero_add] at h0
     refine ⟨rfl, ⟨_, blk_put (cs' := #[.slice A1 (l.length + 1) k1, .int .i64 nx]) n2_.out 0 _ rfl, Kd.R_far (p := ⟨g, 0, none⟩) h0 (fun _ hk => hk) _, HGE.out⟩, n1_.out.setCell HGE.out _⟩)
   ·
    have z2 : (q != 0) = true := by simpa using h2
    have HF : Aside0 (ChRet R g base nx w (.returned (.int .i64 q)) w2) := ⟨by
     rw [HR3.out, if_pos h2]
     exact ⟨rfl, HS.out, HB.out⟩⟩
    clear h2
    go_wp2_with fail
    go_ret
    exact HF.out
  ·
   have z1 : ((rd_T46 l (k : Int)).f1.f2 != 1) = true := by simpa using h1
   have HF : Aside0 (ChRet R g base nx w (.returned (.int .i64 43)) w1) := ⟨by
    rw [HR2.out, if_pos (show knd (rd_T46 l (k : Int)) ≠ 1 from h1)]
    exact ⟨rfl, HS1.out, HB.out⟩⟩
   clear h1
   go_wp2_with fail
   go_ret
   exact HF.out
end Go.Proofs.YtoggfapafjgkdaaDoor.T
namespace Go.Proofs.YtoggfapafjgkdaaDoor.T
open Go.RowKit Go.Proofs.YtoggfapafjgkdaaDoorW.PrintWords Go.Proofs.YtoggfapafjgkdaaDoorW.PrintLast Go.Proofs.YtoggfapafjgkdaaDoorW.PrintMore Go.Proofs.YtoggfapafjgkdaaDoor.PAll
set_option linter.unusedSimpArgs false
set_option linter.unusedVariables false
def fillN (a : Int) (d : ByteArray) (n : S46) : S46 := if ino n = a then ⟨n.f0, n.f1, d⟩ else n
/-- A file's bytes change, under all its names. -/
def changeT (l : List S46) (p : List UInt8) (d : ByteArray) : List S46 × Int :=
 if findI p 0 l < 0 then (l, 41) else if knd (rd_T46 l (findI p 0 l)) ≠ 1 then (l, 43) else if (d.size : Int) > 5675264 then (l, 4)
 else (l.map (fillN (ino (rd_T46 l (findI p 0 l))) d), 0)
theorem flat_set6 : ∀ (l : List S46) (i : Nat) (n : S46) (d : ByteArray), l[i]? = some n → (l.set i ⟨n.f0, n.f1, d⟩).flatMap encN = (l.flatMap encN).set (i * 7 + 6) (.string d)
 | [], i, n, d, h => by simp at h
 | m :: r, 0, n, d, h => by
  simp only [List.getElem?_cons_zero, Option.some.injEq] at h
  subst h
  rw [List.set_cons_zero, List.flatMap_cons, List.flatMap_cons]
  rfl
 | m :: r, i + 1, n, d, h => by
  rw [List.getElem?_cons_succ] at h
  rw [List.set_cons_succ, List.flatMap_cons, List.flatMap_cons, flat_set6 r i n d h, show (i + 1) * 7 + 6 = (i * 7 + 6) + 7 by omega]
  rfl
theorem set_data {w : World} {base gr c : Nat} {ok : Nat → Prop} {l : List S46} (h : Kd.R k46 46 w base ok (.slice (some ⟨gr, 0, none⟩) l.length c) l) {i : Nat} {n : S46} (hn : l[i]? = some n) (d : ByteArray) :
  Kd.R k46 46 (w.setCell ⟨gr, i * 7 + 6, none⟩ (.string d)) base ok (.slice (some ⟨gr, 0, none⟩) l.length c) (l.set i ⟨n.f0, n.f1, d⟩) := by
 have hi : i < l.length := (List.getElem?_eq_some_iff.1 hn).1
 rcases row_open h with ⟨e, _⟩ | ⟨g', cap', cur, e, hb, hg, h1, h2, h3, h4⟩
 ·
  cases e
 ·
  injection e with e1 e2 e3
  injection e1 with e1
  injection e1 with e1
  subst e1
  subst e3
  have hsl : (l.set i ⟨n.f0, n.f1, d⟩).length = l.length := List.length_set
  have := row_shut (l := l.set i ⟨n.f0, n.f1, d⟩) (base := base) (cap := c) (cur := cur.setIfInBounds (i * 7 + 6) (.string d)) hb (blk_put hg (i * 7 + 6) _ rfl) (by rw [hsl]; exact h1) h2 (by rw [Array.size_setIfInBounds, h3]) (by
   rw [hsl, Array.toList_setIfInBounds, List.take_set, h4, flat_set6 l i n d hn])
  rw [hsl] at this
  exact Kd.R_reok rfl this (fun k hk => h.1 k hk)
theorem fmix_at {l : List S46} {f : S46 → S46} {k : Nat} (hk : k < l.length) : ((l.take k).map f ++ l.drop k)[k]? = some (rd_T46 l (k : Int)) := by
 have e1 : ((l.take k).map f).length = k := by rw [List.length_map, List.length_take]; omega
 rw [List.getElem?_append_right (by omega), e1, Nat.sub_self, List.getElem?_drop, Nat.add_zero, List.getElem?_eq_getElem hk]
 exact congrArg some (rd_at hk).symm
theorem fmix_len {l : List S46} {f : S46 → S46} {k : Nat} (hk : k ≤ l.length) : ((l.take k).map f ++ l.drop k).length = l.length := by
 rw [List.length_append, List.length_map, List.length_take, List.length_drop]
 omega
theorem fmix_set {l : List S46} {f : S46 → S46} {k : Nat} (hk : k < l.length) : ((l.take k).map f ++ l.drop k).set k (f (rd_T46 l (k : Int))) = (l.take (k + 1)).map f ++ l.drop (k + 1) := by
 have e1 : ((l.take k).map f).length = k := by rw [List.length_map, List.length_take]; omega
 have e2 : rd_T46 l (k : Int) = l[k] := rd_at hk
 rw [List.set_append_right _ _ (by omega), e1, Nat.sub_self, List.drop_eq_getElem_cons hk, List.set_cons_zero, List.take_add_one, List.getElem?_eq_getElem hk, e2, List.map_append]
 simp only [Option.toList_some, List.map_cons, List.map_nil, List.append_assoc, List.cons_append, List.nil_append]
theorem fmix_keep {l : List S46} {f : S46 → S46} {k : Nat} (hk : k < l.length) (h : f (rd_T46 l (k : Int)) = rd_T46 l (k : Int)) : (l.take k).map f ++ l.drop k = (l.take (k + 1)).map f ++ l.drop (k + 1) := by
 rw [← fmix_set hk, h]
 have := fmix_at (f := f) hk
 obtain ⟨h1, h2⟩ := List.getElem?_eq_some_iff.1 this
 rw [← h2]
 exact (List.set_getElem_self h1).symm
set_option maxHeartbeats 8000000 in
set_option maxRecDepth 100000 in
theorem change_c (l : List S46) (g base : Nat) (nx : Int) (s d : ByteArray) (w : World) (hS : Sap w g base l nx) (hl : l.length < 2147483648) :
  Calls Tryd.prog 47 #[.pointer (some ⟨g, 0, none⟩), .string s, .string d] w fun e w' => ChRet (changeT l (pb s) d) g base nx w e w' := by
 have hu46 := Tryd.underlying46
 have hu44 := Tryd.underlying44
 have HL := Aside0.mk hl
 have HS := Aside0.mk hS
 obtain ⟨x, hx⟩ : ∃ x, findI (pb s) 0 l = x := ⟨_, rfl⟩
 have HX := Aside0.mk hx
 obtain ⟨R, hR⟩ : ∃ R, changeT l (pb s) d = R := ⟨_, rfl⟩
 have HR := Aside0.mk hR
 rw [hR]
 have HBL : Aside0 (base ≤ w.heap.size) := ⟨by obtain ⟨v, h1, h2, h3⟩ := hS; have := blk_lt h1; omega⟩
 clear hS hl hx hR
 go_enter Tryd.func47, Tryd.ntmps47
 go_wp2_with fail
 refine (find_c l g base nx s x w HS.out HL.out HX.out).mono ?_
 rintro e w1 ⟨rfl, hb1⟩
 have HB : Aside0 (Below base w w1) := ⟨below_then (Below.refl base w) HBL.out hb1⟩
 have HS1 := Aside0.mk (HS.out.below hb1)
 clear HS hb1
 by_cases h0 : x < 0
 ·
  have z0 : decide (x < 0) = true := decide_eq_true h0
  have HF : Aside0 (ChRet R g base nx w (.returned (.int .i64 41)) w1) := ⟨by
   have e : R = (l, 41) := by rw [← HR.out, changeT, if_pos (by rw [HX.out]; exact h0)]
   rw [e]
   exact ⟨rfl, HS1.out, HB.out⟩⟩
  clear h0
  go_wp2_with fail
  go_ret
  exact HF.out
 ·
  have z0 : decide (x < 0) = false := decide_eq_false h0
  obtain ⟨k, hk, hxk⟩ : ∃ k : Nat, k < l.length ∧ x = (k : Int) := by
   rcases findI_cases (pb s) l 0 with ⟨e, _⟩ | ⟨k, hk, e, _⟩
   ·
    rw [HX.out] at e
    omega
   ·
    exact ⟨k, hk, by rw [← HX.out, e, Nat.zero_add]⟩
  subst hxk
  have HK := Aside0.mk hk
  have HR2 : Aside0 (R = (if knd (rd_T46 l (k : Int)) ≠ 1 then (l, 43) else if (d.size : Int) > 5675264 then (l, 4) else (l.map (fillN (ino (rd_T46 l (k : Int))) d), 0))) := ⟨by
   rw [← HR.out, changeT, if_neg (by rw [HX.out]; exact h0), HX.out]⟩
  obtain ⟨v1, g1, r1, hge⟩ := HS1.out
  have HGE := Aside0.mk hge
  have HRW := Aside0.mk r1
  have HG := Aside0.mk g1
  obtain ⟨gr, c, hv1⟩ : ∃ gr c, v1 = .slice (some ⟨gr, 0, none⟩) l.length c := by
   rcases row_open r1 with ⟨_, e⟩ | ⟨g', cap', cur, e, _⟩
   ·
    omega
   ·
    exact ⟨g', cap', e⟩
  subst hv1
  have c0 : w1.cell? ⟨g, 0, none⟩ = some (.slice (some ⟨gr, 0, none⟩) l.length c) := (blk_cell g1 0).trans rfl
  obtain ⟨ad, ea, x0, x1, x2, x3, x4, x5, x6⟩ := at_T46 (Kd.R_reads' r1).2.2 (k : Int) (by omega) (by omega)
  cases ea
  have e0 : (⟨gr, 0, none⟩ : Addr).add (k * 7) = ⟨gr, k * 7, none⟩ := by rw [Addr.add_lit, Nat.zero_add]
  simp only [Int.toNat_natCast, e0] at x1 x3
  have p1 : (0 ≤ (k : Int)) = True := eq_true (by omega)
  have q1 : ((k : Int) < (l.length : Int)) = True := eq_true (by omega)
  have q2 : (k < l.length) = True := eq_true hk
  clear x0 x2 x4 x5 x6 g1 r1 h0 hk HR hge e0
  by_cases h1 : (rd_T46 l (k : Int)).f1.f2 = 1
  ·
   have z1 : ((rd_T46 l (k : Int)).f1.f2 != 1) = false := by simpa using h1
   by_cases h2 : (d.size : Int) > 5675264
   ·
    have z2 : decide ((5675264 : Int) < (d.size : Int)) = true := decide_eq_true h2
    have HF : Aside0 (ChRet R g base nx w (.returned (.int .i64 4)) w1) := ⟨by
     rw [HR2.out, if_neg (fun z => z h1), if_pos h2]
     exact ⟨rfl, HS1.out, HB.out⟩⟩
    clear h1 h2
    go_wp2_with fail
    go_ret
    exact HF.out
   ·
    have z2 : decide ((5675264 : Int) < (d.size : Int)) = false := decide_eq_false h2
    obtain ⟨a, ha⟩ : ∃ a, (rd_T46 l (k : Int)).f1.f0 = a := ⟨_, rfl⟩
    have HR3 : Aside0 (R = (l.map (fillN a d), 0)) := ⟨by rw [HR2.out, if_neg (fun z => z h1), if_neg h2, ← ha]; rfl⟩
    rw [ha] at x1
    clear h1 h2 HR2 ha
    go_wp2_with fail
    clear c0 x1 x3 p1 q1 q2
    go_loopw [45] (fun iv wr => ∃ (m : Nat), m ≤ l.length ∧ iv = .int .i64 m ∧ Aside0 (wr.heap[g]? = some (.cells #[.slice (some ⟨gr, 0, none⟩) l.length c, .int .i64 nx] 58 (0, 0))) ∧ Aside0 (Kd.R k46 46 wr base (fun q => q ≠ g) (.slice (some ⟨gr, 0, none⟩) l.length c) ((l.take m).map (fillN a d) ++ l.drop m)) ∧ Aside0 (Below base w wr)) (fun iv _ => l.length - (intOf iv).toNat)
    case atStart => exact ⟨0, by omega, rfl, HG, ⟨by simpa using HRW.out⟩, HB⟩
    case round =>
     clear HB HG HRW HS1
     obtain ⟨m, hm, rfl, HG, HRW, HB⟩ := hrel
     by_cases hml : m < l.length
     ·
      have HM := Aside0.mk hml
      have hlen : ((l.take m).map (fillN a d) ++ l.drop m).length = l.length := fmix_len (by omega)
      have hrd : rd_T46 ((l.take m).map (fillN a d) ++ l.drop m) (m : Int) = rd_T46 l (m : Int) := by
       have h1 := fmix_at (f := fillN a d) hml
       obtain ⟨h2, h3⟩ := List.getElem?_eq_some_iff.1 h1
       exact (rd_at h2).trans h3
      have c0 : wr.cell? ⟨g, 0, none⟩ = some (.slice (some ⟨gr, 0, none⟩) l.length c) := (blk_cell HG.out 0).trans rfl
      obtain ⟨ad, ea, x0, x1, x2, x3, x4, x5, x6⟩ := at_T46 (Kd.R_reads' HRW.out).2.2 (m : Int) (by omega) (by omega)
      cases ea
      have e0 : (⟨gr, 0, none⟩ : Addr).add (m * 7) = ⟨gr, m * 7, none⟩ := by rw [Addr.add_lit, Nat.zero_add]
      rw [hrd] at x1 x6
      simp only [Int.toNat_natCast, e0] at x1 x6
      have p1 : (0 ≤ (m : Int)) = True := eq_true (by omega)
      have q1 : ((m : Int) < (l.length : Int)) = True := eq_true (by omega)
      have q2 : (m < l.length) = True := eq_true hml
      have hgne : g ≠ gr := fun e => (HRW.out.1 gr rfl) e.symm
      have hbgr : base ≤ gr := by
       rcases row_open HRW.out with ⟨e, _⟩ | ⟨g', cap', cur, e, hb, _⟩
       ·
        cases e
       ·
        injection e with e1 _ _
        injection e1 with e1
        injection e1 with e1
        subst e1
        exact hb
      have hfz : wr.frozen? ⟨gr, m * 7 + 6, none⟩ = false := by
       rcases row_open HRW.out with ⟨e, _⟩ | ⟨g', cap', cur, e, hb, hg, _⟩
       ·
        cases e
       ·
        injection e with e1 _ _
        injection e1 with e1
        injection e1 with e1
        subst e1
        exact blk_frozen hg _
      clear x0 x2 x3 x4 x5 e0 hml hm
      by_cases he : (rd_T46 l (m : Int)).f1.f0 = a
      ·
       have ze : ((rd_T46 l (m : Int)).f1.f0 == a) = true := beq_iff_eq.2 he
       have HFN : Aside0 (fillN a d (rd_T46 l (m : Int)) = ⟨(rd_T46 l (m : Int)).f0, (rd_T46 l (m : Int)).f1, d⟩) := ⟨by unfold fillN; rw [if_pos (show ino _ = a from he)]⟩
       have HR5 : Aside0 (Kd.R k46 46 (wr.setCell ⟨gr, m * 7 + 6, none⟩ (.string d)) base (fun q => q ≠ g) (.slice (some ⟨gr, 0, none⟩) l.length c) ((l.take (m + 1)).map (fillN a d) ++ l.drop (m + 1))) := ⟨by
        have hR := HRW.out
        rw [← hlen] at hR
        have := set_data hR (fmix_at HM.out) d
        rw [hlen, ← HFN.out, fmix_set HM.out] at this
        exact this⟩
       have HG5 : Aside0 ((wr.setCell ⟨gr, m * 7 + 6, none⟩ (.string d)).heap[g]? = some (.cells #[.slice (some ⟨gr, 0, none⟩) l.length c, .int .i64 nx] 58 (0, 0))) := ⟨(Below.heap_setCell wr ⟨gr, m * 7 + 6, none⟩ (.string d) g hgne).trans HG.out⟩
       have HB5 : Aside0 (Below base w (wr.setCell ⟨gr, m * 7 + 6, none⟩ (.string d))) := ⟨HB.out.setCell hbgr _⟩
       clear he hlen hrd hgne hbgr
       go_wp2_with fail
       clear x1 x6 c0 hfz HRW HG HB
       generalize wr.setCell ⟨gr, m * 7 + 6, none⟩ (.string d) = w5 at HR5 HG5 HB5 ⊢
       go_roundw
       case rel =>
        have h1 := HM.out
        have h2 := HL.out
        exact ⟨m + 1, by omega, by rw [w64 (by omega) (by omega)]; rfl, HG5, HR5, HB5⟩
       case measure =>
        have := HM.out
        have := HL.out
        rw [w64 (by omega) (by omega)]
        first
         | (simp [intOf]; done)
         | (simp [intOf]; omega)
      ·
       have ze : ((rd_T46 l (m : Int)).f1.f0 == a) = false := beq_eq_false_iff_ne.2 he
       have HR5 : Aside0 (Kd.R k46 46 wr base (fun q => q ≠ g) (.slice (some ⟨gr, 0, none⟩) l.length c) ((l.take (m + 1)).map (fillN a d) ++ l.drop (m + 1))) := ⟨by
        rw [← fmix_keep HM.out (by unfold fillN; rw [if_neg (show ¬ ino _ = a from he)])]
        exact HRW.out⟩
       clear he hlen hrd hgne hbgr
       go_wp2_with fail
       clear x1 x6 c0 hfz HRW
       go_roundw
       case rel =>
        have h1 := HM.out
        have h2 := HL.out
        exact ⟨m + 1, by omega, by rw [w64 (by omega) (by omega)]; rfl, HG, HR5, HB⟩
       case measure =>
        have := HM.out
        have := HL.out
        rw [w64 (by omega) (by omega)]
        first
         | (simp [intOf]; done)
         | (simp [intOf]; omega)
     ·
      have hme : m = l.length := by omega
      subst hme
      have q1 : ((l.length : Int) < (l.length : Int)) = False := eq_false (by omega)
      have q2 : (l.length < l.length) = False := eq_false (by omega)
      have HF : Aside0 (ChRet R g base nx w (.returned (.int .i64 0)) wr) := ⟨by
       rw [HR3.out]
       have hR := HRW.out
       rw [List.take_length, List.drop_length, List.append_nil] at hR
       exact ⟨rfl, ⟨_, HG.out, hR, HGE.out⟩, HB.out⟩⟩
      clear hml hm
      go_wp2_with fail
      go_ret
      exact HF.out
  ·
   have z1 : ((rd_T46 l (k : Int)).f1.f2 != 1) = true := by simpa using h1
   have HF : Aside0 (ChRet R g base nx w (.returned (.int .i64 43)) w1) := ⟨by
    rw [HR2.out, if_pos (show knd (rd_T46 l (k : Int)) ≠ 1 from h1)]
    exact ⟨rfl, HS1.out, HB.out⟩⟩
   clear h1
   go_wp2_with fail
   go_ret
   exact HF.out
end Go.Proofs.YtoggfapafjgkdaaDoor.T
namespace Go.Proofs.YtoggfapafjgkdaaDoor.T
open Go.RowKit Go.Proofs.YtoggfapafjgkdaaDoorW.PrintWords Go.Proofs.YtoggfapafjgkdaaDoorW.PrintLast Go.Proofs.YtoggfapafjgkdaaDoorW.PrintMore Go.Proofs.YtoggfapafjgkdaaDoor.PAll
set_option linter.unusedSimpArgs false
set_option linter.unusedVariables false
/-- Something new is put. -/
def newT (l : List S46) (nx : Int) (kind : Int) (p d : ByteArray) : List S46 × Int × Int :=
 if spotT l (pb p) ≠ 0 then (l, nx, spotT l (pb p)) else (l ++ [⟨p, ⟨nx, 0, kind, 0, 0⟩, d⟩], nx + 1, 0)
/-- One edit: the nodes, the next number, the error. -/
noncomputable def editT (l : List S46) (nx : Int) (x : S33) : List S46 × Int × Int :=
 if x.f0 = 1 then ((removeT l (pb x.f1)).1, nx, (removeT l (pb x.f1)).2)
 else if x.f0 = 5 then ((linkT l x.f1 (pb x.f2)).1, nx, (linkT l x.f1 (pb x.f2)).2)
 else if x.f0 = 6 then ((changeT l (pb x.f1) x.f3).1, nx, (changeT l (pb x.f1) x.f3).2)
 else if x.f0 = 4 then (if splitE (pb x.f2) ≠ 0 then (l, nx, splitE (pb x.f2)) else newT l nx 3 x.f1 x.f2)
 else if x.f0 = 3 then (if (x.f3.size : Int) > 5675264 then (l, nx, 4) else newT l nx 1 x.f1 x.f3)
 else if x.f0 = 2 then newT l nx 2 x.f1 eB else (l, nx, 1)
/-- How an edit ends. -/
def EdRet (r : List S46 × Int × Int) (g base : Nat) (w : World) (e : Ending) (w' : World) : Prop := e = .returned (.int .i64 r.2.2) ∧ Sap w' g base r.1 r.2.1 ∧ Below base w w'
theorem new_ok {l : List S46} {nx kind : Int} {p d : ByteArray} (h : spotT l (pb p) = 0) : newT l nx kind p d = (l ++ [⟨p, ⟨nx, 0, kind, 0, 0⟩, d⟩], nx + 1, 0) := by
 unfold newT
 rw [if_neg (fun q => q h)]
theorem new_bad {l : List S46} {nx kind : Int} {p d : ByteArray} (h : spotT l (pb p) ≠ 0) : newT l nx kind p d = (l, nx, spotT l (pb p)) := by
 unfold newT
 rw [if_pos h]
set_option maxHeartbeats 16000000 in
set_option maxRecDepth 100000 in
theorem edit_c (l : List S46) (g base : Nat) (nx : Int) (x : S33) (w : World) (hS : Sap w g base l nx) (hl : l.length < 2147483648) (hz : SZ l) (hn : 0 ≤ nx ∧ nx < 2147483648) (hT : Tab w) :
  Calls Tryd.prog 32 #[.pointer (some ⟨g, 0, none⟩), editV x] w fun e w' => EdRet (editT l nx x) g base w e w' := by
 have hu33 := Tryd.underlying33
 have HL := Aside0.mk hl
 have HZ := Aside0.mk hz
 have HN := Aside0.mk hn
 have HS := Aside0.mk hS
 have HT := Aside0.mk hT
 have HBL : Aside0 (base ≤ w.heap.size) := ⟨by obtain ⟨v, h1, h2, h3⟩ := hS; have := blk_lt h1; omega⟩
 clear hS hl hz hn hT
 obtain ⟨kd, p, tt, d, hx⟩ : ∃ kd p tt d, x = ⟨kd, p, tt, d⟩ := ⟨x.f0, x.f1, x.f2, x.f3, rfl⟩
 subst hx
 obtain ⟨R, hR⟩ : ∃ R, editT l nx ⟨kd, p, tt, d⟩ = R := ⟨_, rfl⟩
 have HR := Aside0.mk hR
 rw [hR]
 clear hR
 dsimp only [editV]
 go_enter Tryd.func32, Tryd.ntmps32
 by_cases hk : kd = 1
 ·
  subst hk
  go_wp2_with (first | ((with_reducible refine gate_dst (N := 3) rfl ?_); refine box_event ?hg (N := 3) ?hd (cs := #[.int .i64 1, .string p, .string tt, .string d]) (t := 33) ?hr ?_; (case hd => rfl); (case hg => rfl); (case hr => first | (go_simp; done) | (go_simp; rfl)); intro gb hg w5 hbox hb; have n0_ := Aside0.mk (HS.out.below hb); have n1_ := Aside0.mk (HT.out.below hb); have n2_ : Aside0 (Below base w w5) := ⟨below_then (Below.refl base w) HBL.out hb⟩; have n3_ := Aside0.mk hbox; clear HS HT; have HS := n0_; have HT := n1_; have HB := n2_; have BK := n3_; clear n0_ n1_ n2_ n3_ hb hbox hg; have c0 : w5.cell? ⟨gb, 0, none⟩ = some (.int .i64 1) := (blk_cell BK.out 0).trans rfl; have c1 : w5.cell? ⟨gb, 1, none⟩ = some (.string p) := (blk_cell BK.out 1).trans rfl; have c2 : w5.cell? ⟨gb, 2, none⟩ = some (.string tt) := (blk_cell BK.out 2).trans rfl; have c3 : w5.cell? ⟨gb, 3, none⟩ = some (.string d) := (blk_cell BK.out 3).trans rfl))
  clear c0 c1 c2 c3
  refine (remove_c l g base nx p w5 HS.out HL.out HZ.out).mono ?_
  rintro e w6 ⟨rfl, hs6, hb6⟩
  have HF : Aside0 (EdRet ((removeT l (pb p)).1, nx, (removeT l (pb p)).2) g base w (.returned (.int .i64 (removeT l (pb p)).2)) w6) := ⟨⟨rfl, hs6, HB.out.trans hb6⟩⟩
  clear hs6 hb6
  have HE := Aside0.mk ((show editT l nx ⟨1, p, tt, d⟩ = ((removeT l (pb p)).1, nx, (removeT l (pb p)).2) from rfl).symm.trans HR.out)
  go_wp2_with fail
  go_ret
  rw [← HE.out]
  exact HF.out
 by_cases hk5 : kd = 5
 ·
  subst hk5
  go_wp2_with (first | ((with_reducible refine gate_dst (N := 3) rfl ?_); refine box_event ?hg (N := 3) ?hd (cs := #[.int .i64 5, .string p, .string tt, .string d]) (t := 33) ?hr ?_; (case hd => rfl); (case hg => rfl); (case hr => first | (go_simp; done) | (go_simp; rfl)); intro gb hg w5 hbox hb; have n0_ := Aside0.mk (HS.out.below hb); have n1_ := Aside0.mk (HT.out.below hb); have n2_ : Aside0 (Below base w w5) := ⟨below_then (Below.refl base w) HBL.out hb⟩; have n3_ := Aside0.mk hbox; clear HS HT; have HS := n0_; have HT := n1_; have HB := n2_; have BK := n3_; clear n0_ n1_ n2_ n3_ hb hbox hg; have c0 : w5.cell? ⟨gb, 0, none⟩ = some (.int .i64 5) := (blk_cell BK.out 0).trans rfl; have c1 : w5.cell? ⟨gb, 1, none⟩ = some (.string p) := (blk_cell BK.out 1).trans rfl; have c2 : w5.cell? ⟨gb, 2, none⟩ = some (.string tt) := (blk_cell BK.out 2).trans rfl; have c3 : w5.cell? ⟨gb, 3, none⟩ = some (.string d) := (blk_cell BK.out 3).trans rfl))
  clear c0 c1 c2 c3
  refine (link_c l g base nx p tt w5 HS.out HL.out HT.out).mono ?_
  rintro e w6 ⟨rfl, hs6, hb6⟩
  have HF : Aside0 (EdRet ((linkT l p (pb tt)).1, nx, (linkT l p (pb tt)).2) g base w (.returned (.int .i64 (linkT l p (pb tt)).2)) w6) := ⟨⟨rfl, hs6, HB.out.trans hb6⟩⟩
  clear hs6 hb6
  have HE := Aside0.mk ((show editT l nx ⟨5, p, tt, d⟩ = ((linkT l p (pb tt)).1, nx, (linkT l p (pb tt)).2) from rfl).symm.trans HR.out)
  go_wp2_with fail
  go_ret
  rw [← HE.out]
  exact HF.out
 by_cases hk6 : kd = 6
 ·
  subst hk6
  go_wp2_with (first | ((with_reducible refine gate_dst (N := 3) rfl ?_); refine box_event ?hg (N := 3) ?hd (cs := #[.int .i64 6, .string p, .string tt, .string d]) (t := 33) ?hr ?_; (case hd => rfl); (case hg => rfl); (case hr => first | (go_simp; done) | (go_simp; rfl)); intro gb hg w5 hbox hb; have n0_ := Aside0.mk (HS.out.below hb); have n1_ := Aside0.mk (HT.out.below hb); have n2_ : Aside0 (Below base w w5) := ⟨below_then (Below.refl base w) HBL.out hb⟩; have n3_ := Aside0.mk hbox; clear HS HT; have HS := n0_; have HT := n1_; have HB := n2_; have BK := n3_; clear n0_ n1_ n2_ n3_ hb hbox hg; have c0 : w5.cell? ⟨gb, 0, none⟩ = some (.int .i64 6) := (blk_cell BK.out 0).trans rfl; have c1 : w5.cell? ⟨gb, 1, none⟩ = some (.string p) := (blk_cell BK.out 1).trans rfl; have c2 : w5.cell? ⟨gb, 2, none⟩ = some (.string tt) := (blk_cell BK.out 2).trans rfl; have c3 : w5.cell? ⟨gb, 3, none⟩ = some (.string d) := (blk_cell BK.out 3).trans rfl))
  clear c0 c1 c2 c3
  refine (change_c l g base nx p d w5 HS.out HL.out).mono ?_
  rintro e w6 ⟨rfl, hs6, hb6⟩
  have HF : Aside0 (EdRet ((changeT l (pb p) d).1, nx, (changeT l (pb p) d).2) g base w (.returned (.int .i64 (changeT l (pb p) d).2)) w6) := ⟨⟨rfl, hs6, HB.out.trans hb6⟩⟩
  clear hs6 hb6
  have HE := Aside0.mk ((show editT l nx ⟨6, p, tt, d⟩ = ((changeT l (pb p) d).1, nx, (changeT l (pb p) d).2) from rfl).symm.trans HR.out)
  go_wp2_with fail
  go_ret
  rw [← HE.out]
  exact HF.out
 by_cases hk4 : kd = 4
 ·
  subst hk4
  obtain ⟨q0, hq0⟩ : ∃ q0, splitE (pb tt) = q0 := ⟨_, rfl⟩
  have HQ0 := Aside0.mk hq0
  clear hq0
  go_wp2_with (first | ((with_reducible refine gate_dst (N := 3) rfl ?_); refine box_event ?hg (N := 3) ?hd (cs := #[.int .i64 4, .string p, .string tt, .string d]) (t := 33) ?hr ?_; (case hd => rfl); (case hg => rfl); (case hr => first | (go_simp; done) | (go_simp; rfl)); intro gb hg w5 hbox hb; have n0_ := Aside0.mk (HS.out.below hb); have n1_ := Aside0.mk (HT.out.below hb); have n2_ : Aside0 (Below base w w5) := ⟨below_then (Below.refl base w) HBL.out hb⟩; have n3_ := Aside0.mk hbox; clear HS HT; have HS := n0_; have HT := n1_; have HB := n2_; have BK := n3_; clear n0_ n1_ n2_ n3_ hb hbox hg; have c0 : w5.cell? ⟨gb, 0, none⟩ = some (.int .i64 4) := (blk_cell BK.out 0).trans rfl; have c1 : w5.cell? ⟨gb, 1, none⟩ = some (.string p) := (blk_cell BK.out 1).trans rfl; have c2 : w5.cell? ⟨gb, 2, none⟩ = some (.string tt) := (blk_cell BK.out 2).trans rfl; have c3 : w5.cell? ⟨gb, 3, none⟩ = some (.string d) := (blk_cell BK.out 3).trans rfl))
  refine (split_c tt q0 w5 HT.out HQ0.out).mono ?_
  rintro e w6 ⟨⟨v6, rfl⟩, hb6⟩
  have n0_ := Aside0.mk (HS.out.below hb6)
  have n1_ := Aside0.mk (below_then HB.out (Nat.le_trans HBL.out HB.out.size) hb6)
  have n2_ := Aside0.mk (HT.out.below hb6)
  have n3_ := Aside0.mk (blk_below BK.out hb6)
  clear HS HB BK HT c0 c1 c2 c3 hb6
  have HS := n0_
  have HB := n1_
  have HT := n2_
  have BK := n3_
  clear n0_ n1_ n2_ n3_
  by_cases h4 : q0 = 0
  ·
   have HR4 : Aside0 (newT l nx 3 p tt = R) := ⟨by rw [← HR.out]; exact (if_neg (c := splitE (pb tt) ≠ 0) (fun z => z (HQ0.out.trans h4))).symm⟩
   subst h4
   have c0 : w6.cell? ⟨gb, 0, none⟩ = some (.int .i64 4) := (blk_cell BK.out 0).trans rfl
   have c1 : w6.cell? ⟨gb, 1, none⟩ = some (.string p) := (blk_cell BK.out 1).trans rfl
   have c2 : w6.cell? ⟨gb, 2, none⟩ = some (.string tt) := (blk_cell BK.out 2).trans rfl
   have c3 : w6.cell? ⟨gb, 3, none⟩ = some (.string d) := (blk_cell BK.out 3).trans rfl
   go_wp2_with fail
   obtain ⟨q, hq⟩ : ∃ q, spotT l (pb p) = q := ⟨_, rfl⟩
   have HQ := Aside0.mk hq
   clear hq
   refine (spot_c l g base nx p q w6 HS.out HL.out HT.out HQ.out).mono ?_
   rintro e w7 ⟨rfl, hb7⟩
   have n0_ := Aside0.mk (HS.out.below hb7)
   have n1_ := Aside0.mk (below_then HB.out (Nat.le_trans HBL.out HB.out.size) hb7)
   have n3_ := Aside0.mk (blk_below BK.out hb7)
   clear HS HB BK c0 c1 c2 c3 hb7
   have HS := n0_
   have HB := n1_
   have BK := n3_
   clear n0_ n1_ n3_
   by_cases h7 : q = 0
   ·
    have HE : Aside0 (R = (l ++ [⟨p, ⟨nx, 0, 3, 0, 0⟩, tt⟩], nx + 1, 0)) := ⟨by rw [← HR4.out]; exact new_ok (by rw [HQ.out]; exact h7)⟩
    subst h7
    have c0 : w7.cell? ⟨gb, 0, none⟩ = some (.int .i64 4) := (blk_cell BK.out 0).trans rfl
    have c1 : w7.cell? ⟨gb, 1, none⟩ = some (.string p) := (blk_cell BK.out 1).trans rfl
    have c2 : w7.cell? ⟨gb, 2, none⟩ = some (.string tt) := (blk_cell BK.out 2).trans rfl
    have c3 : w7.cell? ⟨gb, 3, none⟩ = some (.string d) := (blk_cell BK.out 3).trans rfl
    go_wp2_with fail
    clear c0 c1 c2 c3
    refine (put_c l g base nx 3 p tt w7 HS.out HL.out).mono ?_
    rintro e w8 ⟨rfl, hs8, hb8⟩
    rw [w64 (by have := HN.out; omega) (by have := HN.out; omega)] at hs8
    have HF : Aside0 (EdRet R g base w (.returned (.int .i64 0)) w8) := ⟨by rw [HE.out]; exact ⟨rfl, hs8, HB.out.trans hb8⟩⟩
    clear hs8 hb8
    go_wp2_with fail
    go_ret
    exact HF.out
   ·
    have z7 : (q != 0) = true := by simpa using h7
    have HF : Aside0 (EdRet R g base w (.returned (.int .i64 q)) w7) := ⟨by
     have e : R = (l, nx, q) := by rw [← HR4.out, ← HQ.out]; exact new_bad (by rw [HQ.out]; exact h7)
     rw [e]
     exact ⟨rfl, HS.out, HB.out⟩⟩
    clear h7
    go_wp2_with fail
    go_ret
    exact HF.out
  ·
   have z4 : (q0 != 0) = true := by simpa using h4
   have HE : Aside0 (R = (l, nx, q0)) := ⟨by rw [← HR.out, ← HQ0.out]; exact if_pos (c := splitE (pb tt) ≠ 0) (by rw [HQ0.out]; exact h4)⟩
   have HF : Aside0 (EdRet R g base w (.returned (.int .i64 q0)) w6) := ⟨by rw [HE.out]; exact ⟨rfl, HS.out, HB.out⟩⟩
   clear h4
   go_wp2_with fail
   go_ret
   exact HF.out
 by_cases hk3 : kd = 3
 ·
  subst hk3
  by_cases h3 : (d.size : Int) > 5675264
  ·
   have z3 : decide ((5675264 : Int) < (d.size : Int)) = true := decide_eq_true h3
   have HE : Aside0 (R = (l, nx, 4)) := ⟨by rw [← HR.out]; exact if_pos h3⟩
   clear h3
   go_wp2_with (first | ((with_reducible refine gate_dst (N := 3) rfl ?_); refine box_event ?hg (N := 3) ?hd (cs := #[.int .i64 3, .string p, .string tt, .string d]) (t := 33) ?hr ?_; (case hd => rfl); (case hg => rfl); (case hr => first | (go_simp; done) | (go_simp; rfl)); intro gb hg w5 hbox hb; have n0_ := Aside0.mk (HS.out.below hb); have n1_ := Aside0.mk (HT.out.below hb); have n2_ : Aside0 (Below base w w5) := ⟨below_then (Below.refl base w) HBL.out hb⟩; have n3_ := Aside0.mk hbox; clear HS HT; have HS := n0_; have HT := n1_; have HB := n2_; have BK := n3_; clear n0_ n1_ n2_ n3_ hb hbox hg; have c0 : w5.cell? ⟨gb, 0, none⟩ = some (.int .i64 3) := (blk_cell BK.out 0).trans rfl; have c1 : w5.cell? ⟨gb, 1, none⟩ = some (.string p) := (blk_cell BK.out 1).trans rfl; have c2 : w5.cell? ⟨gb, 2, none⟩ = some (.string tt) := (blk_cell BK.out 2).trans rfl; have c3 : w5.cell? ⟨gb, 3, none⟩ = some (.string d) := (blk_cell BK.out 3).trans rfl))
   have HF : Aside0 (EdRet R g base w (.returned (.int .i64 4)) w5) := ⟨by rw [HE.out]; exact ⟨rfl, HS.out, HB.out⟩⟩
   go_ret
   exact HF.out
  ·
   have z3 : decide ((5675264 : Int) < (d.size : Int)) = false := decide_eq_false h3
   have HR3 : Aside0 (newT l nx 1 p d = R) := ⟨by rw [← HR.out]; exact (if_neg h3).symm⟩
   clear h3
   go_wp2_with (first | ((with_reducible refine gate_dst (N := 3) rfl ?_); refine box_event ?hg (N := 3) ?hd (cs := #[.int .i64 3, .string p, .string tt, .string d]) (t := 33) ?hr ?_; (case hd => rfl); (case hg => rfl); (case hr => first | (go_simp; done) | (go_simp; rfl)); intro gb hg w5 hbox hb; have n0_ := Aside0.mk (HS.out.below hb); have n1_ := Aside0.mk (HT.out.below hb); have n2_ : Aside0 (Below base w w5) := ⟨below_then (Below.refl base w) HBL.out hb⟩; have n3_ := Aside0.mk hbox; clear HS HT; have HS := n0_; have HT := n1_; have HB := n2_; have BK := n3_; clear n0_ n1_ n2_ n3_ hb hbox hg; have c0 : w5.cell? ⟨gb, 0, none⟩ = some (.int .i64 3) := (blk_cell BK.out 0).trans rfl; have c1 : w5.cell? ⟨gb, 1, none⟩ = some (.string p) := (blk_cell BK.out 1).trans rfl; have c2 : w5.cell? ⟨gb, 2, none⟩ = some (.string tt) := (blk_cell BK.out 2).trans rfl; have c3 : w5.cell? ⟨gb, 3, none⟩ = some (.string d) := (blk_cell BK.out 3).trans rfl))
   obtain ⟨q, hq⟩ : ∃ q, spotT l (pb p) = q := ⟨_, rfl⟩
   have HQ := Aside0.mk hq
   clear hq
   refine (spot_c l g base nx p q w5 HS.out HL.out HT.out HQ.out).mono ?_
   rintro e w7 ⟨rfl, hb7⟩
   have n0_ := Aside0.mk (HS.out.below hb7)
   have n1_ := Aside0.mk (below_then HB.out (Nat.le_trans HBL.out HB.out.size) hb7)
   have n3_ := Aside0.mk (blk_below BK.out hb7)
   clear HS HB BK c0 c1 c2 c3 hb7
   have HS := n0_
   have HB := n1_
   have BK := n3_
   clear n0_ n1_ n3_
   by_cases h7 : q = 0
   ·
    have HE : Aside0 (R = (l ++ [⟨p, ⟨nx, 0, 1, 0, 0⟩, d⟩], nx + 1, 0)) := ⟨by rw [← HR3.out]; exact new_ok (by rw [HQ.out]; exact h7)⟩
    subst h7
    have c0 : w7.cell? ⟨gb, 0, none⟩ = some (.int .i64 3) := (blk_cell BK.out 0).trans rfl
    have c1 : w7.cell? ⟨gb, 1, none⟩ = some (.string p) := (blk_cell BK.out 1).trans rfl
    have c2 : w7.cell? ⟨gb, 2, none⟩ = some (.string tt) := (blk_cell BK.out 2).trans rfl
    have c3 : w7.cell? ⟨gb, 3, none⟩ = some (.string d) := (blk_cell BK.out 3).trans rfl
    go_wp2_with fail
    clear c0 c1 c2 c3
    refine (put_c l g base nx 1 p d w7 HS.out HL.out).mono ?_
    rintro e w8 ⟨rfl, hs8, hb8⟩
    rw [w64 (by have := HN.out; omega) (by have := HN.out; omega)] at hs8
    have HF : Aside0 (EdRet R g base w (.returned (.int .i64 0)) w8) := ⟨by rw [HE.out]; exact ⟨rfl, hs8, HB.out.trans hb8⟩⟩
    clear hs8 hb8
    go_wp2_with fail
    go_ret
    exact HF.out
   ·
    have z7 : (q != 0) = true := by simpa using h7
    have HF : Aside0 (EdRet R g base w (.returned (.int .i64 q)) w7) := ⟨by
     have e : R = (l, nx, q) := by rw [← HR3.out, ← HQ.out]; exact new_bad (by rw [HQ.out]; exact h7)
     rw [e]
     exact ⟨rfl, HS.out, HB.out⟩⟩
    clear h7
    go_wp2_with fail
    go_ret
    exact HF.out
 by_cases hk2 : kd = 2
 ·
  subst hk2
  go_wp2_with (first | ((with_reducible refine gate_dst (N := 3) rfl ?_); refine box_event ?hg (N := 3) ?hd (cs := #[.int .i64 2, .string p, .string tt, .string d]) (t := 33) ?hr ?_; (case hd => rfl); (case hg => rfl); (case hr => first | (go_simp; done) | (go_simp; rfl)); intro gb hg w5 hbox hb; have n0_ := Aside0.mk (HS.out.below hb); have n1_ := Aside0.mk (HT.out.below hb); have n2_ : Aside0 (Below base w w5) := ⟨below_then (Below.refl base w) HBL.out hb⟩; have n3_ := Aside0.mk hbox; clear HS HT; have HS := n0_; have HT := n1_; have HB := n2_; have BK := n3_; clear n0_ n1_ n2_ n3_ hb hbox hg; have c0 : w5.cell? ⟨gb, 0, none⟩ = some (.int .i64 2) := (blk_cell BK.out 0).trans rfl; have c1 : w5.cell? ⟨gb, 1, none⟩ = some (.string p) := (blk_cell BK.out 1).trans rfl; have c2 : w5.cell? ⟨gb, 2, none⟩ = some (.string tt) := (blk_cell BK.out 2).trans rfl; have c3 : w5.cell? ⟨gb, 3, none⟩ = some (.string d) := (blk_cell BK.out 3).trans rfl))
  obtain ⟨q, hq⟩ : ∃ q, spotT l (pb p) = q := ⟨_, rfl⟩
  have HQ := Aside0.mk hq
  clear hq
  refine (spot_c l g base nx p q w5 HS.out HL.out HT.out HQ.out).mono ?_
  rintro e w7 ⟨rfl, hb7⟩
  have n0_ := Aside0.mk (HS.out.below hb7)
  have n1_ := Aside0.mk (below_then HB.out (Nat.le_trans HBL.out HB.out.size) hb7)
  have n3_ := Aside0.mk (blk_below BK.out hb7)
  clear HS HB BK c0 c1 c2 c3 hb7
  have HS := n0_
  have HB := n1_
  have BK := n3_
  clear n0_ n1_ n3_
  by_cases h7 : q = 0
  ·
   have HE : Aside0 (R = (l ++ [⟨p, ⟨nx, 0, 2, 0, 0⟩, eB⟩], nx + 1, 0)) := ⟨by rw [← HR.out]; exact new_ok (by rw [HQ.out]; exact h7)⟩
   subst h7
   have c0 : w7.cell? ⟨gb, 0, none⟩ = some (.int .i64 2) := (blk_cell BK.out 0).trans rfl
   have c1 : w7.cell? ⟨gb, 1, none⟩ = some (.string p) := (blk_cell BK.out 1).trans rfl
   have c2 : w7.cell? ⟨gb, 2, none⟩ = some (.string tt) := (blk_cell BK.out 2).trans rfl
   have c3 : w7.cell? ⟨gb, 3, none⟩ = some (.string d) := (blk_cell BK.out 3).trans rfl
   go_wp2_with fail
   clear c0 c1 c2 c3
   refine (put_c l g base nx 2 p eB w7 HS.out HL.out).mono ?_
   rintro e w8 ⟨rfl, hs8, hb8⟩
   rw [w64 (by have := HN.out; omega) (by have := HN.out; omega)] at hs8
   have HF : Aside0 (EdRet R g base w (.returned (.int .i64 0)) w8) := ⟨by rw [HE.out]; exact ⟨rfl, hs8, HB.out.trans hb8⟩⟩
   clear hs8 hb8
   go_wp2_with fail
   go_ret
   exact HF.out
  ·
   have z7 : (q != 0) = true := by simpa using h7
   have HF : Aside0 (EdRet R g base w (.returned (.int .i64 q)) w7) := ⟨by
    have e : R = (l, nx, q) := by rw [← HR.out, ← HQ.out]; exact new_bad (by rw [HQ.out]; exact h7)
    rw [e]
    exact ⟨rfl, HS.out, HB.out⟩⟩
   clear h7
   go_wp2_with fail
   go_ret
   exact HF.out
 ·
  have z1 : (kd == 1) = false := beq_eq_false_iff_ne.2 hk
  have z2 : (kd == 2) = false := beq_eq_false_iff_ne.2 hk2
  have z3 : (kd == 3) = false := beq_eq_false_iff_ne.2 hk3
  have z4 : (kd == 4) = false := beq_eq_false_iff_ne.2 hk4
  have z5 : (kd == 5) = false := beq_eq_false_iff_ne.2 hk5
  have z6 : (kd == 6) = false := beq_eq_false_iff_ne.2 hk6
  have HE : Aside0 (R = (l, nx, 1)) := ⟨by rw [← HR.out, editT, if_neg hk, if_neg hk5, if_neg hk6, if_neg hk4, if_neg hk3, if_neg hk2]⟩
  clear hk hk2 hk3 hk4 hk5 hk6
  go_wp2_with (first | ((with_reducible refine gate_dst (N := 3) rfl ?_); refine box_event ?hg (N := 3) ?hd (cs := #[.int .i64 kd, .string p, .string tt, .string d]) (t := 33) ?hr ?_; (case hd => rfl); (case hg => rfl); (case hr => first | (go_simp; done) | (go_simp; rfl)); intro gb hg w5 hbox hb; have n0_ := Aside0.mk (HS.out.below hb); have n1_ := Aside0.mk (HT.out.below hb); have n2_ : Aside0 (Below base w w5) := ⟨below_then (Below.refl base w) HBL.out hb⟩; have n3_ := Aside0.mk hbox; clear HS HT; have HS := n0_; have HT := n1_; have HB := n2_; have BK := n3_; clear n0_ n1_ n2_ n3_ hb hbox hg; have c0 : w5.cell? ⟨gb, 0, none⟩ = some (.int .i64 kd) := (blk_cell BK.out 0).trans rfl; have c1 : w5.cell? ⟨gb, 1, none⟩ = some (.string p) := (blk_cell BK.out 1).trans rfl; have c2 : w5.cell? ⟨gb, 2, none⟩ = some (.string tt) := (blk_cell BK.out 2).trans rfl; have c3 : w5.cell? ⟨gb, 3, none⟩ = some (.string d) := (blk_cell BK.out 3).trans rfl))
  have HF : Aside0 (EdRet R g base w (.returned (.int .i64 1)) w5) := ⟨by rw [HE.out]; exact ⟨rfl, HS.out, HB.out⟩⟩
  go_ret
  exact HF.out
end Go.Proofs.YtoggfapafjgkdaaDoor.T
namespace Go.Proofs.YtoggfapafjgkdaaDoor.T
open Go.RowKit Go.Proofs.YtoggfapafjgkdaaDoorW.PrintWords Go.Proofs.YtoggfapafjgkdaaDoorW.PrintLast Go.Proofs.YtoggfapafjgkdaaDoorW.PrintMore Go.Proofs.YtoggfapafjgkdaaDoor.PAll
set_option linter.unusedSimpArgs false
set_option linter.unusedVariables false
/-- Edits, one by one: the nodes behind them, or none; how many were done; the error. -/
noncomputable def runE : List S46 → Int → List S33 → Nat → Option (List S46) × Nat × Int
 | l, nx, [], i => (some l, i, 0)
 | l, nx, x :: r, i => if (editT l nx x).2.2 = 0 then runE (editT l nx x).1 (editT l nx x).2.1 r (i + 1) else (none, i, (editT l nx x).2.2)
/-- What is told of that. -/
noncomputable def outE : Option (List S46) × Nat × Int → List S46 × Int × Int
 | (some l, i, _) => ((normT l).1, i, (normT l).2)
 | (none, i, e) => ([], i, e)
open Classical in
/-- A tree behind edits. -/
noncomputable def applyT (a : List S46) (L : List S33) : List S46 × Int × Int :=
 if Formed a then outE (runE a (a.length + 1) L 0) else ([], 0, 5)
/-- What holds of the nodes that are being changed. -/
structure Gd (l : List S46) (nx : Int) (m : Nat) : Prop where
 len : l.length ≤ m
 sz : SZ l
 wf : Wf l
 lo : 0 ≤ nx
 hi : nx ≤ m + 1
theorem spot_sz {l : List S46} {p : ByteArray} (h : spotT l (pb p) = 0) : p.size ≤ 255 := by
 unfold spotT at h
 by_cases h1 : splitE (pb p) ≠ 0
 ·
  rw [if_pos h1] at h
  exact absurd h h1
 ·
  obtain ⟨t, e, _, hl⟩ := splitE_form (Decidable.not_not.1 h1)
  rw [pb_len] at hl
  exact hl
theorem Gd.snoc {l : List S46} {nx : Int} {m : Nat} (h : Gd l nx m) (hm : m < 1000000) {n : S46} (hs : n.f0.size ≤ 255) (hi : (Lit.int .i64 (ino n)).wf = true) (nx' : Int) (h0 : 0 ≤ nx') (h1 : nx' ≤ nx + 1) : Gd (l ++ [n]) nx' (m + 1) := by
 refine ⟨?_, fun q hq => ?_, h.wf.snoc hi, h0, ?_⟩
 ·
  rw [List.length_append]
  have := h.len
  simp
  omega
 ·
  rcases List.mem_append.1 hq with hq | hq
  ·
   exact h.sz q hq
  ·
   rcases List.mem_cons.1 hq with rfl | hq
   ·
    exact hs
   ·
    cases hq
 ·
  have := h.hi
  omega
theorem Gd.more {l : List S46} {nx : Int} {m : Nat} (h : Gd l nx m) : Gd l nx (m + 1) := ⟨by have := h.len; omega, h.sz, h.wf, h.lo, by have := h.hi; omega⟩
theorem Gd.new {l : List S46} {nx kind : Int} {m : Nat} (h : Gd l nx m) (hm : m < 1000000) (p d : ByteArray) : Gd (newT l nx kind p d).1 (newT l nx kind p d).2.1 (m + 1) := by
 by_cases hs : spotT l (pb p) = 0
 ·
  rw [new_ok hs]
  have hw : (Lit.int .i64 nx).wf = true := by
   have h1 := h.lo
   have h2 := h.hi
   obtain ⟨k, rfl⟩ : ∃ k : Nat, nx = (k : Int) := ⟨nx.toNat, by omega⟩
   exact nat_wf (by omega)
  exact h.snoc (n := ⟨p, ⟨nx, 0, kind, 0, 0⟩, d⟩) hm (spot_sz hs) hw (nx + 1) (by have := h.lo; omega) (Int.le_refl _)
 ·
  rw [new_bad hs]
  exact h.more
theorem Gd.edit {l : List S46} {nx : Int} {m : Nat} (h : Gd l nx m) (hm : m < 1000000) (x : S33) : Gd (editT l nx x).1 (editT l nx x).2.1 (m + 1) := by
 unfold editT
 split
 ·
  unfold removeT
  split
  ·
   exact h.more
  ·
   split
   ·
    exact h.more
   ·
    split
    ·
     exact h.more
    ·
     refine ⟨?_, fun n hn => h.sz n (List.mem_of_mem_eraseIdx hn), fun n hn => h.wf n (List.mem_of_mem_eraseIdx hn), h.lo, (show nx ≤ ((m + 1 : Nat) : Int) + 1 by have := h.hi; omega)⟩
     have := h.len
     have h2 := List.length_eraseIdx_le l (findI (pb x.f1) 0 l).toNat
     show (l.eraseIdx (findI (pb x.f1) 0 l).toNat).length ≤ m + 1
     omega
 ·
  split
  ·
   unfold linkT
   split
   ·
    exact h.more
   ·
    rename_i h0
    split
    ·
     exact h.more
    ·
     split
     ·
      exact h.more
     ·
      rename_i hs
      refine h.snoc hm (spot_sz (Decidable.not_not.1 hs)) ?_ nx h.lo (by omega)
      rcases findI_cases (pb x.f2) l 0 with ⟨e, _⟩ | ⟨k, hk, e, _⟩
      ·
       exact absurd (by rw [e]; decide) h0
      ·
       rw [e, Nat.zero_add]
       exact (show (Lit.int .i64 (ino (rd_T46 l (k : Int)))).wf = true from h.wf _ (rdn_mem hk))
  ·
   split
   ·
    unfold changeT
    split
    ·
     exact h.more
    ·
     split
     ·
      exact h.more
     ·
      split
      ·
       exact h.more
      ·
       refine ⟨?_, fun n hn => ?_, fun n hn => ?_, h.lo, (show nx ≤ ((m + 1 : Nat) : Int) + 1 by have := h.hi; omega)⟩
       ·
        have := h.len
        show (l.map _).length ≤ m + 1
        rw [List.length_map]
        omega
       ·
        obtain ⟨q, hq, rfl⟩ := List.mem_map.1 hn
        unfold fillN
        split
        ·
         exact h.sz q hq
        ·
         exact h.sz q hq
       ·
        obtain ⟨q, hq, rfl⟩ := List.mem_map.1 hn
        unfold fillN
        split
        ·
         exact h.wf q hq
        ·
         exact h.wf q hq
   ·
    split
    ·
     split
     ·
      exact h.more
     ·
      exact h.new hm _ _
    ·
     split
     ·
      split
      ·
       exact h.more
      ·
       exact h.new hm _ _
     ·
      split
      ·
       exact h.new hm _ _
      ·
       exact h.more
end Go.Proofs.YtoggfapafjgkdaaDoor.T
namespace Go.Proofs.YtoggfapafjgkdaaDoor.T
open Go.RowKit Go.Proofs.YtoggfapafjgkdaaDoorW.PrintWords Go.Proofs.YtoggfapafjgkdaaDoorW.PrintLast Go.Proofs.YtoggfapafjgkdaaDoorW.PrintMore Go.Proofs.YtoggfapafjgkdaaDoor.PAll
set_option linter.unusedSimpArgs false
set_option linter.unusedVariables false
theorem may_1 {n : S46} (hs : splitE (pth n) = 0) (hk : knd n = 1) (hd : (dat n).length ≤ 5675264) : mayN n = true := by
 unfold mayN
 rw [if_pos hs, if_neg (by omega), if_pos ⟨hk, hd⟩]
theorem may_2 {n : S46} (hs : splitE (pth n) = 0) (hk : knd n = 2) (hd : dat n = []) : mayN n = true := by
 unfold mayN
 rw [if_pos hs, if_pos hk]
 exact decide_eq_true hd
theorem may_3 {n : S46} (hs : splitE (pth n) = 0) (hk : knd n = 3) (hd : splitE (dat n) = 0) : mayN n = true := by
 unfold mayN
 rw [if_pos hs, if_neg (by omega), if_neg (by omega), if_pos hk]
 exact decide_eq_true hd
theorem may_file {n : S46} (h : mayN n = true) (hk : knd n = 1) : (dat n).length ≤ 5675264 := by
 unfold mayN at h
 rw [if_pos (may_split h), if_neg (by omega)] at h
 by_cases q : knd n = 1 ∧ (dat n).length ≤ 5675264
 ·
  exact q.2
 ·
  rw [if_neg q, if_neg (by omega)] at h
  cases h
theorem spot_ok {l : List S46} {p : List UInt8} (h : spotT l p = 0) : splitE p = 0 ∧ (∀ m ∈ l, pth m ≠ p) ∧ ∃ d ∈ l, pth d = abv p ∧ knd d = 2 := by
 unfold spotT at h
 by_cases h1 : splitE p ≠ 0
 ·
  rw [if_pos h1] at h
  exact absurd h h1
 ·
  rw [if_neg h1] at h
  by_cases h2 : 0 ≤ findI p 0 l
  ·
   rw [if_pos h2] at h
   cases h
  ·
   rw [if_neg h2] at h
   by_cases h3 : findI (abv p) 0 l < 0
   ·
    rw [if_pos h3] at h
    cases h
   ·
    rw [if_neg h3] at h
    by_cases h4 : knd (rd_T46 l (findI (abv p) 0 l)) ≠ 2
    ·
     rw [if_pos h4] at h
     cases h
    ·
     refine ⟨Decidable.not_not.1 h1, ?_, ?_⟩
     ·
      rcases findI_cases p l 0 with ⟨_, e⟩ | ⟨k, hk, e, _⟩
      ·
       exact e
      ·
       exact absurd (by rw [e]; omega) h2
     ·
      rcases findI_cases (abv p) l 0 with ⟨e, _⟩ | ⟨k, hk, e, e1, _⟩
      ·
       exact absurd (by rw [e]; decide) h3
      ·
       rw [e, Nat.zero_add] at h4
       exact ⟨_, rdn_mem hk, e1, Decidable.not_not.1 h4⟩
theorem Tree.snoc {l : List S46} (T : Tree l) {n : S46} (hm : mayN n = true) (hp : ∀ m ∈ l, pth m ≠ pth n) (hd : ∃ d ∈ l, pth d = abv (pth n) ∧ knd d = 2)
  (ht : ∀ m ∈ l, ino m = ino n → knd m = 1 ∧ knd n = 1 ∧ dat m = dat n) : Tree (l ++ [n]) := by
 have M : ∀ {q : S46}, q ∈ l ++ [n] → q ∈ l ∨ q = n := fun {q} hq => by
  rcases List.mem_append.1 hq with hq | hq
  ·
   exact .inl hq
  ·
   exact .inr (List.mem_singleton.1 hq)
 refine ⟨fun q hq => ?_, ?_, ?_, fun q hq hr => ?_, fun q hq m hmm e => ?_⟩
 ·
  rcases M hq with hq | rfl
  ·
   exact T.may q hq
  ·
   exact hm
 ·
  rw [List.map_append]
  refine List.nodup_append.2 ⟨T.nodup, by simp, fun a ha b hb => ?_⟩
  obtain ⟨q, hq, rfl⟩ := List.mem_map.1 ha
  obtain rfl : b = pth n := by simpa using hb
  exact hp q hq
 ·
  obtain ⟨r, hr, e⟩ := T.root
  exact ⟨r, List.mem_append_left _ hr, e⟩
 ·
  rcases M hq with hq | rfl
  ·
   obtain ⟨d, hd, e⟩ := T.up q hq hr
   exact ⟨d, List.mem_append_left _ hd, e⟩
  ·
   obtain ⟨d, hd, e⟩ := hd
   exact ⟨d, List.mem_append_left _ hd, e⟩
 ·
  rcases M hq with hq1 | rfl
  ·
   rcases M hmm with hm1 | rfl
   ·
    exact T.twins q hq1 m hm1 e
   ·
    exact .inr (ht q hq1 e)
  ·
   rcases M hmm with hmm | rfl
   ·
    obtain ⟨h1, h2, h3⟩ := ht m hmm e.symm
    exact .inr ⟨h2, h1, h3.symm⟩
   ·
    exact .inl rfl
/-- A tree whose numbers are below the next one. -/
def Inv (l : List S46) (nx : Int) : Prop := Tree l ∧ ∀ n ∈ l, ino n < nx
theorem inv_new {l : List S46} {nx kind : Int} {p d : ByteArray} (h : Inv l nx) (hk : splitE (pb p) = 0 → mayN ⟨p, ⟨nx, 0, kind, 0, 0⟩, d⟩ = true) (h0 : (newT l nx kind p d).2.2 = 0) : Inv (newT l nx kind p d).1 (newT l nx kind p d).2.1 := by
 by_cases hs : spotT l (pb p) = 0
 ·
  rw [new_ok hs]
  obtain ⟨h1, h2, h3⟩ := spot_ok hs
  refine ⟨h.1.snoc (hk h1) h2 h3 (fun m hm e => ?_), fun n hn => ?_⟩
  ·
   have := h.2 m hm
   have e2 : ino m = nx := e
   omega
  ·
   show ino n < nx + 1
   rcases List.mem_append.1 hn with hn | hn
   ·
    have := h.2 n hn
    omega
   ·
    obtain rfl := List.mem_singleton.1 hn
    show nx < nx + 1
    omega
 ·
  rw [new_bad hs] at h0
  exact absurd h0 hs
theorem Tree.node {l : List S46} (T : Tree l) {n m : S46} (hn : n ∈ l) (hm : m ∈ l) (e : pth n = pth m) : n = m := by
 obtain ⟨i, hi, rfl⟩ := List.mem_iff_getElem.1 hn
 obtain ⟨j, hj, rfl⟩ := List.mem_iff_getElem.1 hm
 have := nodup_at T.nodup hi hj e
 subst this
 rfl
theorem mem_erase_path {l : List S46} (T : Tree l) {i : Nat} (hi : i < l.length) {n : S46} : n ∈ l.eraseIdx i ↔ n ∈ l ∧ pth n ≠ pth (rd_T46 l (i : Int)) := by
 have e0 : rd_T46 l (i : Int) = l[i] := rd_at hi
 rw [List.mem_eraseIdx_iff_getElem]
 constructor
 ·
  rintro ⟨j, hj, hne, rfl⟩
  refine ⟨List.getElem_mem hj, fun e => hne ?_⟩
  rw [e0] at e
  exact nodup_at T.nodup hj hi e
 ·
  rintro ⟨hn, hne⟩
  obtain ⟨j, hj, rfl⟩ := List.mem_iff_getElem.1 hn
  refine ⟨j, hj, fun e => hne ?_, rfl⟩
  subst e
  rw [e0]
theorem inv_remove {l : List S46} {nx : Int} {p : List UInt8} (h : Inv l nx) (h0 : (removeT l p).2 = 0) : Inv (removeT l p).1 nx := by
 unfold removeT at h0 ⊢
 by_cases h1 : findI p 0 l < 0
 ·
  rw [if_pos h1] at h0
  cases h0
 ·
  rw [if_neg h1] at h0 ⊢
  by_cases h2 : p = [47]
  ·
   rw [if_pos h2] at h0
   cases h0
  ·
   rw [if_neg h2] at h0 ⊢
   by_cases h3 : ∃ n ∈ l, childN p n
   ·
    rw [if_pos h3] at h0
    cases h0
   ·
    rw [if_neg h3] at h0 ⊢
    rcases findI_cases p l 0 with ⟨e, _⟩ | ⟨i, hi, e, e1, _⟩
    ·
     exact absurd (by rw [e]; decide) h1
    ·
     rw [e, Nat.zero_add, Int.toNat_natCast]
     have T := h.1
     have M := fun n => mem_erase_path T hi (n := n)
     refine ⟨⟨fun n hn => T.may n ((M n).1 hn).1, ?_, ?_, fun n hn hr => ?_, fun n hn m hm => T.twins n ((M n).1 hn).1 m ((M m).1 hm).1⟩, fun n hn => h.2 n ((M n).1 hn).1⟩
     ·
      exact T.nodup.sublist ((List.eraseIdx_sublist l i).map pth)
     ·
      obtain ⟨r, hr, er, ek⟩ := T.root
      exact ⟨r, (M r).2 ⟨hr, by rw [er, e1]; exact fun q => h2 q.symm⟩, er, ek⟩
     ·
      obtain ⟨d, hd, ed, ek⟩ := T.up n ((M n).1 hn).1 hr
      refine ⟨d, (M d).2 ⟨hd, fun q => h3 ⟨n, ((M n).1 hn).1, hr, ?_⟩⟩, ed, ek⟩
      rw [← ed, q, e1]
theorem inv_link {l : List S46} {nx : Int} {p : ByteArray} {tt : List UInt8} (h : Inv l nx) (h0 : (linkT l p tt).2 = 0) : Inv (linkT l p tt).1 nx := by
 unfold linkT at h0 ⊢
 by_cases h1 : findI tt 0 l < 0
 ·
  rw [if_pos h1] at h0
  cases h0
 ·
  rw [if_neg h1] at h0 ⊢
  rcases findI_cases tt l 0 with ⟨e, _⟩ | ⟨k, hk, e, e1, _⟩
  ·
   exact absurd (by rw [e]; decide) h1
  ·
   rw [e, Nat.zero_add] at h0 ⊢
   by_cases h2 : knd (rd_T46 l (k : Int)) ≠ 1
   ·
    rw [if_pos h2] at h0
    cases h0
   ·
    rw [if_neg h2] at h0 ⊢
    by_cases h3 : spotT l (pb p) ≠ 0
    ·
     rw [if_pos h3] at h0
     exact absurd h0 h3
    ·
     rw [if_neg h3]
     obtain ⟨s1, s2, s3⟩ := spot_ok (Decidable.not_not.1 h3)
     have hmem : rd_T46 l (k : Int) ∈ l := rdn_mem hk
     have hkind : knd (rd_T46 l (k : Int)) = 1 := Decidable.not_not.1 h2
     refine ⟨h.1.snoc (n := ⟨p, (rd_T46 l (k : Int)).f1, (rd_T46 l (k : Int)).f2⟩) (may_1 s1 hkind (show (dat (rd_T46 l (k : Int))).length ≤ 5675264 from may_file (h.1.may _ hmem) hkind)) s2 s3 (fun m hm em => ?_), fun n hn => ?_⟩
     ·
      rcases h.1.twins m hm _ hmem em with q | q
      ·
       have := h.1.node hm hmem q
       subst this
       exact ⟨hkind, hkind, rfl⟩
      ·
       exact q
     ·
      rcases List.mem_append.1 hn with hn | hn
      ·
       exact h.2 n hn
      ·
       obtain rfl := List.mem_singleton.1 hn
       exact (show ino (rd_T46 l (k : Int)) < nx from h.2 _ hmem)
theorem inv_change {l : List S46} {nx : Int} {p : List UInt8} {d : ByteArray} (h : Inv l nx) (h0 : (changeT l p d).2 = 0) : Inv (changeT l p d).1 nx := by
 unfold changeT at h0 ⊢
 by_cases h1 : findI p 0 l < 0
 ·
  rw [if_pos h1] at h0
  cases h0
 ·
  rw [if_neg h1] at h0 ⊢
  rcases findI_cases p l 0 with ⟨e, _⟩ | ⟨k, hk, e, e1, _⟩
  ·
   exact absurd (by rw [e]; decide) h1
  ·
   rw [e, Nat.zero_add] at h0 ⊢
   by_cases h2 : knd (rd_T46 l (k : Int)) ≠ 1
   ·
    rw [if_pos h2] at h0
    cases h0
   ·
    rw [if_neg h2] at h0 ⊢
    by_cases h3 : (d.size : Int) > 5675264
    ·
     rw [if_pos h3] at h0
     cases h0
    ·
     rw [if_neg h3]
     have hmem : rd_T46 l (k : Int) ∈ l := rdn_mem hk
     have hkind : knd (rd_T46 l (k : Int)) = 1 := Decidable.not_not.1 h2
     generalize rd_T46 l (k : Int) = x at hmem hkind
     have T := h.1
     have K1 : ∀ n ∈ l, ino n = ino x → knd n = 1 := fun n hn en => by
      rcases T.twins n hn x hmem en with q | q
      ·
       rw [T.node hn hmem q]
       exact hkind
      ·
       exact q.1
     have P : ∀ n, pth (fillN (ino x) d n) = pth n := fun n => by unfold fillN; split <;> rfl
     have KD : ∀ n, knd (fillN (ino x) d n) = knd n := fun n => by unfold fillN; split <;> rfl
     have IN : ∀ n, ino (fillN (ino x) d n) = ino n := fun n => by unfold fillN; split <;> rfl
     refine ⟨⟨fun n hn => ?_, ?_, ?_, fun n hn hr => ?_, fun n hn m hm en => ?_⟩, fun n hn => ?_⟩
     ·
      obtain ⟨q, hq, rfl⟩ := List.mem_map.1 hn
      by_cases hi : ino q = ino x
      ·
       refine may_1 (by rw [P]; exact may_split (T.may q hq)) (by rw [KD]; exact K1 q hq hi) ?_
       unfold fillN
       rw [if_pos hi]
       show (pb d).length ≤ _
       rw [pb_len]
       omega
      ·
       unfold fillN
       rw [if_neg hi]
       exact T.may q hq
     ·
      rw [List.map_map, show (pth ∘ fillN (ino x) d) = pth from funext P]
      exact T.nodup
     ·
      obtain ⟨r, hr, er, ek⟩ := T.root
      exact ⟨_, List.mem_map.2 ⟨r, hr, rfl⟩, by rw [P]; exact er, by rw [KD]; exact ek⟩
     ·
      obtain ⟨q, hq, rfl⟩ := List.mem_map.1 hn
      rw [P] at hr ⊢
      obtain ⟨b, hb, eb, ek⟩ := T.up q hq hr
      exact ⟨_, List.mem_map.2 ⟨b, hb, rfl⟩, by rw [P]; exact eb, by rw [KD]; exact ek⟩
     ·
      obtain ⟨q, hq, rfl⟩ := List.mem_map.1 hn
      obtain ⟨r, hr, rfl⟩ := List.mem_map.1 hm
      rw [IN, IN] at en
      by_cases hi : ino q = ino x
      ·
       refine .inr ⟨by rw [KD]; exact K1 q hq hi, by rw [KD]; exact K1 r hr (en.symm.trans hi), ?_⟩
       unfold fillN
       rw [if_pos hi, if_pos (en.symm.trans hi)]
       rfl
      ·
       rw [P, P, KD, KD]
       have e1 : fillN (ino x) d q = q := by unfold fillN; rw [if_neg hi]
       have e2 : fillN (ino x) d r = r := by unfold fillN; rw [if_neg (fun z => hi (en.trans z))]
       rw [e1, e2]
       exact T.twins q hq r hr en
     ·
      obtain ⟨q, hq, rfl⟩ := List.mem_map.1 hn
      rw [IN]
      exact h.2 q hq
theorem inv_edit {l : List S46} {nx : Int} {x : S33} (h : Inv l nx) (h0 : (editT l nx x).2.2 = 0) : Inv (editT l nx x).1 (editT l nx x).2.1 := by
 unfold editT at h0 ⊢
 by_cases h1 : x.f0 = 1
 ·
  rw [if_pos h1] at h0 ⊢
  exact inv_remove h h0
 rw [if_neg h1] at h0 ⊢
 by_cases h5 : x.f0 = 5
 ·
  rw [if_pos h5] at h0 ⊢
  exact inv_link h h0
 rw [if_neg h5] at h0 ⊢
 by_cases h6 : x.f0 = 6
 ·
  rw [if_pos h6] at h0 ⊢
  exact inv_change h h0
 rw [if_neg h6] at h0 ⊢
 by_cases h4 : x.f0 = 4
 ·
  rw [if_pos h4] at h0 ⊢
  by_cases hs : splitE (pb x.f2) ≠ 0
  ·
   rw [if_pos hs] at h0
   exact absurd h0 hs
  ·
   rw [if_neg hs] at h0 ⊢
   exact inv_new h (fun q => may_3 q rfl (Decidable.not_not.1 hs)) h0
 rw [if_neg h4] at h0 ⊢
 by_cases h3 : x.f0 = 3
 ·
  rw [if_pos h3] at h0 ⊢
  by_cases hs : (x.f3.size : Int) > 5675264
  ·
   rw [if_pos hs] at h0
   cases h0
  ·
   rw [if_neg hs] at h0 ⊢
   exact inv_new h (fun q => may_1 q rfl (show (pb x.f3).length ≤ _ by rw [pb_len]; omega)) h0
 rw [if_neg h3] at h0 ⊢
 by_cases h2 : x.f0 = 2
 ·
  rw [if_pos h2] at h0 ⊢
  exact inv_new h (fun q => may_2 q rfl rfl) h0
 ·
  rw [if_neg h2] at h0
  cases h0
theorem Formed.inv {a : List S46} (h : Formed a) : Inv a ((a.length : Int) + 1) := ⟨h.1, fun n hn => by
 obtain ⟨k, hk, e⟩ := h.ir n hn
 omega⟩
end Go.Proofs.YtoggfapafjgkdaaDoor.T
namespace Go.Proofs.YtoggfapafjgkdaaDoor.T
open Go.RowKit Go.Proofs.YtoggfapafjgkdaaDoorW.PrintWords Go.Proofs.YtoggfapafjgkdaaDoorW.PrintLast Go.Proofs.YtoggfapafjgkdaaDoorW.PrintMore Go.Proofs.YtoggfapafjgkdaaDoor.PAll
set_option linter.unusedSimpArgs false
set_option linter.unusedVariables false
def vw (n : S46) : ByteArray × Int × ByteArray := (n.f0, knd n, n.f2)
def Tw (n m : S46) : Prop := vw n = vw m
theorem Tw.f0 {n m : S46} (h : Tw n m) : n.f0 = m.f0 := congrArg (fun x => x.1) h
theorem Tw.pth {n m : S46} (h : Tw n m) : T.pth n = T.pth m := congrArg pb h.f0
theorem Tw.knd {n m : S46} (h : Tw n m) : T.knd n = T.knd m := congrArg (fun x => x.2.1) h
theorem Tw.f2 {n m : S46} (h : Tw n m) : n.f2 = m.f2 := congrArg (fun x => x.2.2) h
theorem Tw.dat {n m : S46} (h : Tw n m) : T.dat n = T.dat m := congrArg pb h.f2
theorem Tw.mk {n m : S46} (h : n.f0 = m.f0) (h2 : T.knd n = T.knd m) (h3 : n.f2 = m.f2) : Tw n m := by
 unfold Tw vw
 rw [h, h2, h3]
/-- Two lists of nodes are alike. -/
structure Like (s a : List S46) : Prop where
 fwd : ∀ n ∈ s, ∃ m ∈ a, Tw n m
 bwd : ∀ m ∈ a, ∃ n ∈ s, Tw n m
 pat : ∀ n ∈ s, ∀ n' ∈ s, ∀ m ∈ a, ∀ m' ∈ a, Tw n m → Tw n' m' → (ino n = ino n' ↔ ino m = ino m')
theorem tw_sorted : ∀ (s a : List S46), SS s → SS a → (∀ n ∈ s, ∃ m ∈ a, Tw n m) → (∀ m ∈ a, ∃ n ∈ s, Tw n m) → s.map vw = a.map vw
 | [], [], _, _, _, _ => rfl
 | [], y :: b, _, _, _, h => by
  obtain ⟨n, hn, _⟩ := h y (List.mem_cons_self ..)
  cases hn
 | x :: a, [], _, _, h, _ => by
  obtain ⟨n, hn, _⟩ := h x (List.mem_cons_self ..)
  cases hn
 | x :: a, y :: b, ha, hb, hf, hg => by
  have ha1 := List.pairwise_cons.1 ha
  have hb1 := List.pairwise_cons.1 hb
  have hxy : Tw x y := by
   obtain ⟨m, hm, e⟩ := hf x (List.mem_cons_self ..)
   rcases List.mem_cons.1 hm with rfl | hm
   ·
    exact e
   ·
    obtain ⟨n, hn, e2⟩ := hg y (List.mem_cons_self ..)
    rcases List.mem_cons.1 hn with rfl | hn
    ·
     exact e2
    ·
     have h1 := hb1.1 m hm
     have h2 := ha1.1 n hn
     rw [← e.pth] at h1
     rw [e2.pth] at h2
     exact absurd (key_trans h1 h2) (key_irrefl _)
  rw [List.map_cons, List.map_cons, show vw x = vw y from hxy, tw_sorted a b ha1.2 hb1.2 (fun z hz => ?_) (fun z hz => ?_)]
  ·
   obtain ⟨m, hm, e⟩ := hf z (List.mem_cons_of_mem _ hz)
   rcases List.mem_cons.1 hm with rfl | hm
   ·
    have h1 := ha1.1 z hz
    rw [e.pth, hxy.pth] at h1
    exact absurd h1 (key_irrefl _)
   ·
    exact ⟨m, hm, e⟩
  ·
   obtain ⟨m, hm, e⟩ := hg z (List.mem_cons_of_mem _ hz)
   rcases List.mem_cons.1 hm with rfl | hm
   ·
    have h1 := hb1.1 z hz
    rw [← e.pth, ← hxy.pth] at h1
    exact absurd h1 (key_irrefl _)
   ·
    exact ⟨m, hm, e⟩
theorem map_vw {s a : List S46} (h : s.map vw = a.map vw) : s.length = a.length ∧ ∀ (i : Nat) (h1 : i < s.length) (h2 : i < a.length), Tw s[i] a[i] := by
 have hl : s.length = a.length := by
  have := congrArg List.length h
  simpa using this
 refine ⟨hl, fun i h1 h2 => ?_⟩
 have := congrArg (fun l => l[i]?) h
 show vw s[i] = vw a[i]
 simpa [h1, h2] using this
theorem fst_alike (x y : Int) : ∀ (s a : List S46) (j : Nat), s.length = a.length → (∀ (i : Nat) (h1 : i < s.length) (h2 : i < a.length), ino s[i] = x ↔ ino a[i] = y) → fstI x j s = fstI y j a ∧ cnt x s = cnt y a
 | [], [], j, _, _ => ⟨rfl, rfl⟩
 | [], m :: r, j, h, _ => by simp at h
 | n :: r, [], j, h, _ => by simp at h
 | n :: s, m :: a, j, h, hi => by
  obtain ⟨h1, h2⟩ := fst_alike x y s a (j + 1) (by simpa using h) (fun i q1 q2 => by
   have := hi (i + 1) (by simpa using q1) (by simpa using q2)
   simpa using this)
  have h0 : ino n = x ↔ ino m = y := by
   have := hi 0 (by simp) (by simp)
   simpa using this
  unfold fstI cnt
  by_cases e : ino n = x
  ·
   rw [if_pos e, if_pos (h0.1 e), if_pos e, if_pos (h0.1 e), h2]
   exact ⟨rfl, rfl⟩
  ·
   rw [if_neg e, if_neg (fun q => e (h0.2 q)), if_neg e, if_neg (fun q => e (h0.2 q)), h1, h2]
   exact ⟨rfl, rfl⟩
theorem canon_alike {s a : List S46} (h : s.map vw = a.map vw) (hp : ∀ (i j : Nat) (h1 : i < s.length) (h2 : j < s.length) (h3 : i < a.length) (h4 : j < a.length), ino s[i] = ino s[j] ↔ ino a[i] = ino a[j]) : canon s = canon a := by
 obtain ⟨hl, ht⟩ := map_vw h
 apply List.ext_getElem
 ·
  rw [canon_len, canon_len, hl]
 ·
  intro i h1 h2
  rw [canon_len] at h1 h2
  simp only [canon, List.getElem_map]
  obtain ⟨e1, e2⟩ := fst_alike (ino s[i]) (ino a[i]) s a 0 hl (fun k q1 q2 => hp k i q1 h1 q2 h2)
  have e3 := ht i h1 h2
  simp only [statOf]
  rw [e1, e2, e3.f0, e3.f2, e3.knd, e3.dat]
/-- A tree's one form knows neither the numbers nor the order. -/
theorem Like.norm {s a : List S46} (S : Tree s) (A : Tree a) (h : Like s a) : normT s = normT a := by
 unfold normT
 rw [if_pos S, if_pos A]
 have ps := sortT_perm s
 have pa := sortT_perm a
 have ss := sortT_ss (fun n hn => may_clean (S.may n hn)) S.nodup
 have sa := sortT_ss (fun n hn => may_clean (A.may n hn)) A.nodup
 have hv := tw_sorted _ _ ss sa (fun n hn => by
  obtain ⟨m, hm, e⟩ := h.fwd n (ps.mem_iff.1 hn)
  exact ⟨m, pa.mem_iff.2 hm, e⟩) (fun n hn => by
  obtain ⟨m, hm, e⟩ := h.bwd n (pa.mem_iff.1 hn)
  exact ⟨m, ps.mem_iff.2 hm, e⟩)
 obtain ⟨hl, ht⟩ := map_vw hv
 rw [canon_alike hv (fun i j h1 h2 h3 h4 => h.pat _ (ps.mem_iff.1 (List.getElem_mem h1)) _ (ps.mem_iff.1 (List.getElem_mem h2)) _ (pa.mem_iff.1 (List.getElem_mem h3)) _ (pa.mem_iff.1 (List.getElem_mem h4)) (ht i h1 h3) (ht j h2 h4))]
theorem Like.refl (l : List S46) (T : Tree l) : Like l l :=
 ⟨fun n hn => ⟨n, hn, rfl⟩, fun n hn => ⟨n, hn, rfl⟩, fun n hn n' hn' m hm m' hm' e e' => by
  rw [T.node hn hm e.pth, T.node hn' hm' e'.pth]⟩
theorem canon_ss {s : List S46} (h : SS s) : SS (canon s) := by
 unfold SS canon
 rw [List.pairwise_map]
 exact h
theorem Formed.ss {l : List S46} (h : Formed l) : SS l := by
 rw [← h.2]
 exact canon_ss (sortT_ss (fun n hn => may_clean (h.1.may n hn)) h.1.nodup)
theorem fst_at (x : Int) : ∀ (s : List S46) (j i : Nat) (hi : i < s.length), ino s[i] = x → ∃ k, k ≤ i ∧ fstI x j s = ((j + k : Nat) : Int) ∧ ∃ hk : k < s.length, ino s[k] = x
 | [], j, i, hi, _ => by simp at hi
 | n :: r, j, i, hi, h => by
  unfold fstI
  by_cases e : ino n = x
  ·
   rw [if_pos e]
   exact ⟨0, Nat.zero_le _, rfl, by simp, e⟩
  ·
   rw [if_neg e]
   cases i with
   | zero => exact absurd h e
   | succ i =>
    obtain ⟨k, h1, h2, h3, h4⟩ := fst_at x r (j + 1) i (by simpa using hi) (by simpa using h)
    exact ⟨k + 1, by omega, by rw [h2]; congr 1; omega, by simpa using h3, by simpa using h4⟩
theorem lead_canon (s : List S46) {i : Nat} (hi : i < s.length) : ∃ k, k ≤ i ∧ ∃ hk : k < (canon s).length, leadN (canon s) ((canon s)[i]'(by rw [canon_len]; exact hi)) = (canon s)[k] ∧ ino (canon s)[k] = ino ((canon s)[i]'(by rw [canon_len]; exact hi)) := by
 obtain ⟨k, h1, h2, h3, h4⟩ := fst_at (ino s[i]) s 0 i hi rfl
 rw [Nat.zero_add] at h2
 have hk : k < (canon s).length := by rw [canon_len]; exact h3
 have I : ∀ (j : Nat) (hj : j < s.length), ino ((canon s)[j]'(by rw [canon_len]; exact hj)) = fstI (ino s[j]) 0 s + 1 := fun j hj => by
  simp only [canon, List.getElem_map]
  rfl
 refine ⟨k, h1, hk, ?_, ?_⟩
 ·
  unfold leadN
  rw [I i hi, h2, Int.add_sub_cancel]
  exact rd_at hk
 ·
  rw [I k h3, I i hi, h4]
theorem Formed.lead {l : List S46} (h : Formed l) {n : S46} (hn : n ∈ l) : leadN l n ∈ l ∧ ino (leadN l n) = ino n ∧ (leadN l n = n ∨ key (pth (leadN l n)) < key (pth n)) := by
 have hs := h.ss
 have e := h.2
 generalize sortT l = s at e
 subst e
 obtain ⟨i, hi, rfl⟩ := List.mem_iff_getElem.1 hn
 have hi2 := hi
 rw [canon_len] at hi2
 obtain ⟨k, h1, hk, h2, h3⟩ := lead_canon s hi2
 rw [h2]
 refine ⟨List.getElem_mem hk, h3, ?_⟩
 by_cases hki : k = i
 ·
  subst hki
  exact .inl rfl
 ·
  exact .inr (List.pairwise_iff_getElem.1 hs k i hk hi (by omega))
theorem lead_ino {l : List S46} {n m : S46} (h : ino n = ino m) : leadN l n = leadN l m := by
 unfold leadN
 rw [h]
theorem Formed.lead_twin {l : List S46} (h : Formed l) {n : S46} (hn : n ∈ l) : leadN l n = n ∨ knd (leadN l n) = 1 ∧ knd n = 1 ∧ dat (leadN l n) = dat n := by
 obtain ⟨h1, h2, _⟩ := h.lead hn
 rcases h.1.twins _ h1 _ hn h2 with e | e
 ·
  exact .inl (h.1.node h1 hn e)
 ·
  exact .inr e
theorem Formed.lead_file {l : List S46} (h : Formed l) {n : S46} (hn : n ∈ l) (hk : knd n = 1) : knd (leadN l n) = 1 ∧ dat (leadN l n) = dat n := by
 rcases h.lead_twin hn with e | ⟨e1, _, e2⟩
 ·
  rw [e]
  exact ⟨hk, rfl⟩
 ·
  exact ⟨e1, e2⟩
theorem Formed.lead_lead {l : List S46} (h : Formed l) {n : S46} (hn : n ∈ l) : leadN l (leadN l n) = leadN l n := lead_ino (h.lead hn).2.1
theorem may_kind {n : S46} (h : mayN n = true) : knd n = 1 ∨ knd n = 2 ∨ knd n = 3 := by
 unfold mayN at h
 rw [if_pos (may_split h)] at h
 split at h
 ·
  rename_i e; exact .inr (.inl e)
 ·
  split at h
  ·
   rename_i e; exact .inl e.1
  ·
   split at h
   ·
    rename_i e; exact .inr (.inr e)
   ·
    cases h
theorem may_dir {n : S46} (h : mayN n = true) (hk : knd n = 2) : dat n = [] := by
 unfold mayN at h
 rw [if_pos (may_split h), if_pos hk] at h
 exact of_decide_eq_true h
theorem may_sym {n : S46} (h : mayN n = true) (hk : knd n = 3) : splitE (dat n) = 0 := by
 unfold mayN at h
 rw [if_pos (may_split h), if_neg (by omega), if_neg (by omega), if_pos hk] at h
 exact of_decide_eq_true h
/-- What stays. -/
theorem stays_iff {a b : List S46} (A : Formed a) (B : Formed b) {p : List UInt8} : staysT a b p = true ↔ ∃ x ∈ a, ∃ y ∈ b, pth x = p ∧ pth y = p ∧ knd x = knd y ∧ (knd x = 3 → dat x = dat y) ∧ (knd x = 1 → pth (leadN a x) = pth (leadN b y)) := by
 constructor
 ·
  intro h
  unfold staysT at h
  rcases findI_cases p a 0 with ⟨ea, _⟩ | ⟨i, hi, ea, ea1, _⟩
  ·
   rw [ea, if_pos (.inl (by decide))] at h
   cases h
  rcases findI_cases p b 0 with ⟨eb, _⟩ | ⟨j, hj, eb, eb1, _⟩
  ·
   rw [eb, if_pos (.inr (by decide))] at h
   cases h
  rw [ea, eb, Nat.zero_add, Nat.zero_add, if_neg (by omega)] at h
  refine ⟨rd_T46 a (i : Int), rdn_mem hi, rd_T46 b (j : Int), rdn_mem hj, ea1, eb1, ?_⟩
  generalize rd_T46 a (i : Int) = x at h
  generalize rd_T46 b (j : Int) = y at h
  by_cases hk : knd x ≠ knd y
  ·
   rw [if_pos hk] at h
   cases h
  ·
   rw [if_neg hk] at h
   refine ⟨Decidable.not_not.1 hk, fun h3 => ?_, fun h1 => ?_⟩
   ·
    rw [if_pos h3] at h
    exact of_decide_eq_true h
   ·
    rw [if_neg (by omega), if_pos h1] at h
    exact of_decide_eq_true h
 ·
  rintro ⟨x, hx, y, hy, e1, e2, hk, h3, h1⟩
  obtain ⟨i, hi, f1, f2⟩ := A.find hx
  obtain ⟨j, hj, g1, g2⟩ := B.find hy
  rw [e1] at f1
  rw [e2] at g1
  unfold staysT
  rw [f1, g1, f2, g2, if_neg (by omega), if_neg (fun q => q hk)]
  by_cases k3 : knd x = 3
  ·
   rw [if_pos k3]
   exact decide_eq_true (h3 k3)
  ·
   rw [if_neg k3]
   by_cases k1 : knd x = 1
   ·
    rw [if_pos k1]
    exact decide_eq_true (h1 k1)
   ·
    rw [if_neg k1]
end Go.Proofs.YtoggfapafjgkdaaDoor.T
namespace Go.Proofs.YtoggfapafjgkdaaDoor.T
open Go.RowKit Go.Proofs.YtoggfapafjgkdaaDoorW.PrintWords Go.Proofs.YtoggfapafjgkdaaDoorW.PrintLast Go.Proofs.YtoggfapafjgkdaaDoorW.PrintMore Go.Proofs.YtoggfapafjgkdaaDoor.PAll
set_option linter.unusedSimpArgs false
set_option linter.unusedVariables false
/-- These edits can be done, and this comes out. -/
def Run (l : List S46) (nx : Int) (L : List S33) (l' : List S46) (nx' : Int) : Prop := ∀ (q : List S33) (i : Nat), runE l nx (L ++ q) i = runE l' nx' q (i + L.length)
theorem Run.nil (l : List S46) (nx : Int) : Run l nx [] l nx := fun q i => rfl
theorem Run.one {l : List S46} {nx : Int} {x : S33} (h : (editT l nx x).2.2 = 0) : Run l nx [x] (editT l nx x).1 (editT l nx x).2.1 := fun q i => by
 show runE l nx (x :: q) i = _
 rw [runE, if_pos h]
 rfl
theorem Run.append {l l1 l2 : List S46} {nx n1 n2 : Int} {L M : List S33} (h : Run l nx L l1 n1) (k : Run l1 n1 M l2 n2) : Run l nx (L ++ M) l2 n2 := fun q i => by
 rw [List.append_assoc, h, k, List.length_append, Nat.add_assoc]
theorem Run.out {l l1 : List S46} {nx n1 : Int} {L : List S33} (h : Run l nx L l1 n1) : runE l nx L 0 = (some l1, L.length, 0) := by
 have := h [] 0
 rw [List.append_nil] at this
 rw [this, Nat.zero_add]
 rfl
theorem find_tree {t : List S46} (T : Tree t) {m : S46} (hm : m ∈ t) : ∃ i : Nat, i < t.length ∧ findI (pth m) 0 t = (i : Int) ∧ rd_T46 t (i : Int) = m := by
 rcases findI_cases (pth m) t 0 with ⟨_, e⟩ | ⟨i, hi, e, e1, _⟩
 ·
  exact absurd rfl (e m hm)
 ·
  exact ⟨i, hi, by rw [e, Nat.zero_add], T.node (rdn_mem hi) hm e1⟩
theorem spot_zero {t : List S46} (T : Tree t) {p : List UInt8} (h1 : splitE p = 0) (h2 : ∀ m ∈ t, pth m ≠ p) {d : S46} (hd : d ∈ t) (h3 : pth d = abv p) (h4 : knd d = 2) : spotT t p = 0 := by
 unfold spotT
 obtain ⟨i, hi, e, e1⟩ := find_tree T hd
 rw [h3] at e
 rcases findI_cases p t 0 with ⟨f, _⟩ | ⟨k, hk, f, f1, _⟩
 ·
  rw [if_neg (fun q => q h1), f, if_neg (by decide), e, if_neg (by omega), e1, if_neg (fun q => q h4)]
 ·
  exact absurd f1 (h2 _ (rdn_mem hk))
theorem stays_up {a b : List S46} (A : Formed a) (B : Formed b) {p : List UInt8} (h : staysT a b p = true) (hr : p ≠ [47]) : staysT a b (abv p) = true := by
 obtain ⟨x, hx, y, hy, e1, e2, _⟩ := (stays_iff A B).1 h
 obtain ⟨d, hd, f1, f2⟩ := A.1.up x hx (by rw [e1]; exact hr)
 obtain ⟨c, hc, g1, g2⟩ := B.1.up y hy (by rw [e2]; exact hr)
 exact (stays_iff A B).2 ⟨d, hd, c, hc, by rw [f1, e1], by rw [g1, e2], by rw [f2, g2], fun q => by omega, fun q => by omega⟩
theorem stays_root {a b : List S46} (A : Formed a) (B : Formed b) : staysT a b [47] = true := by
 obtain ⟨d, hd, f1, f2⟩ := A.1.root
 obtain ⟨c, hc, g1, g2⟩ := B.1.root
 exact (stays_iff A B).2 ⟨d, hd, c, hc, f1, g1, by rw [f2, g2], fun q => by omega, fun q => by omega⟩
theorem remove_run {t : List S46} {nx : Int} {n m : S46} (hI : Inv t nx) (hm : m ∈ t) (he : pth m = pth n) (hr : pth n ≠ [47]) (hc : ∀ c ∈ t, pth c ≠ [47] → abv (pth c) ≠ pth n) :
  ∃ t', Run t nx [goneE n] t' nx ∧ Inv t' nx ∧ ∀ c, c ∈ t' ↔ c ∈ t ∧ pth c ≠ pth n := by
 obtain ⟨i, hi, e, e1⟩ := find_tree hI.1 hm
 rw [he] at e
 have hR : removeT t (pth n) = (t.eraseIdx i, 0) := by
  unfold removeT
  rw [e, if_neg (by omega), if_neg hr, if_neg (fun q => by
   obtain ⟨c, hcm, q1, q2⟩ := q
   exact hc c hcm q1 q2), Int.toNat_natCast]
 have hE : editT t nx (goneE n) = (t.eraseIdx i, nx, 0) := by
  unfold editT
  rw [if_pos (show (goneE n).f0 = 1 from rfl)]
  show ((removeT t (pth n)).1, nx, (removeT t (pth n)).2) = _
  rw [hR]
 have h0 : (editT t nx (goneE n)).2.2 = 0 := by rw [hE]
 have h1 := Run.one h0
 have h2 := inv_edit hI h0
 rw [hE] at h1 h2
 refine ⟨_, h1, h2, fun c => ?_⟩
 rw [mem_erase_path hI.1 hi, e1, he]
theorem gone_run {a b s : List S46} {nx : Int} (A : Formed a) (B : Formed b) (hL : Like s a) : ∀ (rest done t : List S46), a.reverse = done ++ rest → Inv t nx →
  (∀ m, m ∈ t ↔ m ∈ s ∧ (staysT a b (pth m) = true ∨ ∀ d ∈ done, pth d ≠ pth m)) → ∃ t', Run t nx (goneT a b rest) t' nx ∧ Inv t' nx ∧ ∀ m, m ∈ t' ↔ m ∈ s ∧ staysT a b (pth m) = true
 | [], done, t, hr, hI, hm => by
  refine ⟨t, Run.nil t nx, hI, fun m => ?_⟩
  rw [hm]
  constructor
  ·
   rintro ⟨h1, h2 | h2⟩
   ·
    exact ⟨h1, h2⟩
   ·
    obtain ⟨x, hx, e⟩ := hL.fwd m h1
    rw [List.append_nil] at hr
    exact absurd e.pth.symm (h2 x (by rw [← hr]; exact List.mem_reverse.2 hx))
  ·
   rintro ⟨h1, h2⟩
   exact ⟨h1, .inl h2⟩
 | n :: rest, done, t, hr, hI, hm => by
  have hr2 : a.reverse = (done ++ [n]) ++ rest := by rw [hr]; simp
  have hna : n ∈ a := List.mem_reverse.1 (by rw [hr]; simp)
  by_cases hst : staysT a b (pth n) = true
  ·
   have e : goneT a b (n :: rest) = goneT a b rest := by
    unfold goneT
    rw [List.filter_cons, if_neg (by rw [hst]; decide)]
   rw [e]
   refine gone_run A B hL rest (done ++ [n]) t hr2 hI (fun m => ?_)
   rw [hm]
   constructor
   ·
    rintro ⟨h1, h2 | h2⟩
    ·
     exact ⟨h1, .inl h2⟩
    ·
     by_cases q : pth n = pth m
     ·
      exact ⟨h1, .inl (by rw [← q]; exact hst)⟩
     ·
      refine ⟨h1, .inr (fun d hd => ?_)⟩
      rcases List.mem_append.1 hd with hd | hd
      ·
       exact h2 d hd
      ·
       obtain rfl := List.mem_singleton.1 hd
       exact q
   ·
    rintro ⟨h1, h2 | h2⟩
    ·
     exact ⟨h1, .inl h2⟩
    ·
     exact ⟨h1, .inr (fun d hd => h2 d (List.mem_append_left _ hd))⟩
  ·
   have e : goneT a b (n :: rest) = [goneE n] ++ goneT a b rest := by
    unfold goneT
    rw [List.filter_cons, if_pos (by simpa using hst), List.map_cons]
    rfl
   have hP : (done ++ n :: rest).Pairwise (fun x y => key (pth y) < key (pth x)) := by
    rw [← hr]
    exact List.pairwise_reverse.2 A.ss
   obtain ⟨_, hP2, hP3⟩ := List.pairwise_append.1 hP
   have hP4 := (List.pairwise_cons.1 hP2).1
   obtain ⟨m, hms, em⟩ := hL.bwd n hna
   have hmt : m ∈ t := (hm m).2 ⟨hms, .inr (fun d hd q => by
    have := hP3 d hd n (List.mem_cons_self ..)
    rw [q, em.pth] at this
    exact key_irrefl _ this)⟩
   have hroot : pth n ≠ [47] := fun q => hst (by rw [q]; exact stays_root A B)
   obtain ⟨t', h1, h2, h3⟩ := remove_run hI hmt em.pth hroot (fun c hc hcr q => by
    obtain ⟨hcs, hc2⟩ := (hm c).1 hc
    rcases hc2 with hc2 | hc2
    ·
     exact hst (by rw [← q]; exact stays_up A B hc2 hcr)
    ·
     obtain ⟨x, hx, ex⟩ := hL.fwd c hcs
     have hlt : key (pth n) < key (pth x) := by
      rw [← q, ex.pth]
      exact abv_lt (A.1.may x hx) (by rw [← ex.pth]; exact hcr)
     have hx2 : x ∈ done ++ n :: rest := by rw [← hr]; exact List.mem_reverse.2 hx
     rcases List.mem_append.1 hx2 with hx2 | hx2
     ·
      exact hc2 x hx2 ex.pth.symm
     ·
      rcases List.mem_cons.1 hx2 with rfl | hx2
      ·
       exact key_irrefl _ hlt
      ·
       exact key_irrefl _ (key_trans hlt (hP4 x hx2)))
   obtain ⟨t2, k1, k2, k3⟩ := gone_run A B hL rest (done ++ [n]) t' hr2 h2 (fun c => by
    rw [h3, hm]
    constructor
    ·
     rintro ⟨⟨q1, q2 | q2⟩, q3⟩
     ·
      exact ⟨q1, .inl q2⟩
     ·
      refine ⟨q1, .inr (fun d hd => ?_)⟩
      rcases List.mem_append.1 hd with hd | hd
      ·
       exact q2 d hd
      ·
       obtain rfl := List.mem_singleton.1 hd
       exact fun z => q3 z.symm
    ·
     rintro ⟨q1, q2 | q2⟩
     ·
      exact ⟨⟨q1, .inl q2⟩, fun z => hst (by rw [← z]; exact q2)⟩
     ·
      exact ⟨⟨q1, .inr (fun d hd => q2 d (List.mem_append_left _ hd))⟩, fun z => q2 n (by simp) z.symm⟩)
   rw [e]
   exact ⟨t2, h1.append k1, k2, k3⟩
/-- Half way: the first of b are there. -/
structure Mid (a b t pre : List S46) : Prop where
 i1 : ∀ m ∈ t, ∃ y ∈ b, m.f0 = y.f0 ∧ knd m = knd y ∧ (y ∈ pre ∨ staysT a b (pth y) = true)
 i2 : ∀ y ∈ b, (y ∈ pre ∨ staysT a b (pth y) = true) → ∃ m ∈ t, m.f0 = y.f0
 i3 : ∀ m ∈ t, ∀ m' ∈ t, ∀ y ∈ b, ∀ y' ∈ b, m.f0 = y.f0 → m'.f0 = y'.f0 → (ino m = ino m' ↔ ino y = ino y')
 i4 : ∀ m ∈ t, ∀ y ∈ b, m.f0 = y.f0 → (knd y = 1 → leadN b y ∈ pre) → m.f2 = y.f2
 i5 : ∀ m ∈ t, ∀ y ∈ b, m.f0 = y.f0 → knd y = 1 → leadN b y ∉ pre → ∃ x ∈ a, x.f0 = m.f0 ∧ x.f2 = m.f2
theorem f0_pth {n m : S46} (h : n.f0 = m.f0) : pth n = pth m := congrArg pb h
theorem Tree.node0 {l : List S46} (T : Tree l) {n m : S46} (hn : n ∈ l) (hm : m ∈ l) (e : n.f0 = m.f0) : n = m := T.node hn hm (f0_pth e)
theorem lead_same {a b : List S46} (A : Formed a) (B : Formed b) {x x' y y' : S46} (hx : x ∈ a) (hx' : x' ∈ a) (hy : y ∈ b) (hy' : y' ∈ b) (e : pth x = pth y) (e' : pth x' = pth y')
  (hl : knd x = 1 → pth (leadN a x) = pth (leadN b y)) (hl' : knd x' = 1 → pth (leadN a x') = pth (leadN b y')) (h : ino x = ino x') : ino y = ino y' := by
 rcases A.1.twins x hx x' hx' h with q | ⟨q1, q2, _⟩
 ·
  rw [B.1.node hy hy' (by rw [← e, ← e', q])]
 ·
  have h1 := hl q1
  have h2 := hl' q2
  rw [lead_ino h, h2] at h1
  have h3 := B.1.node (B.lead hy').1 (B.lead hy).1 h1
  rw [← (B.lead hy).2.1, ← (B.lead hy').2.1, h3]
theorem mid_start {a b s t : List S46} (A : Formed a) (B : Formed b) (hL : Like s a) (hm : ∀ m, m ∈ t ↔ m ∈ s ∧ staysT a b (pth m) = true) : Mid a b t [] := by
 have G : ∀ m ∈ t, ∃ x ∈ a, ∃ y ∈ b, Tw m x ∧ pth x = pth y ∧ knd x = knd y ∧ (knd x = 3 → dat x = dat y) ∧ (knd x = 1 → pth (leadN a x) = pth (leadN b y)) := fun m h => by
  obtain ⟨h1, h2⟩ := (hm m).1 h
  obtain ⟨x, hx, y, hy, e1, e2, e3, e4, e5⟩ := (stays_iff A B).1 h2
  obtain ⟨z, hz, ez⟩ := hL.fwd m h1
  obtain rfl := A.1.node hx hz (by rw [e1, ez.pth])
  exact ⟨x, hx, y, hy, ez, by rw [e1, e2], e3, e4, e5⟩
 have G2 : ∀ m ∈ t, ∀ y ∈ b, m.f0 = y.f0 → ∃ x ∈ a, Tw m x ∧ pth x = pth y ∧ knd x = knd y ∧ (knd x = 3 → dat x = dat y) ∧ (knd x = 1 → pth (leadN a x) = pth (leadN b y)) := fun m h y hy e => by
  obtain ⟨x, hx, z, hz, f1, f2, f3⟩ := G m h
  obtain rfl := B.1.node hy hz (by rw [← f0_pth e, f1.pth, f2])
  exact ⟨x, hx, f1, f2, f3⟩
 refine ⟨fun m h => ?_, fun y hy h => ?_, fun m h m' h' y hy y' hy' e e' => ?_, fun m h y hy e hk => ?_, fun m h y hy e _ _ => ?_⟩
 ·
  obtain ⟨x, hx, y, hy, f1, f2, f3, _⟩ := G m h
  exact ⟨y, hy, pb_inj (f1.pth.trans f2), f1.knd.trans f3, .inr (by rw [← f2, ← f1.pth]; exact ((hm m).1 h).2)⟩
 ·
  rcases h with h | h
  ·
   cases h
  ·
   obtain ⟨x, hx, y', hy', e1, e2, e3, e4, e5⟩ := (stays_iff A B).1 h
   obtain ⟨m, hms, em⟩ := hL.bwd x hx
   exact ⟨m, (hm m).2 ⟨hms, by rw [em.pth, e1]; exact h⟩, pb_inj (em.pth.trans e1)⟩
 ·
  obtain ⟨x, hx, f1, f2, f3, f4, f5⟩ := G2 m h y hy e
  obtain ⟨x', hx', g1, g2, g3, g4, g5⟩ := G2 m' h' y' hy' e'
  rw [hL.pat m ((hm m).1 h).1 m' ((hm m').1 h').1 x hx x' hx' f1 g1]
  constructor
  ·
   exact fun q => lead_same A B hx hx' hy hy' f2 g2 f5 g5 q
  ·
   exact fun q => lead_same B A hy hy' hx hx' f2.symm g2.symm (fun z => (f5 (by rw [f3]; exact z)).symm) (fun z => (g5 (by rw [g3]; exact z)).symm) q
 ·
  obtain ⟨x, hx, f1, f2, f3, f4, f5⟩ := G2 m h y hy e
  rcases may_kind (A.1.may x hx) with q | q | q
  ·
   exact absurd (hk (by rw [← f3]; exact q)) (by simp)
  ·
   refine pb_inj (f1.dat.trans ?_)
   rw [may_dir (A.1.may x hx) q]
   exact (may_dir (B.1.may y hy) (by rw [← f3]; exact q)).symm
  ·
   exact pb_inj (f1.dat.trans (f4 q))
 ·
  obtain ⟨x, hx, f1, _⟩ := G2 m h y hy e
  exact ⟨x, hx, f1.f0.symm, f1.f2.symm⟩
theorem mid_end {a b t : List S46} (B : Formed b) (h : Mid a b t b) : Like t b := by
 have F : ∀ m ∈ t, ∀ y ∈ b, m.f0 = y.f0 → Tw m y := fun m hm y hy e => by
  obtain ⟨y', hy', e1, e2, _⟩ := h.i1 m hm
  obtain rfl := B.1.node0 hy hy' (e.symm.trans e1)
  exact Tw.mk e e2 (h.i4 m hm y hy e (fun _ => (B.lead hy).1))
 refine ⟨fun m hm => ?_, fun y hy => ?_, fun m hm m' hm' y hy y' hy' e e' => h.i3 m hm m' hm' y hy y' hy' e.f0 e'.f0⟩
 ·
  obtain ⟨y, hy, e1, _⟩ := h.i1 m hm
  exact ⟨y, hy, F m hm y hy e1⟩
 ·
  obtain ⟨m, hm, e⟩ := h.i2 y hy (.inl hy)
  exact ⟨m, hm, F m hm y hy e⟩
/-- No file that is there is led by one that is not. -/
theorem no_lead {a b pre suf : List S46} {n y : S46} (A : Formed a) (B : Formed b) (hb : b = pre ++ n :: suf) (hst : staysT a b (pth n) ≠ true) (hy : y ∈ b) (h : y ∈ pre ∨ staysT a b (pth y) = true) (hk : knd y = 1) : leadN b y ≠ n := by
 intro e
 have hnb : n ∈ b := by rw [hb]; simp
 have hss := B.ss
 rw [hb] at hss
 obtain ⟨_, h2, h3⟩ := List.pairwise_append.1 hss
 rcases h with h | h
 ·
  have h4 := h3 y h n (List.mem_cons_self ..)
  rcases (B.lead hy).2.2 with q | q
  ·
   rw [← q, e] at h4
   exact key_irrefl _ h4
  ·
   rw [e] at q
   exact key_irrefl _ (key_trans q h4)
 ·
  obtain ⟨x, hx, y', hy', e1, e2, e3, e4, e5⟩ := (stays_iff A B).1 h
  obtain rfl := B.1.node hy hy' e2.symm
  have hk1 : knd x = 1 := by rw [e3]; exact hk
  have h5 := e5 hk1
  obtain ⟨k1, k2⟩ := A.lead_file hx hk1
  obtain ⟨m1, m2⟩ := B.lead_file hy hk
  rw [e] at m1 h5
  refine hst ((stays_iff A B).2 ⟨leadN a x, (A.lead hx).1, n, hnb, h5, rfl, by rw [k1, m1], fun q => by omega, fun _ => ?_⟩)
  rw [A.lead_lead hx, h5, ← e, B.lead_lead hy, e]
theorem mem_pre {b pre suf : List S46} {n y : S46} (B : Formed b) (hb : b = pre ++ n :: suf) (hy : y ∈ b) (h : key (pth y) < key (pth n)) : y ∈ pre := by
 have hss := B.ss
 rw [hb] at hss hy
 obtain ⟨_, h2, h3⟩ := List.pairwise_append.1 hss
 rcases List.mem_append.1 hy with hy | hy
 ·
  exact hy
 ·
  rcases List.mem_cons.1 hy with rfl | hy
  ·
   exact absurd h (key_irrefl _)
  ·
   exact absurd (key_trans h ((List.pairwise_cons.1 h2).1 y hy)) (key_irrefl _)
theorem not_pre {b pre suf : List S46} {n : S46} (B : Formed b) (hb : b = pre ++ n :: suf) : n ∉ pre := by
 have hss := B.ss
 rw [hb] at hss
 obtain ⟨_, h2, h3⟩ := List.pairwise_append.1 hss
 exact fun h => key_irrefl _ (h3 n h n (List.mem_cons_self ..))
theorem mid_snoc {a b t pre suf : List S46} {n q : S46} (A : Formed a) (B : Formed b) (hb : b = pre ++ n :: suf) (h : Mid a b t pre) (hst : staysT a b (pth n) ≠ true) (e0 : q.f0 = n.f0) (ek : knd q = knd n) (e2 : q.f2 = n.f2)
  (hp : ∀ m ∈ t, ∀ y ∈ b, m.f0 = y.f0 → (ino m = ino q ↔ ino y = ino n)) : Mid a b (t ++ [q]) (pre ++ [n]) := by
 have hnb : n ∈ b := by rw [hb]; simp
 have M : ∀ {z : S46}, z ∈ t ++ [q] → z ∈ t ∨ z = q := fun {z} hz => by
  rcases List.mem_append.1 hz with hz | hz
  ·
   exact .inl hz
  ·
   exact .inr (List.mem_singleton.1 hz)
 have Q : ∀ y ∈ b, q.f0 = y.f0 → y = n := fun y hy e => B.1.node0 hy hnb (e.symm.trans e0)
 have LQ : leadN b n ∈ pre ++ [n] := by
  rcases (B.lead hnb).2.2 with z | z
  ·
   rw [z]; simp
  ·
   exact List.mem_append_left _ (mem_pre B hb (B.lead hnb).1 z)
 refine ⟨fun m hm => ?_, fun y hy hc => ?_, fun m hm m' hm' y hy y' hy' f f' => ?_, fun m hm y hy f hk => ?_, fun m hm y hy f hk hl => ?_⟩
 ·
  rcases M hm with hm | rfl
  ·
   obtain ⟨y, hy, f1, f2, f3⟩ := h.i1 m hm
   exact ⟨y, hy, f1, f2, f3.imp (List.mem_append_left _) id⟩
  ·
   exact ⟨n, hnb, e0, ek, .inl (by simp)⟩
 ·
  by_cases hyn : y = n
  ·
   subst hyn
   exact ⟨q, by simp, e0⟩
  ·
   obtain ⟨m, hm, f⟩ := h.i2 y hy (hc.imp (fun z => by
    rcases List.mem_append.1 z with z | z
    ·
     exact z
    ·
     exact absurd (List.mem_singleton.1 z) hyn) id)
   exact ⟨m, List.mem_append_left _ hm, f⟩
 ·
  rcases M hm with hm1 | rfl
  ·
   rcases M hm' with hm2 | rfl
   ·
    exact h.i3 m hm1 m' hm2 y hy y' hy' f f'
   ·
    obtain rfl := Q y' hy' f'
    exact hp m hm1 y hy f
  ·
   obtain rfl := Q y hy f
   rcases M hm' with hm2 | rfl
   ·
    have := hp m' hm2 y' hy' f'
    exact ⟨fun z => (this.1 z.symm).symm, fun z => (this.2 z.symm).symm⟩
   ·
    obtain rfl := Q y' hy' f'
    exact ⟨fun _ => rfl, fun _ => rfl⟩
 ·
  rcases M hm with hm | rfl
  ·
   refine h.i4 m hm y hy f (fun k => ?_)
   rcases List.mem_append.1 (hk k) with z | z
   ·
    exact z
   ·
    obtain ⟨y', hy', g1, _, g3⟩ := h.i1 m hm
    obtain rfl := B.1.node0 hy hy' (f.symm.trans g1)
    exact absurd (List.mem_singleton.1 z) (no_lead A B hb hst hy g3 k)
  ·
   obtain rfl := Q y hy f
   exact e2
 ·
  rcases M hm with hm | rfl
  ·
   exact h.i5 m hm y hy f hk (fun z => hl (List.mem_append_left _ z))
  ·
   obtain rfl := Q y hy f
   exact absurd LQ hl
theorem fill_f0 (i : Int) (d : ByteArray) (n : S46) : (fillN i d n).f0 = n.f0 := by unfold fillN; split <;> rfl
theorem fill_knd (i : Int) (d : ByteArray) (n : S46) : knd (fillN i d n) = knd n := by unfold fillN; split <;> rfl
theorem fill_ino (i : Int) (d : ByteArray) (n : S46) : ino (fillN i d n) = ino n := by unfold fillN; split <;> rfl
/-- What stays stays; its bytes may change. -/
theorem mid_keep {a b t pre suf : List S46} {n : S46} {nx : Int} (A : Formed a) (B : Formed b) (hb : b = pre ++ n :: suf) (hI : Inv t nx) (h : Mid a b t pre) (hst : staysT a b (pth n) = true) :
  ∃ t', Run t nx (comeT a b n) t' nx ∧ Inv t' nx ∧ Mid a b t' (pre ++ [n]) := by
 have hnb : n ∈ b := by rw [hb]; simp
 have hnp := not_pre B hb
 obtain ⟨m0, hm0, f0⟩ := h.i2 n hnb (.inr hst)
 obtain ⟨x, hx, y', hy', e1, e2, e3, e4, e5⟩ := (stays_iff A B).1 hst
 obtain rfl := B.1.node hnb hy' e2.symm
 obtain ⟨i, hi, ea, ex⟩ := A.find hx
 rw [e1] at ea
 have SN : ∀ {z : S46}, z ∈ pre ++ [n] → z ∈ pre ∨ z = n := fun {z} hz => by
  rcases List.mem_append.1 hz with hz | hz
  ·
   exact .inl hz
  ·
   exact .inr (List.mem_singleton.1 hz)
 have W : ∀ y ∈ b, (y ∈ pre ++ [n] ∨ staysT a b (pth y) = true) → (y ∈ pre ∨ staysT a b (pth y) = true) := fun y hy hc => by
  rcases hc with hc | hc
  ·
   rcases SN hc with hc | rfl
   ·
    exact .inl hc
   ·
    exact .inr hst
  ·
   exact .inr hc
 unfold comeT
 rw [if_pos hst, ea, ex]
 by_cases hc : knd n = 1 ∧ pth (leadN b n) = pth n ∧ dat x ≠ dat n
 ·
  rw [if_pos hc]
  have hld : leadN b n = n := B.1.node (B.lead hnb).1 hnb hc.2.1
  obtain ⟨k, hk, ft, rt⟩ := find_tree hI.1 hm0
  rw [f0_pth f0] at ft
  have km0 : knd m0 = 1 := by
   obtain ⟨y, hy, g1, g2, _⟩ := h.i1 m0 hm0
   obtain rfl := B.1.node0 hnb hy (f0.symm.trans g1)
   rw [g2]
   exact hc.1
  have hsz : ¬ ((n.f2.size : Int) > 5675264) := by
   have := may_file (B.1.may n hnb) hc.1
   unfold dat at this
   rw [pb_len] at this
   omega
  have hC : changeT t (pth n) n.f2 = (t.map (fillN (ino m0) n.f2), 0) := by
   unfold changeT
   rw [ft, if_neg (by omega), rt, if_neg (fun q => q km0), if_neg hsz]
  have hE : editT t nx ⟨6, n.f0, eB, n.f2⟩ = (t.map (fillN (ino m0) n.f2), nx, 0) := by
   unfold editT
   rw [if_neg (show ¬ (6 : Int) = 1 by decide), if_neg (show ¬ (6 : Int) = 5 by decide), if_pos (show (6 : Int) = 6 from rfl)]
   show ((changeT t (pth n) n.f2).1, nx, (changeT t (pth n) n.f2).2) = _
   rw [hC]
  have h0 : (editT t nx ⟨6, n.f0, eB, n.f2⟩).2.2 = 0 := by rw [hE]
  have r1 := Run.one h0
  have r2 := inv_edit hI h0
  rw [hE] at r1 r2
  refine ⟨_, r1, r2, ⟨fun m hm => ?_, fun y hy hcc => ?_, fun m hm m' hm' y hy y' hy' f f' => ?_, fun m hm y hy f hkk => ?_, fun m hm y hy f hkk hl => ?_⟩⟩
  ·
   obtain ⟨z, hz, rfl⟩ := List.mem_map.1 hm
   obtain ⟨y, hy, g1, g2, g3⟩ := h.i1 z hz
   exact ⟨y, hy, by rw [fill_f0]; exact g1, by rw [fill_knd]; exact g2, g3.imp (List.mem_append_left _) id⟩
  ·
   obtain ⟨m, hm, f⟩ := h.i2 y hy (W y hy hcc)
   exact ⟨_, List.mem_map.2 ⟨m, hm, rfl⟩, by rw [fill_f0]; exact f⟩
  ·
   obtain ⟨z, hz, rfl⟩ := List.mem_map.1 hm
   obtain ⟨z', hz', rfl⟩ := List.mem_map.1 hm'
   rw [fill_f0] at f f'
   rw [fill_ino, fill_ino]
   exact h.i3 z hz z' hz' y hy y' hy' f f'
  ·
   obtain ⟨z, hz, rfl⟩ := List.mem_map.1 hm
   rw [fill_f0] at f
   unfold fillN
   by_cases hi2 : ino z = ino m0
   ·
    rw [if_pos hi2]
    have := (h.i3 z hz m0 hm0 y hy n hnb f f0).1 hi2
    rcases B.1.twins y hy n hnb this with q | ⟨_, _, q⟩
    ·
     rw [B.1.node hy hnb q]
    ·
     exact (dat_eq q).symm
   ·
    rw [if_neg hi2]
    refine h.i4 z hz y hy f (fun q => ?_)
    rcases SN (hkk q) with w | w
    ·
     exact w
    ·
     exact absurd ((h.i3 z hz m0 hm0 y hy n hnb f f0).2 (by rw [← (B.lead hy).2.1, w])) hi2
  ·
   obtain ⟨z, hz, rfl⟩ := List.mem_map.1 hm
   rw [fill_f0] at f ⊢
   have hi2 : ino z ≠ ino m0 := fun q => hl (by
    rw [lead_ino ((h.i3 z hz m0 hm0 y hy n hnb f f0).1 q), hld]
    simp)
   obtain ⟨x', hx', g1, g2⟩ := h.i5 z hz y hy f hkk (fun w => hl (List.mem_append_left _ w))
   refine ⟨x', hx', g1, ?_⟩
   unfold fillN
   rw [if_neg hi2]
   exact g2
 ·
  rw [if_neg hc]
  refine ⟨t, Run.nil t nx, hI, ⟨fun m hm => ?_, fun y hy hcc => h.i2 y hy (W y hy hcc), h.i3, fun m hm y hy f hkk => ?_, fun m hm y hy f hkk hl => h.i5 m hm y hy f hkk (fun w => hl (List.mem_append_left _ w))⟩⟩
  ·
   obtain ⟨y, hy, g1, g2, g3⟩ := h.i1 m hm
   exact ⟨y, hy, g1, g2, g3.imp (List.mem_append_left _) id⟩
  ·
   by_cases hq : knd y = 1 ∧ leadN b y = n
   ·
    obtain ⟨hq1, hq2⟩ := hq
    obtain ⟨x1, hx1, g1, g2⟩ := h.i5 m hm y hy f hq1 (by rw [hq2]; exact hnp)
    obtain ⟨y1, hy1, k1, _, k3⟩ := h.i1 m hm
    obtain rfl := B.1.node0 hy hy1 (f.symm.trans k1)
    have hsty : staysT a b (pth y) = true := by
     rcases k3 with k3 | k3
     ·
      have hss := B.ss
      rw [hb] at hss
      have h4 := (List.pairwise_append.1 hss).2.2 y k3 n (List.mem_cons_self ..)
      rw [← hb] at *
      rcases (B.lead hy).2.2 with w | w
      ·
       rw [← w, hq2] at h4
       exact absurd h4 (key_irrefl _)
      ·
       rw [hq2] at w
       exact absurd (key_trans w h4) (key_irrefl _)
     ·
      exact k3
    obtain ⟨x2, hx2, y2, hy2, l1, l2, l3, l4, l5⟩ := (stays_iff A B).1 hsty
    obtain rfl := B.1.node hy hy2 l2.symm
    obtain rfl := A.1.node hx1 hx2 (by rw [f0_pth g1, f0_pth f, l1])
    have hkx : knd x1 = 1 := by rw [l3]; exact hq1
    have h6 := l5 hkx
    rw [hq2] at h6
    obtain rfl := A.1.node (A.lead hx1).1 hx (by rw [h6, e1])
    obtain ⟨p1, p2⟩ := A.lead_file hx1 hkx
    obtain ⟨p3, p4⟩ := B.lead_file hy hq1
    rw [hq2] at p3 p4
    have hdn : dat (leadN a x1) = dat n := by
     refine Decidable.byContradiction (fun w => hc ⟨p3, ?_, w⟩)
     rw [← hq2, B.lead_lead hy]
    rw [← g2]
    exact dat_eq (by rw [← p2, hdn, p4])
   ·
    refine h.i4 m hm y hy f (fun q => ?_)
    rcases SN (hkk q) with w | w
    ·
     exact w
    ·
     exact absurd ⟨q, w⟩ hq
/-- What is not there comes. -/
theorem mid_make {a b t pre suf : List S46} {n : S46} {nx : Int} (A : Formed a) (B : Formed b) (hb : b = pre ++ n :: suf) (hI : Inv t nx) (h : Mid a b t pre) (hst : staysT a b (pth n) ≠ true) :
  ∃ t' nx', Run t nx (comeT a b n) t' nx' ∧ Inv t' nx' ∧ Mid a b t' (pre ++ [n]) := by
 have hnb : n ∈ b := by rw [hb]; simp
 have hnp := not_pre B hb
 have hmay := B.1.may n hnb
 have hroot : pth n ≠ [47] := fun q => hst (by rw [q]; exact stays_root A B)
 have hnt : ∀ m ∈ t, pth m ≠ pth n := fun m hm e => by
  obtain ⟨y, hy, g1, _, g3⟩ := h.i1 m hm
  obtain rfl := B.1.node hnb hy (by rw [← e, f0_pth g1])
  rcases g3 with g3 | g3
  ·
   exact hnp g3
  ·
   exact hst g3
 obtain ⟨d, hd, d1, d2⟩ := B.1.up n hnb hroot
 have hdp : d ∈ pre := mem_pre B hb hd (by rw [d1]; exact abv_lt hmay hroot)
 obtain ⟨dm, hdm, dm1⟩ := h.i2 d hd (.inl hdp)
 have hsp : spotT t (pb n.f0) = 0 := by
  refine spot_zero hI.1 (may_split hmay) hnt hdm (by rw [f0_pth dm1, d1]; rfl) ?_
  obtain ⟨y, hy, g1, g2, _⟩ := h.i1 dm hdm
  obtain rfl := B.1.node0 hd hy (dm1.symm.trans g1)
  rw [g2, d2]
 have NEW : ∀ (kind : Int) (x : S33), knd n = kind → editT t nx x = newT t nx kind n.f0 n.f2 → comeT a b n = [x] → (∀ m ∈ t, ∀ y ∈ b, m.f0 = y.f0 → ino y ≠ ino n) →
   ∃ t' nx', Run t nx (comeT a b n) t' nx' ∧ Inv t' nx' ∧ Mid a b t' (pre ++ [n]) := fun kind x hk hE hcm hno => by
  rw [new_ok hsp] at hE
  have h0 : (editT t nx x).2.2 = 0 := by rw [hE]
  have r1 := Run.one h0
  have r2 := inv_edit hI h0
  rw [hE] at r1 r2
  rw [hcm]
  refine ⟨_, _, r1, r2, mid_snoc A B hb h hst rfl hk.symm rfl (fun m hm y hy f => ?_)⟩
  have h1 := hI.2 m hm
  constructor
  ·
   intro q
   have q2 : ino m = nx := q
   omega
  ·
   intro q
   exact absurd q (hno m hm y hy f)
 have NOY : ∀ m ∈ t, ∀ y ∈ b, m.f0 = y.f0 → y ≠ n := fun m hm y hy f q => hnt m hm (by rw [f0_pth f, q])
 have hcm : comeT a b n = [madeT b n] := by
  unfold comeT
  rw [if_neg hst]
 rcases may_kind hmay with hk | hk | hk
 ·
  by_cases hl : pth (leadN b n) = pth n
  ·
   have hld : leadN b n = n := B.1.node (B.lead hnb).1 hnb hl
   have hsz : ¬ ((n.f2.size : Int) > 5675264) := by
    have := may_file hmay hk
    unfold dat at this
    rw [pb_len] at this
    omega
   refine NEW 1 ⟨3, n.f0, eB, n.f2⟩ hk ?_ ?_ (fun m hm y hy f q => ?_)
   ·
    unfold editT
    rw [if_neg (show ¬ (3 : Int) = 1 by decide), if_neg (show ¬ (3 : Int) = 5 by decide), if_neg (show ¬ (3 : Int) = 6 by decide), if_neg (show ¬ (3 : Int) = 4 by decide), if_pos (show (3 : Int) = 3 from rfl), if_neg hsz]
   ·
    rw [hcm]
    unfold madeT
    rw [if_neg (by omega), if_neg (by omega), if_neg (fun z => z hl)]
   ·
    obtain ⟨y', hy', g1, _, g3⟩ := h.i1 m hm
    obtain rfl := B.1.node0 hy hy' (f.symm.trans g1)
    rcases B.1.twins y hy n hnb q with z | ⟨z, _⟩
    ·
     exact NOY m hm y hy f (B.1.node hy hnb z)
    ·
     exact no_lead A B hb hst hy g3 z (by rw [lead_ino q, hld])
  ·
   obtain ⟨l1, l2, l3⟩ := B.lead hnb
   have hlp : leadN b n ∈ pre := by
    rcases l3 with z | z
    ·
     rw [z] at hl
     exact absurd rfl hl
    ·
     exact mem_pre B hb l1 z
   obtain ⟨ml, hml, fl⟩ := h.i2 _ l1 (.inl hlp)
   obtain ⟨k1, k2⟩ := B.lead_file hnb hk
   have kml : knd ml = 1 := by
    obtain ⟨y, hy, g1, g2, _⟩ := h.i1 ml hml
    obtain rfl := B.1.node0 l1 hy (fl.symm.trans g1)
    rw [g2]
    exact k1
   have dml : ml.f2 = (leadN b n).f2 := h.i4 ml hml _ l1 fl (fun _ => by rw [B.lead_lead hnb]; exact hlp)
   obtain ⟨k, hkl, ft, rt⟩ := find_tree hI.1 hml
   rw [f0_pth fl] at ft
   have hK : linkT t n.f0 (pth (leadN b n)) = (t ++ [⟨n.f0, ml.f1, ml.f2⟩], 0) := by
    unfold linkT
    rw [ft, if_neg (by omega), rt, if_neg (fun q => q kml), if_neg (fun q => q hsp)]
   have hE : editT t nx ⟨5, n.f0, (leadN b n).f0, eB⟩ = (t ++ [⟨n.f0, ml.f1, ml.f2⟩], nx, 0) := by
    unfold editT
    rw [if_neg (show ¬ (5 : Int) = 1 by decide), if_pos (show (5 : Int) = 5 from rfl)]
    show ((linkT t n.f0 (pth (leadN b n))).1, nx, (linkT t n.f0 (pth (leadN b n))).2) = _
    rw [hK]
   have h0 : (editT t nx ⟨5, n.f0, (leadN b n).f0, eB⟩).2.2 = 0 := by rw [hE]
   have r1 := Run.one h0
   have r2 := inv_edit hI h0
   rw [hE] at r1 r2
   have e : madeT b n = ⟨5, n.f0, (leadN b n).f0, eB⟩ := by
    unfold madeT
    rw [if_neg (by omega), if_neg (by omega), if_pos hl]
   rw [hcm, e]
   refine ⟨_, _, r1, r2, mid_snoc A B hb h hst rfl ?_ ?_ (fun m hm y hy f => ?_)⟩
   ·
    show knd ml = knd n
    rw [kml, hk]
   ·
    show ml.f2 = n.f2
    rw [dml]
    exact dat_eq k2
   ·
    show ino m = ino ml ↔ _
    rw [h.i3 m hm ml hml y hy _ l1 f fl, l2]
 ·
  refine NEW 2 ⟨2, n.f0, eB, eB⟩ hk ?_ ?_ (fun m hm y hy f q => ?_)
  ·
   have : n.f2 = eB := pb_inj (may_dir hmay hk)
   unfold editT
   rw [if_neg (show ¬ (2 : Int) = 1 by decide), if_neg (show ¬ (2 : Int) = 5 by decide), if_neg (show ¬ (2 : Int) = 6 by decide), if_neg (show ¬ (2 : Int) = 4 by decide), if_neg (show ¬ (2 : Int) = 3 by decide), if_pos (show (2 : Int) = 2 from rfl), this]
  ·
   rw [hcm]
   unfold madeT
   rw [if_pos hk]
  ·
   rcases B.1.twins y hy n hnb q with z | ⟨_, z, _⟩
   ·
    exact NOY m hm y hy f (B.1.node hy hnb z)
   ·
    omega
 ·
  refine NEW 3 ⟨4, n.f0, n.f2, eB⟩ hk ?_ ?_ (fun m hm y hy f q => ?_)
  ·
   unfold editT
   rw [if_neg (show ¬ (4 : Int) = 1 by decide), if_neg (show ¬ (4 : Int) = 5 by decide), if_neg (show ¬ (4 : Int) = 6 by decide), if_pos (show (4 : Int) = 4 from rfl), if_neg (fun z => z (may_sym hmay hk))]
  ·
   rw [hcm]
   unfold madeT
   rw [if_neg (by omega), if_pos hk]
  ·
   rcases B.1.twins y hy n hnb q with z | ⟨_, z, _⟩
   ·
    exact NOY m hm y hy f (B.1.node hy hnb z)
   ·
    omega
theorem come_run {a b : List S46} (A : Formed a) (B : Formed b) : ∀ (suf pre t : List S46) (nx : Int), b = pre ++ suf → Inv t nx → Mid a b t pre → ∃ t' nx', Run t nx (suf.flatMap (comeT a b)) t' nx' ∧ Inv t' nx' ∧ Mid a b t' b
 | [], pre, t, nx, hb, hI, h => by
  rw [List.append_nil] at hb
  subst hb
  exact ⟨t, nx, Run.nil t nx, hI, h⟩
 | n :: suf, pre, t, nx, hb, hI, h => by
  have hb2 : b = (pre ++ [n]) ++ suf := by rw [hb]; simp
  rw [List.flatMap_cons]
  by_cases hst : staysT a b (pth n) = true
  ·
   obtain ⟨t1, r1, r2, r3⟩ := mid_keep A B hb hI h hst
   obtain ⟨t2, n2, q1, q2, q3⟩ := come_run A B suf (pre ++ [n]) t1 nx hb2 r2 r3
   exact ⟨t2, n2, r1.append q1, q2, q3⟩
  ·
   obtain ⟨t1, n1, r1, r2, r3⟩ := mid_make A B hb hI h hst
   obtain ⟨t2, n2, q1, q2, q3⟩ := come_run A B suf (pre ++ [n]) t1 n1 hb2 r2 r3
   exact ⟨t2, n2, r1.append q1, q2, q3⟩
/-- What is between two trees makes the one the other. -/
theorem diff_run {a b s : List S46} {nx : Int} (A : Formed a) (B : Formed b) (hI : Inv s nx) (hL : Like s a) : ∃ t nx', Run s nx (diffT a b).1 t nx' ∧ Inv t nx' ∧ Like t b := by
 obtain ⟨t1, r1, r2, r3⟩ := gone_run A B hL a.reverse [] s rfl hI (fun m => ⟨fun h => ⟨h, .inr (by simp)⟩, fun h => h.1⟩)
 obtain ⟨t2, n2, q1, q2, q3⟩ := come_run A B b [] t1 nx rfl r2 (mid_start A B hL r3)
 refine ⟨t2, n2, ?_, q2, mid_end B q3⟩
 unfold diffT
 rw [if_pos ⟨A, B⟩]
 exact r1.append q1
theorem there_P {a b : List S46} (A : Formed a) (B : Formed b) : applyT a ((diffT a b).1 ++ (diffT b a).1) = (a, (((diffT a b).1 ++ (diffT b a).1).length : Int), 0) := by
 obtain ⟨t, n, r1, r2, r3⟩ := diff_run A B A.inv (Like.refl a A.1)
 obtain ⟨t2, n2, q1, q2, q3⟩ := diff_run B A r2 r3
 unfold applyT
 rw [if_pos A, (r1.append q1).out]
 show ((normT t2).1, (((diffT a b).1 ++ (diffT b a).1).length : Int), (normT t2).2) = _
 rw [q3.norm q2.1 A.1, (formed_iff a).1 A]
theorem diff_len (a b : List S46) : (diffT a b).1.length ≤ a.length + b.length := by
 unfold diffT
 split
 ·
  show (goneT a b a.reverse ++ b.flatMap (comeT a b)).length ≤ _
  rw [List.length_append]
  have h1 : (goneT a b a.reverse).length ≤ a.length := by
   unfold goneT
   rw [List.length_map]
   refine Nat.le_trans (List.length_filter_le ..) ?_
   rw [List.length_reverse]
   exact Nat.le_refl _
  have h2 : ∀ l : List S46, (l.flatMap (comeT a b)).length ≤ l.length := fun l => by
   induction l with
   | nil => exact Nat.le_refl _
   | cons n r ih =>
    rw [List.flatMap_cons, List.length_append, List.length_cons]
    have : (comeT a b n).length ≤ 1 := by
     unfold comeT
     split
     ·
      split
      ·
       exact Nat.le_refl _
      ·
       exact Nat.zero_le _
     ·
      exact Nat.le_refl _
    omega
  have := h2 b
  omega
 ·
  exact Nat.zero_le _
end Go.Proofs.YtoggfapafjgkdaaDoor.T
namespace Go.Proofs.YtoggfapafjgkdaaDoor.T
open Go.RowKit Go.Proofs.YtoggfapafjgkdaaDoorW.PrintWords Go.Proofs.YtoggfapafjgkdaaDoorW.PrintLast Go.Proofs.YtoggfapafjgkdaaDoorW.PrintMore Go.Proofs.YtoggfapafjgkdaaDoor.PAll
set_option linter.unusedSimpArgs false
set_option linter.unusedVariables false
/-- How Apply ends. -/
def ApRet (r : List S46 × Int × Int) (w : World) (e : Ending) (w' : World) : Prop :=
 ∃ v, e = .returned (.tuple #[v, .int .i64 r.2.1, .int .i64 r.2.2]) ∧ Kd.R k46 46 w' w.heap.size (fun _ => True) v r.1 ∧ Below w.heap.size w w'
theorem drop33 {L : List S33} {k : Nat} (h : k < L.length) : L.drop k = rd_T33 L (k : Int) :: L.drop (k + 1) := by
 rw [List.drop_eq_getElem_cons h]
 congr 1
 simp [rd_T33, List.getD_eq_getElem?_getD, h]
set_option maxHeartbeats 16000000 in
set_option maxRecDepth 100000 in
theorem apply_c (a : List S46) (L : List S33) (A B : Option Addr) (ca cb : Nat) (w : World) (hra : Kd.C k46 w A a.length a) (hca : a.length ≤ ca) (hrb : Kd.C k33 w B L.length L) (hcb : L.length ≤ cb)
  (hla : a.length < 10000) (hlb : L.length < 10000) (hwa : Wf a) (hT : Tab w) :
  Calls Tryd.prog 18 #[.slice A a.length ca, .slice B L.length cb] w fun e w' => ApRet (applyT a L) w e w' := by
 have hu46 := Tryd.underlying46
 have hu44 := Tryd.underlying44
 have hu33 := Tryd.underlying33
 have HRA := Aside0.mk hra
 have HCA := Aside0.mk hca
 have HRB := Aside0.mk hrb
 have HCB := Aside0.mk hcb
 have HLA := Aside0.mk hla
 have HLB := Aside0.mk hlb
 have HWA := Aside0.mk hwa
 have HT := Aside0.mk hT
 obtain ⟨R, hR⟩ : ∃ R, applyT a L = R := ⟨_, rfl⟩
 have HR := Aside0.mk hR
 rw [hR]
 clear hra hca hrb hcb hla hlb hwa hT hR
 go_enter Tryd.func18, Tryd.ntmps18
 go_wp2_with fail
 refine (formed_c a A ca w HRA.out HCA.out (by have := HLA.out; omega) HWA.out HT.out).mono ?_
 rintro e w1 (⟨hFa, ga, rfl, hfa, hb1⟩ | ⟨hFa, rfl, hb1⟩)
 ·
  have HB := Aside0.mk hb1
  have HFa := Aside0.mk hFa
  have hw1 : wrap64 ((a.length : Int) + 1) = (a.length : Int) + 1 := by have := HLA.out; rw [w64 (by omega) (by omega)]
  clear hFa hfa hb1
  go_wp2_with (first | ((with_reducible refine gate_dst (N := 22) rfl ?_); refine Kd.R_lit k46 _ 46 ?hg (N := 22) ?hd (xs := ([] : List (S46))) (inner := []) (ok := fun _ => True) (okp := fun _ => True) ?hr ?hp (fun _ hk => hk) trivial (Below.refl _ _) (Nat.le_refl _) (by simp) ?_; (case hd => rfl); (case hg => rfl); (case hr => first | (go_simp; done) | (go_simp; rfl)); (case hp => exact (Reps.none _ _)); intro v299 w6 ho7 hb hg_ hnew_; clear hg_ hnew_; have n0_ := Aside0.mk (Kd.R_lower ho7 (below_size HB.out)); have n1_ := Aside0.mk (below_step HB.out hb); clear HB; have HO := n0_; have HB := n1_; clear n0_ n1_; clear hb ho7) | ((with_reducible refine gate_builtin (b := .append) (xs := #[.tmp 22, .tmp 23]) rfl ?_); at_builtin; refine Kd.R_append_rows k46 (w0 := w) w.heap.size rfl (.tmp 22) (.tmp 23) 22 46 (.agg #[(.string ⟨#[]⟩), (.int .i64 0), (.int .i64 0), (.int .i64 0), (.int .i64 0), (.int .i64 0), (.string ⟨#[]⟩)]) 72 rfl Tryd.underlying22 info46 rfl (by decide) (by omega) v299 ([] : List S46) a _ _ _ (fun _ => True) (fun _ => False) rfl rfl ?aO ?aR (fun _ _ h => h) (fun _ h => h.elim) ?aF ?aB ?aS ?aL ?_; (case aR => exact (Kd.C_below HRA.out HB.out)); (case aB => exact HB.out); (case aF => exact (fun _ _ => trivial)); (case aO => exact HO.out); (case aS => exact (below_size HB.out)); (case aL => have := HLA.out; simp; omega); intro v302 w8 ho hb hg hat; have n0_ := Aside0.mk hb; have n1_ : Aside0 (Kd.R k46 46 w8 w.heap.size (fun _ => True) v302 a) := ⟨by simpa using ho⟩; clear HB HO; have HB := n0_; have HO := n1_; clear n0_ n1_ ho hb hg hat; obtain ⟨A8, c8, e8⟩ := Kd.R_slice HO.out; subst e8) | ((with_reducible refine gate_dst (N := 29) rfl ?_); refine box_event ?hg (N := 29) ?hd (cs := #[.slice A8 a.length c8, .int .i64 ((a.length : Int) + 1)]) (t := 58) ?hr ?_; (case hd => rfl); (case hg => rfl); (case hr => first | (go_simp; done) | (go_simp; rfl)); intro gs hg w9 hbox hb; have n0_ : Aside0 (Sap w9 gs w.heap.size a ((a.length : Int) + 1)) := ⟨⟨_, hbox, Kd.R_mono (Kd.R_below (Kd.R_elderB HO.out gs (Nat.le_of_eq hg.symm)) hb) (fun _ hk => hk.2), by rw [hg]; exact below_size HB.out⟩⟩; have n1_ := Aside0.mk (below_step HB.out hb); clear HO HB; have HS := n0_; have HB := n1_; clear n0_ n1_ hbox hb hg))
  have HR2 : Aside0 (R = outE (runE a (a.length + 1) L 0)) := ⟨by
   rw [← HR.out, applyT, if_pos HFa.out]⟩
  obtain ⟨Q, hQ⟩ : ∃ Q, runE a (a.length + 1) L 0 = Q := ⟨_, rfl⟩
  have HQ := Aside0.mk hQ
  rw [hQ] at HR2
  have HGD : Aside0 (Gd a ((a.length : Int) + 1) a.length) := ⟨⟨Nat.le_refl _, fun n hn => may_size (HFa.out.1.may n hn), HWA.out, by omega, Int.le_refl _⟩⟩
  clear hQ hw1
  go_loopw [32] (fun iv wr => ∃ (k : Nat) (l : List S46) (nx : Int), k ≤ L.length ∧ iv = .int .i64 k ∧ Aside0 (runE l nx (L.drop k) k = Q) ∧ Aside0 (Gd l nx (a.length + k)) ∧ Aside0 (Sap wr gs w.heap.size l nx) ∧ Aside0 (Below w.heap.size w wr)) (fun iv _ => L.length - (intOf iv).toNat)
  case atStart => exact ⟨0, a, _, by omega, rfl, HQ, HGD, HS, HB⟩
  case round =>
   clear HB HS HGD
   obtain ⟨k, l, nx, hk, rfl, HQk, HGD, HS, HB⟩ := hrel
   by_cases hkl : k < L.length
   ·
    have HK := Aside0.mk hkl
    obtain ⟨ad, ea, x0, x1, x2, x3⟩ := at_T33 (Kd.C_below HRB.out HB.out) (k : Int) (by omega) (by omega)
    cases ea
    simp only [Int.toNat_natCast] at x0 x1 x2 x3
    have p1 : (0 ≤ (k : Int)) = True := eq_true (by omega)
    have q1 : ((k : Int) < (L.length : Int)) = True := eq_true (by omega)
    have q2 : (k < L.length) = True := eq_true hkl
    clear hkl hk
    go_wp2_with (first | ((with_reducible refine gate_dst (N := 11) rfl ?_); refine box_event ?hg (N := 11) ?hd (cs := #[.int .i64 0, .string (⟨#[]⟩ : ByteArray), .string (⟨#[]⟩ : ByteArray), .string (⟨#[]⟩ : ByteArray)]) (t := 33) ?hr ?_; (case hd => rfl); (case hg => rfl); (case hr => first | (go_simp; done) | (go_simp; rfl)); intro gx hg w5 hbox hb; have n0_ := Aside0.mk (HS.out.fresh (Nat.le_of_eq hg.symm) hb); have n1_ := Aside0.mk (below_step HB.out hb); have n2_ := Aside0.mk hbox; have n3_ : Aside0 (gs ≠ gx ∧ w.heap.size ≤ gx) := ⟨by have := HS.out.lt; have := below_size HB.out; rw [hg]; omega⟩; clear HS HB; have HS := n0_; have HB := n1_; have BK := n2_; have GX := n3_; clear n0_ n1_ n2_ n3_ hbox hb hg) | ((with_reducible refine gate_store (t := 33) rfl ?_); refine store_edit rfl rfl _ _ rfl gx _ (rd_T33 L (k : Int)) BK.out rfl rfl rfl ?_; intro w6 hS1 hS2; have n0_ := Aside0.mk (HS.out.grown hS2 GX.out.1); have n1_ := Aside0.mk (HB.out.grown hS2 HB.out.size (fun q hq => by injection hq with hq; have := GX.out.2; omega)); have n2_ := Aside0.mk hS1; clear HS HB BK hS1 hS2; have HS := n0_; have HB := n1_; have BK := n2_; clear n0_ n1_ n2_; have d0 : w6.cell? ⟨gx, 0, none⟩ = some (.int .i64 (rd_T33 L (k : Int)).f0) := (blk_cell BK.out 0).trans rfl; have d1 : w6.cell? ⟨gx, 1, none⟩ = some (.string (rd_T33 L (k : Int)).f1) := (blk_cell BK.out 1).trans rfl; have d2 : w6.cell? ⟨gx, 2, none⟩ = some (.string (rd_T33 L (k : Int)).f2) := (blk_cell BK.out 2).trans rfl; have d3 : w6.cell? ⟨gx, 3, none⟩ = some (.string (rd_T33 L (k : Int)).f3) := (blk_cell BK.out 3).trans rfl))
    clear x0 x1 x2 x3 d0 d1 d2 d3
    have hS := HS.out.sap
    have h1 := HLA.out
    have h2 := HLB.out
    have h3 := HK.out
    have h4 := HGD.out.len
    have h5 := HGD.out.hi
    obtain ⟨E, hE⟩ : ∃ E, editT l nx (rd_T33 L (k : Int)) = E := ⟨_, rfl⟩
    have HE := Aside0.mk hE
    have hedit := edit_c l gs w.heap.size nx (rd_T33 L (k : Int)) w6 hS (by omega) HGD.out.sz ⟨HGD.out.lo, by omega⟩ (HT.out.below HB.out)
    rw [hE] at hedit
    clear hS h1 h2 h3 h4 h5 hE
    refine hedit.mono ?_
    rintro e w7 ⟨rfl, hs7, hb7⟩
    have HS7 := Aside0.mk hs7
    have HB7 := Aside0.mk (HB.out.trans hb7)
    clear hs7 hb7 hedit HS HB BK
    have HQ2 : Aside0 ((if E.2.2 = 0 then runE E.1 E.2.1 (L.drop (k + 1)) (k + 1) else (none, k, E.2.2)) = Q) := ⟨by
     have := HQk.out
     rw [drop33 HK.out, runE, HE.out] at this
     exact this⟩
    by_cases h0 : E.2.2 = 0
    ·
     have HQ3 := Aside0.mk ((if_pos h0).symm.trans HQ2.out)
     have HG3 : Aside0 (Gd E.1 E.2.1 (a.length + (k + 1))) := ⟨by
      have h1 := HLA.out
      have h2 := HLB.out
      have h3 := HK.out
      have := HGD.out.edit (by omega) (rd_T33 L (k : Int))
      rw [HE.out] at this
      exact this⟩
     have z0 : (E.2.2 != 0) = false := by simpa using h0
     clear HQ2
     go_wp2_with fail
     clear h0 z0
     go_roundw
     case rel =>
      have h1 := HK.out
      have h2 := HLB.out
      exact ⟨k + 1, _, _, by omega, by rw [w64 (by omega) (by omega)]; rfl, HQ3, HG3, HS7, HB7⟩
     case measure =>
      have := HK.out
      have := HLB.out
      rw [w64 (by omega) (by omega)]
      first
       | (simp [intOf]; done)
       | (simp [intOf]; omega)
    ·
     have z0 : (E.2.2 != 0) = true := by simpa using h0
     have HF : Aside0 (ApRet R w (.returned (.tuple #[.slice none 0 0, .int .i64 (k : Int), .int .i64 E.2.2])) w7) := ⟨by
      have e := (if_neg h0).symm.trans HQ2.out
      rw [HR2.out, ← e]
      exact ⟨_, rfl, Kd.R_nil _ _ _ _ _, HB7.out⟩⟩
     clear h0
     go_wp2_with fail
     go_ret3
     exact HF.out
   ·
    have hke : k = L.length := by omega
    subst hke
    have q1 : ((L.length : Int) < (L.length : Int)) = False := eq_false (by omega)
    have q2 : (L.length < L.length) = False := eq_false (by omega)
    have HQ3 : Aside0 (Q = (some l, L.length, 0)) := ⟨by
     have := HQk.out
     rw [List.drop_length] at this
     exact this.symm⟩
    obtain ⟨v, g9, r9, hge⟩ := HS.out
    obtain ⟨A9, c9, e9⟩ := Kd.R_slice r9
    subst e9
    have c0 : wr.cell? ⟨gs, 0, none⟩ = some (.slice A9 l.length c9) := (blk_cell g9 0).trans rfl
    have HN := Aside0.mk (normal_c l A9 c9 wr (Kd.R_reads' r9).2.2 (Kd.R_reads' r9).2.1 (by have := HGD.out.len; have := HLA.out; have := HLB.out; omega) HGD.out.wf (HT.out.below HB.out))
    clear hkl hk g9 r9 hge
    go_wp2_with fail
    refine HN.out.mono ?_
    rintro e w9 ⟨v9, rfl, hv9, hb9⟩
    have HF : Aside0 (ApRet R w (.returned (.tuple #[v9, .int .i64 (L.length : Int), .int .i64 (normT l).2])) w9) := ⟨by
     rw [HR2.out, HQ3.out]
     exact ⟨_, rfl, Kd.R_lower hv9 (below_size HB.out), below_step HB.out hb9⟩⟩
    clear hv9 hb9 c0
    go_wp2_with fail
    go_ret3
    exact HF.out
 ·
  have HF : Aside0 (ApRet R w (.returned (.tuple #[.slice none 0 0, .int .i64 0, .int .i64 5])) w1) := ⟨by
   rw [← HR.out, applyT, if_neg hFa]
   exact ⟨_, rfl, Kd.R_nil _ _ _ _ _, hb1⟩⟩
  clear hFa hb1
  go_wp2_with fail
  go_ret3
  exact HF.out
end Go.Proofs.YtoggfapafjgkdaaDoor.T
namespace Go.Proofs.YtoggfapafjgkdaaDoor.T
open Go.RowKit Go.Deep Go.Proofs.YtoggfapafjgkdaaDoorW.PrintWords Go.Proofs.YtoggfapafjgkdaaDoorW.PrintLast Go.Proofs.YtoggfapafjgkdaaDoorW.PrintMore Go.Proofs.YtoggfapafjgkdaaDoor.PAll
set_option linter.unusedSimpArgs false
set_option linter.unusedVariables false
/-- A list and itself are one, for the document. -/
theorem one_c (y : List S46) (A B : Option Addr) (ca cb : Nat) (w : World) (hra : Kd.C k46 w A y.length y) (hca : y.length ≤ ca) (hrb : Kd.C k46 w B y.length y) (hcb : y.length ≤ cb) (hl : y.length < 2147483648) :
  Calls Tryd.prog 20 #[.slice A y.length ca, .slice B y.length cb] w fun e w' => e = .returned (.bool true) ∧ Below w.heap.size w w' := by
 obtain ⟨K, hK⟩ := evs_get (same_ev y y hl true ⟨fun _ => rfl, fun _ => rfl⟩)
 refine (grapnelref18_Same.calls K A ca y B cb y true w hra hca hrb hcb hK).mono ?_
 rintro e w' ⟨rfl, ⟨nd, rfl⟩⟩
 exact ⟨rfl, pw_below_drewN (Below.refl w.heap.size w) nd⟩
end Go.Proofs.YtoggfapafjgkdaaDoor.T
namespace Go.Proofs.YtoggfapafjgkdaaDoor.T
open Go.RowKit Go.Deep Go.Proofs.YtoggfapafjgkdaaDoorW.PrintWords Go.Proofs.YtoggfapafjgkdaaDoorW.PrintLast Go.Proofs.YtoggfapafjgkdaaDoorW.PrintMore Go.Proofs.YtoggfapafjgkdaaDoor.PAll
set_option linter.unusedSimpArgs false
set_option linter.unusedVariables false
/-- A row of the call's own beside a new one that grows. -/
theorem keep_lit {α : Type} {d : Kd α} {e base bb : Nat} {ok : Nat → Prop} {w w1 : World} {v : Value} {xs : List α} (h : d.R e w base ok v xs) (hbb : w.heap.size ≤ bb) (hb : Below w.heap.size w w1) : d.R e w1 base (fun k => k ≠ bb ∧ k < w1.heap.size) v xs :=
 Kd.R_below (Kd.R_mono (Kd.R_bound h) (fun k hk => ⟨by have := hk.2.2.1; omega, by have := hk.2.2.1; have := hb.size; omega⟩)) hb
theorem keep_app {α : Type} {d : Kd α} {e base bb s : Nat} {w w1 : World} {v : Value} {xs : List α} {row : Option Nat} (h : d.R e w base (fun k => k ≠ bb ∧ k < s) v xs) (hg : w.grownBy w1 row) (hr : row = some bb) : d.R e w1 base (fun k => k ≠ bb ∧ k < s) v xs :=
 Kd.R_grown h hg (fun k hk e => hk.1 (Option.some.inj (e.trans hr)))
theorem keep_app2 {α : Type} {d : Kd α} {e base bb s : Nat} {w w1 : World} {v : Value} {xs : List α} {row : Option Nat} (h : d.R e w base (fun k => k ≠ bb ∧ k < s) v xs) (hg : w.grownBy w1 row) (hr : row = some bb ∨ ∃ b, row = some b ∧ s ≤ b) : d.R e w1 base (fun k => k ≠ bb ∧ k < s) v xs :=
 Kd.R_grown h hg (fun k hk e => by
  rcases hr with hr | ⟨b, hr, hb⟩
  ·
   exact hk.1 (Option.some.inj (e.trans hr))
  ·
   have := Option.some.inj (e.trans hr)
   have := hk.2
   omega)
set_option maxHeartbeats 8000000 in
set_option maxRecDepth 100000 in
theorem there_law (a b : List S46) (A B : Option Addr) (ca cb : Nat) (w : World) (hra : Kd.C k46 w A a.length a) (hca : a.length ≤ ca) (hrb : Kd.C k46 w B b.length b) (hcb : b.length ≤ cb)
  (hwa : Wf a) (hwb : Wf b) (hT : Tab w) :
  Calls Tryd.prog 7 #[.slice A a.length ca, .slice B b.length cb] w fun e w' => e = .returned (.bool true) ∧ Below w.heap.size w w' := by
 have hu46 := Tryd.underlying46
 have hu44 := Tryd.underlying44
 have hu33 := Tryd.underlying33
 have HT := Aside0.mk hT
 have HRB := Aside0.mk hrb
 have HCB := Aside0.mk hcb
 have HWB := Aside0.mk hwb
 obtain ⟨x, hx, hxc⟩ := form_c a A ca w hra hca hwa
 have HX := Aside0.mk hx
 have HXC := Aside0.mk hxc
 clear hT hrb hcb hwb hra hca hwa hx hxc
 go_enter Tryd.func7, Tryd.ntmps7
 go_wp2_with fail
 refine HXC.out.mono ?_
 rintro e w1 ⟨v1, rfl, hv1, hb1⟩
 obtain ⟨Ax, cx, e1⟩ := Kd.R_slice hv1
 subst e1
 obtain ⟨y, hy, hyc⟩ := form_c b B cb w1 (Kd.C_below HRB.out hb1) HCB.out HWB.out
 have HY := Aside0.mk hy
 have HYC := Aside0.mk hyc
 have HV1 := Aside0.mk hv1
 have HB1 := Aside0.mk hb1
 clear hy hyc hv1 hb1 HXC HRB HCB HWB
 go_wp2_with fail
 refine HYC.out.mono ?_
 rintro e w2 ⟨v2, rfl, hv2, hb2⟩
 obtain ⟨Ay, cy, e2⟩ := Kd.R_slice hv2
 subst e2
 have HVX := Aside0.mk (Kd.R_below HV1.out hb2)
 have HRX := Aside0.mk (Kd.C_below (Kd.R_reads' HV1.out).2.2 hb2)
 have HCX := Aside0.mk (Kd.R_reads' HV1.out).2.1
 have HRY := Aside0.mk (Kd.R_reads' hv2).2.2
 have HCY := Aside0.mk (Kd.R_reads' hv2).2.1
 have HB2 := Aside0.mk (below_then HB1.out HB1.out.size hb2)
 have HLX : Aside0 (x.length < 2147483648) := ⟨by have := HX.out.1; omega⟩
 have HLY : Aside0 (y.length < 2147483648) := ⟨by have := HY.out.1; omega⟩
 clear hv2 hb2 HYC HV1 HB1
 go_wp2_with fail
 refine (diff_c x y Ax Ay cx cy w2 HRX.out HCX.out HRY.out HCY.out HLX.out HLY.out HX.out.2.1 HY.out.2.1 (HT.out.below HB2.out)).mono ?_
 rintro e w3 ⟨v3, rfl, hv3, hb3⟩
 obtain ⟨L, ee, hL⟩ : ∃ L ee, diffT x y = (L, ee) := ⟨_, _, rfl⟩
 rw [hL] at hv3 ⊢
 dsimp only at hv3 ⊢
 obtain ⟨Al, cl, e3⟩ := Kd.R_slice hv3
 subst e3
 have HL := Aside0.mk hL
 have HV3 := Aside0.mk hv3
 have HB3 := Aside0.mk (below_then HB2.out HB2.out.size hb3)
 have n_ := Aside0.mk (Kd.R_below HVX.out hb3)
 clear HVX
 have HVX := n_
 clear n_
 have HRX3 := Aside0.mk (Kd.C_below HRX.out hb3)
 have HRY3 := Aside0.mk (Kd.C_below HRY.out hb3)
 have HLL : Aside0 (L.length ≤ 50) := ⟨by
  have h1 := diff_len x y
  rw [HL.out] at h1
  have h5 := HX.out.1
  have h6 := HY.out.1
  dsimp only at h1
  omega⟩
 clear hL hv3 hb3 HRX HRY HB2
 go_wp2_with fail
 refine (diff_c y x Ay Ax cy cx w3 HRY3.out HCY.out HRX3.out HCX.out HLY.out HLX.out HY.out.2.1 HX.out.2.1 (HT.out.below HB3.out)).mono ?_
 rintro e w4 ⟨v4, rfl, hv4, hb4⟩
 obtain ⟨M, ff, hM⟩ : ∃ M ff, diffT y x = (M, ff) := ⟨_, _, rfl⟩
 rw [hM] at hv4 ⊢
 dsimp only at hv4 ⊢
 obtain ⟨Am, cm, e4⟩ := Kd.R_slice hv4
 subst e4
 have HM := Aside0.mk hM
 have HVM := Aside0.mk hv4
 have HB4 := Aside0.mk (below_then HB3.out HB3.out.size hb4)
 have n_ := Aside0.mk (Kd.R_below HVX.out hb4)
 clear HVX
 have HVX := n_
 clear n_
 have HRL := Aside0.mk (Kd.C_below (Kd.R_reads' HV3.out).2.2 hb4)
 have HCL := Aside0.mk (Kd.R_reads' HV3.out).2.1
 have HCM := Aside0.mk (Kd.R_reads' HVM.out).2.1
 have HLM : Aside0 (M.length ≤ 50) := ⟨by
  have h1 := diff_len y x
  rw [HM.out] at h1
  have h5 := HX.out.1
  have h6 := HY.out.1
  dsimp only at h1
  omega⟩
 clear hM hv4 hb4 HRX3 HRY3 HB3 HV3
 rcases diff_err (a := x) (b := y) with hE | hE
 ·
  rw [HL.out] at hE
  have hee : ee = 0 := hE
  subst hee
  have HF := Aside0.mk (diff_ok.1 (show (diffT x y).2 = 0 by rw [HL.out]))
  have hff : ff = 0 := by
   have := diff_ok.2 (And.intro HF.out.2 HF.out.1)
   rwa [HM.out] at this
  subst hff
  have HP : Aside0 (applyT x (L ++ M) = (x, ((L ++ M).length : Int), 0)) := ⟨by
   have := there_P HF.out.1 HF.out.2
   rwa [HL.out, HM.out] at this⟩
  have HLS : Aside0 ((L ++ M).length < 10000) := ⟨by
   have := HLL.out
   have := HLM.out
   rw [List.length_append]
   omega⟩
  have HB := HB4
  clear hE
  go_wp2_with (first | ((with_reducible refine gate_dst (N := 44) rfl ?_); refine Kd.R_lit k33 _ 33 ?hg (N := 44) ?hd (xs := ([] : List (S33))) (inner := []) (ok := fun _ => True) (okp := fun _ => True) ?hr ?hp (fun _ hk => hk) trivial (Below.refl _ _) (Nat.le_refl _) (by simp) ?_; (case hd => rfl); (case hg => rfl); (case hr => first | (go_simp; done) | (go_simp; rfl)); (case hp => exact (Reps.none _ _)); intro v299 w6 ho7 hb hg_ hnew_; obtain ⟨bb, hbb, hbs⟩ := hnew_; have HBB := Aside0.mk hbb; have n2_ := Aside0.mk (keep_lit HVX.out hbs hb); have n4_ := Aside0.mk (keep_lit HVM.out hbs hb); clear hg_ hbb hbs; have n0_ := Aside0.mk (Kd.R_lower ho7 (below_size HB.out)); have n1_ := Aside0.mk (below_step HB.out hb); have n3_ := Aside0.mk (Kd.C_below HRL.out hb); clear HB HVX HRL HVM; have HO := n0_; have HB := n1_; have HVX := n2_; have HRL := n3_; have HVM := n4_; clear n0_ n1_ n2_ n3_ n4_; clear hb ho7) | ((with_reducible refine gate_builtin (b := .append) (xs := #[.tmp 44, .tmp 45]) rfl ?_); at_builtin; refine Kd.R_append_rows k33 (w0 := w) w.heap.size rfl (.tmp 44) (.tmp 45) 24 33 (.agg #[(.int .i64 0), (.string ⟨#[]⟩), (.string ⟨#[]⟩), (.string ⟨#[]⟩)]) 56 rfl Tryd.underlying24 info33 rfl (by decide) (by omega) v299 ([] : List S33) L _ _ _ (fun _ => True) (fun _ => False) rfl rfl ?aO1 ?aR1 (fun _ _ h => h) (fun _ h => h.elim) ?aF1 ?aB1 ?aS1 ?aL1 ?_; (case aR1 => exact HRL.out); (case aB1 => exact HB.out); (case aF1 => exact (fun _ _ => trivial)); (case aO1 => exact HO.out); (case aS1 => exact (below_size HB.out)); (case aL1 => have := HLL.out; have := HLM.out; simp; omega); intro v301 w21 ho hb hg hat; have n0_ := Aside0.mk hb; have n1_ : Aside0 (Kd.R k33 33 w21 w.heap.size (fun _ => True) v301 (L)) := ⟨by simpa using ho⟩; have n2_ := Aside0.mk (keep_app HVX.out hg HBB.out); have n4_ := Aside0.mk (keep_app HVM.out hg HBB.out); have n5_ := Aside0.mk hat; clear HB HO HVX HVM; have HB := n0_; have HO := n1_; have HVX := n2_; have HVM := n4_; have HAT1 := n5_; clear n0_ n1_ n2_ n4_ n5_ ho hb hg hat; obtain ⟨A8, cA8, e8⟩ := Kd.R_slice HO.out; subst e8) | ((with_reducible refine gate_builtin (b := .append) (xs := #[.tmp 46, .tmp 47]) rfl ?_); at_builtin; refine Kd.R_append_rows k33 (w0 := w) w.heap.size rfl (.tmp 46) (.tmp 47) 24 33 (.agg #[(.int .i64 0), (.string ⟨#[]⟩), (.string ⟨#[]⟩), (.string ⟨#[]⟩)]) 56 rfl Tryd.underlying24 info33 rfl (by decide) (by omega) (.slice A8 L.length cA8) L M _ _ _ (fun _ => True) (fun _ => False) rfl rfl ?aO2 ?aR2 (fun _ _ h => h) (fun _ h => h.elim) ?aF2 ?aB2 ?aS2 ?aL2 ?_; (case aR2 => exact (Kd.R_reads' HVM.out).2.2); (case aB2 => exact HB.out); (case aF2 => exact (fun _ _ => trivial)); (case aO2 => exact HO.out); (case aS2 => exact (below_size HB.out)); (case aL2 => have := HLL.out; have := HLM.out; simp; omega); intro v302 w22 ho hb hg hat; have n0_ := Aside0.mk hb; have n1_ : Aside0 (Kd.R k33 33 w22 w.heap.size (fun _ => True) v302 (L ++ M)) := ⟨by simpa using ho⟩; have n2_ := Aside0.mk (keep_app2 HVX.out hg (HAT1.out.imp (fun z => z.trans HBB.out) id)); have n4_ := Aside0.mk (keep_app2 HVM.out hg (HAT1.out.imp (fun z => z.trans HBB.out) id)); have n5_ := Aside0.mk hat; clear HB HO HVX HVM; have HB := n0_; have HO := n1_; have HVX := n2_; have HVM := n4_; have HAT2 := n5_; clear n0_ n1_ n2_ n4_ n5_ ho hb hg hat; obtain ⟨A9, cA9, e8⟩ := Kd.R_slice HO.out; subst e8))
  have hap := apply_c x (L ++ M) Ax A9 cx cA9 w22 (Kd.R_reads' HVX.out).2.2 HCX.out (Kd.R_reads' HO.out).2.2 (Kd.R_reads' HO.out).2.1 (by have := HX.out.1; omega) HLS.out HX.out.2.1 (HT.out.below HB.out)
  rw [HP.out] at hap
  simp only [List.length_append] at hap
  refine hap.mono ?_
  rintro e w5 ⟨v5, rfl, hv5, hb5⟩
  dsimp only at hv5 ⊢
  obtain ⟨At, ct, e5⟩ := Kd.R_slice hv5
  subst e5
  have HRT := Aside0.mk (Kd.R_reads' hv5).2.2
  have HCT := Aside0.mk (Kd.R_reads' hv5).2.1
  have HB5 := Aside0.mk (below_then HB.out HB.out.size hb5)
  have HRX5 := Aside0.mk (Kd.C_below (Kd.R_reads' HVX.out).2.2 hb5)
  clear hv5 hb5 HVX HVM HO HB hap HAT1 HAT2
  go_wp2_with fail
  refine (one_c x At Ax ct cx w5 HRT.out HCT.out HRX5.out HCX.out HLX.out).mono ?_
  rintro e w7 ⟨rfl, hb7⟩
  have HB7 := Aside0.mk (below_then HB5.out HB5.out.size hb7)
  clear hb7
  go_wp2_with fail
  refine (awake_c w7 (HT.out.below HB7.out)).mono ?_
  rintro e w8 ⟨rfl, hb8⟩
  have HB8 := Aside0.mk (below_then HB7.out HB7.out.size hb8)
  clear hb8
  go_wp2_with fail
  go_ret
  exact ⟨rfl, HB8.out⟩
 ·
  rw [HL.out] at hE
  have hee : ee = 5 := congrArg Prod.snd hE
  subst hee
  have hff : ff = 5 := by
   rcases diff_err (a := y) (b := x) with h | h
   ·
    have h2 := diff_ok.1 h
    have h3 := diff_ok.2 (And.intro h2.2 h2.1)
    rw [HL.out] at h3
    cases h3
   ·
    rw [HM.out] at h
    exact congrArg Prod.snd h
  subst hff
  clear hE
  go_wp2_with fail
  refine (awake_c w4 (HT.out.below HB4.out)).mono ?_
  rintro e w6 ⟨rfl, hb6⟩
  have HB6 := Aside0.mk (below_then HB4.out HB4.out.size hb6)
  clear hb6
  go_wp2_with fail
  go_ret
  exact ⟨rfl, HB6.out⟩
end Go.Proofs.YtoggfapafjgkdaaDoor.T
namespace Go.Proofs.YtoggfapafjgkdaaDoor.deltaThere
open Go.ChangeShapes Go.WideShapes Go.ChangeAt Go.RowKit Go.Proofs.YtoggfapafjgkdaaDoorW.PrintWords Go.Proofs.YtoggfapafjgkdaaDoor.T
open Go.ChangeMaps (open_string shut_string)
set_option linter.unusedVariables false
theorem own : ownKnob Tryd.prog.godebug = none := by kernel_rfl
theorem laidOut : laidOutB Tryd.prog = true := by kernel_rfl
set_option maxRecDepth 100000 in
theorem lifted (os : Os) (started : os.Started) (H : Type) (enc : TypeId × Value → H) :
  ReturnsInHanded {} Tryd.checked os 7 .any (fun w args => (Rows.deltaThereSpec.pre enc Tryd.prog Tryd.f7 [] false w args ∧ laidMetH Tryd.prog Rows.deltaThereRow.laid w) ∧ sizedMet enc Tryd.prog Tryd.f7 (OpenSpec.ofChange Rows.deltaThereSpec) false w args)
   (Rows.deltaThereSpec.post enc Tryd.prog Tryd.f7 false true false false) := by
 refine returns_laid_shaped (C := Tryd.checked) (X := fun w _ => laidMetH Tryd.prog Rows.deltaThereRow.laid w) own started (by kernel_rfl) Tryd.func7
  (ChangeSpec.witness_shaped (enc := enc) (C := Tryd.checked) (os := os) (X := fun w _ => laidMetH Tryd.prog Rows.deltaThereRow.laid w) false (World.laidAll Tryd.prog os Rows.deltaThereRow.laid) #[.slice none 0 0, .slice none 0 0] 8 (World.laidAll_os _ _ _)
   (World.shaped_of_ZipB (by kernel_rfl) (by kernel_rfl)) (by kernel_rfl) (by kernel_rfl) (by kernel_rfl)
   (by rw [MakeChecks.laidMetH_plain _ _ _ (by kernel_rfl)]; exact laidMet_laidAll _ (by kernel_rfl) (by kernel_rfl))) ?_
 intro W base args ds gs before hval0 hW hsh
 have hval : ∀ (j : Nat) t v, Tryd.f7.params[j]? = some t → args[j]? = some v → Value.okWide Tryd.prog W .any base t v := hval0
 have hW' := hW
 obtain ⟨p, q, hA0, hV, rfl, hfz, hnd⟩ := hW
 have hA : DataW.TrodAll enc Tryd.prog W 0 (fun _ => true) true Tryd.f7.params.toList args.toList ds p := hA0
 rw [Tryd.params7] at hA hval
 obtain ⟨v0, vs0, d0, ds0, p0, q0, hargs, rfl, rfl, h0, r0⟩ := trodAll_cons hA
 obtain ⟨v1, vs1, d1, ds1, p1, q1, rfl, rfl, rfl, h1, r1⟩ := trodAll_cons r0
 obtain ⟨rfl, rfl, rfl⟩ := trodAll_nil r1
 obtain rfl : args = #[v0, v1] := by cases args; simp_all
 obtain ⟨rfl, rfl⟩ := trodVars_none hV
 obtain ⟨a0, len0, cap0, rfl⟩ := okWide_slice Tryd.underlying22 (hval 0 22 v0 rfl rfl)
 have k0 := h0
 have lt0 : ∀ x ∈ p0, x.block < W.heap.size := by obtain ⟨m, hm⟩ := k0; exact DataW.trod_lt m _ _ _ hm
 obtain ⟨fuel0, hf0⟩ := h0
 obtain ⟨l0, rfl, hc0, hr0, hw0⟩ := nodes_in hf0
 obtain ⟨a1, len1, cap1, rfl⟩ := okWide_slice Tryd.underlying22 (hval 1 22 v1 rfl rfl)
 have k1 := h1
 have lt1 : ∀ x ∈ p1, x.block < W.heap.size := by obtain ⟨m, hm⟩ := k1; exact DataW.trod_lt m _ _ _ hm
 obtain ⟨fuel1, hf1⟩ := h1
 obtain ⟨l1, rfl, hc1, hr1, hw1⟩ := nodes_in hf1
 clear hA0 hval0
 refine (there_law l0 l1 a0 a1 cap0 cap1 W hr0 hc0 hr1 hc1 hw0 hw1 (tab_of hsh)).mono fun e W' ⟨he, bel⟩ => ?_
 subst he
 exact ⟨_, rfl, _, _, _, [], _, [], hW', trodAll_mk1 (shut_bool Tryd.underlying4 _), (trodAll_cons_mk (Below.trod laidOut (by kernel_rfl) (of_decide_eq_true (by kernel_rfl)) k0 bel lt0) (trodAll_cons_mk (Below.trod laidOut (by kernel_rfl) (of_decide_eq_true (by kernel_rfl)) k1 bel lt1) trodAll_mk0)), rfl, bel.frame _, fun h => by cases h⟩
theorem over : Rows.deltaThereRow.holds Tryd.pinned (OpenSpec.ofChange Rows.deltaThereSpec) :=
 OpenClaim.holds_of_wide 7 Tryd.f7 rfl rfl rfl rfl rfl rfl rfl ⟨rfl, rfl, rfl, rfl, rfl⟩ rfl rfl rfl rfl rfl (by kernel_rfl) Tryd.func7 (by kernel_rfl)
  (of_decide_eq_true (by kernel_rfl)) (by unfold Func.isWrapper; first | (rw [if_pos (by decide +kernel)]; kernel_rfl) | (rw [if_neg (by decide +kernel)]; exact ⟨rfl, rfl⟩))
  (fun os started H enc _ => lifted os started H enc)
theorem card : Rows.DeltaThereCardSaid :=
 Claim7.holds_tied_plain_at .later [] [.data, .pinned] true (true, "6a3a4cfdd22b17481ef95879a166bb4b0a106aab83f39b5755c037f4ac8ff715") true
  over (fun _ h => by cases h) (by kernel_rfl) (fun _ h => by cases h) deltaThere_row_tie rfl ⟨rfl, rfl⟩ (by kernel_rfl) rfl
  (fun f fn hf hfn => by
   obtain rfl : f = 7 := Option.some.inj ((show Tryd.prog.funcNamed "grapnel/grapnellaw19.DeltaThere" = some 7 by kernel_rfl).symm.trans hf) |>.symm
   obtain rfl : fn = Tryd.f7 := (Option.some.inj (Tryd.func7.symm.trans hfn)).symm
   exact ⟨by kernel_rfl, fun j t ht => by
    rw [Tryd.params7] at ht
    have hm : t ∈ [22, 22] := by simpa using Array.mem_of_getElem? ht
    have hall : ([22, 22].all fun u => !Tryd.prog.wantsStandIn u) = true := by kernel_rfl
    exact (show Tryd.prog.wantsStandIn t = false by simpa using List.all_eq_true.1 hall t hm)⟩)
  (by kernel_rfl)
end Go.Proofs.YtoggfapafjgkdaaDoor.deltaThere
namespace Go.Proofs.YtoggfapafjgkdaaDoor
theorem deltaThere_card_holds : Rows.DeltaThereCardSaid := deltaThere.card
#print axioms deltaThere_card_holds
end Go.Proofs.YtoggfapafjgkdaaDoor
