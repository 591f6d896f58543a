/- Printed by the kit's print.py, made shorter and regrouped by wip/tools/regroup.py. -/
import Derived.Test.YtkhblpmjmkhiiaaDoorProg
import Derived.Below
import Derived.Deep.Draws
import Derived.Deep.AppendLies
import Derived.Maps.AppendAt
import Derived.OwnWalk
import Derived.Laws.BytesArg
import Derived.Laws.MakeOwn
import Derived.Laws.OwnMore
import Derived.Deep.OwnRows
import Derived.Tactics
import Derived.Lib.ConvBytes
import Derived.Laws.Slices
import Derived.WalkKit
import Derived.KernelRfl
import Derived.RowKit3
import Derived.Deep.LoopGhost
import Derived.Deep.QuietTactic
import Derived.BigQuiet
import Derived.WideLaws
import Derived.Deep.DeepCutAuto
import Derived.Deep.CutBlock
import Derived.Deep.RegionHeld3
import Derived.Laws.Rows
import Derived.Lib.AppendStr
import Derived.ArgAppend
import Derived.Laws.IdiomCopy
import Derived.OrdersHeld
import Derived.Laws.BitsLemmas
import Derived.RowKit
import Derived.Test.YtkhblpmjmkhiiaaDoorQWWords
import Derived.Test.YtkhblpmjmkhiiaaDoorQWLast
import Derived.Test.YtkhblpmjmkhiiaaDoorQWTab
import Derived.Test.YtkhblpmjmkhiiaaDoorQWApart
import Derived.Test.YtkhblpmjmkhiiaaDoorQWFoot
import Derived.Test.YtkhblpmjmkhiiaaDoorQWKept
import Derived.Test.YtkhblpmjmkhiiaaDoorQWShare
import Derived.Test.YtkhblpmjmkhiiaaDoorQWN
import Derived.Test.YtkhblpmjmkhiiaaDoorQWEqStruct
import Derived.Test.YtkhblpmjmkhiiaaDoorQWRepsOne
import Derived.Test.YtkhblpmjmkhiiaaDoorQWInv
import Derived.Test.YtkhblpmjmkhiiaaDoorQWGuard
import Derived.Test.YtkhblpmjmkhiiaaDoorQWMore

namespace Go.Proofs.YtkhblpmjmkhiiaaDoor.PAll
open Go.RowKit Go.Proofs.YtkhblpmjmkhiiaaDoorW.PrintWords Go.Proofs.YtkhblpmjmkhiiaaDoorW.PrintLast Go.Proofs.YtkhblpmjmkhiiaaDoorW.PrintMore
attribute [local go_sem] max2_int min2_int max_two min_two max_three min_three max_four min_four   -- for this text's walks alone
set_option linter.unusedVariables false
set_option linter.unusedSimpArgs false
def errW : Option Int → Value
  | none => .nilIface
  | some c => .iface 0 (.int .i64 c)
theorem errW_none : errW none = .nilIface := rfl
theorem errW_some (c : Int) : errW (some c) = .iface 0 (.int .i64 c) := rfl
theorem info9 : (Tryd.prog.info? 9).map (fun i => (i.zero, i.size, i.bytes)) = some (some (.string ⟨#[]⟩), 1, 16) := by kernel_rfl
theorem info32 : (Tryd.prog.info? 32).map (fun i => (i.zero, i.size, i.bytes)) = some (some (.agg #[(.int .i64 0), (.int .i64 0), (.int .i64 0), (.int .i64 0), (.int .i64 0)]), 5, 40) := by kernel_rfl
theorem info34 : (Tryd.prog.info? 34).map (fun i => (i.zero, i.size, i.bytes)) = some (some (.agg #[(.string ⟨#[]⟩), (.int .i64 0), (.int .i64 0), (.int .i64 0), (.int .i64 0), (.int .i64 0), (.string ⟨#[]⟩)]), 7, 72) := by kernel_rfl
structure S32 where
  f0 : Int
  f1 : Int
  f2 : Int
  f3 : Int
  f4 : Int
def z32 : S32 := ⟨(0 : Int), (0 : Int), (0 : Int), (0 : Int), (0 : Int)⟩
def k32 : Kd S32 := Kd.iso (Kd.pair (Kd.int .i64) (Kd.pair (Kd.int .i64) (Kd.pair (Kd.int .i64) (Kd.pair (Kd.int .i64) (Kd.int .i64))))) (fun x : S32 => (x.f0, x.f1, x.f2, x.f3, x.f4))
theorem k32_open {w : World} {x : S32} {cs : List Value} (h : k32.K w x cs) : cs = [.int .i64 x.f0, .int .i64 x.f1, .int .i64 x.f2, .int .i64 x.f3, .int .i64 x.f4] := by
  obtain ⟨_, _, rfl, rfl, ⟨_, _, rfl, rfl, ⟨_, _, rfl, rfl, ⟨_, _, rfl, rfl, rfl⟩⟩⟩⟩ := h
  exact rfl
theorem k32_openM {w : World} {base : Nat} {ok : Nat → Prop} {x : S32} {cs : List Value} (h : k32.M w base ok x cs) : cs = [.int .i64 x.f0, .int .i64 x.f1, .int .i64 x.f2, .int .i64 x.f3, .int .i64 x.f4] := by
  obtain ⟨_, _, rfl, rfl, ⟨_, _, rfl, rfl, ⟨_, _, rfl, rfl, ⟨_, _, rfl, rfl, rfl⟩⟩⟩⟩ := h
  exact rfl
theorem k32_mk (w : World) (x : S32)  : k32.K w x [.int .i64 x.f0, .int .i64 x.f1, .int .i64 x.f2, .int .i64 x.f3, .int .i64 x.f4] := ⟨[.int .i64 x.f0], [.int .i64 x.f1, .int .i64 x.f2, .int .i64 x.f3, .int .i64 x.f4], rfl, rfl, ⟨[.int .i64 x.f1], [.int .i64 x.f2, .int .i64 x.f3, .int .i64 x.f4], rfl, rfl, ⟨[.int .i64 x.f2], [.int .i64 x.f3, .int .i64 x.f4], rfl, rfl, ⟨[.int .i64 x.f3], [.int .i64 x.f4], rfl, rfl, rfl⟩⟩⟩⟩
theorem k32_mkM (w : World) (base : Nat) (ok : Nat → Prop) (x : S32)  : k32.M w base ok x [.int .i64 x.f0, .int .i64 x.f1, .int .i64 x.f2, .int .i64 x.f3, .int .i64 x.f4] := ⟨[.int .i64 x.f0], [.int .i64 x.f1, .int .i64 x.f2, .int .i64 x.f3, .int .i64 x.f4], rfl, rfl, ⟨[.int .i64 x.f1], [.int .i64 x.f2, .int .i64 x.f3, .int .i64 x.f4], rfl, rfl, ⟨[.int .i64 x.f2], [.int .i64 x.f3, .int .i64 x.f4], rfl, rfl, ⟨[.int .i64 x.f3], [.int .i64 x.f4], rfl, rfl, rfl⟩⟩⟩⟩
def rd_T32 (xs : List S32) (i : Int) : S32 := xs.getD i.toNat z32
theorem at_T32 {w : World} {A : Option Addr} {n : Nat} {xs : List S32} (h : Kd.C k32 w A n xs) (i : Int) (h0 : 0 ≤ i) (h1 : i < n) : ∃ ad , A = some ad ∧ w.cell? (ad.add (i.toNat * 5)) = some (.int .i64 (rd_T32 xs i).f0) ∧ w.cell? ⟨(ad.add (i.toNat * 5)).block, (ad.add (i.toNat * 5)).off + 1, none⟩ = some (.int .i64 (rd_T32 xs i).f1) ∧ w.cell? ⟨(ad.add (i.toNat * 5)).block, (ad.add (i.toNat * 5)).off + 2, none⟩ = some (.int .i64 (rd_T32 xs i).f2) ∧ w.cell? ⟨(ad.add (i.toNat * 5)).block, (ad.add (i.toNat * 5)).off + 3, none⟩ = some (.int .i64 (rd_T32 xs i).f3) ∧ w.cell? ⟨(ad.add (i.toNat * 5)).block, (ad.add (i.toNat * 5)).off + 4, none⟩ = some (.int .i64 (rd_T32 xs i).f4) := by
  obtain ⟨ad, c, e, _, hK, hc0⟩ := Kd.C_get h z32 i h0 h1
  have hc : ∀ j u, c[j]? = some u → w.cell? (ad.add (i.toNat * 5 + j)) = some u := hc0
  obtain rfl := k32_open hK
  exact ⟨ad, e, hc 0 _ rfl, by rw [← add_field _ _ 1 (by omega)]; exact hc 1 _ rfl, by rw [← add_field _ _ 2 (by omega)]; exact hc 2 _ rfl, by rw [← add_field _ _ 3 (by omega)]; exact hc 3 _ rfl, by rw [← add_field _ _ 4 (by omega)]; exact hc 4 _ rfl⟩
structure S34 where
  f0 : ByteArray
  f1 : S32
  f2 : ByteArray
def z34 : S34 := ⟨(⟨#[]⟩ : ByteArray), z32, (⟨#[]⟩ : ByteArray)⟩
def k34 : Kd S34 := Kd.iso (Kd.pair Kd.string (Kd.pair k32 Kd.string)) (fun x : S34 => (x.f0, x.f1, x.f2))
theorem k34_open {w : World} {x : S34} {cs : List Value} (h : k34.K w x cs) : cs = [.string x.f0, .int .i64 x.f1.f0, .int .i64 x.f1.f1, .int .i64 x.f1.f2, .int .i64 x.f1.f3, .int .i64 x.f1.f4, .string x.f2] := by
  obtain ⟨_, _, rfl, rfl, ⟨_, _, rfl, s1, rfl⟩⟩ := h
  obtain rfl := k32_open s1
  exact rfl
theorem k34_openM {w : World} {base : Nat} {ok : Nat → Prop} {x : S34} {cs : List Value} (h : k34.M w base ok x cs) : cs = [.string x.f0, .int .i64 x.f1.f0, .int .i64 x.f1.f1, .int .i64 x.f1.f2, .int .i64 x.f1.f3, .int .i64 x.f1.f4, .string x.f2] := by
  obtain ⟨_, _, rfl, rfl, ⟨_, _, rfl, s1, rfl⟩⟩ := h
  obtain rfl := k32_openM s1
  exact rfl
theorem k34_mk (w : World) (x : S34)  : k34.K w x [.string x.f0, .int .i64 x.f1.f0, .int .i64 x.f1.f1, .int .i64 x.f1.f2, .int .i64 x.f1.f3, .int .i64 x.f1.f4, .string x.f2] := ⟨[.string x.f0], [.int .i64 x.f1.f0, .int .i64 x.f1.f1, .int .i64 x.f1.f2, .int .i64 x.f1.f3, .int .i64 x.f1.f4, .string x.f2], rfl, rfl, ⟨[.int .i64 x.f1.f0, .int .i64 x.f1.f1, .int .i64 x.f1.f2, .int .i64 x.f1.f3, .int .i64 x.f1.f4], [.string x.f2], rfl, (k32_mk w x.f1 ), rfl⟩⟩
theorem k34_mkM (w : World) (base : Nat) (ok : Nat → Prop) (x : S34)  : k34.M w base ok x [.string x.f0, .int .i64 x.f1.f0, .int .i64 x.f1.f1, .int .i64 x.f1.f2, .int .i64 x.f1.f3, .int .i64 x.f1.f4, .string x.f2] := ⟨[.string x.f0], [.int .i64 x.f1.f0, .int .i64 x.f1.f1, .int .i64 x.f1.f2, .int .i64 x.f1.f3, .int .i64 x.f1.f4, .string x.f2], rfl, rfl, ⟨[.int .i64 x.f1.f0, .int .i64 x.f1.f1, .int .i64 x.f1.f2, .int .i64 x.f1.f3, .int .i64 x.f1.f4], [.string x.f2], rfl, (k32_mkM w base ok x.f1 ), rfl⟩⟩
def rd_T34 (xs : List S34) (i : Int) : S34 := xs.getD i.toNat z34
theorem at_T34 {w : World} {A : Option Addr} {n : Nat} {xs : List S34} (h : Kd.C k34 w A n xs) (i : Int) (h0 : 0 ≤ i) (h1 : i < n) : ∃ ad , A = some ad ∧ w.cell? (ad.add (i.toNat * 7)) = some (.string (rd_T34 xs i).f0) ∧ w.cell? ⟨(ad.add (i.toNat * 7)).block, (ad.add (i.toNat * 7)).off + 1, none⟩ = some (.int .i64 (rd_T34 xs i).f1.f0) ∧ w.cell? ⟨(ad.add (i.toNat * 7)).block, (ad.add (i.toNat * 7)).off + 2, none⟩ = some (.int .i64 (rd_T34 xs i).f1.f1) ∧ w.cell? ⟨(ad.add (i.toNat * 7)).block, (ad.add (i.toNat * 7)).off + 3, none⟩ = some (.int .i64 (rd_T34 xs i).f1.f2) ∧ w.cell? ⟨(ad.add (i.toNat * 7)).block, (ad.add (i.toNat * 7)).off + 4, none⟩ = some (.int .i64 (rd_T34 xs i).f1.f3) ∧ w.cell? ⟨(ad.add (i.toNat * 7)).block, (ad.add (i.toNat * 7)).off + 5, none⟩ = some (.int .i64 (rd_T34 xs i).f1.f4) ∧ w.cell? ⟨(ad.add (i.toNat * 7)).block, (ad.add (i.toNat * 7)).off + 6, none⟩ = some (.string (rd_T34 xs i).f2) := by
  obtain ⟨ad, c, e, _, hK, hc0⟩ := Kd.C_get h z34 i h0 h1
  have hc : ∀ j u, c[j]? = some u → w.cell? (ad.add (i.toNat * 7 + j)) = some u := hc0
  obtain rfl := k34_open hK
  exact ⟨ad, e, hc 0 _ rfl, by rw [← add_field _ _ 1 (by omega)]; exact hc 1 _ rfl, by rw [← add_field _ _ 2 (by omega)]; exact hc 2 _ rfl, by rw [← add_field _ _ 3 (by omega)]; exact hc 3 _ rfl, by rw [← add_field _ _ 4 (by omega)]; exact hc 4 _ rfl, by rw [← add_field _ _ 5 (by omega)]; exact hc 5 _ rfl, by rw [← add_field _ _ 6 (by omega)]; exact hc 6 _ rfl⟩
end Go.Proofs.YtkhblpmjmkhiiaaDoor.PAll
namespace Go.Proofs.YtkhblpmjmkhiiaaDoor.PAll
open Go.RowKit Go.Proofs.YtkhblpmjmkhiiaaDoorW.PrintWords Go.Proofs.YtkhblpmjmkhiiaaDoorW.PrintLast Go.Proofs.YtkhblpmjmkhiiaaDoorW.PrintMore
attribute [local go_sem] max2_int min2_int max_two min_two max_three min_three max_four min_four   -- for this text's walks alone
set_option linter.unusedVariables false
set_option linter.unusedSimpArgs false
theorem eqA32 (d : Nat) (w : World) (x0 y0 : Int) (x1 y1 : Int) (x2 y2 : Int) (x3 y3 : Int) (x4 y4 : Int) :
    (Op.equalIn (d + 2) 32 (.agg #[.int .i64 x0, .int .i64 x1, .int .i64 x2, .int .i64 x3, .int .i64 x4]) (.agg #[.int .i64 y0, .int .i64 y1, .int .i64 y2, .int .i64 y3, .int .i64 y4])).run Tryd.prog w = .ok (x0 == y0 && (x1 == y1 && (x2 == y2 && (x3 == y3 && (x4 == y4))))) w := by
  refine eqA_of Tryd.underlying32 (by kernel_rfl) ?_
  refine eqf_cons (by rfl) (by go_simp; rfl) (by go_simp; rfl) (by go_simp) ?_
  refine eqf_cons (by rfl) (by go_simp; rfl) (by go_simp; rfl) (by go_simp) ?_
  refine eqf_cons (by rfl) (by go_simp; rfl) (by go_simp; rfl) (by go_simp) ?_
  refine eqf_cons (by rfl) (by go_simp; rfl) (by go_simp; rfl) (by go_simp) ?_
  exact eqf_last (by rfl) (by go_simp; rfl) (by go_simp; rfl) (by go_simp)
theorem eqA34 (d : Nat) (w : World) (x0 y0 : ByteArray) (x1 y1 : Int) (x2 y2 : Int) (x3 y3 : Int) (x4 y4 : Int) (x5 y5 : Int) (x6 y6 : ByteArray) :
    (Op.equalIn (d + 3) 34 (.agg #[.string x0, .int .i64 x1, .int .i64 x2, .int .i64 x3, .int .i64 x4, .int .i64 x5, .string x6]) (.agg #[.string y0, .int .i64 y1, .int .i64 y2, .int .i64 y3, .int .i64 y4, .int .i64 y5, .string y6])).run Tryd.prog w = .ok (x0.toList == y0.toList && ((x1 == y1 && (x2 == y2 && (x3 == y3 && (x4 == y4 && (x5 == y5))))) && (x6.toList == y6.toList))) w := by
  refine eqA_of Tryd.underlying34 (by kernel_rfl) ?_
  refine eqf_cons (by rfl) (by go_simp; rfl) (by go_simp; rfl) (by go_simp) ?_
  refine eqf_cons (by rfl) (by go_simp) (by go_simp) (eqA32 (d + 0) w _ _ _ _ _ _ _ _ _ _) ?_
  exact eqf_last (by rfl) (by go_simp; rfl) (by go_simp; rfl) (by go_simp)
end Go.Proofs.YtkhblpmjmkhiiaaDoor.PAll
namespace Go.Proofs.YtkhblpmjmkhiiaaDoor.PAll
open Go.RowKit Go.Proofs.YtkhblpmjmkhiiaaDoorW.PrintWords Go.Proofs.YtkhblpmjmkhiiaaDoorW.PrintLast Go.Proofs.YtkhblpmjmkhiiaaDoorW.PrintMore
attribute [local go_sem] max2_int min2_int max_two min_two max_three min_three max_four min_four
set_option linter.unusedVariables false
set_option linter.unusedSimpArgs false
mutual
def grapnellaw18_few.l0 : Nat → List (S34) → List (S34) → Int → Int → Option ((List (S34)))
  | 0, _, _, _, _ => none
  | k + 1, x0, x3, x4, x5 => if x5 < (x0.length : Int) then (grapnellaw18_few.j1 k x0 x3 x4 x5 (decide (x5 < 40))) else (grapnellaw18_few.j1 k x0 x3 x4 x5 false)
def grapnellaw18_few.j1 : Nat → List (S34) → List (S34) → Int → Int → Bool → Option ((List (S34)))
  | 0, _, _, _, _, _ => none
  | k + 1, x0, x3, x4, x5, x14 => if x14 = true then (if 0 ≤ x5 then (if x5 < (x0.length : Int) then (if (((rd_T34 x0 x5).f2).size : Int) > (wrap64 (60000 - x4)) then (if x3.length < 1954687338268 then (grapnellaw18_few.l0 k x0 (x3 ++ [(⟨(rd_T34 x0 x5).f0, (⟨(rd_T34 x0 x5).f1.f0, (rd_T34 x0 x5).f1.f1, (rd_T34 x0 x5).f1.f2, (rd_T34 x0 x5).f1.f3, (rd_T34 x0 x5).f1.f4⟩ : S32), (⟨#[]⟩ : ByteArray)⟩ : S34)]) (wrap64 (x4 + 0)) (wrap64 (x5 + 1))) else (none)) else (if x3.length < 1954687338268 then (grapnellaw18_few.l0 k x0 (x3 ++ [(⟨(rd_T34 x0 x5).f0, (⟨(rd_T34 x0 x5).f1.f0, (rd_T34 x0 x5).f1.f1, (rd_T34 x0 x5).f1.f2, (rd_T34 x0 x5).f1.f3, (rd_T34 x0 x5).f1.f4⟩ : S32), (rd_T34 x0 x5).f2⟩ : S34)]) (wrap64 (x4 + (((rd_T34 x0 x5).f2).size : Int))) (wrap64 (x5 + 1))) else (none))) else (none)) else (none)) else (some x3)
end
def grapnellaw18_few.f (k : Nat) (l0 : List (S34)) : Option ((List (S34))) := grapnellaw18_few.l0 k l0 ([] : List (S34)) 0 0
mutual
def grapnelref10_Name.j0 : Nat → ByteArray → Bool → Option (Int)
  | 0, _, _ => none
  | k + 1, x0, x16 => if x16 = true then (some 40) else (grapnelref10_Name.l0 k x0 0)
def grapnelref10_Name.l0 : Nat → ByteArray → Int → Option (Int)
  | 0, _, _ => none
  | k + 1, x0, x3 => if x3 < (x0.size : Int) then (if 0 ≤ x3 then (if (bt x0 x3) < 33 then (some 40) else (if (bt x0 x3) > 126 then (some 40) else (if (bt x0 x3) = 47 then (some 40) else (grapnelref10_Name.l0 k x0 (wrap64 (x3 + 1)))))) else (none)) else (some 0)
end
def grapnelref10_Name.f (k : Nat) (a0 : ByteArray) : Option (Int) := if (a0.size : Int) > 19 then (some 4) else (if a0.toList = ([] : List UInt8) then (grapnelref10_Name.j0 k a0 true) else (if a0.toList = ([46] : List UInt8) then (grapnelref10_Name.j0 k a0 true) else (grapnelref10_Name.j0 k a0 (a0.toList == ([46, 46] : List UInt8)))))
mutual
def grapnelref10_Split.j0 : Nat → ByteArray → Bool → Option (List ByteArray × Int)
  | 0, _, _ => none
  | k + 1, x0, x17 => if x17 = true then (some (([] : List ByteArray), 40)) else (if (x0.size : Int) = 1 then (some (([] : List ByteArray), 0)) else (grapnelref10_Split.l0 k x0 ([] : List ByteArray) 1 1))
def grapnelref10_Split.l0 : Nat → ByteArray → List ByteArray → Int → Int → Option (List ByteArray × Int)
  | 0, _, _, _, _ => none
  | k + 1, x0, x4, x5, x6 => if x6 ≤ (x0.size : Int) then (if x6 < (x0.size : Int) then (if 0 ≤ x6 then (grapnelref10_Split.j2 k x0 x4 x5 x6 ((bt x0 x6) != 47)) else (none)) else (grapnelref10_Split.j2 k x0 x4 x5 x6 false)) else (some (x4, 0))
def grapnelref10_Split.j2 : Nat → ByteArray → List ByteArray → Int → Int → Bool → Option (List ByteArray × Int)
  | 0, _, _, _, _, _ => none
  | k + 1, x0, x4, x5, x6, x36 => if x36 = true then (grapnelref10_Split.l0 k x0 x4 x5 (wrap64 (x6 + 1))) else (if 0 ≤ x5 then (if x5 ≤ x6 then (if x6 ≤ (x0.size : Int) then ((grapnelref10_Name.f k (x0.extract (x5 : Int).toNat (x6 : Int).toNat)).bind fun t124 => (if t124 = 0 then (if x4.length < 8796093022208 then (grapnelref10_Split.l0 k x0 (x4 ++ [x0.extract (x5 : Int).toNat (x6 : Int).toNat]) (wrap64 (x6 + 1)) (wrap64 (x6 + 1))) else (none)) else (some (([] : List ByteArray), t124)))) else (none)) else (none)) else (none))
end
def grapnelref10_Split.f (k : Nat) (a0 : ByteArray) : Option (List ByteArray × Int) := if (a0.size : Int) > 255 then (some (([] : List ByteArray), 4)) else (if a0.toList = ([] : List UInt8) then (grapnelref10_Split.j0 k a0 true) else (if 0 < (a0.size : Int) then (grapnelref10_Split.j0 k a0 ((bt a0 0) != 47)) else (none)))
def grapnelref18_Find.l0 : Nat → List (S34) → ByteArray → Int → Option (Int)
  | 0, _, _, _ => none
  | k + 1, x0, x1, x5 => if x5 < (x0.length : Int) then (if 0 ≤ x5 then (if ((rd_T34 x0 x5).f0).toList = x1.toList then (some x5) else (grapnelref18_Find.l0 k x0 x1 (wrap64 (x5 + 1)))) else (none)) else (some (-1))
def grapnelref18_Find.f (k : Nat) (l0 : List (S34)) (a1 : ByteArray) : Option (Int) := grapnelref18_Find.l0 k l0 a1 0
def grapnelref18_may.j0 : Nat → Int → Bool → ByteArray → Int → Int → Int → Int → Int → ByteArray → Option (Bool)
  | 0, _, _, _, _, _, _, _, _, _ => none
  | k + 1, x6, x32, x129000, x129001, x129002, x129003, x129004, x129005, x129006 => if x32 = true then (some false) else (if x129003 = 2 then (some (x129006.toList == ([] : List UInt8))) else (if x129003 = 1 then (if (x129006.size : Int) ≤ 5675264 then (some true) else (if x129003 = 3 then (some (x6 == 0)) else (some false))) else (if x129003 = 3 then (some (x6 == 0)) else (some false))))
def grapnelref18_may.f (k : Nat) (a0_0 : ByteArray) (a0_1 : Int) (a0_2 : Int) (a0_3 : Int) (a0_4 : Int) (a0_5 : Int) (a0_6 : ByteArray) : Option (Bool) := (grapnelref10_Split.f k a0_0).bind fun bt129 => ((grapnelref10_Split.f k a0_6).bind fun bt133 => (if bt129.2 = 0 then (if a0_3 < 1 then (grapnelref18_may.j0 k bt133.2 true a0_0 a0_1 a0_2 a0_3 a0_4 a0_5 a0_6) else (grapnelref18_may.j0 k bt133.2 (decide (a0_3 > 3)) a0_0 a0_1 a0_2 a0_3 a0_4 a0_5 a0_6)) else (grapnelref18_may.j0 k bt133.2 true a0_0 a0_1 a0_2 a0_3 a0_4 a0_5 a0_6)))
mutual
def grapnelref18_Less.l0 : Nat → ByteArray → ByteArray → Int → Option (Bool)
  | 0, _, _, _ => none
  | k + 1, x0, x1, x5 => if x5 < (x0.size : Int) then (grapnelref18_Less.j1 k x0 x1 x5 (decide (x5 < (x1.size : Int)))) else (grapnelref18_Less.j1 k x0 x1 x5 false)
def grapnelref18_Less.j1 : Nat → ByteArray → ByteArray → Int → Bool → Option (Bool)
  | 0, _, _, _, _ => none
  | k + 1, x0, x1, x5, x15 => if x15 = true then (if 0 ≤ x5 then (if x5 < (x0.size : Int) then (if x5 < (x1.size : Int) then (if (bt x0 x5) = (bt x1 x5) then (grapnelref18_Less.l0 k x0 x1 (wrap64 (x5 + 1))) else (if (bt x0 x5) = 47 then (some ((bt x0 x5) == 47)) else (if (bt x1 x5) = 47 then (some ((bt x0 x5) == 47)) else (some (decide ((bt x0 x5) < (bt x1 x5))))))) else (none)) else (none)) else (none)) else (some (decide ((x0.size : Int) < (x1.size : Int))))
end
def grapnelref18_Less.f (k : Nat) (a0 : ByteArray) (a1 : ByteArray) : Option (Bool) := grapnelref18_Less.l0 k a0 a1 0
def grapnelref18_Above.l0 : Nat → ByteArray → Int → Option (ByteArray)
  | 0, _, _ => none
  | k + 1, x0, x3 => if x3 > 0 then (if 0 ≤ x3 then (if x3 < (x0.size : Int) then (if (bt x0 x3) = 47 then (if x3 ≤ (x0.size : Int) then (some (x0.extract 0 (x3 : Int).toNat)) else (none)) else (grapnelref18_Above.l0 k x0 (wrap64 (x3 - 1)))) else (none)) else (none)) else (some (⟨#[47]⟩ : ByteArray))
def grapnelref18_Above.f (k : Nat) (a0 : ByteArray) : Option (ByteArray) := grapnelref18_Above.l0 k a0 (wrap64 ((a0.size : Int) - 1))
mutual
def grapnelref18_Normal.l0 : Nat → List (S34) → List (S34) → Int → Option ((List (S34)) × Int)
  | 0, _, _, _ => none
  | k + 1, x0, x4, x5 => if x5 < (x0.length : Int) then (if 0 ≤ x5 then ((grapnelref18_may.f k ((rd_T34 x0 x5).f0) ((rd_T34 x0 x5).f1.f0) ((rd_T34 x0 x5).f1.f1) ((rd_T34 x0 x5).f1.f2) ((rd_T34 x0 x5).f1.f3) ((rd_T34 x0 x5).f1.f4) ((rd_T34 x0 x5).f2)).bind fun t139 => (if t139 = true then ((grapnelref18_Find.f k x4 ((rd_T34 x0 x5).f0)).bind fun t141 => (grapnelref18_Normal.j1 k x0 x4 x5 (decide (t141 ≥ 0)))) else (grapnelref18_Normal.j1 k x0 x4 x5 true))) else (none)) else (if (x4.length : Int) = 0 then (grapnelref18_Normal.j3 k x4 true) else (if 0 < (x4.length : Int) then (if ((rd_T34 x4 0).f0).toList = ([47] : List UInt8) then (grapnelref18_Normal.j3 k x4 (((rd_T34 x4 0).f1.f2) != 2)) else (grapnelref18_Normal.j3 k x4 true)) else (none)))
def grapnelref18_Normal.j1 : Nat → List (S34) → List (S34) → Int → Bool → Option ((List (S34)) × Int)
  | 0, _, _, _, _ => none
  | k + 1, x0, x4, x5, x37 => if x37 = true then (some (([] : List (S34)), 5)) else (grapnelref18_Normal.l1 k x0 x4 x5 ([] : List (S34)) false 0)
def grapnelref18_Normal.l1 : Nat → List (S34) → List (S34) → Int → List (S34) → Bool → Int → Option ((List (S34)) × Int)
  | 0, _, _, _, _, _, _ => none
  | k + 1, x0, x4, x5, x6, x7, x8 => if x8 < (x4.length : Int) then (if x7 = true then (if 0 ≤ x8 then (if x6.length < 1954687338268 then (grapnelref18_Normal.l1 k x0 x4 x5 (x6 ++ [(⟨(rd_T34 x4 x8).f0, (⟨(rd_T34 x4 x8).f1.f0, (rd_T34 x4 x8).f1.f1, (rd_T34 x4 x8).f1.f2, (rd_T34 x4 x8).f1.f3, (rd_T34 x4 x8).f1.f4⟩ : S32), (rd_T34 x4 x8).f2⟩ : S34)]) x7 (wrap64 (x8 + 1))) else (none)) else (none)) else (if 0 ≤ x5 then (if x5 < (x0.length : Int) then (if 0 ≤ x8 then ((grapnelref18_Less.f k ((rd_T34 x0 x5).f0) ((rd_T34 x4 x8).f0)).bind fun t148 => (if t148 = true then (if x6.length < 1954687338268 then ((some (x6 ++ [(⟨(rd_T34 x0 x5).f0, (⟨(rd_T34 x0 x5).f1.f0, (rd_T34 x0 x5).f1.f1, (rd_T34 x0 x5).f1.f2, (rd_T34 x0 x5).f1.f3, (rd_T34 x0 x5).f1.f4⟩ : S32), (rd_T34 x0 x5).f2⟩ : S34)] : List (S34))).bind fun y150 => (if y150.length < 1954687338268 then (grapnelref18_Normal.l1 k x0 x4 x5 (y150 ++ [(⟨(rd_T34 x4 x8).f0, (⟨(rd_T34 x4 x8).f1.f0, (rd_T34 x4 x8).f1.f1, (rd_T34 x4 x8).f1.f2, (rd_T34 x4 x8).f1.f3, (rd_T34 x4 x8).f1.f4⟩ : S32), (rd_T34 x4 x8).f2⟩ : S34)]) true (wrap64 (x8 + 1))) else (none))) else (none)) else (if x6.length < 1954687338268 then (grapnelref18_Normal.l1 k x0 x4 x5 (x6 ++ [(⟨(rd_T34 x4 x8).f0, (⟨(rd_T34 x4 x8).f1.f0, (rd_T34 x4 x8).f1.f1, (rd_T34 x4 x8).f1.f2, (rd_T34 x4 x8).f1.f3, (rd_T34 x4 x8).f1.f4⟩ : S32), (rd_T34 x4 x8).f2⟩ : S34)]) x7 (wrap64 (x8 + 1))) else (none)))) else (none)) else (none)) else (none))) else (if x7 = true then (grapnelref18_Normal.l0 k x0 x6 (wrap64 (x5 + 1))) else (if 0 ≤ x5 then (if x5 < (x0.length : Int) then (if x6.length < 1954687338268 then (grapnelref18_Normal.l0 k x0 (x6 ++ [(⟨(rd_T34 x0 x5).f0, (⟨(rd_T34 x0 x5).f1.f0, (rd_T34 x0 x5).f1.f1, (rd_T34 x0 x5).f1.f2, (rd_T34 x0 x5).f1.f3, (rd_T34 x0 x5).f1.f4⟩ : S32), (rd_T34 x0 x5).f2⟩ : S34)]) (wrap64 (x5 + 1))) else (none)) else (none)) else (none)))
def grapnelref18_Normal.j3 : Nat → List (S34) → Bool → Option ((List (S34)) × Int)
  | 0, _, _ => none
  | k + 1, x4, x100 => if x100 = true then (some (([] : List (S34)), 5)) else (if 0 ≤ (x4.length : Int) then (if ((x4.length : Int) : Int).toNat ≤ 7036874417766 then (grapnelref18_Normal.l2 k x4 (List.replicate ((x4.length : Int) : Int).toNat z32) 0) else (none)) else (none))
def grapnelref18_Normal.l2 : Nat → List (S34) → List (S32) → Int → Option ((List (S34)) × Int)
  | 0, _, _, _ => none
  | k + 1, x4, x9, x10 => if x10 < (x4.length : Int) then (if x10 > 0 then (if 0 ≤ x10 then ((grapnelref18_Above.f k ((rd_T34 x4 x10).f0)).bind fun t171 => ((grapnelref18_Find.f k x4 t171).bind fun t172 => (if t172 < 0 then (some (([] : List (S34)), 5)) else (if 0 ≤ t172 then (if t172 < (x4.length : Int) then (if ((rd_T34 x4 t172).f1.f2) = 2 then (grapnelref18_Normal.j5 k x4 x9 x10) else (some (([] : List (S34)), 5))) else (none)) else (none))))) else (none)) else (grapnelref18_Normal.j5 k x4 x9 x10)) else (grapnelref18_Normal.l4 k x4 x9 0)
def grapnelref18_Normal.j5 : Nat → List (S34) → List (S32) → Int → Option ((List (S34)) × Int)
  | 0, _, _, _ => none
  | k + 1, x4, x9, x10 => grapnelref18_Normal.l3 k x4 x9 x10 (-1) 0 0
def grapnelref18_Normal.l3 : Nat → List (S34) → List (S32) → Int → Int → Int → Int → Option ((List (S34)) × Int)
  | 0, _, _, _, _, _, _ => none
  | k + 1, x4, x9, x10, x12, x13, x14 => if x14 < (x4.length : Int) then (if 0 ≤ x14 then (if 0 ≤ x10 then (if x10 < (x4.length : Int) then (if ((rd_T34 x4 x14).f1.f0) = ((rd_T34 x4 x10).f1.f0) then (if x14 = x10 then (grapnelref18_Normal.j7 k x4 x9 x10 x12 x13 x14 false) else (if ((rd_T34 x4 x14).f1.f2) = 1 then (if ((rd_T34 x4 x10).f1.f2) = 1 then (grapnelref18_Normal.j7 k x4 x9 x10 x12 x13 x14 (((rd_T34 x4 x14).f2).toList != ((rd_T34 x4 x10).f2).toList)) else (grapnelref18_Normal.j7 k x4 x9 x10 x12 x13 x14 true)) else (grapnelref18_Normal.j7 k x4 x9 x10 x12 x13 x14 true))) else (grapnelref18_Normal.l3 k x4 x9 x10 x12 x13 (wrap64 (x14 + 1)))) else (none)) else (none)) else (none)) else (if 0 ≤ x10 then (if x10 < (x4.length : Int) then (if x10 < (x9.length : Int) then (grapnelref18_Normal.l2 k x4 (x9.set (x10 : Int).toNat (⟨wrap64 (x12 + 1), 0, (rd_T34 x4 x10).f1.f2, x13, (((rd_T34 x4 x10).f2).size : Int)⟩ : S32)) (wrap64 (x10 + 1))) else (none)) else (none)) else (none))
def grapnelref18_Normal.j7 : Nat → List (S34) → List (S32) → Int → Int → Int → Int → Bool → Option ((List (S34)) × Int)
  | 0, _, _, _, _, _, _, _ => none
  | k + 1, x4, x9, x10, x12, x13, x14, x183 => if x183 = true then (some (([] : List (S34)), 5)) else (if x12 < 0 then (grapnelref18_Normal.l3 k x4 x9 x10 x14 (wrap64 (x13 + 1)) (wrap64 (x14 + 1))) else (grapnelref18_Normal.l3 k x4 x9 x10 x12 (wrap64 (x13 + 1)) (wrap64 (x14 + 1))))
def grapnelref18_Normal.l4 : Nat → List (S34) → List (S32) → Int → Option ((List (S34)) × Int)
  | 0, _, _, _ => none
  | k + 1, x4, x9, x15 => if x15 < (x4.length : Int) then (if 0 ≤ x15 then (if x15 < (x9.length : Int) then (grapnelref18_Normal.l4 k (x4.set (x15 : Int).toNat (⟨(rd_T34 x4 x15).f0, (⟨(rd_T32 x9 x15).f0, (rd_T32 x9 x15).f1, (rd_T32 x9 x15).f2, (rd_T32 x9 x15).f3, (rd_T32 x9 x15).f4⟩ : S32), (rd_T34 x4 x15).f2⟩ : S34)) x9 (wrap64 (x15 + 1))) else (none)) else (none)) else (some (x4, 0))
end
def grapnelref18_Normal.f (k : Nat) (l0 : List (S34)) : Option ((List (S34)) × Int) := grapnelref18_Normal.l0 k l0 ([] : List (S34)) 0
def bytealg_LastIndexByteString.l0 : Nat → ByteArray → Int → Int → Option (Int)
  | 0, _, _, _ => none
  | k + 1, x0, x1, x5 => if x5 ≥ 0 then (if 0 ≤ x5 then (if x5 < (x0.size : Int) then (if (bt x0 x5) = x1 then (some x5) else (bytealg_LastIndexByteString.l0 k x0 x1 (wrap64 (x5 - 1)))) else (none)) else (none)) else (some (-1))
def bytealg_LastIndexByteString.f (k : Nat) (a0 : ByteArray) (a1 : Int) : Option (Int) := bytealg_LastIndexByteString.l0 k a0 a1 (wrap64 ((a0.size : Int) - 1))
def strings_LastIndexByte.f (k : Nat) (a0 : ByteArray) (a1 : Int) : Option (Int) := (bytealg_LastIndexByteString.f k a0 a1).bind fun t114 => (some t114)
def archive_above.f (k : Nat) (a0 : ByteArray) : Option (ByteArray) := (strings_LastIndexByte.f k a0 47).bind fun t115 => (if t115 = 0 then (some (⟨#[47]⟩ : ByteArray)) else (if 0 ≤ t115 then (if t115 ≤ (a0.size : Int) then (some (a0.extract 0 (t115 : Int).toNat)) else (none)) else (none)))
def api_Node_48.l0 : Nat → List (S34) → List (S34) → Int → Int → Option (Bool)
  | 0, _, _, _, _ => none
  | k + 1, x0, x1, x12, x13 => if x13 < x12 then (if 0 ≤ x13 then (if x13 < (x0.length : Int) then (if x13 < (x1.length : Int) then (if (!((((rd_T34 x0 x13).f0).toList) == (((rd_T34 x1 x13).f0).toList)) || ((!(((rd_T34 x0 x13).f1.f0) == ((rd_T34 x1 x13).f1.f0)) || (!(((rd_T34 x0 x13).f1.f1) == ((rd_T34 x1 x13).f1.f1)) || (!(((rd_T34 x0 x13).f1.f2) == ((rd_T34 x1 x13).f1.f2)) || (!(((rd_T34 x0 x13).f1.f3) == ((rd_T34 x1 x13).f1.f3)) || (!(((rd_T34 x0 x13).f1.f4) == ((rd_T34 x1 x13).f1.f4))))))) || (!((((rd_T34 x0 x13).f2).toList) == (((rd_T34 x1 x13).f2).toList))))) = true then (some false) else (api_Node_48.l0 k x0 x1 x12 (wrap64 (x13 + 1)))) else (none)) else (none)) else (none)) else (some true)
def api_Node_48.f (k : Nat) (l0 : List (S34)) (l1 : List (S34)) : Option (Bool) := if (l0.length : Int) = (l1.length : Int) then (api_Node_48.l0 k l0 l1 (l0.length : Int) 0) else (some false)
def archive_same.f (k : Nat) (l0 : List (S34)) (l1 : List (S34)) : Option (Bool) := (api_Node_48.f k l0 l1).bind fun t189 => (some t189)
def archive_pieces.f (a0 : ByteArray) : Option (Int) := some (wrap64 (Int.tdiv (wrap64 ((wrap64 ((a0.size : Int) + 448)) - 1)) 448))
def archive_blank.l0 : Nat → ByteArray → Int → Int → Option (Bool)
  | 0, _, _, _ => none
  | k + 1, x0, x5, x6 => if x6 < x5 then (if 0 ≤ x6 then (if x6 < (x0.size : Int) then (if (bt x0 x6) = 0 then (archive_blank.l0 k x0 x5 (wrap64 (x6 + 1))) else (some false)) else (none)) else (none)) else (some true)
def archive_blank.f (k : Nat) (a0 : ByteArray) : Option (Bool) := archive_blank.l0 k a0 (a0.size : Int) 0
def archive_piece.f (a0 : ByteArray) (a1 : Int) : Option (ByteArray) := if 0 ≤ (wrap64 (a1 * 448)) then (if (wrap64 (a1 * 448)) ≤ (mn (wrap64 ((wrap64 (a1 + 1)) * 448)) (a0.size : Int)) then (if (mn (wrap64 ((wrap64 (a1 + 1)) * 448)) (a0.size : Int)) ≤ (a0.size : Int) then (some (a0.extract ((wrap64 (a1 * 448)) : Int).toNat ((mn (wrap64 ((wrap64 (a1 + 1)) * 448)) (a0.size : Int)) : Int).toNat)) else (none)) else (none)) else (none)
def sum_right.f (a0 : Int) (a1 : Int) : Option (Int) := if 0 ≤ a1 then (if 0 ≤ (wrap64 (32 - a1)) then (some (Go.bits .or .u32 (shr .u32 a0 a1) (shl .u32 a0 (wrap64 (32 - a1))))) else (none)) else (none)
def grapnelref18_Same.l0 : Nat → List (S34) → List (S34) → Int → Option (Bool)
  | 0, _, _, _ => none
  | k + 1, x0, x1, x5 => if x5 < (x0.length : Int) then (if 0 ≤ x5 then (if x5 < (x1.length : Int) then (if (!((((rd_T34 x0 x5).f0).toList) == (((rd_T34 x1 x5).f0).toList)) || ((!(((rd_T34 x0 x5).f1.f0) == ((rd_T34 x1 x5).f1.f0)) || (!(((rd_T34 x0 x5).f1.f1) == ((rd_T34 x1 x5).f1.f1)) || (!(((rd_T34 x0 x5).f1.f2) == ((rd_T34 x1 x5).f1.f2)) || (!(((rd_T34 x0 x5).f1.f3) == ((rd_T34 x1 x5).f1.f3)) || (!(((rd_T34 x0 x5).f1.f4) == ((rd_T34 x1 x5).f1.f4))))))) || (!((((rd_T34 x0 x5).f2).toList) == (((rd_T34 x1 x5).f2).toList))))) = true then (some false) else (grapnelref18_Same.l0 k x0 x1 (wrap64 (x5 + 1)))) else (none)) else (none)) else (some true)
def grapnelref18_Same.f (k : Nat) (l0 : List (S34)) (l1 : List (S34)) : Option (Bool) := if (l0.length : Int) = (l1.length : Int) then (grapnelref18_Same.l0 k l0 l1 0) else (some false)
end Go.Proofs.YtkhblpmjmkhiiaaDoor.PAll
