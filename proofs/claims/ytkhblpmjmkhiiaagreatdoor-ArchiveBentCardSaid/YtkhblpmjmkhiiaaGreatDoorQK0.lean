/- Printed by the kit's print.py, made shorter and regrouped by wip/tools/regroup.py. -/
import Derived.Test.YtkhblpmjmkhiiaaGreatDoorProg
import Derived.Below
import Derived.Deep.Draws
import Derived.Deep.AppendLies
import Derived.Maps.AppendAt
import Derived.OwnWalk
import Derived.Laws.BytesArg
import Derived.Laws.MakeOwn
import Derived.Laws.OwnMore
import Derived.Deep.OwnRows
import Derived.Tactics
import Derived.Lib.ConvBytes
import Derived.Laws.Slices
import Derived.WalkKit
import Derived.KernelRfl
import Derived.RowKit3
import Derived.Deep.LoopGhost
import Derived.Deep.QuietTactic
import Derived.BigQuiet
import Derived.WideLaws
import Derived.Deep.DeepCutAuto
import Derived.Deep.CutBlock
import Derived.Deep.RegionHeld3
import Derived.Laws.Rows
import Derived.Lib.AppendStr
import Derived.ArgAppend
import Derived.Laws.IdiomCopy
import Derived.OrdersHeld
import Derived.Laws.BitsLemmas
import Derived.RowKit
import Derived.Test.YtkhblpmjmkhiiaaGreatDoorQWWords
import Derived.Test.YtkhblpmjmkhiiaaGreatDoorQWLast
import Derived.Test.YtkhblpmjmkhiiaaGreatDoorQWTab
import Derived.Test.YtkhblpmjmkhiiaaGreatDoorQWApart
import Derived.Test.YtkhblpmjmkhiiaaGreatDoorQWFoot
import Derived.Test.YtkhblpmjmkhiiaaGreatDoorQWKept
import Derived.Test.YtkhblpmjmkhiiaaGreatDoorQWShare
import Derived.Test.YtkhblpmjmkhiiaaGreatDoorQWN
import Derived.Test.YtkhblpmjmkhiiaaGreatDoorQWEqStruct
import Derived.Test.YtkhblpmjmkhiiaaGreatDoorQWRepsOne
import Derived.Test.YtkhblpmjmkhiiaaGreatDoorQWInv
import Derived.Test.YtkhblpmjmkhiiaaGreatDoorQWGuard
import Derived.Test.YtkhblpmjmkhiiaaGreatDoorQWMore
namespace Go.Proofs.YtkhblpmjmkhiiaaGreatDoor.PAll
open Go.RowKit Go.Proofs.YtkhblpmjmkhiiaaGreatDoorW.PrintWords Go.Proofs.YtkhblpmjmkhiiaaGreatDoorW.PrintLast Go.Proofs.YtkhblpmjmkhiiaaGreatDoorW.PrintMore
attribute [local go_sem] max2_int min2_int max_two min_two max_three min_three max_four min_four   -- for this text's walks alone
set_option linter.unusedVariables false
set_option linter.unusedSimpArgs false
def errW : Option Int → Value
  | none => .nilIface
  | some c => .iface 0 (.int .i64 c)
theorem errW_none : errW none = .nilIface := rfl
theorem errW_some (c : Int) : errW (some c) = .iface 0 (.int .i64 c) := rfl
theorem info3 : (Tryz.prog.info? 3).map (fun i => (i.zero, i.size, i.bytes)) = some (some (.int .i64 0), 1, 8) := by kernel_rfl
theorem info5 : (Tryz.prog.info? 5).map (fun i => (i.zero, i.size, i.bytes)) = some (some (.int .u8 0), 1, 1) := by kernel_rfl
theorem info9 : (Tryz.prog.info? 9).map (fun i => (i.zero, i.size, i.bytes)) = some (some (.string ⟨#[]⟩), 1, 16) := by kernel_rfl
theorem info36 : (Tryz.prog.info? 36).map (fun i => (i.zero, i.size, i.bytes)) = some (some (.agg #[(.int .i64 0), (.int .i64 0), (.int .i64 0), (.int .i64 0), (.int .i64 0)]), 5, 40) := by kernel_rfl
theorem info38 : (Tryz.prog.info? 38).map (fun i => (i.zero, i.size, i.bytes)) = some (some (.agg #[(.string ⟨#[]⟩), (.int .i64 0), (.int .i64 0), (.int .i64 0), (.int .i64 0), (.int .i64 0), (.string ⟨#[]⟩)]), 7, 72) := by kernel_rfl
structure S36 where
  f0 : Int
  f1 : Int
  f2 : Int
  f3 : Int
  f4 : Int
def z36 : S36 := ⟨(0 : Int), (0 : Int), (0 : Int), (0 : Int), (0 : Int)⟩
def k36 : Kd S36 := Kd.iso (Kd.pair (Kd.int .i64) (Kd.pair (Kd.int .i64) (Kd.pair (Kd.int .i64) (Kd.pair (Kd.int .i64) (Kd.int .i64))))) (fun x : S36 => (x.f0, x.f1, x.f2, x.f3, x.f4))
theorem k36_open {w : World} {x : S36} {cs : List Value} (h : k36.K w x cs) : cs = [.int .i64 x.f0, .int .i64 x.f1, .int .i64 x.f2, .int .i64 x.f3, .int .i64 x.f4] := by
  obtain ⟨_, _, rfl, rfl, ⟨_, _, rfl, rfl, ⟨_, _, rfl, rfl, ⟨_, _, rfl, rfl, rfl⟩⟩⟩⟩ := h
  exact rfl
theorem k36_openM {w : World} {base : Nat} {ok : Nat → Prop} {x : S36} {cs : List Value} (h : k36.M w base ok x cs) : cs = [.int .i64 x.f0, .int .i64 x.f1, .int .i64 x.f2, .int .i64 x.f3, .int .i64 x.f4] := by
  obtain ⟨_, _, rfl, rfl, ⟨_, _, rfl, rfl, ⟨_, _, rfl, rfl, ⟨_, _, rfl, rfl, rfl⟩⟩⟩⟩ := h
  exact rfl
theorem k36_mk (w : World) (x : S36)  : k36.K w x [.int .i64 x.f0, .int .i64 x.f1, .int .i64 x.f2, .int .i64 x.f3, .int .i64 x.f4] := ⟨[.int .i64 x.f0], [.int .i64 x.f1, .int .i64 x.f2, .int .i64 x.f3, .int .i64 x.f4], rfl, rfl, ⟨[.int .i64 x.f1], [.int .i64 x.f2, .int .i64 x.f3, .int .i64 x.f4], rfl, rfl, ⟨[.int .i64 x.f2], [.int .i64 x.f3, .int .i64 x.f4], rfl, rfl, ⟨[.int .i64 x.f3], [.int .i64 x.f4], rfl, rfl, rfl⟩⟩⟩⟩
theorem k36_mkM (w : World) (base : Nat) (ok : Nat → Prop) (x : S36)  : k36.M w base ok x [.int .i64 x.f0, .int .i64 x.f1, .int .i64 x.f2, .int .i64 x.f3, .int .i64 x.f4] := ⟨[.int .i64 x.f0], [.int .i64 x.f1, .int .i64 x.f2, .int .i64 x.f3, .int .i64 x.f4], rfl, rfl, ⟨[.int .i64 x.f1], [.int .i64 x.f2, .int .i64 x.f3, .int .i64 x.f4], rfl, rfl, ⟨[.int .i64 x.f2], [.int .i64 x.f3, .int .i64 x.f4], rfl, rfl, ⟨[.int .i64 x.f3], [.int .i64 x.f4], rfl, rfl, rfl⟩⟩⟩⟩
def rd_T36 (xs : List S36) (i : Int) : S36 := xs.getD i.toNat z36
theorem at_T36 {w : World} {A : Option Addr} {n : Nat} {xs : List S36} (h : Kd.C k36 w A n xs) (i : Int) (h0 : 0 ≤ i) (h1 : i < n) : ∃ ad , A = some ad ∧ w.cell? (ad.add (i.toNat * 5)) = some (.int .i64 (rd_T36 xs i).f0) ∧ w.cell? ⟨(ad.add (i.toNat * 5)).block, (ad.add (i.toNat * 5)).off + 1, none⟩ = some (.int .i64 (rd_T36 xs i).f1) ∧ w.cell? ⟨(ad.add (i.toNat * 5)).block, (ad.add (i.toNat * 5)).off + 2, none⟩ = some (.int .i64 (rd_T36 xs i).f2) ∧ w.cell? ⟨(ad.add (i.toNat * 5)).block, (ad.add (i.toNat * 5)).off + 3, none⟩ = some (.int .i64 (rd_T36 xs i).f3) ∧ w.cell? ⟨(ad.add (i.toNat * 5)).block, (ad.add (i.toNat * 5)).off + 4, none⟩ = some (.int .i64 (rd_T36 xs i).f4) := by
  obtain ⟨ad, c, e, _, hK, hc0⟩ := Kd.C_get h z36 i h0 h1
  have hc : ∀ j u, c[j]? = some u → w.cell? (ad.add (i.toNat * 5 + j)) = some u := hc0
  obtain rfl := k36_open hK
  exact ⟨ad, e, hc 0 _ rfl, by rw [← add_field _ _ 1 (by omega)]; exact hc 1 _ rfl, by rw [← add_field _ _ 2 (by omega)]; exact hc 2 _ rfl, by rw [← add_field _ _ 3 (by omega)]; exact hc 3 _ rfl, by rw [← add_field _ _ 4 (by omega)]; exact hc 4 _ rfl⟩
structure S38 where
  f0 : ByteArray
  f1 : S36
  f2 : ByteArray
def z38 : S38 := ⟨(⟨#[]⟩ : ByteArray), z36, (⟨#[]⟩ : ByteArray)⟩
def k38 : Kd S38 := Kd.iso (Kd.pair Kd.string (Kd.pair k36 Kd.string)) (fun x : S38 => (x.f0, x.f1, x.f2))
theorem k38_open {w : World} {x : S38} {cs : List Value} (h : k38.K w x cs) : cs = [.string x.f0, .int .i64 x.f1.f0, .int .i64 x.f1.f1, .int .i64 x.f1.f2, .int .i64 x.f1.f3, .int .i64 x.f1.f4, .string x.f2] := by
  obtain ⟨_, _, rfl, rfl, ⟨_, _, rfl, s1, rfl⟩⟩ := h
  obtain rfl := k36_open s1
  exact rfl
theorem k38_openM {w : World} {base : Nat} {ok : Nat → Prop} {x : S38} {cs : List Value} (h : k38.M w base ok x cs) : cs = [.string x.f0, .int .i64 x.f1.f0, .int .i64 x.f1.f1, .int .i64 x.f1.f2, .int .i64 x.f1.f3, .int .i64 x.f1.f4, .string x.f2] := by
  obtain ⟨_, _, rfl, rfl, ⟨_, _, rfl, s1, rfl⟩⟩ := h
  obtain rfl := k36_openM s1
  exact rfl
theorem k38_mk (w : World) (x : S38)  : k38.K w x [.string x.f0, .int .i64 x.f1.f0, .int .i64 x.f1.f1, .int .i64 x.f1.f2, .int .i64 x.f1.f3, .int .i64 x.f1.f4, .string x.f2] := ⟨[.string x.f0], [.int .i64 x.f1.f0, .int .i64 x.f1.f1, .int .i64 x.f1.f2, .int .i64 x.f1.f3, .int .i64 x.f1.f4, .string x.f2], rfl, rfl, ⟨[.int .i64 x.f1.f0, .int .i64 x.f1.f1, .int .i64 x.f1.f2, .int .i64 x.f1.f3, .int .i64 x.f1.f4], [.string x.f2], rfl, (k36_mk w x.f1 ), rfl⟩⟩
theorem k38_mkM (w : World) (base : Nat) (ok : Nat → Prop) (x : S38)  : k38.M w base ok x [.string x.f0, .int .i64 x.f1.f0, .int .i64 x.f1.f1, .int .i64 x.f1.f2, .int .i64 x.f1.f3, .int .i64 x.f1.f4, .string x.f2] := ⟨[.string x.f0], [.int .i64 x.f1.f0, .int .i64 x.f1.f1, .int .i64 x.f1.f2, .int .i64 x.f1.f3, .int .i64 x.f1.f4, .string x.f2], rfl, rfl, ⟨[.int .i64 x.f1.f0, .int .i64 x.f1.f1, .int .i64 x.f1.f2, .int .i64 x.f1.f3, .int .i64 x.f1.f4], [.string x.f2], rfl, (k36_mkM w base ok x.f1 ), rfl⟩⟩
def rd_T38 (xs : List S38) (i : Int) : S38 := xs.getD i.toNat z38
theorem at_T38 {w : World} {A : Option Addr} {n : Nat} {xs : List S38} (h : Kd.C k38 w A n xs) (i : Int) (h0 : 0 ≤ i) (h1 : i < n) : ∃ ad , A = some ad ∧ w.cell? (ad.add (i.toNat * 7)) = some (.string (rd_T38 xs i).f0) ∧ w.cell? ⟨(ad.add (i.toNat * 7)).block, (ad.add (i.toNat * 7)).off + 1, none⟩ = some (.int .i64 (rd_T38 xs i).f1.f0) ∧ w.cell? ⟨(ad.add (i.toNat * 7)).block, (ad.add (i.toNat * 7)).off + 2, none⟩ = some (.int .i64 (rd_T38 xs i).f1.f1) ∧ w.cell? ⟨(ad.add (i.toNat * 7)).block, (ad.add (i.toNat * 7)).off + 3, none⟩ = some (.int .i64 (rd_T38 xs i).f1.f2) ∧ w.cell? ⟨(ad.add (i.toNat * 7)).block, (ad.add (i.toNat * 7)).off + 4, none⟩ = some (.int .i64 (rd_T38 xs i).f1.f3) ∧ w.cell? ⟨(ad.add (i.toNat * 7)).block, (ad.add (i.toNat * 7)).off + 5, none⟩ = some (.int .i64 (rd_T38 xs i).f1.f4) ∧ w.cell? ⟨(ad.add (i.toNat * 7)).block, (ad.add (i.toNat * 7)).off + 6, none⟩ = some (.string (rd_T38 xs i).f2) := by
  obtain ⟨ad, c, e, _, hK, hc0⟩ := Kd.C_get h z38 i h0 h1
  have hc : ∀ j u, c[j]? = some u → w.cell? (ad.add (i.toNat * 7 + j)) = some u := hc0
  obtain rfl := k38_open hK
  exact ⟨ad, e, hc 0 _ rfl, by rw [← add_field _ _ 1 (by omega)]; exact hc 1 _ rfl, by rw [← add_field _ _ 2 (by omega)]; exact hc 2 _ rfl, by rw [← add_field _ _ 3 (by omega)]; exact hc 3 _ rfl, by rw [← add_field _ _ 4 (by omega)]; exact hc 4 _ rfl, by rw [← add_field _ _ 5 (by omega)]; exact hc 5 _ rfl, by rw [← add_field _ _ 6 (by omega)]; exact hc 6 _ rfl⟩
theorem eqA36 (d : Nat) (w : World) (x0 y0 : Int) (x1 y1 : Int) (x2 y2 : Int) (x3 y3 : Int) (x4 y4 : Int) :
    (Op.equalIn (d + 2) 36 (.agg #[.int .i64 x0, .int .i64 x1, .int .i64 x2, .int .i64 x3, .int .i64 x4]) (.agg #[.int .i64 y0, .int .i64 y1, .int .i64 y2, .int .i64 y3, .int .i64 y4])).run Tryz.prog w = .ok (x0 == y0 && (x1 == y1 && (x2 == y2 && (x3 == y3 && (x4 == y4))))) w := by
  refine eqA_of Tryz.underlying36 (by kernel_rfl) ?_
  refine eqf_cons (by rfl) (by go_simp; rfl) (by go_simp; rfl) (by go_simp) ?_
  refine eqf_cons (by rfl) (by go_simp; rfl) (by go_simp; rfl) (by go_simp) ?_
  refine eqf_cons (by rfl) (by go_simp; rfl) (by go_simp; rfl) (by go_simp) ?_
  refine eqf_cons (by rfl) (by go_simp; rfl) (by go_simp; rfl) (by go_simp) ?_
  exact eqf_last (by rfl) (by go_simp; rfl) (by go_simp; rfl) (by go_simp)
theorem eqA38 (d : Nat) (w : World) (x0 y0 : ByteArray) (x1 y1 : Int) (x2 y2 : Int) (x3 y3 : Int) (x4 y4 : Int) (x5 y5 : Int) (x6 y6 : ByteArray) :
    (Op.equalIn (d + 3) 38 (.agg #[.string x0, .int .i64 x1, .int .i64 x2, .int .i64 x3, .int .i64 x4, .int .i64 x5, .string x6]) (.agg #[.string y0, .int .i64 y1, .int .i64 y2, .int .i64 y3, .int .i64 y4, .int .i64 y5, .string y6])).run Tryz.prog w = .ok (x0.toList == y0.toList && ((x1 == y1 && (x2 == y2 && (x3 == y3 && (x4 == y4 && (x5 == y5))))) && (x6.toList == y6.toList))) w := by
  refine eqA_of Tryz.underlying38 (by kernel_rfl) ?_
  refine eqf_cons (by rfl) (by go_simp; rfl) (by go_simp; rfl) (by go_simp) ?_
  refine eqf_cons (by rfl) (by go_simp) (by go_simp) (eqA36 (d + 0) w _ _ _ _ _ _ _ _ _ _) ?_
  exact eqf_last (by rfl) (by go_simp; rfl) (by go_simp; rfl) (by go_simp)
attribute [local go_sem] max2_int min2_int max_two min_two max_three min_three max_four min_four
mutual
def l8_few.l0 : Nat → List (S38) → List (S38) → Int → Int → Option ((List (S38)))
  | 0, _, _, _, _ => none
  | k + 1, x0, x3, x4, x5 => if x5 < (x0.length : Int) then (l8_few.j1 k x0 x3 x4 x5 (decide (x5 < 40))) else (l8_few.j1 k x0 x3 x4 x5 false)
def l8_few.j1 : Nat → List (S38) → List (S38) → Int → Int → Bool → Option ((List (S38)))
  | 0, _, _, _, _, _ => none
  | k + 1, x0, x3, x4, x5, x14 => if x14 = true then (if 0 ≤ x5 then (if x5 < (x0.length : Int) then (if (((rd_T38 x0 x5).f2).size : Int) > (wrap64 (60000 - x4)) then (if x3.length < 1954687338268 then (l8_few.l0 k x0 (x3 ++ [(⟨(rd_T38 x0 x5).f0, (⟨(rd_T38 x0 x5).f1.f0, (rd_T38 x0 x5).f1.f1, (rd_T38 x0 x5).f1.f2, (rd_T38 x0 x5).f1.f3, (rd_T38 x0 x5).f1.f4⟩ : S36), (⟨#[]⟩ : ByteArray)⟩ : S38)]) (wrap64 (x4 + 0)) (wrap64 (x5 + 1))) else (none)) else (if x3.length < 1954687338268 then (l8_few.l0 k x0 (x3 ++ [(⟨(rd_T38 x0 x5).f0, (⟨(rd_T38 x0 x5).f1.f0, (rd_T38 x0 x5).f1.f1, (rd_T38 x0 x5).f1.f2, (rd_T38 x0 x5).f1.f3, (rd_T38 x0 x5).f1.f4⟩ : S36), (rd_T38 x0 x5).f2⟩ : S38)]) (wrap64 (x4 + (((rd_T38 x0 x5).f2).size : Int))) (wrap64 (x5 + 1))) else (none))) else (none)) else (none)) else (some x3)
end
def l8_few.f (k : Nat) (l0 : List (S38)) : Option ((List (S38))) := l8_few.l0 k l0 ([] : List (S38)) 0 0
mutual
def r10_Name.j0 : Nat → ByteArray → Bool → Option (Int)
  | 0, _, _ => none
  | k + 1, x0, x16 => if x16 = true then (some 40) else (r10_Name.l0 k x0 0)
def r10_Name.l0 : Nat → ByteArray → Int → Option (Int)
  | 0, _, _ => none
  | k + 1, x0, x3 => if x3 < (x0.size : Int) then (if 0 ≤ x3 then (if (bt x0 x3) < 33 then (some 40) else (if (bt x0 x3) > 126 then (some 40) else (if (bt x0 x3) = 47 then (some 40) else (r10_Name.l0 k x0 (wrap64 (x3 + 1)))))) else (none)) else (some 0)
end
def r10_Name.f (k : Nat) (a0 : ByteArray) : Option (Int) := if (a0.size : Int) > 19 then (some 4) else (if a0.toList = ([] : List UInt8) then (r10_Name.j0 k a0 true) else (if a0.toList = ([46] : List UInt8) then (r10_Name.j0 k a0 true) else (r10_Name.j0 k a0 (a0.toList == ([46, 46] : List UInt8)))))
mutual
def r10_Split.j0 : Nat → ByteArray → Bool → Option (List ByteArray × Int)
  | 0, _, _ => none
  | k + 1, x0, x17 => if x17 = true then (some (([] : List ByteArray), 40)) else (if (x0.size : Int) = 1 then (some (([] : List ByteArray), 0)) else (r10_Split.l0 k x0 ([] : List ByteArray) 1 1))
def r10_Split.l0 : Nat → ByteArray → List ByteArray → Int → Int → Option (List ByteArray × Int)
  | 0, _, _, _, _ => none
  | k + 1, x0, x4, x5, x6 => if x6 ≤ (x0.size : Int) then (if x6 < (x0.size : Int) then (if 0 ≤ x6 then (r10_Split.j2 k x0 x4 x5 x6 ((bt x0 x6) != 47)) else (none)) else (r10_Split.j2 k x0 x4 x5 x6 false)) else (some (x4, 0))
def r10_Split.j2 : Nat → ByteArray → List ByteArray → Int → Int → Bool → Option (List ByteArray × Int)
  | 0, _, _, _, _, _ => none
  | k + 1, x0, x4, x5, x6, x36 => if x36 = true then (r10_Split.l0 k x0 x4 x5 (wrap64 (x6 + 1))) else (if 0 ≤ x5 then (if x5 ≤ x6 then (if x6 ≤ (x0.size : Int) then ((r10_Name.f k (x0.extract (x5 : Int).toNat (x6 : Int).toNat)).bind fun t109 => (if t109 = 0 then (if x4.length < 8796093022208 then (r10_Split.l0 k x0 (x4 ++ [x0.extract (x5 : Int).toNat (x6 : Int).toNat]) (wrap64 (x6 + 1)) (wrap64 (x6 + 1))) else (none)) else (some (([] : List ByteArray), t109)))) else (none)) else (none)) else (none))
end
def r10_Split.f (k : Nat) (a0 : ByteArray) : Option (List ByteArray × Int) := if (a0.size : Int) > 255 then (some (([] : List ByteArray), 4)) else (if a0.toList = ([] : List UInt8) then (r10_Split.j0 k a0 true) else (if 0 < (a0.size : Int) then (r10_Split.j0 k a0 ((bt a0 0) != 47)) else (none)))
def r8_Find.l0 : Nat → List (S38) → ByteArray → Int → Option (Int)
  | 0, _, _, _ => none
  | k + 1, x0, x1, x5 => if x5 < (x0.length : Int) then (if 0 ≤ x5 then (if ((rd_T38 x0 x5).f0).toList = x1.toList then (some x5) else (r8_Find.l0 k x0 x1 (wrap64 (x5 + 1)))) else (none)) else (some (-1))
def r8_Find.f (k : Nat) (l0 : List (S38)) (a1 : ByteArray) : Option (Int) := r8_Find.l0 k l0 a1 0
def r8_may.j0 : Nat → Int → Bool → ByteArray → Int → Int → Int → Int → Int → ByteArray → Option (Bool)
  | 0, _, _, _, _, _, _, _, _, _ => none
  | k + 1, x6, x32, x114000, x114001, x114002, x114003, x114004, x114005, x114006 => if x32 = true then (some false) else (if x114003 = 2 then (some (x114006.toList == ([] : List UInt8))) else (if x114003 = 1 then (if (x114006.size : Int) ≤ 5675264 then (some true) else (if x114003 = 3 then (some (x6 == 0)) else (some false))) else (if x114003 = 3 then (some (x6 == 0)) else (some false))))
def r8_may.f (k : Nat) (a0_0 : ByteArray) (a0_1 : Int) (a0_2 : Int) (a0_3 : Int) (a0_4 : Int) (a0_5 : Int) (a0_6 : ByteArray) : Option (Bool) := (r10_Split.f k a0_0).bind fun bt114 => ((r10_Split.f k a0_6).bind fun bt118 => (if bt114.2 = 0 then (if a0_3 < 1 then (r8_may.j0 k bt118.2 true a0_0 a0_1 a0_2 a0_3 a0_4 a0_5 a0_6) else (r8_may.j0 k bt118.2 (decide (a0_3 > 3)) a0_0 a0_1 a0_2 a0_3 a0_4 a0_5 a0_6)) else (r8_may.j0 k bt118.2 true a0_0 a0_1 a0_2 a0_3 a0_4 a0_5 a0_6)))
mutual
def r8_Less.l0 : Nat → ByteArray → ByteArray → Int → Option (Bool)
  | 0, _, _, _ => none
  | k + 1, x0, x1, x5 => if x5 < (x0.size : Int) then (r8_Less.j1 k x0 x1 x5 (decide (x5 < (x1.size : Int)))) else (r8_Less.j1 k x0 x1 x5 false)
def r8_Less.j1 : Nat → ByteArray → ByteArray → Int → Bool → Option (Bool)
  | 0, _, _, _, _ => none
  | k + 1, x0, x1, x5, x15 => if x15 = true then (if 0 ≤ x5 then (if x5 < (x0.size : Int) then (if x5 < (x1.size : Int) then (if (bt x0 x5) = (bt x1 x5) then (r8_Less.l0 k x0 x1 (wrap64 (x5 + 1))) else (if (bt x0 x5) = 47 then (some ((bt x0 x5) == 47)) else (if (bt x1 x5) = 47 then (some ((bt x0 x5) == 47)) else (some (decide ((bt x0 x5) < (bt x1 x5))))))) else (none)) else (none)) else (none)) else (some (decide ((x0.size : Int) < (x1.size : Int))))
end
def r8_Less.f (k : Nat) (a0 : ByteArray) (a1 : ByteArray) : Option (Bool) := r8_Less.l0 k a0 a1 0
def r8_Above.l0 : Nat → ByteArray → Int → Option (ByteArray)
  | 0, _, _ => none
  | k + 1, x0, x3 => if x3 > 0 then (if 0 ≤ x3 then (if x3 < (x0.size : Int) then (if (bt x0 x3) = 47 then (if x3 ≤ (x0.size : Int) then (some (x0.extract 0 (x3 : Int).toNat)) else (none)) else (r8_Above.l0 k x0 (wrap64 (x3 - 1)))) else (none)) else (none)) else (some (⟨#[47]⟩ : ByteArray))
def r8_Above.f (k : Nat) (a0 : ByteArray) : Option (ByteArray) := r8_Above.l0 k a0 (wrap64 ((a0.size : Int) - 1))
mutual
def r8_Normal.l0 : Nat → List (S38) → List (S38) → Int → Option ((List (S38)) × Int)
  | 0, _, _, _ => none
  | k + 1, x0, x4, x5 => if x5 < (x0.length : Int) then (if 0 ≤ x5 then ((r8_may.f k ((rd_T38 x0 x5).f0) ((rd_T38 x0 x5).f1.f0) ((rd_T38 x0 x5).f1.f1) ((rd_T38 x0 x5).f1.f2) ((rd_T38 x0 x5).f1.f3) ((rd_T38 x0 x5).f1.f4) ((rd_T38 x0 x5).f2)).bind fun t124 => (if t124 = true then ((r8_Find.f k x4 ((rd_T38 x0 x5).f0)).bind fun t126 => (r8_Normal.j1 k x0 x4 x5 (decide (t126 ≥ 0)))) else (r8_Normal.j1 k x0 x4 x5 true))) else (none)) else (if (x4.length : Int) = 0 then (r8_Normal.j3 k x4 true) else (if 0 < (x4.length : Int) then (if ((rd_T38 x4 0).f0).toList = ([47] : List UInt8) then (r8_Normal.j3 k x4 (((rd_T38 x4 0).f1.f2) != 2)) else (r8_Normal.j3 k x4 true)) else (none)))
def r8_Normal.j1 : Nat → List (S38) → List (S38) → Int → Bool → Option ((List (S38)) × Int)
  | 0, _, _, _, _ => none
  | k + 1, x0, x4, x5, x37 => if x37 = true then (some (([] : List (S38)), 5)) else (r8_Normal.l1 k x0 x4 x5 ([] : List (S38)) false 0)
def r8_Normal.l1 : Nat → List (S38) → List (S38) → Int → List (S38) → Bool → Int → Option ((List (S38)) × Int)
  | 0, _, _, _, _, _, _ => none
  | k + 1, x0, x4, x5, x6, x7, x8 => if x8 < (x4.length : Int) then (if x7 = true then (if 0 ≤ x8 then (if x6.length < 1954687338268 then (r8_Normal.l1 k x0 x4 x5 (x6 ++ [(⟨(rd_T38 x4 x8).f0, (⟨(rd_T38 x4 x8).f1.f0, (rd_T38 x4 x8).f1.f1, (rd_T38 x4 x8).f1.f2, (rd_T38 x4 x8).f1.f3, (rd_T38 x4 x8).f1.f4⟩ : S36), (rd_T38 x4 x8).f2⟩ : S38)]) x7 (wrap64 (x8 + 1))) else (none)) else (none)) else (if 0 ≤ x5 then (if x5 < (x0.length : Int) then (if 0 ≤ x8 then ((r8_Less.f k ((rd_T38 x0 x5).f0) ((rd_T38 x4 x8).f0)).bind fun t133 => (if t133 = true then (if x6.length < 1954687338268 then ((some (x6 ++ [(⟨(rd_T38 x0 x5).f0, (⟨(rd_T38 x0 x5).f1.f0, (rd_T38 x0 x5).f1.f1, (rd_T38 x0 x5).f1.f2, (rd_T38 x0 x5).f1.f3, (rd_T38 x0 x5).f1.f4⟩ : S36), (rd_T38 x0 x5).f2⟩ : S38)] : List (S38))).bind fun y135 => (if y135.length < 1954687338268 then (r8_Normal.l1 k x0 x4 x5 (y135 ++ [(⟨(rd_T38 x4 x8).f0, (⟨(rd_T38 x4 x8).f1.f0, (rd_T38 x4 x8).f1.f1, (rd_T38 x4 x8).f1.f2, (rd_T38 x4 x8).f1.f3, (rd_T38 x4 x8).f1.f4⟩ : S36), (rd_T38 x4 x8).f2⟩ : S38)]) true (wrap64 (x8 + 1))) else (none))) else (none)) else (if x6.length < 1954687338268 then (r8_Normal.l1 k x0 x4 x5 (x6 ++ [(⟨(rd_T38 x4 x8).f0, (⟨(rd_T38 x4 x8).f1.f0, (rd_T38 x4 x8).f1.f1, (rd_T38 x4 x8).f1.f2, (rd_T38 x4 x8).f1.f3, (rd_T38 x4 x8).f1.f4⟩ : S36), (rd_T38 x4 x8).f2⟩ : S38)]) x7 (wrap64 (x8 + 1))) else (none)))) else (none)) else (none)) else (none))) else (if x7 = true then (r8_Normal.l0 k x0 x6 (wrap64 (x5 + 1))) else (if 0 ≤ x5 then (if x5 < (x0.length : Int) then (if x6.length < 1954687338268 then (r8_Normal.l0 k x0 (x6 ++ [(⟨(rd_T38 x0 x5).f0, (⟨(rd_T38 x0 x5).f1.f0, (rd_T38 x0 x5).f1.f1, (rd_T38 x0 x5).f1.f2, (rd_T38 x0 x5).f1.f3, (rd_T38 x0 x5).f1.f4⟩ : S36), (rd_T38 x0 x5).f2⟩ : S38)]) (wrap64 (x5 + 1))) else (none)) else (none)) else (none)))
def r8_Normal.j3 : Nat → List (S38) → Bool → Option ((List (S38)) × Int)
  | 0, _, _ => none
  | k + 1, x4, x100 => if x100 = true then (some (([] : List (S38)), 5)) else (if 0 ≤ (x4.length : Int) then (if ((x4.length : Int) : Int).toNat ≤ 7036874417766 then (r8_Normal.l2 k x4 (List.replicate ((x4.length : Int) : Int).toNat z36) 0) else (none)) else (none))
def r8_Normal.l2 : Nat → List (S38) → List (S36) → Int → Option ((List (S38)) × Int)
  | 0, _, _, _ => none
  | k + 1, x4, x9, x10 => if x10 < (x4.length : Int) then (if x10 > 0 then (if 0 ≤ x10 then ((r8_Above.f k ((rd_T38 x4 x10).f0)).bind fun t156 => ((r8_Find.f k x4 t156).bind fun t157 => (if t157 < 0 then (some (([] : List (S38)), 5)) else (if 0 ≤ t157 then (if t157 < (x4.length : Int) then (if ((rd_T38 x4 t157).f1.f2) = 2 then (r8_Normal.j5 k x4 x9 x10) else (some (([] : List (S38)), 5))) else (none)) else (none))))) else (none)) else (r8_Normal.j5 k x4 x9 x10)) else (r8_Normal.l4 k x4 x9 0)
def r8_Normal.j5 : Nat → List (S38) → List (S36) → Int → Option ((List (S38)) × Int)
  | 0, _, _, _ => none
  | k + 1, x4, x9, x10 => r8_Normal.l3 k x4 x9 x10 (-1) 0 0
def r8_Normal.l3 : Nat → List (S38) → List (S36) → Int → Int → Int → Int → Option ((List (S38)) × Int)
  | 0, _, _, _, _, _, _ => none
  | k + 1, x4, x9, x10, x12, x13, x14 => if x14 < (x4.length : Int) then (if 0 ≤ x14 then (if 0 ≤ x10 then (if x10 < (x4.length : Int) then (if ((rd_T38 x4 x14).f1.f0) = ((rd_T38 x4 x10).f1.f0) then (if x14 = x10 then (r8_Normal.j7 k x4 x9 x10 x12 x13 x14 false) else (if ((rd_T38 x4 x14).f1.f2) = 1 then (if ((rd_T38 x4 x10).f1.f2) = 1 then (r8_Normal.j7 k x4 x9 x10 x12 x13 x14 (((rd_T38 x4 x14).f2).toList != ((rd_T38 x4 x10).f2).toList)) else (r8_Normal.j7 k x4 x9 x10 x12 x13 x14 true)) else (r8_Normal.j7 k x4 x9 x10 x12 x13 x14 true))) else (r8_Normal.l3 k x4 x9 x10 x12 x13 (wrap64 (x14 + 1)))) else (none)) else (none)) else (none)) else (if 0 ≤ x10 then (if x10 < (x4.length : Int) then (if x10 < (x9.length : Int) then (r8_Normal.l2 k x4 (x9.set (x10 : Int).toNat (⟨wrap64 (x12 + 1), 0, (rd_T38 x4 x10).f1.f2, x13, (((rd_T38 x4 x10).f2).size : Int)⟩ : S36)) (wrap64 (x10 + 1))) else (none)) else (none)) else (none))
def r8_Normal.j7 : Nat → List (S38) → List (S36) → Int → Int → Int → Int → Bool → Option ((List (S38)) × Int)
  | 0, _, _, _, _, _, _, _ => none
  | k + 1, x4, x9, x10, x12, x13, x14, x183 => if x183 = true then (some (([] : List (S38)), 5)) else (if x12 < 0 then (r8_Normal.l3 k x4 x9 x10 x14 (wrap64 (x13 + 1)) (wrap64 (x14 + 1))) else (r8_Normal.l3 k x4 x9 x10 x12 (wrap64 (x13 + 1)) (wrap64 (x14 + 1))))
def r8_Normal.l4 : Nat → List (S38) → List (S36) → Int → Option ((List (S38)) × Int)
  | 0, _, _, _ => none
  | k + 1, x4, x9, x15 => if x15 < (x4.length : Int) then (if 0 ≤ x15 then (if x15 < (x9.length : Int) then (r8_Normal.l4 k (x4.set (x15 : Int).toNat (⟨(rd_T38 x4 x15).f0, (⟨(rd_T36 x9 x15).f0, (rd_T36 x9 x15).f1, (rd_T36 x9 x15).f2, (rd_T36 x9 x15).f3, (rd_T36 x9 x15).f4⟩ : S36), (rd_T38 x4 x15).f2⟩ : S38)) x9 (wrap64 (x15 + 1))) else (none)) else (none)) else (some (x4, 0))
end
def r8_Normal.f (k : Nat) (l0 : List (S38)) : Option ((List (S38)) × Int) := r8_Normal.l0 k l0 ([] : List (S38)) 0
def bytealg_LastIndexByteString.l0 : Nat → ByteArray → Int → Int → Option (Int)
  | 0, _, _, _ => none
  | k + 1, x0, x1, x5 => if x5 ≥ 0 then (if 0 ≤ x5 then (if x5 < (x0.size : Int) then (if (bt x0 x5) = x1 then (some x5) else (bytealg_LastIndexByteString.l0 k x0 x1 (wrap64 (x5 - 1)))) else (none)) else (none)) else (some (-1))
def bytealg_LastIndexByteString.f (k : Nat) (a0 : ByteArray) (a1 : Int) : Option (Int) := bytealg_LastIndexByteString.l0 k a0 a1 (wrap64 ((a0.size : Int) - 1))
def strings_LastIndexByte.f (k : Nat) (a0 : ByteArray) (a1 : Int) : Option (Int) := (bytealg_LastIndexByteString.f k a0 a1).bind fun t175 => (some t175)
def archive_above.f (k : Nat) (a0 : ByteArray) : Option (ByteArray) := (strings_LastIndexByte.f k a0 47).bind fun t176 => (if t176 = 0 then (some (⟨#[47]⟩ : ByteArray)) else (if 0 ≤ t176 then (if t176 ≤ (a0.size : Int) then (some (a0.extract 0 (t176 : Int).toNat)) else (none)) else (none)))
def api_Node_40.l0 : Nat → List (S38) → List (S38) → Int → Int → Option (Bool)
  | 0, _, _, _, _ => none
  | k + 1, x0, x1, x12, x13 => if x13 < x12 then (if 0 ≤ x13 then (if x13 < (x0.length : Int) then (if x13 < (x1.length : Int) then (if (!((((rd_T38 x0 x13).f0).toList) == (((rd_T38 x1 x13).f0).toList)) || ((!(((rd_T38 x0 x13).f1.f0) == ((rd_T38 x1 x13).f1.f0)) || (!(((rd_T38 x0 x13).f1.f1) == ((rd_T38 x1 x13).f1.f1)) || (!(((rd_T38 x0 x13).f1.f2) == ((rd_T38 x1 x13).f1.f2)) || (!(((rd_T38 x0 x13).f1.f3) == ((rd_T38 x1 x13).f1.f3)) || (!(((rd_T38 x0 x13).f1.f4) == ((rd_T38 x1 x13).f1.f4))))))) || (!((((rd_T38 x0 x13).f2).toList) == (((rd_T38 x1 x13).f2).toList))))) = true then (some false) else (api_Node_40.l0 k x0 x1 x12 (wrap64 (x13 + 1)))) else (none)) else (none)) else (none)) else (some true)
def api_Node_40.f (k : Nat) (l0 : List (S38)) (l1 : List (S38)) : Option (Bool) := if (l0.length : Int) = (l1.length : Int) then (api_Node_40.l0 k l0 l1 (l0.length : Int) 0) else (some false)
def archive_same.f (k : Nat) (l0 : List (S38)) (l1 : List (S38)) : Option (Bool) := (api_Node_40.f k l0 l1).bind fun t187 => (some t187)
def archive_pieces.f (a0 : ByteArray) : Option (Int) := some (wrap64 (Int.tdiv (wrap64 ((wrap64 ((a0.size : Int) + 448)) - 1)) 448))
def archive_blank.l0 : Nat → ByteArray → Int → Int → Option (Bool)
  | 0, _, _, _ => none
  | k + 1, x0, x5, x6 => if x6 < x5 then (if 0 ≤ x6 then (if x6 < (x0.size : Int) then (if (bt x0 x6) = 0 then (archive_blank.l0 k x0 x5 (wrap64 (x6 + 1))) else (some false)) else (none)) else (none)) else (some true)
def archive_blank.f (k : Nat) (a0 : ByteArray) : Option (Bool) := archive_blank.l0 k a0 (a0.size : Int) 0
def archive_piece.f (a0 : ByteArray) (a1 : Int) : Option (ByteArray) := if 0 ≤ (wrap64 (a1 * 448)) then (if (wrap64 (a1 * 448)) ≤ (mn (wrap64 ((wrap64 (a1 + 1)) * 448)) (a0.size : Int)) then (if (mn (wrap64 ((wrap64 (a1 + 1)) * 448)) (a0.size : Int)) ≤ (a0.size : Int) then (some (a0.extract ((wrap64 (a1 * 448)) : Int).toNat ((mn (wrap64 ((wrap64 (a1 + 1)) * 448)) (a0.size : Int)) : Int).toNat)) else (none)) else (none)) else (none)
def sum_right.f (a0 : Int) (a1 : Int) : Option (Int) := if 0 ≤ a1 then (if 0 ≤ (wrap64 (32 - a1)) then (some (Go.bits .or .u32 (shr .u32 a0 a1) (shl .u32 a0 (wrap64 (32 - a1))))) else (none)) else (none)
def r1_Noughts.f (a0 : Int) : Option (ByteArray) := if 0 ≤ a0 then (if (a0 : Int).toNat ≤ 281474976710656 then (some (strOfNums (List.replicate (a0 : Int).toNat 0))) else (none)) else (none)
def r2_keys.f  : Option (List Int) := some (([1116352408, 1899447441, 3049323471, 3921009573, 961987163, 1508970993, 2453635748, 2870763221, 3624381080, 310598401, 607225278, 1426881987, 1925078388, 2162078206, 2614888103, 3248222580, 3835390401, 4022224774, 264347078, 604807628, 770255983, 1249150122, 1555081692, 1996064986, 2554220882, 2821834349, 2952996808, 3210313671, 3336571891, 3584528711, 113926993, 338241895, 666307205, 773529912, 1294757372, 1396182291, 1695183700, 1986661051, 2177026350, 2456956037, 2730485921, 2820302411, 3259730800, 3345764771, 3516065817, 3600352804, 4094571909, 275423344, 430227734, 506948616, 659060556, 883997877, 958139571, 1322822218, 1537002063, 1747873779, 1955562222, 2024104815, 2227730452, 2361852424, 2428436474, 2756734187, 3204031479, 3329325298] : List Int))
def r2_low.f (a0 : Int) : Option (Int) := some (Go.bits .and .i64 a0 4294967295)
def r2_right.f (a0 : Int) (a1 : Int) : Option (Int) := if 0 ≤ a1 then (if 0 ≤ (wrap64 (32 - a1)) then ((r2_low.f (Go.bits .or .i64 (shr .i64 a0 a1) (shl .i64 a0 (wrap64 (32 - a1))))).bind fun t206 => (some t206)) else (none)) else (none)
mutual
def r2_words.l0 : Nat → List Int → List Int → Int → Option (List Int)
  | 0, _, _, _ => none
  | k + 1, x0, x3, x4 => if x4 < 16 then (if 0 ≤ (wrap64 (4 * x4)) then (if (wrap64 (4 * x4)) < (x0.length : Int) then (if 0 ≤ (wrap64 ((wrap64 (4 * x4)) + 1)) then (if (wrap64 ((wrap64 (4 * x4)) + 1)) < (x0.length : Int) then (if 0 ≤ (wrap64 ((wrap64 (4 * x4)) + 2)) then (if (wrap64 ((wrap64 (4 * x4)) + 2)) < (x0.length : Int) then (if 0 ≤ (wrap64 ((wrap64 (4 * x4)) + 3)) then (if (wrap64 ((wrap64 (4 * x4)) + 3)) < (x0.length : Int) then (if x3.length < 17592186044416 then (r2_words.l0 k x0 (x3 ++ [wrap64 ((wrap64 ((wrap64 ((wrap64 ((wrap64 (rd x0 (wrap64 (4 * x4)))) * 16777216)) + (wrap64 ((wrap64 (rd x0 (wrap64 ((wrap64 (4 * x4)) + 1)))) * 65536)))) + (wrap64 ((wrap64 (rd x0 (wrap64 ((wrap64 (4 * x4)) + 2)))) * 256)))) + (wrap64 (rd x0 (wrap64 ((wrap64 (4 * x4)) + 3)))))]) (wrap64 (x4 + 1))) else (none)) else (none)) else (none)) else (none)) else (none)) else (none)) else (none)) else (none)) else (none)) else (r2_words.l1 k x3 16)
def r2_words.l1 : Nat → List Int → Int → Option (List Int)
  | 0, _, _ => none
  | k + 1, x3, x5 => if x5 < 64 then (if 0 ≤ (wrap64 (x5 - 15)) then (if (wrap64 (x5 - 15)) < (x3.length : Int) then (if 0 ≤ (wrap64 (x5 - 2)) then (if (wrap64 (x5 - 2)) < (x3.length : Int) then (if 0 ≤ (wrap64 (x5 - 16)) then (if (wrap64 (x5 - 16)) < (x3.length : Int) then ((r2_right.f (rd x3 (wrap64 (x5 - 15))) 7).bind fun t217 => ((r2_right.f (rd x3 (wrap64 (x5 - 15))) 18).bind fun t218 => (if 0 ≤ (wrap64 (x5 - 7)) then (if (wrap64 (x5 - 7)) < (x3.length : Int) then ((r2_right.f (rd x3 (wrap64 (x5 - 2))) 17).bind fun t220 => ((r2_right.f (rd x3 (wrap64 (x5 - 2))) 19).bind fun t221 => ((r2_low.f (wrap64 ((wrap64 ((wrap64 ((rd x3 (wrap64 (x5 - 16))) + (Go.bits .xor .i64 (Go.bits .xor .i64 t217 t218) ((rd x3 (wrap64 (x5 - 15))) / 8)))) + (rd x3 (wrap64 (x5 - 7))))) + (Go.bits .xor .i64 (Go.bits .xor .i64 t220 t221) ((rd x3 (wrap64 (x5 - 2))) / 1024))))).bind fun t222 => (if x3.length < 17592186044416 then (r2_words.l1 k (x3 ++ [t222]) (wrap64 (x5 + 1))) else (none))))) else (none)) else (none)))) else (none)) else (none)) else (none)) else (none)) else (none)) else (none)) else (some x3)
end
def r2_words.f (k : Nat) (l0 : List Int) : Option (List Int) := r2_words.l0 k l0 ([] : List Int) 0
def r8_Part_text.f (s0_0 : ByteArray) (s0_1 : Int) (s0_2 : Int) (a1 : Int) : Option (ByteArray × ByteArray × Int × Int) := if s0_2 = 0 then (if a1 > (wrap64 ((s0_0.size : Int) - s0_1)) then (some ((⟨#[]⟩ : ByteArray), s0_0, s0_1, 3)) else (if 0 ≤ (wrap64 ((wrap64 (s0_1 + a1)) - a1)) then (if (wrap64 ((wrap64 (s0_1 + a1)) - a1)) ≤ (wrap64 (s0_1 + a1)) then (if (wrap64 (s0_1 + a1)) ≤ (s0_0.size : Int) then (some (s0_0.extract ((wrap64 ((wrap64 (s0_1 + a1)) - a1)) : Int).toNat ((wrap64 (s0_1 + a1)) : Int).toNat, s0_0, wrap64 (s0_1 + a1), s0_2)) else (none)) else (none)) else (none))) else (some ((⟨#[]⟩ : ByteArray), s0_0, s0_1, s0_2))
def r8_Part_ask.f (s0_0 : ByteArray) (s0_1 : Int) (s0_2 : Int) (a1 : Bool) : Option (ByteArray × Int × Int) := if s0_2 = 0 then (if a1 = true then (some (s0_0, s0_1, s0_2)) else (some (s0_0, s0_1, 5))) else (some (s0_0, s0_1, s0_2))
mutual
def r1_Get.j0 : Nat → ByteArray → Int → Int → Bool → Option (Int × Int)
  | 0, _, _, _, _ => none
  | k + 1, x0, x1, x2, x15 => if x15 = true then (some (0, 1)) else (if x1 < 0 then (r1_Get.j1 k x0 x1 x2 true) else (if x1 > (x0.size : Int) then (r1_Get.j1 k x0 x1 x2 true) else (r1_Get.j1 k x0 x1 x2 (decide (x2 > (wrap64 ((x0.size : Int) - x1)))))))
def r1_Get.j1 : Nat → ByteArray → Int → Int → Bool → Option (Int × Int)
  | 0, _, _, _, _ => none
  | k + 1, x0, x1, x2, x31 => if x31 = true then (some (0, 3)) else (r1_Get.l0 k x0 x1 0 (wrap64 (x2 - 1)))
def r1_Get.l0 : Nat → ByteArray → Int → Int → Int → Option (Int × Int)
  | 0, _, _, _, _ => none
  | k + 1, x0, x1, x8, x9 => if x9 ≥ 0 then (if 0 ≤ (wrap64 (x1 + x9)) then (if (wrap64 (x1 + x9)) < (x0.size : Int) then (r1_Get.l0 k x0 x1 (wrap64 ((wrap64 (x8 * 256)) + (wrap64 (bt x0 (wrap64 (x1 + x9)))))) (wrap64 (x9 - 1))) else (none)) else (none)) else (some (x8, 0))
end
def r1_Get.f (k : Nat) (a0 : ByteArray) (a1 : Int) (a2 : Int) : Option (Int × Int) := if a2 < 1 then (r1_Get.j0 k a0 a1 a2 true) else (r1_Get.j0 k a0 a1 a2 (decide (a2 > 6)))
def r8_Part_get.f (k : Nat) (s0_0 : ByteArray) (s0_1 : Int) (s0_2 : Int) (a1 : Int) : Option (Int × ByteArray × Int × Int) := if s0_2 = 0 then ((r1_Get.f k s0_0 s0_1 a1).bind fun bt246 => (some (bt246.1, s0_0, wrap64 (s0_1 + a1), bt246.2))) else (some (0, s0_0, s0_1, s0_2))
mutual
def r8_Part_file.l0 : Nat → Int → Int → List Int → Int → Int → ByteArray → Int → Int → Option (ByteArray × ByteArray × Int × Int)
  | 0, _, _, _, _, _, _, _, _ => none
  | k + 1, x3, x4, x5, x6, x7, x1000, x1001, x1002 => if x7 < x4 then (r8_Part_file.j1 k x3 x4 x5 x6 x7 (x1002 == 0) x1000 x1001 x1002) else (r8_Part_file.j1 k x3 x4 x5 x6 x7 false x1000 x1001 x1002)
def r8_Part_file.j1 : Nat → Int → Int → List Int → Int → Int → Bool → ByteArray → Int → Int → Option (ByteArray × ByteArray × Int × Int)
  | 0, _, _, _, _, _, _, _, _, _ => none
  | k + 1, x3, x4, x5, x6, x7, x36, x1000, x1001, x1002 => if x36 = true then ((r8_Part_get.f k x1000 x1001 x1002 4).bind fun bt262 => (if bt262.1 > x6 then ((r8_Part_ask.f bt262.2.1 bt262.2.2.1 bt262.2.2.2 (decide ((wrap64 (448 * bt262.1)) < x3))).bind fun bt266 => (r8_Part_file.j2 k x3 x4 x5 x7 bt262.1 bt266.1 bt266.2.1 bt266.2.2)) else ((r8_Part_ask.f bt262.2.1 bt262.2.2.1 bt262.2.2.2 false).bind fun bt269 => (r8_Part_file.j2 k x3 x4 x5 x7 bt262.1 bt269.1 bt269.2.1 bt269.2.2)))) else (some (strOfNums x5, x1000, x1001, x1002))
def r8_Part_file.j2 : Nat → Int → Int → List Int → Int → Int → ByteArray → Int → Int → Option (ByteArray × ByteArray × Int × Int)
  | 0, _, _, _, _, _, _, _, _ => none
  | k + 1, x3, x4, x5, x7, x8, x1000, x1001, x1002 => if x1002 = 0 then (if (wrap64 ((wrap64 (448 * x8)) + 448)) > x3 then (r8_Part_file.j3 k x3 x4 x5 x7 x8 x3 x1000 x1001 x1002) else (r8_Part_file.j3 k x3 x4 x5 x7 x8 (wrap64 ((wrap64 (448 * x8)) + 448)) x1000 x1001 x1002)) else (some ((⟨#[]⟩ : ByteArray), x1000, x1001, x1002))
def r8_Part_file.j3 : Nat → Int → Int → List Int → Int → Int → Int → ByteArray → Int → Int → Option (ByteArray × ByteArray × Int × Int)
  | 0, _, _, _, _, _, _, _, _, _ => none
  | k + 1, x3, x4, x5, x7, x8, x9, x1000, x1001, x1002 => (r8_Part_text.f x1000 x1001 x1002 (wrap64 (x9 - (wrap64 (448 * x8))))).bind fun bt272 => ((r1_Noughts.f (bt272.1.size : Int)).bind fun t276 => ((r8_Part_ask.f bt272.2.1 bt272.2.2.1 bt272.2.2.2 (bt272.1.toList != t276.toList)).bind fun bt277 => (r8_Part_file.l1 k x3 x4 x5 x7 x8 bt272.1 0 bt277.1 bt277.2.1 bt277.2.2)))
def r8_Part_file.l1 : Nat → Int → Int → List Int → Int → Int → ByteArray → Int → ByteArray → Int → Int → Option (ByteArray × ByteArray × Int × Int)
  | 0, _, _, _, _, _, _, _, _, _, _ => none
  | k + 1, x3, x4, x5, x7, x8, x10, x11, x1000, x1001, x1002 => if x11 < (x10.size : Int) then (if 0 ≤ x11 then (if 0 ≤ (wrap64 ((wrap64 (448 * x8)) + x11)) then (if (wrap64 ((wrap64 (448 * x8)) + x11)) < (x5.length : Int) then (r8_Part_file.l1 k x3 x4 (x5.set ((wrap64 ((wrap64 (448 * x8)) + x11)) : Int).toNat (bt x10 x11)) x7 x8 x10 (wrap64 (x11 + 1)) x1000 x1001 x1002) else (none)) else (none)) else (none)) else (r8_Part_file.l0 k x3 x4 x5 x8 (wrap64 (x7 + 1)) x1000 x1001 x1002)
end
def r8_Part_file.f (k : Nat) (s0_0 : ByteArray) (s0_1 : Int) (s0_2 : Int) : Option (ByteArray × ByteArray × Int × Int) := (r8_Part_get.f k s0_0 s0_1 s0_2 6).bind fun bt248 => ((r8_Part_get.f k bt248.2.1 bt248.2.2.1 bt248.2.2.2 4).bind fun bt252 => ((r8_Part_ask.f bt252.2.1 bt252.2.2.1 bt252.2.2.2 (decide (bt248.1 ≤ 5675264))).bind fun bt256 => (if bt256.2.2 = 0 then (if 0 ≤ bt248.1 then (if (bt248.1 : Int).toNat ≤ 281474976710656 then (r8_Part_file.l0 k bt248.1 bt252.1 (List.replicate (bt248.1 : Int).toNat 0) (-1) 0 bt256.1 bt256.2.1 bt256.2.2) else (none)) else (none)) else (some ((⟨#[]⟩ : ByteArray), bt256.1, bt256.2.1, bt256.2.2)))))
def bl (n m : Nat) : Array Bool := ((List.range n).map fun i => m.testBit i).toArray
section
variable {P : Program} {md : Region.Mode} {ops : Array Oper} {Q : Exit → Act → World → Prop} {S : World → Prop} {ds : List Nat} {T : Bool × List (List Nat × List Nat)} {oi : Oper} {v : Value} {fuel : Nat} {l : Array Bool} {a a' : Act} {w : World}
theorem pu (i : Nat) (D : Tmp) (l' : Array Bool) (HT : Aside0 (rtab md ops = T)) (h : wpAnyLast P md ops Q S ds fuel l' a' w) (hi : ops[i]? = some oi := by rfl) (hN : oi.dst = some D := by rfl) (hc : anyT T l.toList l'.toList i = true := by kernel_rfl)
    (hQ : ∀ c a w, Q (.panic c) (a.put oi.dst v) w → Q (.panic c) a w := by exact fun _ _ _ h => h) (hw : Region.wanted oi (yielded ops a.tmps) = true := by rfl) (hy : ∀ w', (execOp a.eval oi).run P w' = .ok (.value v) w' := by intro w'; go_simp; with_reducible rfl)
    (ha : a.put (some D) v = a' := by simp only [Act.put, List.setIfInBounds_toArray, List.set_cons_zero, List.set_cons_succ, i64_w, i32_w]; rfl) : wpAnyLast P md ops Q S ds (fuel + 1) l a w :=
  pure_ l' hi hN (any_of HT.out hc) hQ (Or.inl ⟨hw, hy⟩) ha h
theorem puh (i : Nat) (D : Tmp) (l' : Array Bool) (HT : Aside0 (rtab md ops = T)) (HP : Aside0 (∀ c (a : Act) N v w, Q (.panic c) (a.put N v) w → Q (.panic c) a w)) (h : wpAnyLast P md ops Q S ds fuel l' a' w) (hi : ops[i]? = some oi := by rfl) (hN : oi.dst = some D := by rfl) (hc : anyT T l.toList l'.toList i = true := by kernel_rfl)
    (hw : Region.wanted oi (yielded ops a.tmps) = true := by rfl) (hy : ∀ w', (execOp a.eval oi).run P w' = .ok (.value v) w' := by intro w'; go_simp; with_reducible rfl)
    (ha : a.put (some D) v = a' := by simp only [Act.put, List.setIfInBounds_toArray, List.set_cons_zero, List.set_cons_succ, i64_w, i32_w]; rfl) : wpAnyLast P md ops Q S ds (fuel + 1) l a w :=
  pure_ l' hi hN (any_of HT.out hc) (fun _ _ _ h => HP.out _ _ _ _ _ h) (Or.inl ⟨hw, hy⟩) ha h
theorem pk (i : Nat) (D : Tmp) (l' : Array Bool) (h : wpAnyLast P md ops Q S ds fuel l' a' w) (hi : ops[i]? = some oi := by rfl) (hN : oi.dst = some D := by rfl) (hc : anyB md ops l l' i = true := by kernel_rfl)
    (hQ : ∀ c a w, Q (.panic c) (a.put oi.dst v) w → Q (.panic c) a w := by exact fun _ _ _ h => h) (hw : Region.wanted oi (yielded ops a.tmps) = true := by rfl) (hy : ∀ w', (execOp a.eval oi).run P w' = .ok (.value v) w' := by intro w'; go_simp; with_reducible rfl)
    (ha : a.put (some D) v = a' := by simp only [Act.put, List.setIfInBounds_toArray, List.set_cons_zero, List.set_cons_succ, i64_w, i32_w]; rfl) : wpAnyLast P md ops Q S ds (fuel + 1) l a w :=
  pure_ l' hi hN hc hQ (Or.inl ⟨hw, hy⟩) ha h
theorem tk {B : List Nat} (i : Nat) (D : Tmp) (l' : Array Bool) (HT : Aside0 (rtab md ops = T)) (HW : Aside0 (waitsOk T.2 B = true)) (hS : S w) (h : wpAnyLast P md ops Q S ds fuel l' a' w) (hi : ops[i]? = some oi := by rfl) (hN : oi.dst = some D := by rfl)
    (hc : takeW T B ds l.toList l'.toList i = true := by kernel_rfl) (hQ : ∀ c a w, Q (.panic c) (a.put oi.dst v) w → Q (.panic c) a w := by exact fun _ _ _ h => h) (hw : Region.wanted oi (yielded ops a.tmps) = true := by rfl) (hy : ∀ w', S w' → (execOp a.eval oi).run P w' = .ok (.value v) w')
    (ha : a.put (some D) v = a' := by simp only [Act.put, List.setIfInBounds_toArray, List.set_cons_zero, List.set_cons_succ, i64_w, i32_w]; rfl) : wpAnyLast P md ops Q S ds (fuel + 1) l a w :=
  take_ l' hi hN (take_ofW HT.out HW.out hc) hQ (Or.inl ⟨hw, hy⟩) hS ha h
theorem tkh {B : List Nat} (i : Nat) (D : Tmp) (l' : Array Bool) (HT : Aside0 (rtab md ops = T)) (HW : Aside0 (waitsOk T.2 B = true)) (HP : Aside0 (∀ c (a : Act) N v w, Q (.panic c) (a.put N v) w → Q (.panic c) a w)) (hS : S w) (h : wpAnyLast P md ops Q S ds fuel l' a' w) (hi : ops[i]? = some oi := by rfl) (hN : oi.dst = some D := by rfl)
    (hc : takeW T B ds l.toList l'.toList i = true := by kernel_rfl) (hw : Region.wanted oi (yielded ops a.tmps) = true := by rfl) (hy : ∀ w', S w' → (execOp a.eval oi).run P w' = .ok (.value v) w')
    (ha : a.put (some D) v = a' := by simp only [Act.put, List.setIfInBounds_toArray, List.set_cons_zero, List.set_cons_succ, i64_w, i32_w]; rfl) : wpAnyLast P md ops Q S ds (fuel + 1) l a w :=
  take_ l' hi hN (take_ofW HT.out HW.out hc) (fun _ _ _ h => HP.out _ _ _ _ _ h) (Or.inl ⟨hw, hy⟩) hS ha h
theorem pn (i : Nat) (D : Tmp) (l' : Array Bool) (HT : Aside0 (rtab md ops = T)) (h : wpAnyLast P md ops Q S ds fuel l' a' w) (hi : ops[i]? = some oi := by rfl) (hN : oi.dst = some D := by rfl) (hc : anyT T l.toList l'.toList i = true := by kernel_rfl)
    (hQ : ∀ c a w, Q (.panic c) (a.put oi.dst undef) w → Q (.panic c) a w := by exact fun _ _ _ h => h) (hw : Region.wanted oi (yielded ops a.tmps) = false := by rfl)
    (ha : a.put (some D) undef = a' := by simp only [Act.put, List.setIfInBounds_toArray, List.set_cons_zero, List.set_cons_succ, i64_w, i32_w]; rfl) : wpAnyLast P md ops Q S ds (fuel + 1) l a w :=
  pure_ l' hi hN (any_of HT.out hc) hQ (Or.inr ⟨hw, rfl⟩) ha h
end
end Go.Proofs.YtkhblpmjmkhiiaaGreatDoor.PAll
namespace Go.Proofs.YtkhblpmjmkhiiaaGreatDoor
theorem Z1 {p : Prop} (h : p := by repeat (first | (with_reducible first | exact HB.out | apply below_alloc | apply pw_below_drewN | apply below_drew1) | exact HB.out)) : p := h
theorem Z2 {p : Prop} (h : p := by first | (with_reducible assumption) | assumption) : p := h
theorem Z3 {p : Prop} (h : p := by omega) : p := h
theorem Z4 {p : Prop} (h : p := by first | rfl | (simp; done) | (simp [*]; done)) : p := h
theorem Z5 {p : Prop} (h : p := by repeat (first | (with_reducible first | exact HK.out | apply KeepBut.set_ | apply keep_drewN | apply keep_drew | apply keep_alloc) | exact HK.out)) : p := h
theorem Z6 {p : Prop} (h : p := by repeat (first | (with_reducible first | exact HI0.out | apply IsS67.alloc | apply IsS67.drewN | apply IsS67.drew | apply IsS67.set_0 | apply IsS67.set_1 | apply IsS67.set_2) | exact HI0.out)) : p := h
theorem Z7 {p : Prop} (h : p := by (try simp only [List.map_toArray, List.map_cons, List.map_nil]); first | done | rfl | (simp only [List.length_drop, List.length_take]; rfl)) : p := h
theorem Z8 {p : Prop} (h : p := by intro w'; go_simp; (try simp only [i64_w, f11, f16, f17, f24, f28, f32, f33, f34, f39, f44]); with_reducible rfl) : p := h
theorem Z9 {p : Prop} (h : p := by repeat (first | exact Drawn0.refl _ | apply Drawn0.step)) : p := h
theorem Z10 {p : Prop} (h : p := by (with_reducible repeat (first | apply Kd.R_alloc | apply Kd.R_drewN | apply Kd.R_drew)); exact HO_4.out) : p := h
theorem Z11 {p : Prop} (h : p := by decide) : p := h
theorem Z12 {p : Prop} (h : p := by first | rfl | (simp [errW_none, errW_some] <;> rfl) | (simp [*, errW_none, errW_some] <;> rfl)) : p := h
theorem Z13 {p : Prop} (h : p := by kernel_rfl) : p := h
theorem Z14 {p : Prop} (h : p := by intro w'; go_simp; (try simp only [i64_w, g11, g16, h1, h2, h3, h4, h5, h6]); with_reducible rfl) : p := h
theorem Z15 {p : Prop} (h : p := by rintro w' ⟨x0, x1, x2, x3, x4, x5, x6, x7, y0, y1⟩; go_simp; with_reducible rfl) : p := h
theorem Z16 {p : Prop} (h : p := by intro w'; go_simp; (try simp only [k0, k1, k2, k3, k4, k5, k6]); with_reducible rfl) : p := h
theorem Z17 {p : Prop} (h : p := by first | exact Kd.R_nil _ _ _ _ _ | exact Kd.N_nil _ _ _ _ _ | exact Kd.V_nil _ _ _ _ _ | exact Kd.Q_nil _ _ _ _ _ | exact Kd.S_nil _ _ _ _ _) : p := h
theorem Z18 {p : Prop} (h : p := by (with_reducible repeat (first | apply Kd.R_alloc | apply Kd.R_drewN | apply Kd.R_drew)); exact HO_5.out) : p := h
theorem Z19 {p : Prop} (h : p := by (try simp only [List.map_toArray, List.map_cons, List.map_nil]); first | done | rfl) : p := h
theorem Z20 {p : Prop} (h : p := by intro w'; go_simp; (try simp only [i64_w, j1, j2]); with_reducible rfl) : p := h
theorem Z21 {p : Prop} (h : p := by (with_reducible repeat (first | apply Kd.R_alloc | apply Kd.R_drewN | apply Kd.R_drew)); exact HO_9.out) : p := h
theorem Z22 {p : Prop} (h : p := by rintro w' ⟨s0, s1, s2, s3, s4, s5, s6, s7, s8, s9, s10, s11, s12, s13⟩; go_simp; with_reducible rfl) : p := h
theorem Z23 {p : Prop} (h : p := by simp) : p := h
theorem Z24 {p : Prop} (h : p := by (with_reducible repeat (first | apply Kd.R_alloc | apply Kd.R_drewN | apply Kd.R_drew)); exact HO_3.out) : p := h
theorem Z25 {p : Prop} (h : p := by have := HF.out; omega) : p := h
theorem Z26 {p : Prop} (h : p := by simp [results, Tryz.results38, go_sem, d0, d1, d2, d3, d4, d5, d6]; rfl) : p := h
theorem Z27 {p : Prop} (h : p := by intro w'; go_simp; (try simp only [i64_w, j1]); with_reducible rfl) : p := h
theorem Z28 {p : Prop} (h : p := by rintro w' ⟨s0, s1, s2, s3, s4, s5, s6, s7, s8, s9, s10, s11, s12, s13, s14, s15, s16, s17, s18, s19, s20, s21, s22, s23, s24, s25, s26, s27⟩; go_simp; with_reducible rfl) : p := h
theorem Z29 {p : Prop} (h : p := by obtain ⟨n, e⟩ := HD.out; exact ⟨n + nd, by rw [e, World.drewN_drewN]⟩) : p := h
theorem Z30 {p : Prop} (h : p := by have := HK1.out; first | omega | exact Nat.le_refl _) : p := h
theorem Z31 {p : Prop} (h : p := by (with_reducible repeat (first | apply Kd.R_alloc | apply Kd.R_drewN | apply Kd.R_drew)); exact Kd.R_mono HO_4.out (fun _ hk => ⟨trivial, hk⟩)) : p := h
theorem Z32 {p : Prop} (h : p := by have := HK1.out; have := HJ40.out; have := HK3.out; have := HJ54.out; have := HK5.out; first | omega | exact Nat.le_refl _) : p := h
theorem Z33 {p : Prop} (h : p := by first | (go_simp; done) | (go_simp; rfl)) : p := h
theorem Z34 {p : Prop} (h : p := by have h_ : (x10_3 : Int) < ((x9_3.length : Int) : Int) := of_decide_eq_true (by first | (with_reducible assumption) | assumption); first | exact h_ | (have e_ := (Kd.R_reads' HO_9.out).1; omega) | simpa using h_) : p := h
theorem Z35 {p : Prop} (h : p := by have h_ : (x15_4 : Int) < ((x4_4.length : Int) : Int) := of_decide_eq_true (by first | (with_reducible assumption) | assumption); first | exact h_ | (have e_ := (Kd.R_reads' HO_4.out).1; omega) | simpa using h_) : p := h
theorem Z36 {p : Prop} (h : p := by (with_reducible repeat (first | apply Kd.R_alloc | apply Kd.R_drewN | apply Kd.R_drew)); exact HO_6.out) : p := h
theorem Z37 {p : Prop} (h : p := by rw [pb_len]; omega) : p := h
theorem Z38 {p : Prop} (h : p := by rw [w64 (by omega) (by omega)]; rfl) : p := h
theorem Z39 {p : Prop} (h : p := by (with_reducible repeat (first | apply Kd.R_alloc | apply Kd.R_drewN | apply Kd.R_drew)); exact Kd.R_mono HO_4.out (fun _ hk => hk.2)) : p := h
theorem Z40 {p : Prop} (h : p := by first | omega | exact Nat.le_refl _) : p := h
theorem Z41 {p : Prop} (h : p := by repeat (first | exact Below.refl _ _ | apply pw_below_drewN)) : p := h
theorem Z42 {p : Prop} (h : p := by rw [fillW_length (schedW_length b) (by omega)]; omega) : p := h
theorem Z43 {p : Prop} (h : p := by simp; omega) : p := h
theorem Z44 {p : Prop} (h : p := by simp [results, Tryz.results64, go_sem, d0, d1, d2, d3, d4, d5, d6]; rfl) : p := h
theorem Z45 {p : Prop} (h : p := by have := HK1.out; have := HJ2.out; have := HK3.out; omega) : p := h
theorem Z46 {p : Prop} (h : p := by have := HL.out; omega) : p := h
theorem Z47 {p : Prop} (h : p := by have : (47 : UInt8).toNat = 47 := rfl; omega) : p := h
theorem Z48 {p : Prop} (h : p := by first | rfl | rw [HY.out]) : p := h
end Go.Proofs.YtkhblpmjmkhiiaaGreatDoor
