/- What the document's Bytes answers: what archive.Bytes answers. -/
import Derived.Test.YtkhblpmjmkhiiaaGreatDoorQK7
import Derived.Test.YtkhblpmjmkhiiaaGreatDoorQK3
import Derived.Test.YtkhblpmjmkhiiaaGreatDoorQK4
import Derived.Test.YtkhblpmjmkhiiaaGreatDoorQK1
import Derived.Test.YtkhblpmjmkhiiaaGreatDoorQH6
import Derived.Test.YtkhblpmjmkhiiaaGreatDoorQH4
namespace Go.Proofs.YtkhblpmjmkhiiaaGreatDoor.T
open Go.RowKit Go.Proofs.YtkhblpmjmkhiiaaGreatDoorW.PrintWords Go.Proofs.YtkhblpmjmkhiiaaGreatDoorW.PrintLast Go.Proofs.YtkhblpmjmkhiiaaGreatDoorW.PrintMore Go.Proofs.YtkhblpmjmkhiiaaGreatDoor.PAll
set_option linter.unusedSimpArgs false
set_option linter.unusedVariables false
def mkb (l : List UInt8) : ByteArray := ⟨l.toArray⟩
theorem mkb_size (l : List UInt8) : (mkb l).size = l.length := by
 show l.toArray.size = l.length
 exact List.size_toArray
theorem blank_zeros : ∀ (p : List UInt8), blankL p = true ↔ p = List.replicate p.length 0
 | [] => by simp [blankL]
 | b :: r => by
  have ih := blank_zeros r
  unfold blankL at ih ⊢
  rw [List.all_cons, Bool.and_eq_true, ih, List.length_cons, List.replicate_succ, List.cons.injEq, beq_iff_eq]
theorem noughts_ev (n : Nat) (h : n ≤ 1000000) : r1_Noughts.f (n : Int) = some (mkb (List.replicate n 0)) := by
 unfold r1_Noughts.f
 rw [if_pos Z3, Int.toNat_natCast, if_pos Z3]
 congr 1
 have : (List.replicate n (0 : Int)) = (List.replicate n (0 : UInt8)).map fun b => (b.toNat : Int) := by simp
 rw [this]
 exact Lib.Lz.strOfNums_map _
section
variable (l : List S38) (n : S38) (R : ByteArray × Int)
theorem wi (i : Nat) (h : i ≤ 1000000) : wrap64 ((i : Int) + 1) = ((i + 1 : Nat) : Int) := by rw [w64 Z3 Z3]; rfl
end
end Go.Proofs.YtkhblpmjmkhiiaaGreatDoor.T
