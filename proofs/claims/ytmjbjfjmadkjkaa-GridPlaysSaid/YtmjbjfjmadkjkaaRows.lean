/-
  No cell of these rows narrows 'for every input' (looked for: loops, veiled, ifaces, maps, wideKeys, modest, calm, conditions, laid).
  DERIVED. THE GIVEN ROWS OF THIS SEAT. 9 by the template 'for every input the law returns true; each argument reads behind the call as it read before'; 0 by the template 'total and deterministic' (their statements: YtmjbjfjmadkjkaaTotals.lean).
  GIVEN WITH THE SEED: the statements are not yours to turn. If you find one false, say at which input.
  Laid BY PROGRAM, IN A SANDBOX (cutbox-rows.mjs): the forced cells as the released guide's own fill.sh prints them over the translation ff0af2c76d68603e… (all of the seat's roots in one cut). By AI agents, Wed Nov 11 2026. No macro, syntax, notation, axiom, sorry.
-/
import Derived.Test.YtmjbjfjmadkjkaaChecked
import GoSem.Claim
import GoSem.ClaimJoined
import GoSem.ClaimMapViews
import Derived.JoinedTies
import Derived.KernelRfl
namespace Go.Proofs.Ytmjbjfjmadkjkaa
/- THE CELL 'sum', in the pinned program and in every row, IS THE sha256 OF THE DUMP (.gsa) THAT YtmjbjfjmadkjkaaProg.lean LOADS. Nothing in Lean hashes anything: it is a label: what it is worth is what the hold of that sum in a sandbox is worth. -/
noncomputable def Try.pinned : Pinned := { name := "ytmjbjfjmadkjkaa", sum := "ff0af2c76d68603e367c9b6474864e65d354d5b1efe1897311d8f43cb35c1930", checked := Try.checked }
namespace Rows
def none {H : Type} : Left H := { results := [], args := [] }

/-- 'grapnellaw08.GridNexts': WHATEVER THE INPUT: true; the input reads as it did. -/
def gridNextsSpec : ChangeSpec := { name := "gridNexts", fn := fun _ => fun
  | [d1, d2, d3, d4] => { results := [.lit (.bool true)], args := [d1, d2, d3, d4] }
  | _ => none }
def gridNextsRow : OpenClaim := { program := "ytmjbjfjmadkjkaa", sum := "ff0af2c76d68603e367c9b6474864e65d354d5b1efe1897311d8f43cb35c1930", func := "grapnel/grapnellaw08.GridNexts", spec := "gridNexts", apart := false }
def GridNextsSaid : Prop := gridNextsRow.holds Try.pinned (OpenSpec.ofChange gridNextsSpec)

/-- ITS FALSE NEIGHBOUR: 'it returns false'. Refute it at one input. -/
def gridNextsWrong : ChangeSpec := { name := "gridNexts", fn := fun _ => fun
  | [d1, d2, d3, d4] => { results := [.lit (.bool false)], args := [d1, d2, d3, d4] }
  | _ => none }
def GridNextsWrongFalsely : Prop := gridNextsRow.holds Try.pinned (OpenSpec.ofChange gridNextsWrong)

/-- 'grapnellaw08.GridHas': WHATEVER THE INPUT: true; the input reads as it did. -/
def gridHasSpec : ChangeSpec := { name := "gridHas", fn := fun _ => fun
  | [d1, d2, d3] => { results := [.lit (.bool true)], args := [d1, d2, d3] }
  | _ => none }
def gridHasRow : OpenClaim := { program := "ytmjbjfjmadkjkaa", sum := "ff0af2c76d68603e367c9b6474864e65d354d5b1efe1897311d8f43cb35c1930", func := "grapnel/grapnellaw08.GridHas", spec := "gridHas", apart := false }
def GridHasSaid : Prop := gridHasRow.holds Try.pinned (OpenSpec.ofChange gridHasSpec)

/-- ITS FALSE NEIGHBOUR: 'it returns false'. Refute it at one input. -/
def gridHasWrong : ChangeSpec := { name := "gridHas", fn := fun _ => fun
  | [d1, d2, d3] => { results := [.lit (.bool false)], args := [d1, d2, d3] }
  | _ => none }
def GridHasWrongFalsely : Prop := gridHasRow.holds Try.pinned (OpenSpec.ofChange gridHasWrong)

/-- 'grapnellaw08.GridNews': WHATEVER THE INPUT: true; the input reads as it did. -/
def gridNewsSpec : ChangeSpec := { name := "gridNews", fn := fun _ => fun
  | [d] => { results := [.lit (.bool true)], args := [d] }
  | _ => none }
def gridNewsRow : OpenClaim := { program := "ytmjbjfjmadkjkaa", sum := "ff0af2c76d68603e367c9b6474864e65d354d5b1efe1897311d8f43cb35c1930", func := "grapnel/grapnellaw08.GridNews", spec := "gridNews", apart := false }
def GridNewsSaid : Prop := gridNewsRow.holds Try.pinned (OpenSpec.ofChange gridNewsSpec)

/-- ITS FALSE NEIGHBOUR: 'it returns false'. Refute it at one input. -/
def gridNewsWrong : ChangeSpec := { name := "gridNews", fn := fun _ => fun
  | [d] => { results := [.lit (.bool false)], args := [d] }
  | _ => none }
def GridNewsWrongFalsely : Prop := gridNewsRow.holds Try.pinned (OpenSpec.ofChange gridNewsWrong)

/-- 'grapnellaw08.GridOfs': WHATEVER THE INPUT: true; the input reads as it did. -/
def gridOfsSpec : ChangeSpec := { name := "gridOfs", fn := fun _ => fun
  | [d1, d2] => { results := [.lit (.bool true)], args := [d1, d2] }
  | _ => none }
def gridOfsRow : OpenClaim := { program := "ytmjbjfjmadkjkaa", sum := "ff0af2c76d68603e367c9b6474864e65d354d5b1efe1897311d8f43cb35c1930", func := "grapnel/grapnellaw08.GridOfs", spec := "gridOfs", apart := false }
def GridOfsSaid : Prop := gridOfsRow.holds Try.pinned (OpenSpec.ofChange gridOfsSpec)

/-- ITS FALSE NEIGHBOUR: 'it returns false'. Refute it at one input. -/
def gridOfsWrong : ChangeSpec := { name := "gridOfs", fn := fun _ => fun
  | [d1, d2] => { results := [.lit (.bool false)], args := [d1, d2] }
  | _ => none }
def GridOfsWrongFalsely : Prop := gridOfsRow.holds Try.pinned (OpenSpec.ofChange gridOfsWrong)

/-- 'grapnellaw08.GridBack': WHATEVER THE INPUT: true; the input reads as it did. -/
def gridBackSpec : ChangeSpec := { name := "gridBack", fn := fun _ => fun
  | [d1, d2] => { results := [.lit (.bool true)], args := [d1, d2] }
  | _ => none }
def gridBackRow : OpenClaim := { program := "ytmjbjfjmadkjkaa", sum := "ff0af2c76d68603e367c9b6474864e65d354d5b1efe1897311d8f43cb35c1930", func := "grapnel/grapnellaw08.GridBack", spec := "gridBack", apart := false }
def GridBackSaid : Prop := gridBackRow.holds Try.pinned (OpenSpec.ofChange gridBackSpec)

/-- ITS FALSE NEIGHBOUR: 'it returns false'. Refute it at one input. -/
def gridBackWrong : ChangeSpec := { name := "gridBack", fn := fun _ => fun
  | [d1, d2] => { results := [.lit (.bool false)], args := [d1, d2] }
  | _ => none }
def GridBackWrongFalsely : Prop := gridBackRow.holds Try.pinned (OpenSpec.ofChange gridBackWrong)

/-- 'grapnellaw08.GridCopies': WHATEVER THE INPUT: true; the input reads as it did. -/
def gridCopiesSpec : ChangeSpec := { name := "gridCopies", fn := fun _ => fun
  | [d1, d2, d3] => { results := [.lit (.bool true)], args := [d1, d2, d3] }
  | _ => none }
def gridCopiesRow : OpenClaim := { program := "ytmjbjfjmadkjkaa", sum := "ff0af2c76d68603e367c9b6474864e65d354d5b1efe1897311d8f43cb35c1930", func := "grapnel/grapnellaw08.GridCopies", spec := "gridCopies", apart := false }
def GridCopiesSaid : Prop := gridCopiesRow.holds Try.pinned (OpenSpec.ofChange gridCopiesSpec)

/-- ITS FALSE NEIGHBOUR: 'it returns false'. Refute it at one input. -/
def gridCopiesWrong : ChangeSpec := { name := "gridCopies", fn := fun _ => fun
  | [d1, d2, d3] => { results := [.lit (.bool false)], args := [d1, d2, d3] }
  | _ => none }
def GridCopiesWrongFalsely : Prop := gridCopiesRow.holds Try.pinned (OpenSpec.ofChange gridCopiesWrong)

/-- 'grapnellaw08.GridPlays': WHATEVER THE INPUT: true; the input reads as it did. -/
def gridPlaysSpec : ChangeSpec := { name := "gridPlays", fn := fun _ => fun
  | [d1, d2] => { results := [.lit (.bool true)], args := [d1, d2] }
  | _ => none }
def gridPlaysRow : OpenClaim := { program := "ytmjbjfjmadkjkaa", sum := "ff0af2c76d68603e367c9b6474864e65d354d5b1efe1897311d8f43cb35c1930", func := "grapnel/grapnellaw08.GridPlays", spec := "gridPlays", apart := false }
def GridPlaysSaid : Prop := gridPlaysRow.holds Try.pinned (OpenSpec.ofChange gridPlaysSpec)

/-- ITS FALSE NEIGHBOUR: 'it returns false'. Refute it at one input. -/
def gridPlaysWrong : ChangeSpec := { name := "gridPlays", fn := fun _ => fun
  | [d1, d2] => { results := [.lit (.bool false)], args := [d1, d2] }
  | _ => none }
def GridPlaysWrongFalsely : Prop := gridPlaysRow.holds Try.pinned (OpenSpec.ofChange gridPlaysWrong)

/-- 'grapnellaw08.GridTakes': WHATEVER THE INPUT: true; the input reads as it did. -/
def gridTakesSpec : ChangeSpec := { name := "gridTakes", fn := fun _ => fun
  | [d1, d2, d3, d4] => { results := [.lit (.bool true)], args := [d1, d2, d3, d4] }
  | _ => none }
def gridTakesRow : OpenClaim := { program := "ytmjbjfjmadkjkaa", sum := "ff0af2c76d68603e367c9b6474864e65d354d5b1efe1897311d8f43cb35c1930", func := "grapnel/grapnellaw08.GridTakes", spec := "gridTakes", apart := false }
def GridTakesSaid : Prop := gridTakesRow.holds Try.pinned (OpenSpec.ofChange gridTakesSpec)

/-- ITS FALSE NEIGHBOUR: 'it returns false'. Refute it at one input. -/
def gridTakesWrong : ChangeSpec := { name := "gridTakes", fn := fun _ => fun
  | [d1, d2, d3, d4] => { results := [.lit (.bool false)], args := [d1, d2, d3, d4] }
  | _ => none }
def GridTakesWrongFalsely : Prop := gridTakesRow.holds Try.pinned (OpenSpec.ofChange gridTakesWrong)

/-- 'grapnellaw08.GridNobody': WHATEVER THE INPUT: true; the input reads as it did. -/
def gridNobodySpec : ChangeSpec := { name := "gridNobody", fn := fun _ => fun
  | [d] => { results := [.lit (.bool true)], args := [d] }
  | _ => none }
def gridNobodyRow : OpenClaim := { program := "ytmjbjfjmadkjkaa", sum := "ff0af2c76d68603e367c9b6474864e65d354d5b1efe1897311d8f43cb35c1930", func := "grapnel/grapnellaw08.GridNobody", spec := "gridNobody", apart := false }
def GridNobodySaid : Prop := gridNobodyRow.holds Try.pinned (OpenSpec.ofChange gridNobodySpec)

/-- ITS FALSE NEIGHBOUR: 'it returns false'. Refute it at one input. -/
def gridNobodyWrong : ChangeSpec := { name := "gridNobody", fn := fun _ => fun
  | [d] => { results := [.lit (.bool false)], args := [d] }
  | _ => none }
def GridNobodyWrongFalsely : Prop := gridNobodyRow.holds Try.pinned (OpenSpec.ofChange gridNobodyWrong)

/- THE SECOND FORM. 'bulk': how many values and letters a reading holds, each counted each time it is reached (what is shared counts as often as it is met; a slice's spare places count too). A statement '..UptoSaid' is the law's where the arguments, and the package variables that the reading takes, are together of bulk at most 1048576: NARROWER than '..Said'. Prove '..Said' where nothing that the law and all that it calls make is longer than what came in: it says more and counts as full. Else prove '..UptoSaid'. A law counts once. -/
mutual
def uptoBulk {H : Type} : DataW H → Nat
  | .lit (.string bytes) => bytes.length + 1
  | .lit _ => 1
  | .nil => 1
  | .ptr d => uptoBulk d + 1
  | .slice elems spare => uptoBulkAll elems + uptoBulkAll spare + 1
  | .agg parts => uptoBulkAll parts + 1
  | .iface _ d => uptoBulk d + 1
  | .map entries => uptoBulkEntries entries + 1
  | .held _ => 1
def uptoBulkAll {H : Type} : List (DataW H) → Nat
  | [] => 0
  | d :: r => uptoBulk d + uptoBulkAll r
def uptoBulkEntries {H : Type} : List (Lit × DataW H) → Nat
  | [] => 0
  | x :: r => uptoBulkEntry x + uptoBulkEntries r
def uptoBulkEntry {H : Type} : Lit × DataW H → Nat
  | (.string bytes, d) => bytes.length + uptoBulk d + 1
  | (_, d) => uptoBulk d + 1
 end
def uptoSmall : (H : Type) → List (DataW H) → Bool := fun _ ds => decide (uptoBulkAll ds ≤ 1048576)
def OpenSpec.upto (s : _root_.Go.ChangeSpec) : _root_.Go.OpenSpec := { _root_.Go.OpenSpec.ofChange s with cond := some uptoSmall }

/-- 'grapnellaw08.GridNexts', WHERE WHAT IT READS IS OF BULK AT MOST 1048576: true; the input reads as it did. -/
def gridNextsUptoRow : OpenClaim := { program := "ytmjbjfjmadkjkaa", sum := "ff0af2c76d68603e367c9b6474864e65d354d5b1efe1897311d8f43cb35c1930", func := "grapnel/grapnellaw08.GridNexts", spec := "gridNexts", apart := false, narrowed := true }
def GridNextsUptoSaid : Prop := gridNextsUptoRow.holds Try.pinned (OpenSpec.upto gridNextsSpec)

/-- 'grapnellaw08.GridHas', WHERE WHAT IT READS IS OF BULK AT MOST 1048576: true; the input reads as it did. -/
def gridHasUptoRow : OpenClaim := { program := "ytmjbjfjmadkjkaa", sum := "ff0af2c76d68603e367c9b6474864e65d354d5b1efe1897311d8f43cb35c1930", func := "grapnel/grapnellaw08.GridHas", spec := "gridHas", apart := false, narrowed := true }
def GridHasUptoSaid : Prop := gridHasUptoRow.holds Try.pinned (OpenSpec.upto gridHasSpec)

/-- 'grapnellaw08.GridNews', WHERE WHAT IT READS IS OF BULK AT MOST 1048576: true; the input reads as it did. -/
def gridNewsUptoRow : OpenClaim := { program := "ytmjbjfjmadkjkaa", sum := "ff0af2c76d68603e367c9b6474864e65d354d5b1efe1897311d8f43cb35c1930", func := "grapnel/grapnellaw08.GridNews", spec := "gridNews", apart := false, narrowed := true }
def GridNewsUptoSaid : Prop := gridNewsUptoRow.holds Try.pinned (OpenSpec.upto gridNewsSpec)

/-- 'grapnellaw08.GridOfs', WHERE WHAT IT READS IS OF BULK AT MOST 1048576: true; the input reads as it did. -/
def gridOfsUptoRow : OpenClaim := { program := "ytmjbjfjmadkjkaa", sum := "ff0af2c76d68603e367c9b6474864e65d354d5b1efe1897311d8f43cb35c1930", func := "grapnel/grapnellaw08.GridOfs", spec := "gridOfs", apart := false, narrowed := true }
def GridOfsUptoSaid : Prop := gridOfsUptoRow.holds Try.pinned (OpenSpec.upto gridOfsSpec)

/-- 'grapnellaw08.GridBack', WHERE WHAT IT READS IS OF BULK AT MOST 1048576: true; the input reads as it did. -/
def gridBackUptoRow : OpenClaim := { program := "ytmjbjfjmadkjkaa", sum := "ff0af2c76d68603e367c9b6474864e65d354d5b1efe1897311d8f43cb35c1930", func := "grapnel/grapnellaw08.GridBack", spec := "gridBack", apart := false, narrowed := true }
def GridBackUptoSaid : Prop := gridBackUptoRow.holds Try.pinned (OpenSpec.upto gridBackSpec)

/-- 'grapnellaw08.GridCopies', WHERE WHAT IT READS IS OF BULK AT MOST 1048576: true; the input reads as it did. -/
def gridCopiesUptoRow : OpenClaim := { program := "ytmjbjfjmadkjkaa", sum := "ff0af2c76d68603e367c9b6474864e65d354d5b1efe1897311d8f43cb35c1930", func := "grapnel/grapnellaw08.GridCopies", spec := "gridCopies", apart := false, narrowed := true }
def GridCopiesUptoSaid : Prop := gridCopiesUptoRow.holds Try.pinned (OpenSpec.upto gridCopiesSpec)

/-- 'grapnellaw08.GridPlays', WHERE WHAT IT READS IS OF BULK AT MOST 1048576: true; the input reads as it did. -/
def gridPlaysUptoRow : OpenClaim := { program := "ytmjbjfjmadkjkaa", sum := "ff0af2c76d68603e367c9b6474864e65d354d5b1efe1897311d8f43cb35c1930", func := "grapnel/grapnellaw08.GridPlays", spec := "gridPlays", apart := false, narrowed := true }
def GridPlaysUptoSaid : Prop := gridPlaysUptoRow.holds Try.pinned (OpenSpec.upto gridPlaysSpec)

/-- 'grapnellaw08.GridTakes', WHERE WHAT IT READS IS OF BULK AT MOST 1048576: true; the input reads as it did. -/
def gridTakesUptoRow : OpenClaim := { program := "ytmjbjfjmadkjkaa", sum := "ff0af2c76d68603e367c9b6474864e65d354d5b1efe1897311d8f43cb35c1930", func := "grapnel/grapnellaw08.GridTakes", spec := "gridTakes", apart := false, narrowed := true }
def GridTakesUptoSaid : Prop := gridTakesUptoRow.holds Try.pinned (OpenSpec.upto gridTakesSpec)

/-- 'grapnellaw08.GridNobody', WHERE WHAT IT READS IS OF BULK AT MOST 1048576: true; the input reads as it did. -/
def gridNobodyUptoRow : OpenClaim := { program := "ytmjbjfjmadkjkaa", sum := "ff0af2c76d68603e367c9b6474864e65d354d5b1efe1897311d8f43cb35c1930", func := "grapnel/grapnellaw08.GridNobody", spec := "gridNobody", apart := false, narrowed := true }
def GridNobodyUptoSaid : Prop := gridNobodyUptoRow.holds Try.pinned (OpenSpec.upto gridNobodySpec)

end Rows
end Go.Proofs.Ytmjbjfjmadkjkaa
