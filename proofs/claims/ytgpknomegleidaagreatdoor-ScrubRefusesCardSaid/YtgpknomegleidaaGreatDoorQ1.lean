/- The scrub texts, part Q1: walks through the code that the law reaches. -/
import Derived.Test.YtgpknomegleidaaGreatDoorProg
import Derived.Below
import Derived.Deep.Draws
import Derived.Deep.AppendLies
import Derived.Maps.AppendAt
import Derived.OwnWalk
import Derived.Laws.BytesArg
import Derived.Laws.MakeOwn
import Derived.Laws.OwnMore
import Derived.Deep.OwnRows
import Derived.Tactics
import Derived.Lib.ConvBytes
import Derived.Laws.Slices
import Derived.WalkKit
import Derived.KernelRfl
import Derived.RowKit3
import Derived.Deep.LoopGhost
import Derived.Deep.QuietTactic
import Derived.BigQuiet
import Derived.WideLaws
import Derived.Deep.DeepCutAuto
import Derived.Deep.CutBlock
import Derived.Deep.RegionHeld3
import Derived.Laws.Rows
import Derived.Lib.AppendStr
import Derived.ArgAppend
import Derived.Laws.IdiomCopy
import Derived.OrdersHeld
import Derived.Laws.BitsLemmas
import Derived.RowKit
import Derived.Test.YtgpknomegleidaaGreatDoorWWords
import Derived.Test.YtgpknomegleidaaGreatDoorWLast
import Derived.Test.YtgpknomegleidaaGreatDoorWTab
import Derived.Test.YtgpknomegleidaaGreatDoorWFour
import Derived.Test.YtgpknomegleidaaGreatDoorWQPut
import Derived.Test.YtgpknomegleidaaGreatDoorWApart
import Derived.Test.YtgpknomegleidaaGreatDoorWArr
import Derived.Test.YtgpknomegleidaaGreatDoorWZeros
import Derived.Test.YtgpknomegleidaaGreatDoorWFoot
import Derived.Test.YtgpknomegleidaaGreatDoorWKept
import Derived.Test.YtgpknomegleidaaGreatDoorWShare
import Derived.Test.YtgpknomegleidaaGreatDoorWN
import Derived.Test.YtgpknomegleidaaGreatDoorWFootNe
import Derived.Test.YtgpknomegleidaaGreatDoorWAt
import Derived.Test.YtgpknomegleidaaGreatDoorWEqStruct
import Derived.Test.YtgpknomegleidaaGreatDoorWRepsOne
import Derived.Test.YtgpknomegleidaaGreatDoorWInv
import Derived.Test.YtgpknomegleidaaGreatDoorWInvWords
import Derived.Test.YtgpknomegleidaaGreatDoorWGuard
import Derived.Test.YtgpknomegleidaaGreatDoorWNEv
import Derived.Test.YtgpknomegleidaaGreatDoorWMore
import Derived.Lib.Strings
import Derived.Deep.MidRow
import Derived.IntWalk
import Derived.Outline
import Derived.Lib.BufferWrite
import Derived.StillTailTactics
import Derived.Deep.DeepMust
import Derived.Lib.LazyBuf
import Derived.Deep.AppendSrc
import Derived.Deep.Upon
import Derived.Lib.SlBytesConst
-- printed
namespace Go.Proofs.YtgpknomegleidaaGreatDoor.PAll
open Go.RowKit Go.Proofs.YtgpknomegleidaaGreatDoorW.PrintWords Go.Proofs.YtgpknomegleidaaGreatDoorW.PrintLast Go.Proofs.YtgpknomegleidaaGreatDoorW.PrintMore
attribute [local go_sem] max2_int min2_int max_two min_two max_three min_three max_four min_four   -- for this text's walks alone
set_option linter.unusedVariables false
set_option linter.unusedSimpArgs false



def errW : Option Int → Value
  | none => .nilIface
  | some c => .iface 27 (.int .i64 c)
theorem errW_none : errW none = .nilIface := rfl
theorem errW_some (c : Int) : errW (some c) = .iface 27 (.int .i64 c) := rfl

theorem info3 : (Tryz.prog.info? 3).map (fun i => (i.zero, i.size, i.bytes)) = some (some (.int .i64 0), 1, 8) := by kernel_rfl
theorem info5 : (Tryz.prog.info? 5).map (fun i => (i.zero, i.size, i.bytes)) = some (some (.int .u8 0), 1, 1) := by kernel_rfl
theorem info9 : (Tryz.prog.info? 9).map (fun i => (i.zero, i.size, i.bytes)) = some (some (.string ⟨#[]⟩), 1, 16) := by kernel_rfl
-- the values' own types
/-! #### struct type 46 -/
structure S46 where
  f0 : Int
  f1 : Int
  f2 : Int
  f3 : Int
def z46 : S46 := ⟨(0 : Int), (0 : Int), (0 : Int), (0 : Int)⟩
def k46 : Kd S46 := Kd.iso (Kd.pair (Kd.int .i64) (Kd.pair (Kd.int .i64) (Kd.pair (Kd.int .i64) (Kd.int .i64)))) (fun x : S46 => (x.f0, x.f1, x.f2, x.f3))
theorem k46_open {w : World} {x : S46} {cs : List Value} (h : k46.K w x cs) : cs = [.int .i64 x.f0, .int .i64 x.f1, .int .i64 x.f2, .int .i64 x.f3] := by
  obtain ⟨_, _, rfl, rfl, ⟨_, _, rfl, rfl, ⟨_, _, rfl, rfl, rfl⟩⟩⟩ := h
  exact rfl
theorem k46_openM {w : World} {base : Nat} {ok : Nat → Prop} {x : S46} {cs : List Value} (h : k46.M w base ok x cs) : cs = [.int .i64 x.f0, .int .i64 x.f1, .int .i64 x.f2, .int .i64 x.f3] := by
  obtain ⟨_, _, rfl, rfl, ⟨_, _, rfl, rfl, ⟨_, _, rfl, rfl, rfl⟩⟩⟩ := h
  exact rfl
theorem k46_mk (w : World) (x : S46)  : k46.K w x [.int .i64 x.f0, .int .i64 x.f1, .int .i64 x.f2, .int .i64 x.f3] := ⟨[.int .i64 x.f0], [.int .i64 x.f1, .int .i64 x.f2, .int .i64 x.f3], rfl, rfl, ⟨[.int .i64 x.f1], [.int .i64 x.f2, .int .i64 x.f3], rfl, rfl, ⟨[.int .i64 x.f2], [.int .i64 x.f3], rfl, rfl, rfl⟩⟩⟩
theorem k46_mkM (w : World) (base : Nat) (ok : Nat → Prop) (x : S46)  : k46.M w base ok x [.int .i64 x.f0, .int .i64 x.f1, .int .i64 x.f2, .int .i64 x.f3] := ⟨[.int .i64 x.f0], [.int .i64 x.f1, .int .i64 x.f2, .int .i64 x.f3], rfl, rfl, ⟨[.int .i64 x.f1], [.int .i64 x.f2, .int .i64 x.f3], rfl, rfl, ⟨[.int .i64 x.f2], [.int .i64 x.f3], rfl, rfl, rfl⟩⟩⟩
def rd_T46 (xs : List S46) (i : Int) : S46 := xs.getD i.toNat z46
theorem at_T46 {w : World} {A : Option Addr} {n : Nat} {xs : List S46} (h : Kd.C k46 w A n xs) (i : Int) (h0 : 0 ≤ i) (h1 : i < n) : ∃ ad , A = some ad ∧ w.cell? (ad.add (i.toNat * 4)) = some (.int .i64 (rd_T46 xs i).f0) ∧ w.cell? ⟨(ad.add (i.toNat * 4)).block, (ad.add (i.toNat * 4)).off + 1, none⟩ = some (.int .i64 (rd_T46 xs i).f1) ∧ w.cell? ⟨(ad.add (i.toNat * 4)).block, (ad.add (i.toNat * 4)).off + 2, none⟩ = some (.int .i64 (rd_T46 xs i).f2) ∧ w.cell? ⟨(ad.add (i.toNat * 4)).block, (ad.add (i.toNat * 4)).off + 3, none⟩ = some (.int .i64 (rd_T46 xs i).f3) := by
  obtain ⟨ad, c, e, _, hK, hc0⟩ := Kd.C_get h z46 i h0 h1
  have hc : ∀ j u, c[j]? = some u → w.cell? (ad.add (i.toNat * 4 + j)) = some u := hc0
  obtain rfl := k46_open hK
  exact ⟨ad, e, hc 0 _ rfl, by rw [← add_field _ _ 1 (by omega)]; exact hc 1 _ rfl, by rw [← add_field _ _ 2 (by omega)]; exact hc 2 _ rfl, by rw [← add_field _ _ 3 (by omega)]; exact hc 3 _ rfl⟩

/-! #### struct type 183 -/
structure S183 where
  f0 : Int
  f1 : ByteArray
def z183 : S183 := ⟨(0 : Int), (⟨#[]⟩ : ByteArray)⟩
def k183 : Kd S183 := Kd.iso (Kd.pair (Kd.int .i64) Kd.string) (fun x : S183 => (x.f0, x.f1))
theorem k183_open {w : World} {x : S183} {cs : List Value} (h : k183.K w x cs) : cs = [.int .i64 x.f0, .string x.f1] := by
  obtain ⟨_, _, rfl, rfl, rfl⟩ := h
  exact rfl
theorem k183_openM {w : World} {base : Nat} {ok : Nat → Prop} {x : S183} {cs : List Value} (h : k183.M w base ok x cs) : cs = [.int .i64 x.f0, .string x.f1] := by
  obtain ⟨_, _, rfl, rfl, rfl⟩ := h
  exact rfl
theorem k183_mk (w : World) (x : S183)  : k183.K w x [.int .i64 x.f0, .string x.f1] := ⟨[.int .i64 x.f0], [.string x.f1], rfl, rfl, rfl⟩
theorem k183_mkM (w : World) (base : Nat) (ok : Nat → Prop) (x : S183)  : k183.M w base ok x [.int .i64 x.f0, .string x.f1] := ⟨[.int .i64 x.f0], [.string x.f1], rfl, rfl, rfl⟩
def rd_T183 (xs : List S183) (i : Int) : S183 := xs.getD i.toNat z183
theorem at_T183 {w : World} {A : Option Addr} {n : Nat} {xs : List S183} (h : Kd.C k183 w A n xs) (i : Int) (h0 : 0 ≤ i) (h1 : i < n) : ∃ ad , A = some ad ∧ w.cell? (ad.add (i.toNat * 2)) = some (.int .i64 (rd_T183 xs i).f0) ∧ w.cell? ⟨(ad.add (i.toNat * 2)).block, (ad.add (i.toNat * 2)).off + 1, none⟩ = some (.string (rd_T183 xs i).f1) := by
  obtain ⟨ad, c, e, _, hK, hc0⟩ := Kd.C_get h z183 i h0 h1
  have hc : ∀ j u, c[j]? = some u → w.cell? (ad.add (i.toNat * 2 + j)) = some u := hc0
  obtain rfl := k183_open hK
  exact ⟨ad, e, hc 0 _ rfl, by rw [← add_field _ _ 1 (by omega)]; exact hc 1 _ rfl⟩

end Go.Proofs.YtgpknomegleidaaGreatDoor.PAll
namespace Go.Proofs.YtgpknomegleidaaGreatDoor.T
open Go.RowKit Go.Proofs.YtgpknomegleidaaGreatDoorW.PrintWords Go.Proofs.YtgpknomegleidaaGreatDoorW.PrintLast Go.Proofs.YtgpknomegleidaaGreatDoorW.PrintMore Go.Proofs.YtgpknomegleidaaGreatDoor.PAll
set_option linter.unusedSimpArgs false
set_option linter.unusedVariables false

/-- A text's bytes. -/
def pb (s : ByteArray) : List UInt8 := s.data.toList
theorem pb_len (s : ByteArray) : (pb s).length = s.size := by
  rw [pb, Array.length_toList]
  rfl
theorem pb_mk (l : List UInt8) : pb ⟨l.toArray⟩ = l := rfl
theorem toL (s : ByteArray) : s.toList = pb s := Go.Lib.toList_data s
theorem pb_ext (s : ByteArray) (i j : Nat) : pb (s.extract i j) = (pb s).extract i j := by
  simp [pb, List.extract_eq_take_drop]
theorem pb_inj {s t : ByteArray} (h : pb s = pb t) : s = t := by
  cases s; cases t
  simp only [pb, Array.toList_inj] at h
  simpa using h
theorem ext_head (s : ByteArray) (n : Nat) : pb (s.extract 0 n) = (pb s).take n := by rw [pb_ext, List.extract_eq_take_drop]; simp
theorem ext_tail (s : ByteArray) (n : Nat) : pb (s.extract n s.size) = (pb s).drop n := by
  rw [pb_ext, List.extract_eq_take_drop, List.take_of_length_le (by rw [List.length_drop, pb_len]; omega)]
theorem size_ext (s : ByteArray) (n : Nat) (h : n ≤ s.size) : (s.extract 0 n).size = n := by
  have e := congrArg List.length (ext_head s n)
  rw [pb_len, List.length_take, pb_len] at e
  omega
theorem w64 {x : Int} (h0 : -9223372036854775808 ≤ x) (h1 : x ≤ 9223372036854775807) : wrap64 x = x := by unfold wrap64; omega
theorem wi {x : Int} (h0 : -9223372036854775808 ≤ x) (h1 : x ≤ 9223372036854775807) : IntKind.i64.wrap x = x := by rw [i64_w, w64 h0 h1]
def vb (c : UInt8) : Value := .int .u8 (c.toNat : Int)
theorem alloc_sz (w : World) (o : Obj) : (w.alloc o).heap.size = w.heap.size + 1 := by simp
/-- Cells are stored in a block of the call's own. -/
theorem store_at {op : Oper} {ops : Array Oper} {rest : List Oper} {a : Act} {w : World} {Q : Exit → Act → World → Prop} (hgd : op.guard = none) (x y : Operand) (t : TypeId) (ho : op.op = .store t x y)
    (g i : Nat) (T : TypeId) (cur : Array Value) (vs : List Value) (hinfo : (Tryz.prog.info? t).map (·.size) = some vs.length) (hg : w.heap[g]? = some (.cells cur T (0, 0))) (hc : i + vs.length ≤ cur.size)
    (hx : a.eval x = .pointer (some ⟨g, i, none⟩)) (hy : (a.eval y).cells = vs.toArray) (h1 : ∀ v ∈ vs, v.oneCell' = true)
    (h : ∀ w', w'.heap[g]? = some (.cells (cur.toList.take i ++ vs ++ cur.toList.drop (i + vs.length)).toArray T (0, 0)) → w.grownBy w' (some g) → wpList Tryz.prog ops Q rest (a.put op.dst undef) w') :
    wpList Tryz.prog ops Q (op :: rest) a w := by
  have hrun : (storeVar t ⟨g, i, none⟩ (a.eval y)).run Tryz.prog w = .ok () (w.setRow g (cur.toList.take i ++ vs ++ cur.toList.drop (i + vs.length)).toArray) := by
    have := run_storeCells_at (P := Tryz.prog) g i T vs 0 cur w hg (by simpa using hc) h1
    cases hq : Tryz.prog.info? t with
    | none => simp [hq] at hinfo
    | some j =>
      have hs : j.size = vs.length := by simpa [hq] using hinfo
      simp only [Nat.add_zero] at this
      simp [storeVar, sizeOf, typeInfo, hq, hy, hs, this]
  refine wpList_plain hgd fun K' hK' => ?_
  unfold Oper.wp execOp
  simp only [ho, hx, Instr.storeAt, Instr.sureAddr, Sem.run_bind, Sem.run_pure, Result.andThen_ok, hrun]
  refine hK' _ _ (h _ ?_ ?_)
  · exact setRow_heap w g cur _ T _ hg
  · exact ⟨rfl, rfl, rfl, Nat.le_of_eq (size_setRow ..).symm, fun k hk hne => setRow_other w g k _ (fun e => hne (by rw [e]))⟩
theorem infoU8 : (Tryz.prog.info? 5).map (fun i => (i.zero, i.size, i.bytes)) = some (some (.int .u8 0), 1, 1) := by kernel_rfl
end Go.Proofs.YtgpknomegleidaaGreatDoor.T
namespace Go.Proofs.YtgpknomegleidaaGreatDoor.T
open Go.RowKit Go.Proofs.YtgpknomegleidaaGreatDoorW.PrintWords Go.Proofs.YtgpknomegleidaaGreatDoorW.PrintLast Go.Proofs.YtgpknomegleidaaGreatDoorW.PrintMore Go.Proofs.YtgpknomegleidaaGreatDoor.PAll
set_option linter.unusedSimpArgs false
set_option linter.unusedVariables false

/-- A number as so many bytes, the lowest first. -/
def le (n : Nat) (wd : Nat) : List UInt8 := (List.range wd).map fun i => UInt8.ofNat (n / 256 ^ i)
theorem le_length (n wd : Nat) : (le n wd).length = wd := by simp [le]
theorem le_succ (n k : Nat) : le n (k + 1) = le n k ++ [UInt8.ofNat (n / 256 ^ k)] := by simp [le, List.range_succ]
theorem own_ne_blk {W : World} {base e n : Nat} {v : Value} {xs : List Value} {g : Nat} {t : TypeId} {cs : Array Value} (h : W.ownsRow base e 1 v n xs) (hb : W.heap[g]? = some (.cells cs t (0, 0))) (ht : e ≠ t) : some g ≠ v.ownBlock := by
  rcases h.2 with ⟨rfl, _⟩ | ⟨q, cap, cur, rfl, _, hq, _⟩
  · intro h; cases h
  · intro h
    injection h with h
    subst h
    rw [hb] at hq
    injection hq with hq
    injection hq with _ h2
    exact ht h2.symm
theorem own_not {v : Value} {g : Nat} (h : some g ≠ v.ownBlock) : v.ownBlock = none ∨ v.ownBlock ≠ some g := .inr (fun e => h e.symm)
theorem own_slice {W : World} {base e n : Nat} {v : Value} {xs : List Value} (h : W.ownsRow base e 1 v n xs) : ∃ a m c, v = .slice a m c := by
  rcases h.2 with ⟨rfl, _⟩ | ⟨q, cap, cur, rfl, _⟩
  · exact ⟨_, _, _, rfl⟩
  · exact ⟨_, _, _, rfl⟩
/-- A writer of bytes lies in a block. -/
def PW (W : World) (base g : Nat) (v : Value) (bad : Bool) (l : List UInt8) : Prop :=
  W.heap[g]? = some (.cells #[v, .bool bad] 163 (0, 0)) ∧ W.ownsRow base 5 1 v l.length (l.map vb)
theorem two_pow8 (k : Nat) : ((2 : Int) ^ (8 * k)) = ((256 ^ k : Nat) : Int) := by
  rw [Int.pow_mul]
  simp
theorem le_byte (N k sh : Nat) (hs : sh = 8 * k) (hk : k ≤ 6) : Value.int .u8 (IntKind.u8.wrap ((N : Int) / 2 ^ min sh 64)) = vb (UInt8.ofNat (N / 256 ^ k)) := by
  unfold vb
  rw [show min sh 64 = 8 * k by omega, UInt8.toNat_ofNat', two_pow8, IntKind.wrap_u8]
  simp
set_option maxHeartbeats 4000000 in
set_option maxRecDepth 100000 in
theorem wput_c (w0 : World) (base g : Nat) (v : Value) (bad : Bool) (l : List UInt8) (N wd : Nat) (w : World) (hp : PW w base g v bad l) (hb : Below base w0 w) (hg : base ≤ g) (hl : l.length < 1000000) (h6 : wd ≤ 6) (hN : N < 9223372036854775808) (hfit : N / 256 ^ wd = 0) :
    Calls Tryz.prog 82 #[.pointer (some ⟨g, 0, none⟩), .int .i64 (N : Int), .int .i64 (wd : Int)] w fun e w' => e = .returned (.tuple #[]) ∧ (∃ v', PW w' base g v' bad (l ++ le N wd)) ∧ Below base w0 w' := by
  have HL := Aside0.mk hl
  have HG := Aside0.mk hg
  have HP := Aside0.mk hp.1
  have HW := Aside0.mk hp.2
  have HB := Aside0.mk hb
  have H6 := Aside0.mk (And.intro h6 hN)
  obtain ⟨sw, hsw⟩ : ∃ sw, sw = 8 * wd := ⟨_, rfl⟩
  have ws : IntKind.i64.wrap (8 * (wd : Int)) = (sw : Int) := (IntWalk.i64_in _ (by omega)).trans (by omega)
  have n0 : decide ((N : Int) < 0) = false := by simp
  have z0 : ((N : Int) / 2 ^ min sw 64 != 0) = false := by
    rw [bne_eq_false_iff_eq, show min sw 64 = 8 * wd by omega, two_pow8]
    exact_mod_cast hfit
  clear hl hg hp hb h6 hN hsw hfit
  go_enter Tryz.func82, Tryz.ntmps82
  go_wp2
  clear ws n0 z0
  go_loopw [6, 20] (fun u6 i wr => ∃ (k : Nat) (v : Value), k ≤ wd ∧ i = .int .i64 k ∧ Aside0 (wr.heap[g]? = some (.cells #[v, .bool bad] 163 (0, 0))) ∧ Aside0 (wr.ownsRow base 5 1 v (l ++ le N k).length ((l ++ le N k).map vb)) ∧ Aside0 (Below base w0 wr)) (fun _ i _ => wd - (intOf i).toNat)
  case atStart => exact ⟨0, v, by omega, rfl, HP, ⟨by simpa [le] using HW.out⟩, HB⟩
  case round =>
    clear HP HW HB
    obtain ⟨k, v, hk, rfl, HP, HW, HB⟩ := hrel
    rename_i wr
    by_cases hlt : k < wd
    · obtain ⟨sh, hsh⟩ : ∃ sh, sh = 8 * k := ⟨_, rfl⟩
      have ws : IntKind.i64.wrap (8 * (k : Int)) = (sh : Int) := (IntWalk.i64_in _ (by have := H6.out; omega)).trans (by omega)
      have HV := Aside0.mk (le_byte N k sh hsh (by have := H6.out; omega))
      clear hsh
      go_wp2
      -- REGION5
      refine start_ (n := 15) (S := fun w' => w'.cell? ⟨g, 0, none⟩ = some v) (ds := [14]) #[false, false, false, false, false, false, false, false, false, false, false, false, false, false, false] (by kernel_rfl) rfl rfl ((blk_cell HP.out 0).trans rfl) (fun hHeld => ?_)
      replace HP := Aside0.mk (blk_drew HP.out)
      replace HW := Aside0.mk HW.out.drew
      replace HB := Aside0.mk (below_drew1 HB.out)
      generalize wr.drew = wd0 at HP HW HB hHeld ⊢
      refine pure_ (i := 0) (N := some 23) (v := ?_) (a' := ?_) #[true, false, false, false, false, false, false, false, false, false, false, false, false, false, false] rfl rfl (by kernel_rfl) (fun _ _ _ h => h) (Or.inl ⟨by rfl, ?_⟩) ?_ ?_
      rotate_left; · intro w'; go_simp; with_reducible rfl
      rotate_left; · simp only [Act.put, List.setIfInBounds_toArray, List.set_cons_zero, List.set_cons_succ, i64_w, i32_w]; rfl
      refine pure_ (i := 1) (N := some 24) (v := ?_) (a' := ?_) #[true, true, false, false, false, false, false, false, false, false, false, false, false, false, false] rfl rfl (by kernel_rfl) (fun _ _ _ h => h) (Or.inl ⟨by rfl, ?_⟩) ?_ ?_
      rotate_left; · intro w'; go_simp; with_reducible rfl
      rotate_left; · simp only [Act.put, List.setIfInBounds_toArray, List.set_cons_zero, List.set_cons_succ, i64_w, i32_w]; rfl
      refine pure_ (i := 2) (N := some 25) (v := ?_) (a' := ?_) #[true, true, true, false, false, false, false, false, false, false, false, false, false, false, false] rfl rfl (by kernel_rfl) (fun _ _ _ h => h) (Or.inl ⟨by rfl, ?_⟩) ?_ ?_
      rotate_left; · intro w'; go_simp; with_reducible rfl
      rotate_left; · simp only [Act.put, List.setIfInBounds_toArray, List.set_cons_zero, List.set_cons_succ, i64_w, i32_w]; rfl
      refine pure_ (i := 3) (N := some 26) (v := ?_) (a' := ?_) #[true, true, true, true, false, false, false, false, false, false, false, false, false, false, false] rfl rfl (by kernel_rfl) (fun _ _ _ h => h) (Or.inl ⟨by rfl, ?_⟩) ?_ ?_
      rotate_left; · intro w'; go_simp; with_reducible rfl
      rotate_left; · simp only [Act.put, List.setIfInBounds_toArray, List.set_cons_zero, List.set_cons_succ, i64_w, i32_w]; rfl
      refine pure_ (i := 5) (N := some 28) (v := ?_) (a' := ?_) #[true, true, true, true, false, true, false, false, false, false, false, false, false, false, false] rfl rfl (by kernel_rfl) (fun _ _ _ h => h) (Or.inl ⟨by rfl, ?_⟩) ?_ ?_
      rotate_left; · intro w'; go_simp; with_reducible rfl
      rotate_left; · simp only [Act.put, List.setIfInBounds_toArray, List.set_cons_zero, List.set_cons_succ, i64_w, i32_w]; rfl
      refine pure_ (i := 6) (N := some 29) (v := ?_) (a' := ?_) #[true, true, true, true, false, true, true, false, false, false, false, false, false, false, false] rfl rfl (by kernel_rfl) (fun _ _ _ h => h) (Or.inl ⟨by rfl, ?_⟩) ?_ ?_
      rotate_left; · intro w'; go_simp; with_reducible rfl
      rotate_left; · simp only [Act.put, List.setIfInBounds_toArray, List.set_cons_zero, List.set_cons_succ, i64_w, i32_w]; rfl
      refine pure_ (i := 7) (N := some 30) (v := ?_) (a' := ?_) #[true, true, true, true, false, true, true, true, false, false, false, false, false, false, false] rfl rfl (by kernel_rfl) (fun _ _ _ h => h) (Or.inl ⟨by rfl, ?_⟩) ?_ ?_
      rotate_left; · intro w'; go_simp; with_reducible rfl
      rotate_left; · simp only [Act.put, List.setIfInBounds_toArray, List.set_cons_zero, List.set_cons_succ, i64_w, i32_w]; rfl
      refine pure_ (i := 8) (N := some 31) (v := ?_) (a' := ?_) #[true, true, true, true, false, true, true, true, true, false, false, false, false, false, false] rfl rfl (by kernel_rfl) (fun _ _ _ h => h) (Or.inl ⟨by rfl, ?_⟩) ?_ ?_
      rotate_left; · intro w'; go_simp; with_reducible rfl
      rotate_left; · simp only [Act.put, List.setIfInBounds_toArray, List.set_cons_zero, List.set_cons_succ, i64_w, i32_w]; rfl
      refine pure_ (i := 9) (N := some 32) (v := ?_) (a' := ?_) #[true, true, true, true, false, true, true, true, true, true, false, false, false, false, false] rfl rfl (by kernel_rfl) (fun _ _ _ h => h) (Or.inl ⟨by rfl, ?_⟩) ?_ ?_
      rotate_left; · intro w'; go_simp; with_reducible rfl
      rotate_left; · simp only [Act.put, List.setIfInBounds_toArray, List.set_cons_zero, List.set_cons_succ, i64_w, i32_w]; rfl
      refine take_ (i := 4) (N := some 27) (v := ?_) (a' := ?_) #[true, true, true, true, true, true, true, true, true, true, false, false, false, false, false] rfl rfl (by kernel_rfl) (fun _ _ _ h => h) (Or.inl ⟨by rfl, ?_⟩) hHeld ?_ ?_
      rotate_left; · rintro w' hh; go_simp; with_reducible rfl
      rotate_left; · simp only [Act.put, List.setIfInBounds_toArray, List.set_cons_zero, List.set_cons_succ, i64_w, i32_w]; rfl
      refine one_ (i := 10) (N := some 33) #[true, true, true, true, true, true, true, true, true, true, true, false, false, false, false] rfl rfl (by kernel_rfl) (by decide) (fun K hK => ?_)
      refine value_ (v := .slice (some ⟨wd0.heap.size, 0, none⟩) 1 1) (w1 := wd0.alloc (.cells #[vb (UInt8.ofNat (N / 256 ^ k))] 5 (0, 0))) (by rfl) rfl (by rw [HV.out]; go_simp; rfl) ?_
      have hHeld1 : (wd0.alloc (.cells #[vb (UInt8.ofNat (N / 256 ^ k))] 5 (0, 0))).cell? ⟨g, 0, none⟩ = some v := (blk_cell (blk_alloc HP.out _) 0).trans rfl
      refine hK.out _ _ hHeld1 (fun hHeld => ?_)
      clear hK K
      refine norm_ (a' := ?_) ?_ ?_
      rotate_left; · show Act.put _ (some 33) _ = _; simp only [Act.put, List.setIfInBounds_toArray, List.set_cons_zero, List.set_cons_succ, i64_w, i32_w]; rfl
      refine one_ (i := 11) (N := some 34) #[true, true, true, true, true, true, true, true, true, true, true, true, false, false, false] rfl rfl (by kernel_rfl) (by decide) (fun K hK => ?_)
      refine step_append_cells base (by rfl) (.tmp 27) (.tmp 33) 93 5 (.int .u8 0) 1 1 rfl Tryz.underlying93 infoU8 rfl (by decide) (by decide) v (l ++ le N k).length ((l ++ le N k).map vb) [vb (UInt8.ofNat (N / 256 ^ k))] rfl rfl rfl (by intro u hu; simp only [List.mem_cons, List.mem_nil_iff, or_false] at hu; subst hu; rfl) HW.out HB.out (by have := blk_lt HP.out; have := HG.out; omega) (by have := HL.out; have := H6.out; rw [List.length_append, le_length]; omega) ?_
      intro v1 w1 ho hb hg hat
      obtain ⟨a1, n1, c1, rfl⟩ := own_slice ho
      have HP1 := Aside0.mk (blk_grown HP.out hg (own_ne_blk HW.out HP.out (by decide)))
      have HW1 := Aside0.mk ho
      have HB1 := Aside0.mk hb
      refine hK.out _ _ ((blk_cell HP1.out 0).trans rfl) (fun hHeld => ?_)
      clear hK K ho hb hg hat HP HW HB
      refine norm_ (a' := ?_) ?_ ?_
      rotate_left; · show Act.put _ (some 34) _ = _; simp only [Act.put, List.setIfInBounds_toArray, List.set_cons_zero, List.set_cons_succ, i64_w, i32_w]; rfl
      refine pure_ (i := 12) (N := some 35) (v := ?_) (a' := ?_) #[true, true, true, true, true, true, true, true, true, true, true, true, true, false, false] rfl rfl (by kernel_rfl) (fun _ _ _ h => h) (Or.inl ⟨by rfl, ?_⟩) ?_ ?_
      rotate_left; · intro w'; go_simp; with_reducible rfl
      rotate_left; · simp only [Act.put, List.setIfInBounds_toArray, List.set_cons_zero, List.set_cons_succ, i64_w, i32_w]; rfl
      refine pure_ (i := 13) (N := some 36) (v := ?_) (a' := ?_) #[true, true, true, true, true, true, true, true, true, true, true, true, true, true, false] rfl rfl (by kernel_rfl) (fun _ _ _ h => h) (Or.inl ⟨by rfl, ?_⟩) ?_ ?_
      rotate_left; · intro w'; go_simp; with_reducible rfl
      rotate_left; · simp only [Act.put, List.setIfInBounds_toArray, List.set_cons_zero, List.set_cons_succ, i64_w, i32_w]; rfl
      refine last_ (i := 14) (N := none) #[true, true, true, true, true, true, true, true, true, true, true, true, true, true, true] rfl rfl (by kernel_rfl) (by decide) (fun K hK => ?_)
      have c0 := (blk_cell HP1.out 0).trans (show (#[v, .bool bad] : Array Value)[0]? = some v from rfl)
      have f0 := blk_frozen HP1.out 0
      refine skip_ (w1 := w1.setCell ⟨g, 0, none⟩ (.slice a1 n1 c1)) (by rfl) rfl (by go_simp) ?_
      refine hK.out _ _ ?_
      have HP2 : Aside0 ((w1.setCell ⟨g, 0, none⟩ (.slice a1 n1 c1)).heap[g]? = some (.cells #[.slice a1 n1 c1, .bool bad] 163 (0, 0))) := ⟨blk_put HP1.out 0 (.slice a1 n1 c1) rfl⟩
      have HW2 := Aside0.mk (HW1.out.kept (Lib.grownBy_setCell w1 g 0 (.slice a1 n1 c1)) (own_not (own_ne_blk HW1.out HP1.out (by decide))))
      have HB2 := Aside0.mk (HB1.out.setCell (p := ⟨g, 0, none⟩) HG.out (.slice a1 n1 c1))
      clear hK K c0 f0 HP1 HW1 HB1
      refine done_ (by kernel_rfl) ?_
      -- END5
      have hk6 : k ≤ 5 := by have := H6.out; omega
      go_wp2
      go_roundw
      case rel =>
        refine ⟨k + 1, .slice a1 n1 c1, by omega, rfl, HP2, ⟨?_⟩, HB2⟩
        rw [le_succ, ← List.append_assoc, List.map_append, List.length_append]
        exact HW2.out
      case measure => simp [intOf]; omega
    · obtain rfl : k = wd := by omega
      go_wp2
      go_end0
      exact ⟨rfl, ⟨v, HP.out, HW.out⟩, HB.out⟩
set_option maxHeartbeats 4000000 in
set_option maxRecDepth 100000 in
/-- pack.Put of a number that has room. -/
theorem put_c (N wd : Nat) (x m : Int) (w : World) (hx : x = (N : Int)) (hm : m = (wd : Int)) (h1 : 1 ≤ wd) (h6 : wd ≤ 6) (hN : N < 9223372036854775808) (hfit : N / 256 ^ wd = 0) :
    Calls Tryz.prog 58 #[.int .i64 x, .int .i64 m] w fun e w' => e = .returned (.tuple #[.string ⟨(le N wd).toArray⟩, .int .i64 0]) ∧ Below w.heap.size w w' := by
  subst hx
  subst hm
  have HF := Aside0.mk (And.intro h6 (And.intro hN hfit))
  have b1 : decide ((wd : Int) < 1) = false := decide_eq_false (by omega)
  have b2 : decide ((6 : Int) < (wd : Int)) = false := decide_eq_false (by omega)
  clear h1 h6 hN hfit
  go_enter Tryz.func58, Tryz.ntmps58
  go_wp2_with fail
  have HP : Aside0 (PW (w.alloc (.cells #[.slice none 0 0, .bool false] 163 (0, 0))) w.heap.size w.heap.size (.slice none 0 0) false []) := ⟨⟨blk_new w _, World.ownsRow_nil _ _ _ _⟩⟩
  refine (wput_c w w.heap.size w.heap.size (.slice none 0 0) false [] N wd _ HP.out (below_alloc (Below.refl w.heap.size w) _) (Nat.le_refl _) (by decide) HF.out.1 HF.out.2.1 HF.out.2.2).mono ?_
  rintro e w1 ⟨rfl, ⟨v, hP⟩, hb⟩
  have HP1 := Aside0.mk hP
  have HB := Aside0.mk hb
  have c0 := (blk_cell hP.1 0).trans (show (#[v, .bool false] : Array Value)[0]? = some v from rfl)
  have c1 := (blk_cell hP.1 1).trans (show (#[v, .bool false] : Array Value)[1]? = some (.bool false) from rfl)
  have hcv : (convert 93 9 v).run Tryz.prog w1 = .ok (.string ⟨(le N wd).toArray⟩) w1 := by
    have h := own_string (P := Tryz.prog) (xs := (le N wd).map fun b => (b.toNat : Int)) Tryz.underlying93 Tryz.underlying5 Tryz.underlying9 (by unfold nums; rw [List.map_map]; exact hP.2)
    rw [h, Lib.Lz.strOfNums_map]
  clear hP hb HP
  go_wp2
  go_ret2
  exact ⟨rfl, HB.out⟩
end Go.Proofs.YtgpknomegleidaaGreatDoor.T
namespace Go.Proofs.YtgpknomegleidaaGreatDoor.T
open Go.RowKit Go.Proofs.YtgpknomegleidaaGreatDoorW.PrintWords Go.Proofs.YtgpknomegleidaaGreatDoorW.PrintLast Go.Proofs.YtgpknomegleidaaGreatDoorW.PrintMore Go.Proofs.YtgpknomegleidaaGreatDoor.PAll
set_option linter.unusedSimpArgs false
set_option linter.unusedVariables false

/-- Bytes in block g, with room for cap. -/
def BRow (w : World) (g cap : Nat) (l : List UInt8) : Prop :=
  ∃ cur fr, w.heap[g]? = some (.cells cur 5 fr) ∧ l.length ≤ cap ∧ cap ≤ maxLen ∧ cur.size = cap ∧ cur.toList.take l.length = l.map vb ∧ (fr = (0, 0) ∨ fr = (cap, cap + 1))
/-- A slice of bytes of the call's own. -/
def BR (w : World) (base : Nat) (v : Value) (l : List UInt8) : Prop := (v = .slice none 0 0 ∧ l = []) ∨ ∃ g cap, v = .slice (some ⟨g, 0, none⟩) l.length cap ∧ base ≤ g ∧ BRow w g cap l
theorem BRow.lt {w : World} {g cap : Nat} {l : List UInt8} (h : BRow w g cap l) : g < w.heap.size := by
  obtain ⟨cur, fr, hh, _⟩ := h
  rcases Nat.lt_or_ge g w.heap.size with q | q
  · exact q
  · rw [Array.getElem?_eq_none q] at hh
    cases hh
theorem BRow.heap {w w1 : World} {g cap : Nat} {l : List UInt8} (h : BRow w g cap l) (hb : w1.heap[g]? = w.heap[g]?) : BRow w1 g cap l := by
  obtain ⟨cur, fr, hh, h2⟩ := h
  exact ⟨cur, fr, by rw [hb]; exact hh, h2⟩
theorem BRow.cell {w : World} {g cap : Nat} {l : List UInt8} (h : BRow w g cap l) {i : Nat} (hi : i < l.length) : w.cell? ⟨g, i, none⟩ = some (vb (l.getD i 0)) := by
  obtain ⟨cur, fr, hh, h1, _, h2, h3, h4⟩ := h
  rw [cell_of_row w g i cur 5 fr hh]
  have hu : (l.map vb)[i]? = some (vb (l.getD i 0)) := by rw [List.getElem?_map, List.getElem?_eq_getElem hi, List.getD_eq_getElem?_getD, List.getElem?_eq_getElem hi]; rfl
  rw [← h3, List.getElem?_take, if_pos hi, Array.getElem?_toList] at hu
  exact hu
theorem BRow.thawed {w : World} {g cap : Nat} {l : List UInt8} (h : BRow w g cap l) {i : Nat} (hi : i < cap) : w.frozen? ⟨g, i, none⟩ = false := by
  obtain ⟨cur, fr, hh, h1, _, h2, h3, h4⟩ := h
  simp only [World.frozen?, hh]
  rcases h4 with rfl | rfl
  · simp
  · simp
    omega
theorem BRow.str {w : World} {g cap : Nat} {l : List UInt8} (h : BRow w g cap l) : (convert 93 9 (.slice (some ⟨g, 0, none⟩) l.length cap)).run Tryz.prog w = .ok (.string ⟨l.toArray⟩) w := by
  have e := run_convert_bytes_arg (P := Tryz.prog) w 93 5 Tryz.underlying93 Tryz.underlying5 g 0 l.length cap (l.map fun b => (b.toNat : Int)) (by rw [List.length_map]) (fun i hi => by
    rw [Nat.zero_add, h.cell hi]
    simp [vb, List.getD_eq_getElem?_getD, List.getElem?_map, List.getElem?_eq_getElem hi]) 9 Tryz.underlying9
  rw [Lib.Lz.strOfNums_map] at e
  exact e
theorem BR.str {w : World} {base : Nat} {v : Value} {l : List UInt8} (h : BR w base v l) : (convert 93 9 v).run Tryz.prog w = .ok (.string ⟨l.toArray⟩) w := by
  rcases h with ⟨rfl, rfl⟩ | ⟨g, cap, rfl, _, hb⟩
  · exact run_convert_bytes_nil w 93 5 Tryz.underlying93 Tryz.underlying5 0 0 9 Tryz.underlying9
  · exact hb.str
theorem BR.slice {w : World} {base : Nat} {v : Value} {l : List UInt8} (h : BR w base v l) : ∃ A c, v = .slice A l.length c ∧ l.length ≤ c := by
  rcases h with ⟨rfl, rfl⟩ | ⟨g, cap, rfl, _, cur, fr, _, h1, _⟩
  · exact ⟨_, _, rfl, Nat.le_refl _⟩
  · exact ⟨_, _, rfl, h1⟩
theorem BR.nil (w : World) (base : Nat) : BR w base (.slice none 0 0) [] := .inl ⟨rfl, rfl⟩
theorem BR.heap {w w1 : World} {base : Nat} {v : Value} {l : List UInt8} (h : BR w base v l) (hb : ∀ g, v.ownBlock = some g → w1.heap[g]? = w.heap[g]?) : BR w1 base v l := by
  rcases h with h | ⟨g, cap, rfl, h1, h2⟩
  · exact .inl h
  · exact .inr ⟨g, cap, rfl, h1, h2.heap (hb g rfl)⟩
theorem BR.below {w w1 : World} {base : Nat} {v : Value} {l : List UInt8} (h : BR w base v l) (hb : Below w.heap.size w w1) : BR w1 base v l := by
  rcases h with h | ⟨g, cap, rfl, h1, h2⟩
  · exact .inl h
  · exact .inr ⟨g, cap, rfl, h1, h2.heap (hb.block g h2.lt)⟩
theorem brow_bytes (w : World) (s : ByteArray) (hs : s.size ≤ maxLen) : BRow (Lib.bytesWorld w 5 s) w.heap.size (grownCap w s.size 0 5) (pb s) := by
  have hsz : (Lib.bytesCells w 5 s).size = grownCap w s.size 0 5 := by
    have := grownCap_ge w s.size 0 5
    simp only [Lib.bytesCells, Array.size_append, Array.size_map, Array.size_replicate]
    have e : s.data.size = s.size := rfl
    omega
  refine ⟨_, _, Lib.bytesWorld_at_new w _ s, by rw [pb_len]; exact grownCap_ge _ _ _ _, grownCap_le_maxLen _ _ _ _ hs, hsz, ?_, .inr (by rw [hsz])⟩
  simp only [Lib.bytesCells, Array.toList_append, Array.toList_map]
  rw [List.take_append_of_le_length (by rw [List.length_map]; exact Nat.le_refl _), List.take_of_length_le (by rw [List.length_map]; exact Nat.le_refl _)]
  rfl
theorem setCells_blk (g : Nat) (T : TypeId) (fr : Nat × Nat) : ∀ (vs : List Value) (o : Nat) (w : World) (cur : Array Value), w.heap[g]? = some (.cells cur T fr) → o + vs.length ≤ cur.size →
    ∃ cur', (w.setCells g o vs).heap[g]? = some (.cells cur' T fr) ∧ cur'.size = cur.size ∧ cur'.toList.take (o + vs.length) = cur.toList.take o ++ vs
  | [], o, w, cur, h, _ => ⟨cur, h, rfl, by simp⟩
  | v :: r, o, w, cur, h, hl => by
    rw [List.length_cons] at hl
    have h' : (w.setCell ⟨g, o, none⟩ v).heap[g]? = some (.cells (cur.setIfInBounds o v) T fr) := by
      simp only [World.setCell, Array.getElem?_modify, h]
      simp
    obtain ⟨cur', h1, h2, h3⟩ := setCells_blk g T fr r (o + 1) (w.setCell ⟨g, o, none⟩ v) (cur.setIfInBounds o v) h' (by rw [Array.size_setIfInBounds]; omega)
    refine ⟨cur', h1, by rw [h2, Array.size_setIfInBounds], ?_⟩
    have hlt : o < cur.toList.length := by rw [Array.length_toList]; omega
    rw [List.length_cons, show o + (r.length + 1) = o + 1 + r.length by omega, h3, Array.toList_setIfInBounds, List.take_add_one, List.getElem?_set_self hlt, List.take_set_of_le (Nat.le_refl _)]
    simp
set_option maxRecDepth 100000 in
/-- Some bytes more. -/
theorem run_append_src (W : World) (base : Nat) (tx ty : TypeId) (v y : Value) (l xs : List UInt8) (h : BR W base v l) (hbase : base ≤ W.heap.size) (hs : Src Tryz.prog 1 tx y xs.length (xs.map vb) W) (hl : l.length + xs.length ≤ 1099511627776) (hx : v = .slice none 0 0 → 0 < xs.length) :
    ∃ v' w', (Builtin.append_ #[93, tx] ty #[v, y]).run Tryz.prog W = .ok v' w' ∧ BR w' base v' (l ++ xs) ∧ Below base W w' ∧ W.grownBy w' v.ownBlock := by
  obtain ⟨i0, hi, hz0, hz1, hz2⟩ := info_parts infoU8
  have hs' : Src Tryz.prog i0.size tx y xs.length (xs.map vb) W := by rw [hz1]; exact hs
  have grow : ∀ (A : Option Addr) (cap : Nat), v = .slice A l.length cap → cap < l.length + xs.length → cap ≤ 1099511627776 → (∀ j u, (l.map vb)[j]? = some u → ∃ ad, A = some ad ∧ W.cell? (ad.add j) = some u) →
      ∃ v' w', (Builtin.append_ #[93, tx] ty #[v, y]).run Tryz.prog W = .ok v' w' ∧ BR w' base v' (l ++ xs) ∧ Below base W w' ∧ W.grownBy w' v.ownBlock := by
    intro A cap hv hc hcm hold
    have hof : (Builtin.firstCells i0.size l.length (.slice A l.length cap)).run Tryz.prog W.drew = .ok (l.map vb).toArray W.drew := by
      cases A with
      | none =>
        have hl0 : l = [] := by
          cases l with
          | nil => rfl
          | cons a r => obtain ⟨ad, e, _⟩ := hold 0 (vb a) rfl; cases e
        subst hl0
        rw [hz1]
        exact run_firstCells_none W.drew 1 0 0 cap
      | some ad =>
        rw [hz1]
        exact run_firstCells_some W.drew 1 l.length ad l.length cap (l.map vb) (by rw [List.length_map]; omega) (fun j u hu => by
          obtain ⟨ad', e, hc'⟩ := hold j u hu
          injection e with e
          subst e
          exact hc')
    have hr := run_append_grow_src (P := Tryz.prog) (w := W) 93 tx ty 5 i0 (.int .u8 0) Tryz.underlying93 hi hz0 A l.length cap (l.map vb) hof y xs.length (xs.map vb) hs' hc (by omega) (by
      rw [hz2]
      exact growslice_fits (bytes := 1) (by omega) (by omega))
    subst hv
    have hge := grownCap_ge W (l.length + xs.length) cap 5
    refine ⟨_, _, hr, .inr ⟨W.heap.size, grownCap W (l.length + xs.length) cap 5, by rw [List.length_append], hbase, _, _, heap_alloc_new _ _, by rw [List.length_append]; exact hge, grownCap_le_maxLen _ _ _ _ (by simp only [maxLen]; omega), ?_, ?_, .inl rfl⟩, ?_, ?_⟩
    · simp only [Array.size_append, List.size_toArray, List.length_append, List.length_map, size_zeroCells]
      have : (Value.int IntKind.u8 0).cells.size = 1 := rfl
      rw [this]
      omega
    · rw [Array.toList_append, List.length_append]
      rw [List.take_append_of_le_length (by simp), List.take_of_length_le (by simp)]
      simp
    · refine Below.trans (b := W.drew) ⟨rfl, rfl, rfl, Nat.le_refl _, fun _ _ => rfl⟩ (below_alloc (Below.refl _ _) _ |>.mono hbase)
    · exact World.grownBy.trans (b := W.drew) ⟨rfl, rfl, rfl, Nat.le_refl _, fun _ _ _ => rfl⟩ (World.grownBy_alloc W.drew _ _)
  rcases h with ⟨rfl, rfl⟩ | ⟨g, cap, rfl, hbg, hB⟩
  · exact grow none 0 rfl (by simpa using hx rfl) (by omega) (fun j u hu => by simp at hu)
  · have hB0 := hB
    have hglt := hB.lt
    obtain ⟨cur, fr, hh, hlc, hcm, hcs, ht, hfr⟩ := hB
    by_cases hroom : l.length + xs.length ≤ cap
    · have hr := run_append_room_src (P := Tryz.prog) (w := W) 93 tx ty 5 i0 Tryz.underlying93 hi g 0 l.length cap _ xs.length _ hs' hroom
        (fun j hj => by
          rw [List.length_map] at hj
          rw [cell_of_row _ g _ cur _ fr hh, hz1]
          have hlt : 0 + l.length * 1 + j < cur.size := by omega
          rw [Array.getElem?_eq_getElem hlt]
          rfl)
        (fun j hj => by
          rw [List.length_map] at hj
          rw [hz1]
          exact hB0.thawed (by omega))
      rw [hz1, show 0 + l.length * 1 = l.length by omega] at hr
      obtain ⟨cur', k1, k2, k3⟩ := setCells_blk g 5 fr (xs.map vb) l.length W cur hh (by rw [List.length_map]; omega)
      refine ⟨_, _, hr, .inr ⟨g, cap, by rw [List.length_append], hbg, cur', fr, k1, by rw [List.length_append]; exact hroom, hcm, by rw [k2]; exact hcs, ?_, hfr⟩, below_setCells hbg _ _ _ (Below.refl _ _), ?_⟩
      · rw [List.length_map] at k3
        rw [List.length_append, k3, ht, List.map_append]
      · have hB1 := below_setCells hbg (xs.map vb) l.length W (Below.refl base W)
        have hB2 := below_setCells (Nat.zero_le g) (xs.map vb) l.length W (Below.refl 0 W)
        exact ⟨hB1.os, hB1.tape, hB1.output, hB2.size, fun k hk hne => World.heap_setCells_other _ _ _ _ hk (fun e => hne (by rw [e]; rfl))⟩
    · exact grow (some ⟨g, 0, none⟩) cap rfl (by omega) (by omega) (fun j u hu => ⟨_, rfl, by
        have hj : j < l.length := by
          rcases Nat.lt_or_ge j l.length with q | q
          · exact q
          · rw [List.getElem?_eq_none (by rw [List.length_map]; exact q)] at hu
            cases hu
        rw [add_plain]
        have := hB0.cell hj
        rw [List.getElem?_map, List.getElem?_eq_getElem hj] at hu
        rw [List.getD_eq_getElem?_getD, List.getElem?_eq_getElem hj] at this
        simp only [Option.map_some, Option.some.injEq] at hu
        subst hu
        exact this⟩)
end Go.Proofs.YtgpknomegleidaaGreatDoor.T
namespace Go.Proofs.YtgpknomegleidaaGreatDoor.T
open Go.RowKit Go.Proofs.YtgpknomegleidaaGreatDoorW.PrintWords Go.Proofs.YtgpknomegleidaaGreatDoorW.PrintLast Go.Proofs.YtgpknomegleidaaGreatDoorW.PrintMore Go.Proofs.YtgpknomegleidaaGreatDoor.PAll
set_option linter.unusedSimpArgs false
set_option linter.unusedVariables false

/-- A writer lies in block g. -/
def PWB (W : World) (base g : Nat) (v : Value) (bad : Bool) (l : List UInt8) : Prop :=
  W.heap[g]? = some (.cells #[v, .bool bad] 163 (0, 0)) ∧ BR W base v l
theorem br_ne {W : World} {base : Nat} {v : Value} {l : List UInt8} {g : Nat} {t : TypeId} {cs : Array Value} (h : BR W base v l) (hb : W.heap[g]? = some (.cells cs t (0, 0))) (ht : 5 ≠ t) : some g ≠ v.ownBlock := by
  rcases h with ⟨rfl, _⟩ | ⟨q, cap, rfl, _, cur, fr, hq, _⟩
  · intro h; cases h
  · intro h
    injection h with h
    subst h
    rw [hb] at hq
    injection hq with hq
    injection hq with _ h2
    exact ht h2.symm
theorem src_one (W : World) (b : UInt8) : Src Tryz.prog 1 93 (.slice (some ⟨W.heap.size, 0, none⟩) 1 1) 1 [vb b] (W.alloc (.cells #[vb b] 5 (0, 0))) :=
  Src.ofSlice (P := Tryz.prog) (size := 1) (W.alloc (.cells #[vb b] 5 (0, 0))) Tryz.underlying93 ⟨W.heap.size, 0, none⟩ 1 1 [vb b] rfl (fun j u hu => by
    have hj : j = 0 := by
      rcases Nat.eq_zero_or_pos j with q | q
      · exact q
      · rw [List.getElem?_eq_none (by show 1 ≤ j; omega)] at hu
        cases hu
    subst hj
    have hu2 : some (vb b) = some u := hu
    rw [add_plain, ← hu2]
    exact cell_of_row _ _ 0 _ _ _ (heap_alloc_new _ _)) (fun u hu => by rw [List.mem_singleton] at hu; subst hu; rfl)
theorem run_append_one (W : World) (base : Nat) (ty : TypeId) (v : Value) (l : List UInt8) (b : UInt8) (h : BR W base v l) (hbase : base ≤ W.heap.size) (hl : l.length + 1 ≤ 1099511627776) :
    ∃ v' w', (Builtin.append_ #[93, 93] ty #[v, .slice (some ⟨W.heap.size, 0, none⟩) 1 1]).run Tryz.prog (W.alloc (.cells #[vb b] 5 (0, 0))) = .ok v' w' ∧ BR w' base v' (l ++ [b]) ∧ Below base W w' ∧ W.grownBy w' v.ownBlock := by
  have hb1 := below_alloc (Below.refl W.heap.size W) (.cells #[vb b] 5 (0, 0))
  obtain ⟨v', w', hr, h1, h2, h3⟩ := run_append_src (W.alloc (.cells #[vb b] 5 (0, 0))) base 93 ty v (.slice (some ⟨W.heap.size, 0, none⟩) 1 1) l [b] (h.below hb1) (by rw [alloc_sz]; omega) (src_one W b) hl (fun _ => Nat.one_pos)
  exact ⟨v', w', hr, h1, Below.trans (b := W.alloc (.cells #[vb b] 5 (0, 0))) ⟨rfl, rfl, rfl, by simp, fun k hk => Below.heap_alloc W _ k (by omega)⟩ h2, World.grownBy.trans (World.grownBy_alloc W _ _) h3⟩
section
variable {ops : Array Oper} {o : Oper} {a : Act} {Q : Exit → Act → World → Prop} {K : Act → World → Prop}
theorem step_append_b {w0 W : World} (base : Nat) (hw : Region.wanted o (yielded ops a.tmps) = true) (s x : Operand) (ho : o.op = .call { callee := .builtin .append, args := #[s, x], argTypes := #[93, 93] })
    (v : Value) (l : List UInt8) (b : UInt8) (hs : a.eval s = v) (hx : a.eval x = .slice (some ⟨W.heap.size, 0, none⟩) 1 1) (h : BR W base v l) (HB : Below base w0 W) (hbase : base ≤ W.heap.size) (hl : l.length + 1 ≤ 1099511627776)
    (hK : ∀ v1 w1, BR w1 base v1 (l ++ [b]) → Below base w0 w1 → W.grownBy w1 v.ownBlock → K (a.put o.dst v1) w1) :
    if Region.wanted o (yielded ops a.tmps) = true then Oper.wp Tryz.prog o a (W.alloc (.cells #[vb b] 5 (0, 0))) K Q else K (a.put o.dst undef) (W.alloc (.cells #[vb b] 5 (0, 0))) := by
  rw [if_pos hw]
  obtain ⟨v1, w1, hr, h1, h2, h3⟩ := run_append_one W base o.type v l b h hbase hl
  unfold Oper.wp execOp
  simp only [ho, resolve, invoke, builtin, Sem.run_bind, Sem.run_pure, Result.andThen_ok, List.map_toArray, List.map_cons, List.map_nil, hs, hx, hr]
  exact hK v1 w1 h1 (HB.trans h2) h3
end
set_option maxHeartbeats 4000000 in
set_option maxRecDepth 100000 in
theorem wputb_c (w0 : World) (base g : Nat) (v : Value) (bad : Bool) (l : List UInt8) (N wd : Nat) (w : World) (hp : PWB w base g v bad l) (hb : Below base w0 w) (hg : base ≤ g) (hl : l.length < 1000000) (h6 : wd ≤ 6) (hN : N < 9223372036854775808) (hfit : N / 256 ^ wd = 0) :
    Calls Tryz.prog 82 #[.pointer (some ⟨g, 0, none⟩), .int .i64 (N : Int), .int .i64 (wd : Int)] w fun e w' => e = .returned (.tuple #[]) ∧ (∃ v', PWB w' base g v' bad (l ++ le N wd)) ∧ Below base w0 w' := by
  have HL := Aside0.mk hl
  have HG := Aside0.mk hg
  have HP := Aside0.mk hp.1
  have HW := Aside0.mk hp.2
  have HB := Aside0.mk hb
  have H6 := Aside0.mk (And.intro h6 hN)
  obtain ⟨sw, hsw⟩ : ∃ sw, sw = 8 * wd := ⟨_, rfl⟩
  have ws : IntKind.i64.wrap (8 * (wd : Int)) = (sw : Int) := (IntWalk.i64_in _ (by omega)).trans (by omega)
  have n0 : decide ((N : Int) < 0) = false := by simp
  have z0 : ((N : Int) / 2 ^ min sw 64 != 0) = false := by
    rw [bne_eq_false_iff_eq, show min sw 64 = 8 * wd by omega, two_pow8]
    exact_mod_cast hfit
  clear hl hg hp hb h6 hN hsw hfit
  go_enter Tryz.func82, Tryz.ntmps82
  go_wp2
  clear ws n0 z0
  go_loopw [6, 20] (fun u6 i wr => ∃ (k : Nat) (v : Value), k ≤ wd ∧ i = .int .i64 k ∧ Aside0 (wr.heap[g]? = some (.cells #[v, .bool bad] 163 (0, 0))) ∧ Aside0 (BR wr base v (l ++ le N k)) ∧ Aside0 (Below base w0 wr)) (fun _ i _ => wd - (intOf i).toNat)
  case atStart => exact ⟨0, v, by omega, rfl, HP, ⟨by simpa [le] using HW.out⟩, HB⟩
  case round =>
    clear HP HW HB
    obtain ⟨k, v, hk, rfl, HP, HW, HB⟩ := hrel
    rename_i wr
    by_cases hlt : k < wd
    · obtain ⟨sh, hsh⟩ : ∃ sh, sh = 8 * k := ⟨_, rfl⟩
      have ws : IntKind.i64.wrap (8 * (k : Int)) = (sh : Int) := (IntWalk.i64_in _ (by have := H6.out; omega)).trans (by omega)
      have HV := Aside0.mk (le_byte N k sh hsh (by have := H6.out; omega))
      clear hsh
      go_wp2
      -- REGION5
      refine start_ (n := 15) (S := fun w' => w'.cell? ⟨g, 0, none⟩ = some v) (ds := [14]) #[false, false, false, false, false, false, false, false, false, false, false, false, false, false, false] (by kernel_rfl) rfl rfl ((blk_cell HP.out 0).trans rfl) (fun hHeld => ?_)
      replace HP := Aside0.mk (blk_drew HP.out)
      replace HW := Aside0.mk (HW.out.below (below_drew (Below.refl _ _)))
      replace HB := Aside0.mk (below_drew1 HB.out)
      generalize wr.drew = wd0 at HP HW HB hHeld ⊢
      refine pure_ (i := 0) (N := some 23) (v := ?_) (a' := ?_) #[true, false, false, false, false, false, false, false, false, false, false, false, false, false, false] rfl rfl (by kernel_rfl) (fun _ _ _ h => h) (Or.inl ⟨by rfl, ?_⟩) ?_ ?_
      rotate_left; · intro w'; go_simp; with_reducible rfl
      rotate_left; · simp only [Act.put, List.setIfInBounds_toArray, List.set_cons_zero, List.set_cons_succ, i64_w, i32_w]; rfl
      refine pure_ (i := 1) (N := some 24) (v := ?_) (a' := ?_) #[true, true, false, false, false, false, false, false, false, false, false, false, false, false, false] rfl rfl (by kernel_rfl) (fun _ _ _ h => h) (Or.inl ⟨by rfl, ?_⟩) ?_ ?_
      rotate_left; · intro w'; go_simp; with_reducible rfl
      rotate_left; · simp only [Act.put, List.setIfInBounds_toArray, List.set_cons_zero, List.set_cons_succ, i64_w, i32_w]; rfl
      refine pure_ (i := 2) (N := some 25) (v := ?_) (a' := ?_) #[true, true, true, false, false, false, false, false, false, false, false, false, false, false, false] rfl rfl (by kernel_rfl) (fun _ _ _ h => h) (Or.inl ⟨by rfl, ?_⟩) ?_ ?_
      rotate_left; · intro w'; go_simp; with_reducible rfl
      rotate_left; · simp only [Act.put, List.setIfInBounds_toArray, List.set_cons_zero, List.set_cons_succ, i64_w, i32_w]; rfl
      refine pure_ (i := 3) (N := some 26) (v := ?_) (a' := ?_) #[true, true, true, true, false, false, false, false, false, false, false, false, false, false, false] rfl rfl (by kernel_rfl) (fun _ _ _ h => h) (Or.inl ⟨by rfl, ?_⟩) ?_ ?_
      rotate_left; · intro w'; go_simp; with_reducible rfl
      rotate_left; · simp only [Act.put, List.setIfInBounds_toArray, List.set_cons_zero, List.set_cons_succ, i64_w, i32_w]; rfl
      refine pure_ (i := 5) (N := some 28) (v := ?_) (a' := ?_) #[true, true, true, true, false, true, false, false, false, false, false, false, false, false, false] rfl rfl (by kernel_rfl) (fun _ _ _ h => h) (Or.inl ⟨by rfl, ?_⟩) ?_ ?_
      rotate_left; · intro w'; go_simp; with_reducible rfl
      rotate_left; · simp only [Act.put, List.setIfInBounds_toArray, List.set_cons_zero, List.set_cons_succ, i64_w, i32_w]; rfl
      refine pure_ (i := 6) (N := some 29) (v := ?_) (a' := ?_) #[true, true, true, true, false, true, true, false, false, false, false, false, false, false, false] rfl rfl (by kernel_rfl) (fun _ _ _ h => h) (Or.inl ⟨by rfl, ?_⟩) ?_ ?_
      rotate_left; · intro w'; go_simp; with_reducible rfl
      rotate_left; · simp only [Act.put, List.setIfInBounds_toArray, List.set_cons_zero, List.set_cons_succ, i64_w, i32_w]; rfl
      refine pure_ (i := 7) (N := some 30) (v := ?_) (a' := ?_) #[true, true, true, true, false, true, true, true, false, false, false, false, false, false, false] rfl rfl (by kernel_rfl) (fun _ _ _ h => h) (Or.inl ⟨by rfl, ?_⟩) ?_ ?_
      rotate_left; · intro w'; go_simp; with_reducible rfl
      rotate_left; · simp only [Act.put, List.setIfInBounds_toArray, List.set_cons_zero, List.set_cons_succ, i64_w, i32_w]; rfl
      refine pure_ (i := 8) (N := some 31) (v := ?_) (a' := ?_) #[true, true, true, true, false, true, true, true, true, false, false, false, false, false, false] rfl rfl (by kernel_rfl) (fun _ _ _ h => h) (Or.inl ⟨by rfl, ?_⟩) ?_ ?_
      rotate_left; · intro w'; go_simp; with_reducible rfl
      rotate_left; · simp only [Act.put, List.setIfInBounds_toArray, List.set_cons_zero, List.set_cons_succ, i64_w, i32_w]; rfl
      refine pure_ (i := 9) (N := some 32) (v := ?_) (a' := ?_) #[true, true, true, true, false, true, true, true, true, true, false, false, false, false, false] rfl rfl (by kernel_rfl) (fun _ _ _ h => h) (Or.inl ⟨by rfl, ?_⟩) ?_ ?_
      rotate_left; · intro w'; go_simp; with_reducible rfl
      rotate_left; · simp only [Act.put, List.setIfInBounds_toArray, List.set_cons_zero, List.set_cons_succ, i64_w, i32_w]; rfl
      refine take_ (i := 4) (N := some 27) (v := ?_) (a' := ?_) #[true, true, true, true, true, true, true, true, true, true, false, false, false, false, false] rfl rfl (by kernel_rfl) (fun _ _ _ h => h) (Or.inl ⟨by rfl, ?_⟩) hHeld ?_ ?_
      rotate_left; · rintro w' hh; go_simp; with_reducible rfl
      rotate_left; · simp only [Act.put, List.setIfInBounds_toArray, List.set_cons_zero, List.set_cons_succ, i64_w, i32_w]; rfl
      refine one_ (i := 10) (N := some 33) #[true, true, true, true, true, true, true, true, true, true, true, false, false, false, false] rfl rfl (by kernel_rfl) (by decide) (fun K hK => ?_)
      refine value_ (v := .slice (some ⟨wd0.heap.size, 0, none⟩) 1 1) (w1 := wd0.alloc (.cells #[vb (UInt8.ofNat (N / 256 ^ k))] 5 (0, 0))) (by rfl) rfl (by rw [HV.out]; go_simp; rfl) ?_
      have hHeld1 : (wd0.alloc (.cells #[vb (UInt8.ofNat (N / 256 ^ k))] 5 (0, 0))).cell? ⟨g, 0, none⟩ = some v := (blk_cell (blk_alloc HP.out _) 0).trans rfl
      refine hK.out _ _ hHeld1 (fun hHeld => ?_)
      clear hK K
      refine norm_ (a' := ?_) ?_ ?_
      rotate_left; · show Act.put _ (some 33) _ = _; simp only [Act.put, List.setIfInBounds_toArray, List.set_cons_zero, List.set_cons_succ, i64_w, i32_w]; rfl
      refine one_ (i := 11) (N := some 34) #[true, true, true, true, true, true, true, true, true, true, true, true, false, false, false] rfl rfl (by kernel_rfl) (by decide) (fun K hK => ?_)
      refine step_append_b base (by rfl) (.tmp 27) (.tmp 33) rfl v (l ++ le N k) (UInt8.ofNat (N / 256 ^ k)) rfl rfl HW.out HB.out (by have := blk_lt HP.out; have := HG.out; omega) (by have := HL.out; have := H6.out; rw [List.length_append, le_length]; omega) ?_
      intro v1 w1 ho hb hg
      obtain ⟨a1, n1, c1, rfl⟩ : ∃ a1 n1 c1, v1 = .slice a1 n1 c1 := by obtain ⟨a, c, e, _⟩ := ho.slice; exact ⟨_, _, _, e⟩
      have HP1 := Aside0.mk (blk_grown HP.out hg (br_ne HW.out HP.out (by decide)))
      have HW1 := Aside0.mk ho
      have HB1 := Aside0.mk hb
      refine hK.out _ _ ((blk_cell HP1.out 0).trans rfl) (fun hHeld => ?_)
      clear hK K ho hb hg HP HW HB
      refine norm_ (a' := ?_) ?_ ?_
      rotate_left; · show Act.put _ (some 34) _ = _; simp only [Act.put, List.setIfInBounds_toArray, List.set_cons_zero, List.set_cons_succ, i64_w, i32_w]; rfl
      refine pure_ (i := 12) (N := some 35) (v := ?_) (a' := ?_) #[true, true, true, true, true, true, true, true, true, true, true, true, true, false, false] rfl rfl (by kernel_rfl) (fun _ _ _ h => h) (Or.inl ⟨by rfl, ?_⟩) ?_ ?_
      rotate_left; · intro w'; go_simp; with_reducible rfl
      rotate_left; · simp only [Act.put, List.setIfInBounds_toArray, List.set_cons_zero, List.set_cons_succ, i64_w, i32_w]; rfl
      refine pure_ (i := 13) (N := some 36) (v := ?_) (a' := ?_) #[true, true, true, true, true, true, true, true, true, true, true, true, true, true, false] rfl rfl (by kernel_rfl) (fun _ _ _ h => h) (Or.inl ⟨by rfl, ?_⟩) ?_ ?_
      rotate_left; · intro w'; go_simp; with_reducible rfl
      rotate_left; · simp only [Act.put, List.setIfInBounds_toArray, List.set_cons_zero, List.set_cons_succ, i64_w, i32_w]; rfl
      refine last_ (i := 14) (N := none) #[true, true, true, true, true, true, true, true, true, true, true, true, true, true, true] rfl rfl (by kernel_rfl) (by decide) (fun K hK => ?_)
      have c0 := (blk_cell HP1.out 0).trans (show (#[v, .bool bad] : Array Value)[0]? = some v from rfl)
      have f0 := blk_frozen HP1.out 0
      refine skip_ (w1 := w1.setCell ⟨g, 0, none⟩ (.slice a1 n1 c1)) (by rfl) rfl (by go_simp) ?_
      refine hK.out _ _ ?_
      have HP2 : Aside0 ((w1.setCell ⟨g, 0, none⟩ (.slice a1 n1 c1)).heap[g]? = some (.cells #[.slice a1 n1 c1, .bool bad] 163 (0, 0))) := ⟨blk_put HP1.out 0 (.slice a1 n1 c1) rfl⟩
      have HW2 := Aside0.mk (HW1.out.heap (fun q hq => Below.heap_setCell w1 ⟨g, 0, none⟩ (.slice a1 n1 c1) q (fun e => br_ne HW1.out HP1.out (by decide) (by rw [hq]; exact congrArg some e.symm))))
      have HB2 := Aside0.mk (HB1.out.setCell (p := ⟨g, 0, none⟩) HG.out (.slice a1 n1 c1))
      clear hK K c0 f0 HP1 HW1 HB1
      refine done_ (by kernel_rfl) ?_
      -- END5
      have hk6 : k ≤ 5 := by have := H6.out; omega
      go_wp2
      go_roundw
      case rel =>
        refine ⟨k + 1, .slice a1 n1 c1, by omega, rfl, HP2, ⟨?_⟩, HB2⟩
        rw [le_succ, ← List.append_assoc]
        exact HW2.out
      case measure => simp [intOf]; omega
    · obtain rfl : k = wd := by omega
      go_wp2
      go_end0
      exact ⟨rfl, ⟨v, HP.out, HW.out⟩, HB.out⟩
end Go.Proofs.YtgpknomegleidaaGreatDoor.T
namespace Go.Proofs.YtgpknomegleidaaGreatDoor.T
open Go.RowKit Go.Proofs.YtgpknomegleidaaGreatDoorW.PrintWords Go.Proofs.YtgpknomegleidaaGreatDoorW.PrintLast Go.Proofs.YtgpknomegleidaaGreatDoorW.PrintMore Go.Proofs.YtgpknomegleidaaGreatDoor.PAll
set_option linter.unusedSimpArgs false
set_option linter.unusedVariables false

theorem wpList_append_b {ops : Array Oper} {rest : List Oper} {o : Oper} {a : Act} {Q : Exit → Act → World → Prop} (hgd : o.guard = none) (s x : Operand)
    (ho : o.op = .call { callee := .builtin .append, args := #[s, x], argTypes := #[93, 93] }) (W : World) (base : Nat) (v : Value) (l : List UInt8) (b : UInt8) (u : Value) (hu : u = vb b)
    (hs : a.eval s = v) (hx : a.eval x = .slice (some ⟨W.heap.size, 0, none⟩) 1 1) (h : BR W base v l) (hbase : base ≤ W.heap.size) (hl : l.length + 1 ≤ 1099511627776)
    (hK : ∀ v' w', BR w' base v' (l ++ [b]) → Below base W w' → W.grownBy w' v.ownBlock → wpList Tryz.prog ops Q rest (a.put o.dst v') w') : wpList Tryz.prog ops Q (o :: rest) a (W.alloc (.cells #[u] 5 (0, 0))) := by
  subst hu
  refine wpList_plain hgd fun K hK' => ?_
  obtain ⟨v', w', hrun, h1, h2, h3⟩ := run_append_one W base o.type v l b h hbase hl
  unfold Oper.wp
  simp [execOp, ho, resolve, invoke, builtin, hs, hx, hrun, Result.andThen, -World.alloc_eq]
  exact hK' _ _ (hK v' w' h1 h2 h3)
theorem wpList_append_s {ops : Array Oper} {rest : List Oper} {o : Oper} {a : Act} {Q : Exit → Act → World → Prop} (hgd : o.guard = none) (s x : Operand)
    (ho : o.op = .call { callee := .builtin .append, args := #[s, x], argTypes := #[93, 9] }) (W : World) (base : Nat) (v : Value) (l : List UInt8) (t : ByteArray)
    (hs : a.eval s = v) (hx : a.eval x = .string t) (h : BR W base v l) (hbase : base ≤ W.heap.size) (hl : l.length + t.size ≤ 1099511627776) (h0 : v = .slice none 0 0 → 0 < t.size)
    (hK : ∀ v' w', BR w' base v' (l ++ pb t) → Below base W w' → W.grownBy w' v.ownBlock → wpList Tryz.prog ops Q rest (a.put o.dst v') w') : wpList Tryz.prog ops Q (o :: rest) a W := by
  refine wpList_plain hgd fun K hK' => ?_
  have hsrc : Src Tryz.prog 1 9 (.string t) (pb t).length ((pb t).map vb) W := by
    rw [pb_len]
    exact Src.ofString W Tryz.underlying9 t
  obtain ⟨v', w', hrun, h1, h2, h3⟩ := run_append_src W base 9 o.type v (.string t) l (pb t) h hbase hsrc (by rw [pb_len]; exact hl) (by rw [pb_len]; exact h0)
  unfold Oper.wp
  simp [execOp, ho, resolve, invoke, builtin, hs, hx, hrun, Result.andThen, -World.alloc_eq]
  exact hK' _ _ (hK v' w' h1 h2 h3)
/-- The writer's row is set. -/
theorem PWB.put {W : World} {base g : Nat} {v v' : Value} {bad : Bool} {l : List UInt8} (h : W.heap[g]? = some (.cells #[v, .bool bad] 163 (0, 0))) (hb : BR W base v' l) : PWB (W.setCell ⟨g, 0, none⟩ v') base g v' bad l :=
  ⟨blk_put h 0 v' rfl, hb.heap (fun q hq => Below.heap_setCell W ⟨g, 0, none⟩ v' q (fun e => br_ne hb h (by decide) (by rw [hq]; exact congrArg some e.symm)))⟩
def zeros (n : Nat) : List UInt8 := List.replicate n 0
set_option maxHeartbeats 4000000 in
set_option maxRecDepth 100000 in
theorem wfull_c (w0 : World) (base g : Nat) (v : Value) (l : List UInt8) (N : Nat) (w : World) (hp : PWB w base g v false l) (hb : Below base w0 w) (hg : base ≤ g) (hN : N ≤ 1000000) (hl : l.length ≤ 1000000) :
    Calls Tryz.prog 124 #[.pointer (some ⟨g, 0, none⟩), .int .i64 (N : Int)] w fun e w' => e = .returned (.string ⟨(l ++ zeros (N - l.length)).toArray⟩) ∧ Below base w0 w' := by
  have HG := Aside0.mk hg
  have HP := Aside0.mk hp
  have HB := Aside0.mk hb
  have HN := Aside0.mk (And.intro hN hl)
  clear hg hp hb hN hl
  go_enter Tryz.func124, Tryz.ntmps124
  go_wp2_with fail
  go_loopg [] (N - l.length) (fun m wr => ∃ (k : Nat) (v : Value), k + m = N - l.length ∧ Aside0 (PWB wr base g v false (l ++ zeros k)) ∧ Aside0 (Below base w0 wr))
  case atStart => exact ⟨0, v, by omega, ⟨by rw [show zeros 0 = [] from rfl, List.append_nil]; exact HP.out⟩, HB⟩
  case round =>
    clear HP HB
    obtain ⟨k, v, hk, HP, HB⟩ := hrel
    have hlen : (l ++ zeros k).length = l.length + k := by rw [List.length_append, zeros, List.length_replicate]
    obtain ⟨A, c, e, hc⟩ := HP.out.2.slice
    rw [hlen] at e
    subst e
    obtain ⟨L, hL⟩ : ∃ L, L = l.length + k := ⟨_, rfl⟩
    rw [← hL] at HP
    have c0 : wr.cell? ⟨g, 0, none⟩ = some (.slice A L c) := (blk_cell HP.out.1 0).trans rfl
    have f0 := blk_frozen HP.out.1 0
    have HL := Aside0.mk (And.intro hL hlen)
    by_cases hlt : L < N
    · have hdec : decide (L < N) = true := decide_eq_true hlt
      have hdec2 : decide ((L : Int) < (N : Int)) = true := decide_eq_true (by omega)
      have HK := Aside0.mk (show L < N ∧ k + gk = N - l.length by omega)
      clear hlt hc hL hlen hk
      go_wp2_with ((with_reducible refine gate_builtin (b := .append) (xs := #[.tmp 16, .tmp 17]) rfl ?_); at_builtin; refine wpList_append_b rfl (.tmp 16) (.tmp 17) rfl wr base (.slice A L c) (l ++ zeros k) 0 _ rfl rfl (by first | rfl | (go_simp; rfl)) HP.out.2 (by have := blk_lt HP.out.1; have := HG.out; omega) (by rw [HL.out.2]; have := HN.out; have := HK.out; have := HL.out.1; omega) ?_; intro v1 w1 hf1 hb1 hg1; have HB1 := Aside0.mk (HB.out.trans hb1); have HH := Aside0.mk (blk_grown HP.out.1 hg1 (br_ne HP.out.2 HP.out.1 (by decide))); have HF := Aside0.mk hf1; clear hf1 hb1 hg1 HB c0 f0; obtain ⟨A1, n1, c1, e1⟩ : ∃ A n c, v1 = .slice A n c := (by obtain ⟨A, c, e, _⟩ := HF.out.slice; exact ⟨_, _, _, e⟩); have f0 := blk_frozen HH.out 0; have c0 : w1.cell? ⟨g, 0, none⟩ = some (.slice A L c) := (blk_cell HH.out 0).trans rfl; subst e1)
      go_roundg (gk - 1)
      case rel =>
        refine ⟨k + 1, .slice A1 n1 c1, by have := HK.out; have := HL.out.1; omega, ⟨?_⟩, ⟨HB1.out.setCell (p := ⟨g, 0, none⟩) HG.out _⟩⟩
        have := PWB.put (bad := false) HH.out HF.out
        rw [List.append_assoc, show zeros k ++ [0] = zeros (k + 1) from (List.replicate_succ' ..).symm] at this
        exact this
      case measure => have := HK.out; have := HL.out.1; omega
    · have hdec : decide (L < N) = false := decide_eq_false hlt
      have hdec2 : decide ((L : Int) < (N : Int)) = false := decide_eq_false (by omega)
      have hcv := HP.out.2.str
      have hkk : k = N - l.length := by omega
      clear hlt hc hL hk
      go_wp2_with fail
      go_ret
      exact ⟨by rw [← hkk]; rfl, HB.out⟩
theorem infoWr : (Tryz.prog.info? 163).map (·.size) = some 2 := by kernel_rfl
set_option maxHeartbeats 4000000 in
set_option maxRecDepth 100000 in
theorem pad_c (s : ByteArray) (n : Nat) (w : World) (hn : n ≤ 4096) (hs : s.size ≤ n) :
    Calls Tryz.prog 114 #[.string s, .int .i64 (n : Int)] w fun e w' => e = .returned (.tuple #[.string ⟨(pb s ++ zeros (n - s.size)).toArray⟩, .int .i64 0]) ∧ Below w.heap.size w w' := by
  have g1 : decide ((n : Int) < 0) = false := decide_eq_false (by omega)
  have g2 : decide (4096 < n) = false := decide_eq_false (by omega)
  have g3 : decide ((4096 : Int) < (n : Int)) = false := decide_eq_false (by omega)
  have g4 : decide (n < s.size) = false := decide_eq_false (by omega)
  have g5 : decide ((n : Int) < (s.size : Int)) = false := decide_eq_false (by omega)
  have HN := Aside0.mk (And.intro hn hs)
  have kb := fun W => print_bytes (P := Tryz.prog) 9 93 5 Tryz.underlying9 Tryz.underlying93 Tryz.underlying5 s W
  have HF := Aside0.mk (brow_bytes w s (by simp only [maxLen]; omega))
  have HB0 := Aside0.mk (bytes_below (Below.refl w.heap.size w) (Nat.le_refl _) 5 s)
  have huw := Tryz.underlying163
  clear hn hs
  go_enter Tryz.func114, Tryz.ntmps114
  go_wp2_with (first | ((with_reducible refine gate_dst (N := 6) rfl ?_); refine box_event ?hg (N := 6) ?hd (cs := #[.slice none 0 0, .bool false]) (t := 163) ?hr ?_; (case hd => rfl); (case hg => rfl); (case hr => first | (go_simp; done) | (go_simp; rfl)); intro g6 hg w1 hbox hb; have H6 := Aside0.mk hbox; have HF1 := Aside0.mk (HF.out.heap (hb.block _ HF.out.lt)); have HB := Aside0.mk (below_then HB0.out HB0.out.size hb); have G6 := Aside0.mk (show w.heap.size < g6 by rw [hg]; exact HF.out.lt); clear HF HB0 hg hbox hb) | ((with_reducible refine gate_store (t := 163) rfl ?_); refine store_at rfl _ _ _ rfl g6 0 163 _ [.slice (some ⟨w.heap.size, 0, none⟩) s.size (grownCap w s.size 0 5), .bool false] infoWr H6.out (Nat.le_of_ble_eq_true rfl) (by first | (go_simp; done) | (go_simp; rfl)) (by first | (go_simp; done) | (go_simp; rfl)) (by intro v hv; simp only [List.mem_cons, List.mem_nil_iff, or_false] at hv; rcases hv with rfl | rfl <;> rfl) ?_; intro w2 hs hgr; have HP : Aside0 (PWB w2 w.heap.size g6 (.slice (some ⟨w.heap.size, 0, none⟩) s.size (grownCap w s.size 0 5)) false (pb s)) := ⟨⟨hs, .inr ⟨w.heap.size, _, by rw [pb_len], Nat.le_refl _, HF1.out.heap (hgr.block _ HF1.out.lt (fun e => by injection e with e; have := G6.out; omega))⟩⟩⟩; have HB2 := Aside0.mk (HB.out.grown hgr HB.out.size (fun k hk => by injection hk with hk; have := G6.out; omega)); clear hs hgr H6 HF1 HB kb))
  refine (wfull_c w w.heap.size g6 _ (pb s) n _ HP.out HB2.out (by have := G6.out; omega) (by have := HN.out; omega) (by rw [pb_len]; have := HN.out; omega)).mono ?_
  rintro e w3 ⟨rfl, hb⟩
  have HB3 := Aside0.mk hb
  clear hb
  go_wp2_with fail
  go_ret2
  exact ⟨by first | rfl | (rw [pb_len]; rfl), HB3.out⟩
set_option maxHeartbeats 4000000 in
set_option maxRecDepth 100000 in
/-- vault.numbered: a number of six bytes, filled up. -/
theorem numbered_c (N n : Nat) (w : World) (hN : N < 281474976710656) (h6 : 6 ≤ n) (hn : n ≤ 4096) :
    Calls Tryz.prog 77 #[.int .i64 (N : Int), .int .i64 (n : Int)] w fun e w' => e = .returned (.string ⟨(le N 6 ++ zeros (n - 6)).toArray⟩) ∧ Below w.heap.size w w' := by
  have HN := Aside0.mk (And.intro hN (And.intro h6 hn))
  have HZ : Aside0 ((⟨(le N 6).toArray⟩ : ByteArray).size = 6) := ⟨by show (le N 6).toArray.size = 6; rw [List.size_toArray, le_length]⟩
  clear hN h6 hn
  go_enter Tryz.func77, Tryz.ntmps77
  go_wp2_with fail
  refine (put_c N 6 (N : Int) 6 _ rfl rfl (by decide) (by decide) (by have := HN.out; omega) (Nat.div_eq_of_lt (by have := HN.out; omega))).mono ?_
  rintro e w1 ⟨rfl, hb⟩
  have HB1 := Aside0.mk hb
  clear hb
  go_wp2_with fail
  refine (pad_c ⟨(le N 6).toArray⟩ n _ HN.out.2.2 (by rw [HZ.out]; exact HN.out.2.1)).mono ?_
  rintro e w2 ⟨rfl, hb⟩
  have HB2 := Aside0.mk (below_then HB1.out HB1.out.size hb)
  clear hb
  go_wp2_with fail
  go_ret
  exact ⟨by rw [le_length]; rfl, HB2.out⟩
end Go.Proofs.YtgpknomegleidaaGreatDoor.T
namespace Go.Proofs.YtgpknomegleidaaGreatDoor.T
open Go.RowKit Go.Proofs.YtgpknomegleidaaGreatDoorW.PrintWords Go.Proofs.YtgpknomegleidaaGreatDoorW.PrintLast Go.Proofs.YtgpknomegleidaaGreatDoorW.PrintMore Go.Proofs.YtgpknomegleidaaGreatDoor.PAll
set_option linter.unusedSimpArgs false
set_option linter.unusedVariables false

/-- A block's head. -/
structure Hd where
  vol : Nat
  addr : Nat
  kind : Nat
  ino : Nat
  gen : Nat
  index : Nat
  ver : Nat
  salt : Nat
def headV (h : Hd) : Value := .agg (#[.int .i64 (h.vol : Int), .int .i64 (h.addr : Int), .int .i64 (h.kind : Int), .int .i64 (h.ino : Int), .int .i64 (h.gen : Int), .int .i64 (h.index : Int), .int .i64 (h.ver : Int), .int .i64 (h.salt : Int)] : Array Value)
/-- Each number has room. -/
def Hd.fits (h : Hd) : Prop := h.vol < 281474976710656 ∧ h.addr < 4294967296 ∧ h.kind < 65536 ∧ h.ino < 4294967296 ∧ h.gen < 4294967296 ∧ h.index < 4294967296 ∧ h.ver < 281474976710656 ∧ h.salt < 281474976710656
def nonceB (h : Hd) : List UInt8 := le h.addr 4 ++ le h.ver 6 ++ [0, 0]
def headB (h : Hd) : List UInt8 := ([71, 82, 80, 78] : List UInt8) ++ le h.vol 6 ++ le h.addr 4 ++ le h.kind 2 ++ le h.ino 4 ++ le h.gen 4 ++ le h.index 4 ++ le h.ver 6 ++ le h.salt 6 ++ zeros 8
theorem bapp (a b : List UInt8) : (⟨a.toArray⟩ : ByteArray) ++ ⟨b.toArray⟩ = ⟨(a ++ b).toArray⟩ := by
  apply ByteArray.ext
  simp
set_option maxHeartbeats 4000000 in
set_option maxRecDepth 100000 in
theorem nonce_c (h : Hd) (w : World) (hf : h.fits) :
    Calls Tryz.prog 42 #[headV h] w fun e w' => e = .returned (.string ⟨(nonceB h).toArray⟩) ∧ Below w.heap.size w w' := by
  have HF := Aside0.mk hf
  have hu71 := Tryz.underlying71
  clear hf
  unfold headV
  go_enter Tryz.func42, Tryz.ntmps42
  go_wp2_with ((with_reducible refine gate_dst (N := 1) rfl ?_); refine box_event ?hg (N := 1) ?hd (cs := (#[.int .i64 (h.vol : Int), .int .i64 (h.addr : Int), .int .i64 (h.kind : Int), .int .i64 (h.ino : Int), .int .i64 (h.gen : Int), .int .i64 (h.index : Int), .int .i64 (h.ver : Int), .int .i64 (h.salt : Int)] : Array Value)) (t := 71) ?hr ?_; (case hd => rfl); (case hg => rfl); (case hr => first | (go_simp; done) | (go_simp; rfl)); intro g1 hg w1 hbox hb; have H1 := Aside0.mk hbox; have HB1 := Aside0.mk hb; have c1 : w1.cell? ⟨g1, 1, none⟩ = some (.int .i64 (h.addr : Int)) := (blk_cell H1.out 1).trans rfl; clear hg hbox hb)
  refine (put_c h.addr 4 (h.addr : Int) 4 _ rfl rfl (by decide) (by decide) (by have := HF.out.2.1; omega) (Nat.div_eq_of_lt HF.out.2.1)).mono ?_
  rintro e w2 ⟨rfl, hb⟩
  have HB2 := Aside0.mk (below_then HB1.out HB1.out.size hb)
  have H2 := Aside0.mk (blk_below H1.out hb)
  clear hb c1 H1
  have H1 := H2
  have c6 : w2.cell? ⟨g1, 6, none⟩ = some (.int .i64 (h.ver : Int)) := (blk_cell H1.out 6).trans rfl
  go_wp2_with fail
  refine (put_c h.ver 6 (h.ver : Int) 6 _ rfl rfl (by decide) (by decide) (by have := HF.out.2.2.2.2.2.2.1; omega) (Nat.div_eq_of_lt HF.out.2.2.2.2.2.2.1)).mono ?_
  rintro e w3 ⟨rfl, hb⟩
  have HB3 := Aside0.mk (below_then HB2.out HB2.out.size hb)
  clear hb c6
  go_wp2_with fail
  go_ret
  exact ⟨by unfold nonceB; rw [← bapp, ← bapp]; rfl, HB3.out⟩
set_option maxHeartbeats 4000000 in
set_option maxRecDepth 100000 in
theorem head_c (h : Hd) (w : World) (hf : h.fits) :
    Calls Tryz.prog 93 #[headV h] w fun e w' => e = .returned (.tuple #[.string ⟨(headB h).toArray⟩, .int .i64 0]) ∧ Below w.heap.size w w' := by
  have HF := Aside0.mk hf
  have hu71 := Tryz.underlying71
  have huw := Tryz.underlying163
  have hk := fun (W : World) => Lib.run_convert_bytes_const (P := Tryz.prog) W 93 5 #[.int .u8 71, .int .u8 82, .int .u8 80, .int .u8 78] 4 4 Tryz.underlying93 Tryz.underlying5
  clear hf
  unfold headV
  go_enter Tryz.func93, Tryz.ntmps93
  go_wp2_with (first | ((with_reducible refine gate_dst (N := 1) rfl ?_); refine box_event ?hg (N := 1) ?hd (cs := (#[.int .i64 (h.vol : Int), .int .i64 (h.addr : Int), .int .i64 (h.kind : Int), .int .i64 (h.ino : Int), .int .i64 (h.gen : Int), .int .i64 (h.index : Int), .int .i64 (h.ver : Int), .int .i64 (h.salt : Int)] : Array Value)) (t := 71) ?hr ?_; (case hd => rfl); (case hg => rfl); (case hr => first | (go_simp; done) | (go_simp; rfl)); intro g1 hg w1 hbox hb; have H1 := Aside0.mk hbox; have HB1 := Aside0.mk hb; have c0 : w1.cell? ⟨g1, 0, none⟩ = some (.int .i64 (h.vol : Int)) := (blk_cell H1.out 0).trans rfl; clear hg hbox hb) | ((with_reducible refine gate_dst (N := 4) rfl ?_); refine box_event ?hg (N := 4) ?hd (cs := #[.slice none 0 0, .bool false]) (t := 163) ?hr ?_; (case hd => rfl); (case hg => rfl); (case hr => first | (go_simp; done) | (go_simp; rfl)); intro g4 hg w2 hbox hb; have H4 := Aside0.mk hbox; have HS : Aside0 (BRow w2 w1.heap.size 4 [71, 82, 80, 78]) := ⟨⟨#[vb 71, vb 82, vb 80, vb 78], (4, 5), blk_below (blk_new w1 (.cells #[vb 71, vb 82, vb 80, vb 78] 5 (4, 5))) hb, by decide, by decide, rfl, rfl, .inr rfl⟩⟩; have n1_ := Aside0.mk (below_then (below_alloc (Below.refl w1.heap.size w1) (.cells #[vb 71, vb 82, vb 80, vb 78] 5 (4, 5))) (by rw [alloc_sz]; omega) hb); have G4 := Aside0.mk (show w1.heap.size < g4 by rw [hg, alloc_sz]; omega); clear hg hbox hb) | ((with_reducible refine gate_store (t := 163) rfl ?_); refine store_at rfl _ _ _ rfl g4 0 163 _ [.slice (some ⟨w1.heap.size, 0, none⟩) 4 4, .bool false] infoWr H4.out (Nat.le_of_ble_eq_true rfl) (by first | (go_simp; done) | (go_simp; rfl)) (by first | (go_simp; done) | (go_simp; rfl)) (by intro v hv; simp only [List.mem_cons, List.mem_nil_iff, or_false] at hv; rcases hv with rfl | rfl <;> rfl) ?_; intro w3 hs hgr; have HP : Aside0 (PWB w3 w1.heap.size g4 (.slice (some ⟨w1.heap.size, 0, none⟩) 4 4) false [71, 82, 80, 78]) := ⟨⟨hs, .inr ⟨w1.heap.size, 4, rfl, Nat.le_refl _, HS.out.heap (hgr.block _ HS.out.lt (fun e => by injection e with e; have := G4.out; omega))⟩⟩⟩; have HB := Aside0.mk (n1_.out.grown hgr n1_.out.size (fun k hk => by injection hk with hk; have := G4.out; omega)); have c0 : w3.cell? ⟨g1, 0, none⟩ = some (.int .i64 (h.vol : Int)) := (blk_cell (blk_below H1.out HB.out) 0).trans rfl; clear hs hgr H4 HS n1_))
  refine (wputb_c w1 w1.heap.size g4 _ false (([71, 82, 80, 78] : List UInt8)) h.vol 6 _ HP.out HB.out (by have := G4.out; omega) (by simp [le_length]) (by decide) (by have := HF.out.1; omega) (Nat.div_eq_of_lt HF.out.1)).mono ?_
  rintro e w4 ⟨rfl, ⟨v4, hp⟩, hb⟩
  clear HP HB c0
  have HP := Aside0.mk hp
  have HB := Aside0.mk hb
  clear hp hb
  have c1 : w4.cell? ⟨g1, 1, none⟩ = some (.int .i64 (h.addr : Int)) := (blk_cell (blk_below H1.out HB.out) 1).trans rfl
  go_wp2_with fail
  refine (wputb_c w1 w1.heap.size g4 _ false (([71, 82, 80, 78] : List UInt8) ++ le h.vol 6) h.addr 4 _ HP.out HB.out (by have := G4.out; omega) (by simp [le_length]) (by decide) (by have := HF.out.2.1; omega) (Nat.div_eq_of_lt HF.out.2.1)).mono ?_
  rintro e w5 ⟨rfl, ⟨v5, hp⟩, hb⟩
  clear HP HB c1
  have HP := Aside0.mk hp
  have HB := Aside0.mk hb
  clear hp hb
  have c2 : w5.cell? ⟨g1, 2, none⟩ = some (.int .i64 (h.kind : Int)) := (blk_cell (blk_below H1.out HB.out) 2).trans rfl
  go_wp2_with fail
  refine (wputb_c w1 w1.heap.size g4 _ false (([71, 82, 80, 78] : List UInt8) ++ le h.vol 6 ++ le h.addr 4) h.kind 2 _ HP.out HB.out (by have := G4.out; omega) (by simp [le_length]) (by decide) (by have := HF.out.2.2.1; omega) (Nat.div_eq_of_lt HF.out.2.2.1)).mono ?_
  rintro e w6 ⟨rfl, ⟨v6, hp⟩, hb⟩
  clear HP HB c2
  have HP := Aside0.mk hp
  have HB := Aside0.mk hb
  clear hp hb
  have c3 : w6.cell? ⟨g1, 3, none⟩ = some (.int .i64 (h.ino : Int)) := (blk_cell (blk_below H1.out HB.out) 3).trans rfl
  go_wp2_with fail
  refine (wputb_c w1 w1.heap.size g4 _ false (([71, 82, 80, 78] : List UInt8) ++ le h.vol 6 ++ le h.addr 4 ++ le h.kind 2) h.ino 4 _ HP.out HB.out (by have := G4.out; omega) (by simp [le_length]) (by decide) (by have := HF.out.2.2.2.1; omega) (Nat.div_eq_of_lt HF.out.2.2.2.1)).mono ?_
  rintro e w7 ⟨rfl, ⟨v7, hp⟩, hb⟩
  clear HP HB c3
  have HP := Aside0.mk hp
  have HB := Aside0.mk hb
  clear hp hb
  have c4 : w7.cell? ⟨g1, 4, none⟩ = some (.int .i64 (h.gen : Int)) := (blk_cell (blk_below H1.out HB.out) 4).trans rfl
  go_wp2_with fail
  refine (wputb_c w1 w1.heap.size g4 _ false (([71, 82, 80, 78] : List UInt8) ++ le h.vol 6 ++ le h.addr 4 ++ le h.kind 2 ++ le h.ino 4) h.gen 4 _ HP.out HB.out (by have := G4.out; omega) (by simp [le_length]) (by decide) (by have := HF.out.2.2.2.2.1; omega) (Nat.div_eq_of_lt HF.out.2.2.2.2.1)).mono ?_
  rintro e w8 ⟨rfl, ⟨v8, hp⟩, hb⟩
  clear HP HB c4
  have HP := Aside0.mk hp
  have HB := Aside0.mk hb
  clear hp hb
  have c5 : w8.cell? ⟨g1, 5, none⟩ = some (.int .i64 (h.index : Int)) := (blk_cell (blk_below H1.out HB.out) 5).trans rfl
  go_wp2_with fail
  refine (wputb_c w1 w1.heap.size g4 _ false (([71, 82, 80, 78] : List UInt8) ++ le h.vol 6 ++ le h.addr 4 ++ le h.kind 2 ++ le h.ino 4 ++ le h.gen 4) h.index 4 _ HP.out HB.out (by have := G4.out; omega) (by simp [le_length]) (by decide) (by have := HF.out.2.2.2.2.2.1; omega) (Nat.div_eq_of_lt HF.out.2.2.2.2.2.1)).mono ?_
  rintro e w9 ⟨rfl, ⟨v9, hp⟩, hb⟩
  clear HP HB c5
  have HP := Aside0.mk hp
  have HB := Aside0.mk hb
  clear hp hb
  have c6 : w9.cell? ⟨g1, 6, none⟩ = some (.int .i64 (h.ver : Int)) := (blk_cell (blk_below H1.out HB.out) 6).trans rfl
  go_wp2_with fail
  refine (wputb_c w1 w1.heap.size g4 _ false (([71, 82, 80, 78] : List UInt8) ++ le h.vol 6 ++ le h.addr 4 ++ le h.kind 2 ++ le h.ino 4 ++ le h.gen 4 ++ le h.index 4) h.ver 6 _ HP.out HB.out (by have := G4.out; omega) (by simp [le_length]) (by decide) (by have := HF.out.2.2.2.2.2.2.1; omega) (Nat.div_eq_of_lt HF.out.2.2.2.2.2.2.1)).mono ?_
  rintro e w10 ⟨rfl, ⟨v10, hp⟩, hb⟩
  clear HP HB c6
  have HP := Aside0.mk hp
  have HB := Aside0.mk hb
  clear hp hb
  have c7 : w10.cell? ⟨g1, 7, none⟩ = some (.int .i64 (h.salt : Int)) := (blk_cell (blk_below H1.out HB.out) 7).trans rfl
  go_wp2_with fail
  refine (wputb_c w1 w1.heap.size g4 _ false (([71, 82, 80, 78] : List UInt8) ++ le h.vol 6 ++ le h.addr 4 ++ le h.kind 2 ++ le h.ino 4 ++ le h.gen 4 ++ le h.index 4 ++ le h.ver 6) h.salt 6 _ HP.out HB.out (by have := G4.out; omega) (by simp [le_length]) (by decide) (by have := HF.out.2.2.2.2.2.2.2; omega) (Nat.div_eq_of_lt HF.out.2.2.2.2.2.2.2)).mono ?_
  rintro e w11 ⟨rfl, ⟨v11, hp⟩, hb⟩
  clear HP HB c7
  have HP := Aside0.mk hp
  have HB := Aside0.mk hb
  clear hp hb
  have cb : w11.cell? ⟨g4, 1, none⟩ = some (.bool false) := (blk_cell HP.out.1 1).trans rfl
  go_wp2_with fail
  clear cb
  have hl : (([71, 82, 80, 78] : List UInt8) ++ le h.vol 6 ++ le h.addr 4 ++ le h.kind 2 ++ le h.ino 4 ++ le h.gen 4 ++ le h.index 4 ++ le h.ver 6 ++ le h.salt 6).length = 40 := by simp [le_length]
  have HL := Aside0.mk hl
  refine (wfull_c w1 w1.heap.size g4 _ (([71, 82, 80, 78] : List UInt8) ++ le h.vol 6 ++ le h.addr 4 ++ le h.kind 2 ++ le h.ino 4 ++ le h.gen 4 ++ le h.index 4 ++ le h.ver 6 ++ le h.salt 6) 48 _ HP.out HB.out (by have := G4.out; omega) (by decide) (by have := HL.out; omega)).mono ?_
  rintro e w12 ⟨rfl, hb⟩
  rw [hl]
  clear hl HP HB
  have HB := Aside0.mk hb
  clear hb
  go_wp2_with fail
  go_ret2
  exact ⟨rfl, below_then HB1.out HB1.out.size HB.out⟩
end Go.Proofs.YtgpknomegleidaaGreatDoor.T
namespace Go.Proofs.YtgpknomegleidaaGreatDoor.T
open Go.RowKit Go.Proofs.YtgpknomegleidaaGreatDoorW.PrintWords Go.Proofs.YtgpknomegleidaaGreatDoorW.PrintLast Go.Proofs.YtgpknomegleidaaGreatDoorW.PrintMore Go.Proofs.YtgpknomegleidaaGreatDoor.PAll
set_option linter.unusedSimpArgs false
set_option linter.unusedVariables false

theorem mk_size (l : List UInt8) : (⟨l.toArray⟩ : ByteArray).size = l.length := by show l.toArray.size = _; rw [List.size_toArray]
set_option maxHeartbeats 4000000 in
set_option maxRecDepth 100000 in
theorem super_c (vol ep nx live : Nat) (root : ByteArray) (w : World) (h1 : vol < 281474976710656) (h2 : ep < 281474976710656) (h3 : nx < 281474976710656) (h4 : live < 4294967296) (hr : root.size = 32) :
    Calls Tryz.prog 129 #[.agg (#[.int .i64 (vol : Int), .int .i64 (ep : Int), .int .i64 (nx : Int), .int .i64 (live : Int), .string root] : Array Value)] w fun e w' => ∃ s : ByteArray, e = .returned (.tuple #[.string s, .int .i64 0]) ∧ s.size = 448 ∧ Below w.heap.size w w' := by
  have HF := Aside0.mk (And.intro h1 (And.intro h2 (And.intro h3 (And.intro h4 hr))))
  have z0 : ((root.size : Int) != 32) = false := by rw [hr]; rfl
  have z1 : (root.size != 32) = false := by rw [hr]; rfl
  have hus := Tryz.underlying148
  have huw := Tryz.underlying163
  clear h1 h2 h3 h4 hr
  go_enter Tryz.func129, Tryz.ntmps129
  go_wp2_with (first | ((with_reducible refine gate_dst (N := 1) rfl ?_); refine box_event ?hg (N := 1) ?hd (cs := (#[.int .i64 (vol : Int), .int .i64 (ep : Int), .int .i64 (nx : Int), .int .i64 (live : Int), .string root] : Array Value)) (t := 148) ?hr ?_; (case hd => rfl); (case hg => rfl); (case hr => first | (go_simp; done) | (go_simp; rfl)); intro g1 hg w1 hbox hb; have H1 := Aside0.mk hbox; have HB1 := Aside0.mk hb; have c4 : w1.cell? ⟨g1, 4, none⟩ = some (.string root) := (blk_cell H1.out 4).trans rfl; clear hg hbox hb) | ((with_reducible refine gate_dst (N := 4) rfl ?_); refine box_event ?hg (N := 4) ?hd (cs := #[.slice none 0 0, .bool false]) (t := 163) ?hr ?_; (case hd => rfl); (case hg => rfl); (case hr => first | (go_simp; done) | (go_simp; rfl)); intro g4 hg w3 hbox hb; have HP : Aside0 (PWB w3 w1.heap.size g4 (.slice none 0 0) false []) := ⟨⟨hbox, BR.nil _ _⟩⟩; have HB := Aside0.mk hb; have G4 := Aside0.mk (Nat.le_of_eq hg.symm : w1.heap.size ≤ g4); have c0 : w3.cell? ⟨g1, 0, none⟩ = some (.int .i64 (vol : Int)) := (blk_cell (blk_below H1.out HB.out) 0).trans rfl; clear hg hbox hb c4))
  refine (wputb_c w1 w1.heap.size g4 _ false (([] : List UInt8)) vol 6 _ HP.out HB.out G4.out (by simp [le_length]) (by decide) (by have := HF.out.1; omega) (Nat.div_eq_of_lt HF.out.1)).mono ?_
  rintro e w4 ⟨rfl, ⟨v4, hp⟩, hb⟩
  clear HP HB c0
  have HP := Aside0.mk hp
  have HB := Aside0.mk hb
  clear hp hb
  have c1 : w4.cell? ⟨g1, 1, none⟩ = some (.int .i64 (ep : Int)) := (blk_cell (blk_below H1.out HB.out) 1).trans rfl
  go_wp2_with fail
  refine (wputb_c w1 w1.heap.size g4 _ false (([] : List UInt8) ++ le vol 6) ep 6 _ HP.out HB.out G4.out (by simp [le_length]) (by decide) (by have := HF.out.2.1; omega) (Nat.div_eq_of_lt HF.out.2.1)).mono ?_
  rintro e w5 ⟨rfl, ⟨v5, hp⟩, hb⟩
  clear HP HB c1
  have HP := Aside0.mk hp
  have HB := Aside0.mk hb
  clear hp hb
  have c2 : w5.cell? ⟨g1, 2, none⟩ = some (.int .i64 (nx : Int)) := (blk_cell (blk_below H1.out HB.out) 2).trans rfl
  go_wp2_with fail
  refine (wputb_c w1 w1.heap.size g4 _ false (([] : List UInt8) ++ le vol 6 ++ le ep 6) nx 6 _ HP.out HB.out G4.out (by simp [le_length]) (by decide) (by have := HF.out.2.2.1; omega) (Nat.div_eq_of_lt HF.out.2.2.1)).mono ?_
  rintro e w6 ⟨rfl, ⟨v6, hp⟩, hb⟩
  clear HP HB c2
  have HP := Aside0.mk hp
  have HB := Aside0.mk hb
  clear hp hb
  have c3 : w6.cell? ⟨g1, 3, none⟩ = some (.int .i64 (live : Int)) := (blk_cell (blk_below H1.out HB.out) 3).trans rfl
  go_wp2_with fail
  refine (wputb_c w1 w1.heap.size g4 _ false (([] : List UInt8) ++ le vol 6 ++ le ep 6 ++ le nx 6) live 4 _ HP.out HB.out G4.out (by simp [le_length]) (by decide) (by have := HF.out.2.2.2.1; omega) (Nat.div_eq_of_lt HF.out.2.2.2.1)).mono ?_
  rintro e w7 ⟨rfl, ⟨v7, hp⟩, hb⟩
  clear HP HB c3
  have HP := Aside0.mk hp
  have HB := Aside0.mk hb
  clear hp hb
  have cb : w7.cell? ⟨g4, 1, none⟩ = some (.bool false) := (blk_cell HP.out.1 1).trans rfl
  have cv : w7.cell? ⟨g4, 0, none⟩ = some v7 := (blk_cell HP.out.1 0).trans rfl
  have fv := blk_frozen HP.out.1 0
  have c4 : w7.cell? ⟨g1, 4, none⟩ = some (.string root) := (blk_cell (blk_below H1.out HB.out) 4).trans rfl
  have hl : (([] : List UInt8) ++ le vol 6 ++ le ep 6 ++ le nx 6 ++ le live 4).length = 22 := by simp [le_length]
  have HL := Aside0.mk hl
  clear hl
  go_wp2_with ((with_reducible refine gate_builtin (b := .append) (xs := #[.tmp 24, .tmp 26]) rfl ?_); at_builtin; refine wpList_append_s rfl (.tmp 24) (.tmp 26) rfl w7 w1.heap.size v7 (([] : List UInt8) ++ le vol 6 ++ le ep 6 ++ le nx 6 ++ le live 4) root rfl rfl HP.out.2 HB.out.size (by rw [HL.out]; have := HF.out.2.2.2.2; omega) (fun _ => by have := HF.out.2.2.2.2; omega) ?_; intro v8 w8 hf1 hb1 hg1; have HH := Aside0.mk (blk_grown HP.out.1 hg1 (br_ne HP.out.2 HP.out.1 (by decide))); have HB8 := Aside0.mk (HB.out.trans hb1); have HR8 := Aside0.mk hf1; clear hf1 hb1 hg1 HB HP cv fv cb c4; have fv := blk_frozen HH.out 0; have cv : w8.cell? ⟨g4, 0, none⟩ = some v7 := (blk_cell HH.out 0).trans rfl; obtain ⟨A8, n8, c8, e8⟩ : ∃ A n c, v8 = .slice A n c := (by obtain ⟨A, c, e, _⟩ := HR8.out.slice; exact ⟨_, _, _, e⟩); subst e8)
  have hl2 : (([] : List UInt8) ++ le vol 6 ++ le ep 6 ++ le nx 6 ++ le live 4 ++ pb root).length = 54 := by rw [List.length_append, HL.out, pb_len, HF.out.2.2.2.2]
  have HP9 := PWB.put (bad := false) HH.out HR8.out
  refine (wfull_c w1 w1.heap.size g4 _ (([] : List UInt8) ++ le vol 6 ++ le ep 6 ++ le nx 6 ++ le live 4 ++ pb root) 448 _ HP9 (HB8.out.setCell (p := ⟨g4, 0, none⟩) G4.out _) G4.out (by decide) (by omega)).mono ?_
  rintro e w12 ⟨rfl, hb⟩
  have HZ : Aside0 ((⟨(([] : List UInt8) ++ le vol 6 ++ le ep 6 ++ le nx 6 ++ le live 4 ++ pb root ++ zeros (448 - (([] : List UInt8) ++ le vol 6 ++ le ep 6 ++ le nx 6 ++ le live 4 ++ pb root).length)).toArray⟩ : ByteArray).size = 448) := ⟨by rw [mk_size, List.length_append, hl2]; rfl⟩
  clear hl2 HP9 cv fv
  generalize (⟨(([] : List UInt8) ++ le vol 6 ++ le ep 6 ++ le nx 6 ++ le live 4 ++ pb root ++ zeros (448 - (([] : List UInt8) ++ le vol 6 ++ le ep 6 ++ le nx 6 ++ le live 4 ++ pb root).length)).toArray⟩ : ByteArray) = sz at HZ ⊢
  have HB := Aside0.mk hb
  clear hb
  go_wp2_with fail
  go_ret2
  exact ⟨_, rfl, HZ.out, below_then HB1.out HB1.out.size HB.out⟩
theorem dir_at (l : List Nat) (hl : l.length = 12) (i : Nat) (hi : i < 12) : ((l.map fun (n : Nat) => Value.int .i64 (n : Int)).toArray : Array Value)[i]? = some (.int .i64 ((l.getD i 0 : Nat) : Int)) := by
  simp [List.getElem?_map, List.getElem?_eq_getElem (show i < l.length by omega), List.getD_eq_getElem?_getD]
theorem index_dir (l : List Nat) (hl : l.length = 12) {k : Nat} (hk : k < 12) (W : World) : (Instr.index 172 (.agg (l.map fun (n : Nat) => Value.int .i64 (n : Int)).toArray) (.int .i64 (k : Int))).run Tryz.prog W = .ok (.int .i64 ((l.getD k 0 : Nat) : Int)) W := by
  have hu := Tryz.underlying172
  have hsz : (sizeOf 3).run Tryz.prog W = .ok 1 W := Tryz.sizeOf3 W
  have hc := dir_at l hl k hk
  have hk0 : (0 : Int) ≤ (k : Int) ∧ (k : Int) < 12 := by omega
  have hag : (isAgg 3).run Tryz.prog W = .ok false W := Tryz.isAgg3 W
  generalize (l.map fun (n : Nat) => Value.int .i64 (n : Int)).toArray = vs at hc ⊢
  simp [Instr.index, run_underlying hu, asIntOf, hk0, hsz, part, hag, hc]
  omega
set_option maxHeartbeats 4000000 in
set_option maxRecDepth 100000 in
theorem inode_c (kind links size parent single double : Nat) (dl : List Nat) (d0 d1 d2 d3 d4 d5 d6 d7 d8 d9 d10 d11 : Nat) (hdl : dl = [d0, d1, d2, d3, d4, d5, d6, d7, d8, d9, d10, d11]) (w : World) (h1 : kind ≤ 3) (h2 : links < 4294967296) (h3 : size < 281474976710656) (h4 : parent < 4294967296) (h5 : single < 4294967296) (h6 : double < 4294967296) (hd : ∀ n ∈ dl, n < 4294967296) :
    Calls Tryz.prog 91 #[.agg (#[.int .i64 (kind : Int), .int .i64 (links : Int), .int .i64 (size : Int), .int .i64 (parent : Int), .int .i64 (d0 : Int), .int .i64 (d1 : Int), .int .i64 (d2 : Int), .int .i64 (d3 : Int), .int .i64 (d4 : Int), .int .i64 (d5 : Int), .int .i64 (d6 : Int), .int .i64 (d7 : Int), .int .i64 (d8 : Int), .int .i64 (d9 : Int), .int .i64 (d10 : Int), .int .i64 (d11 : Int), .int .i64 (single : Int), .int .i64 (double : Int)] : Array Value)] w fun e w' => ∃ s : ByteArray, e = .returned (.tuple #[.string s, .int .i64 0]) ∧ s.size = 448 ∧ Below w.heap.size w w' := by
  have HF := Aside0.mk (And.intro h1 (And.intro h2 (And.intro h3 (And.intro h4 (And.intro h5 h6)))))
  have HD : Aside0 (∀ i, dl.getD i 0 < 4294967296) := ⟨fun i => by
    rw [List.getD_eq_getElem?_getD]
    rcases Nat.lt_or_ge i dl.length with q | q
    · rw [List.getElem?_eq_getElem q]
      exact hd _ (List.getElem_mem q)
    · rw [List.getElem?_eq_none q]
      decide⟩
  have HDL := Aside0.mk hdl
  have g1 : decide ((kind : Int) < 0) = false := decide_eq_false (by omega)
  have g2 : decide ((3 : Int) < (kind : Int)) = false := decide_eq_false (by omega)
  have g3 : decide (3 < kind) = false := decide_eq_false (by omega)
  have hus := Tryz.underlying174
  have huw := Tryz.underlying163
  clear h1 h2 h3 h4 h5 h6 hd hdl
  go_enter Tryz.func91, Tryz.ntmps91
  go_wp2_with (first | ((with_reducible refine gate_dst (N := 1) rfl ?_); refine box_event ?hg (N := 1) ?hd (cs := (#[.int .i64 (kind : Int), .int .i64 (links : Int), .int .i64 (size : Int), .int .i64 (parent : Int), .int .i64 (d0 : Int), .int .i64 (d1 : Int), .int .i64 (d2 : Int), .int .i64 (d3 : Int), .int .i64 (d4 : Int), .int .i64 (d5 : Int), .int .i64 (d6 : Int), .int .i64 (d7 : Int), .int .i64 (d8 : Int), .int .i64 (d9 : Int), .int .i64 (d10 : Int), .int .i64 (d11 : Int), .int .i64 (single : Int), .int .i64 (double : Int)] : Array Value)) (t := 174) ?hr ?_; (case hd => rfl); (case hg => rfl); (case hr => first | (go_simp; done) | (go_simp; rfl)); intro g1 hg w1 hbox hb; have H1 := Aside0.mk hbox; have HB1 := Aside0.mk hb; have c0 : w1.cell? ⟨g1, 0, none⟩ = some (.int .i64 (kind : Int)) := (blk_cell H1.out 0).trans rfl; clear hg hbox hb) | ((with_reducible refine gate_dst (N := 4) rfl ?_); refine box_event ?hg (N := 4) ?hd (cs := #[.slice none 0 0, .bool false]) (t := 163) ?hr ?_; (case hd => rfl); (case hg => rfl); (case hr => first | (go_simp; done) | (go_simp; rfl)); intro g4 hg w3 hbox hb; have HP : Aside0 (PWB w3 w1.heap.size g4 (.slice none 0 0) false []) := ⟨⟨hbox, BR.nil _ _⟩⟩; have HB := Aside0.mk hb; have G4 := Aside0.mk (Nat.le_of_eq hg.symm : w1.heap.size ≤ g4); have c0 : w3.cell? ⟨g1, 0, none⟩ = some (.int .i64 (kind : Int)) := (blk_cell (blk_below H1.out HB.out) 0).trans rfl; clear hg hbox hb ))
  refine (wputb_c w1 w1.heap.size g4 _ false (([] : List UInt8)) kind 2 _ HP.out HB.out G4.out (by simp [le_length]) (by decide) (by have := (Nat.lt_of_le_of_lt HF.out.1 (show 3 < 65536 by decide)); omega) (Nat.div_eq_of_lt (Nat.lt_of_le_of_lt HF.out.1 (show 3 < 65536 by decide)))).mono ?_
  rintro e w4 ⟨rfl, ⟨v4, hp⟩, hb⟩
  clear HP HB c0
  have HP := Aside0.mk hp
  have HB := Aside0.mk hb
  clear hp hb
  have c1 : w4.cell? ⟨g1, 1, none⟩ = some (.int .i64 (links : Int)) := (blk_cell (blk_below H1.out HB.out) 1).trans rfl
  go_wp2_with fail
  refine (wputb_c w1 w1.heap.size g4 _ false (([] : List UInt8) ++ le kind 2) links 4 _ HP.out HB.out G4.out (by simp [le_length]) (by decide) (by have := HF.out.2.1; omega) (Nat.div_eq_of_lt HF.out.2.1)).mono ?_
  rintro e w5 ⟨rfl, ⟨v5, hp⟩, hb⟩
  clear HP HB c1
  have HP := Aside0.mk hp
  have HB := Aside0.mk hb
  clear hp hb
  have c2 : w5.cell? ⟨g1, 2, none⟩ = some (.int .i64 (size : Int)) := (blk_cell (blk_below H1.out HB.out) 2).trans rfl
  go_wp2_with fail
  refine (wputb_c w1 w1.heap.size g4 _ false (([] : List UInt8) ++ le kind 2 ++ le links 4) size 6 _ HP.out HB.out G4.out (by simp [le_length]) (by decide) (by have := HF.out.2.2.1; omega) (Nat.div_eq_of_lt HF.out.2.2.1)).mono ?_
  rintro e w6 ⟨rfl, ⟨v6, hp⟩, hb⟩
  clear HP HB c2
  have HP := Aside0.mk hp
  have HB := Aside0.mk hb
  clear hp hb
  have c3 : w6.cell? ⟨g1, 3, none⟩ = some (.int .i64 (parent : Int)) := (blk_cell (blk_below H1.out HB.out) 3).trans rfl
  go_wp2_with fail
  refine (wputb_c w1 w1.heap.size g4 _ false (([] : List UInt8) ++ le kind 2 ++ le links 4 ++ le size 6) parent 4 _ HP.out HB.out G4.out (by simp [le_length]) (by decide) (by have := HF.out.2.2.2.1; omega) (Nat.div_eq_of_lt HF.out.2.2.2.1)).mono ?_
  rintro e w7 ⟨rfl, ⟨v7, hp⟩, hb⟩
  clear HP HB c3
  have HP := Aside0.mk hp
  have HB := Aside0.mk hb
  clear hp hb
  have c4 : w7.cell? ⟨g1, 4, none⟩ = some (.int .i64 (d0 : Int)) := (blk_cell (blk_below H1.out HB.out) 4).trans rfl
  have c5 : w7.cell? ⟨g1, 5, none⟩ = some (.int .i64 (d1 : Int)) := (blk_cell (blk_below H1.out HB.out) 5).trans rfl
  have c6 : w7.cell? ⟨g1, 6, none⟩ = some (.int .i64 (d2 : Int)) := (blk_cell (blk_below H1.out HB.out) 6).trans rfl
  have c7 : w7.cell? ⟨g1, 7, none⟩ = some (.int .i64 (d3 : Int)) := (blk_cell (blk_below H1.out HB.out) 7).trans rfl
  have c8 : w7.cell? ⟨g1, 8, none⟩ = some (.int .i64 (d4 : Int)) := (blk_cell (blk_below H1.out HB.out) 8).trans rfl
  have c9 : w7.cell? ⟨g1, 9, none⟩ = some (.int .i64 (d5 : Int)) := (blk_cell (blk_below H1.out HB.out) 9).trans rfl
  have c10 : w7.cell? ⟨g1, 10, none⟩ = some (.int .i64 (d6 : Int)) := (blk_cell (blk_below H1.out HB.out) 10).trans rfl
  have c11 : w7.cell? ⟨g1, 11, none⟩ = some (.int .i64 (d7 : Int)) := (blk_cell (blk_below H1.out HB.out) 11).trans rfl
  have c12 : w7.cell? ⟨g1, 12, none⟩ = some (.int .i64 (d8 : Int)) := (blk_cell (blk_below H1.out HB.out) 12).trans rfl
  have c13 : w7.cell? ⟨g1, 13, none⟩ = some (.int .i64 (d9 : Int)) := (blk_cell (blk_below H1.out HB.out) 13).trans rfl
  have c14 : w7.cell? ⟨g1, 14, none⟩ = some (.int .i64 (d10 : Int)) := (blk_cell (blk_below H1.out HB.out) 14).trans rfl
  have c15 : w7.cell? ⟨g1, 15, none⟩ = some (.int .i64 (d11 : Int)) := (blk_cell (blk_below H1.out HB.out) 15).trans rfl
  go_wp2_with fail
  clear c4 c5 c6 c7 c8 c9 c10 c11 c12 c13 c14 c15
  have HL : Aside0 ((([] : List UInt8) ++ le kind 2 ++ le links 4 ++ le size 6 ++ le parent 4).length = 16) := ⟨by simp [le_length]⟩
  go_loopw [29] (fun v29 wr => ∃ (k : Nat) (v : Value) (x : List UInt8), k ≤ 12 ∧ v29 = .int .i64 k ∧ Aside0 (x.length = 16 + 4 * k) ∧ Aside0 (PWB wr w1.heap.size g4 v false x) ∧ Aside0 (Below w1.heap.size w1 wr)) (fun i _ => 12 - (intOf i).toNat)
  case atStart => exact ⟨0, _, _, by omega, rfl, HL, HP, HB⟩
  case round =>
    clear HP HB HL
    obtain ⟨k, v, x, hk, rfl, HX, HP, HB⟩ := hrel
    by_cases hlt : k < 12
    · have hdec : decide (k < 12) = true := decide_eq_true hlt
      have hdec2 : decide ((k : Int) < 12) = true := decide_eq_true (by omega)
      have HK := Aside0.mk hlt
      have hix : ∀ W, (Instr.index 172 (.agg #[.int .i64 (d0 : Int), .int .i64 (d1 : Int), .int .i64 (d2 : Int), .int .i64 (d3 : Int), .int .i64 (d4 : Int), .int .i64 (d5 : Int), .int .i64 (d6 : Int), .int .i64 (d7 : Int), .int .i64 (d8 : Int), .int .i64 (d9 : Int), .int .i64 (d10 : Int), .int .i64 (d11 : Int)]) (.int .i64 (k : Int))).run Tryz.prog W = .ok (.int .i64 ((dl.getD k 0 : Nat) : Int)) W := fun W => by
        rw [HDL.out]
        exact index_dir [d0, d1, d2, d3, d4, d5, d6, d7, d8, d9, d10, d11] rfl hlt W
      have p1 : (0 ≤ (k : Int)) = True := eq_true (by omega)
      have q1 : ((k : Int) < 12) = True := eq_true (by omega)
      clear hlt hk
      go_wp2_with fail
      refine (wputb_c w1 w1.heap.size g4 _ false x (dl.getD k 0) 4 _ HP.out HB.out G4.out (by have := HX.out; have := HK.out; omega) (by decide) (by have := HD.out k; omega) (Nat.div_eq_of_lt (HD.out k))).mono ?_
      rintro e w8 ⟨rfl, ⟨v8, hp⟩, hb⟩
      clear HP HB
      have HP := Aside0.mk hp
      have HB := Aside0.mk hb
      clear hp hb hix
      go_wp2_with fail
      go_roundw
      case rel =>
        have := HK.out
        refine ⟨k + 1, v8, x ++ le (dl.getD k 0) 4, by omega, by first | rfl | (rw [w64 (by omega) (by omega)]; rfl), ⟨?_⟩, HP, HB⟩
        rw [List.length_append, le_length, HX.out]
        omega
      case measure =>
        have := HK.out
        first | (simp [intOf]; omega) | (rw [w64 (by omega) (by omega)]; simp [intOf]; omega)
    · have hk12 : k = 12 := by omega
      subst hk12
      have hl64 : x.length = 64 := HX.out
      have HL := Aside0.mk hl64
      clear hk hlt hl64 HX
      have c16 : wr.cell? ⟨g1, 16, none⟩ = some (.int .i64 (single : Int)) := (blk_cell (blk_below H1.out HB.out) 16).trans rfl
      go_wp2_with fail
      refine (wputb_c w1 w1.heap.size g4 _ false (x) single 4 _ HP.out HB.out G4.out (by have := HL.out; omega) (by decide) (by have := HF.out.2.2.2.2.1; omega) (Nat.div_eq_of_lt HF.out.2.2.2.2.1)).mono ?_
      rintro e w8 ⟨rfl, ⟨v8, hp⟩, hb⟩
      clear HP HB c16
      have HP := Aside0.mk hp
      have HB := Aside0.mk hb
      clear hp hb
      have c17 : w8.cell? ⟨g1, 17, none⟩ = some (.int .i64 (double : Int)) := (blk_cell (blk_below H1.out HB.out) 17).trans rfl
      go_wp2_with fail
      refine (wputb_c w1 w1.heap.size g4 _ false (x ++ le single 4) double 4 _ HP.out HB.out G4.out (by rw [List.length_append, le_length]; have := HL.out; omega) (by decide) (by have := HF.out.2.2.2.2.2; omega) (Nat.div_eq_of_lt HF.out.2.2.2.2.2)).mono ?_
      rintro e w9 ⟨rfl, ⟨v9, hp⟩, hb⟩
      clear HP HB c17
      have HP := Aside0.mk hp
      have HB := Aside0.mk hb
      clear hp hb
      have cb : w9.cell? ⟨g4, 1, none⟩ = some (.bool false) := (blk_cell HP.out.1 1).trans rfl
      go_wp2_with fail
      clear cb
      have hl2 : (x ++ le single 4 ++ le double 4).length = 72 := by rw [List.length_append, List.length_append, le_length, le_length, HL.out]
      refine (wfull_c w1 w1.heap.size g4 _ (x ++ le single 4 ++ le double 4) 448 _ HP.out HB.out G4.out (by decide) (by omega)).mono ?_
      rintro e w12 ⟨rfl, hb⟩
      have HZ : Aside0 ((⟨(x ++ le single 4 ++ le double 4 ++ zeros (448 - (x ++ le single 4 ++ le double 4).length)).toArray⟩ : ByteArray).size = 448) := ⟨by rw [mk_size, List.length_append, hl2]; rfl⟩
      clear hl2 HP HB
      generalize (⟨(x ++ le single 4 ++ le double 4 ++ zeros (448 - (x ++ le single 4 ++ le double 4).length)).toArray⟩ : ByteArray) = sz at HZ ⊢
      have HB := Aside0.mk hb
      clear hb
      go_wp2_with fail
      go_ret2
      exact ⟨_, rfl, HZ.out, below_then HB1.out HB1.out.size HB.out⟩
end Go.Proofs.YtgpknomegleidaaGreatDoor.T
namespace Go.Proofs.YtgpknomegleidaaGreatDoor.T
open Go.RowKit Go.Proofs.YtgpknomegleidaaGreatDoorW.PrintWords Go.Proofs.YtgpknomegleidaaGreatDoorW.PrintLast Go.Proofs.YtgpknomegleidaaGreatDoorW.PrintMore Go.Proofs.YtgpknomegleidaaGreatDoor.PAll
set_option linter.unusedSimpArgs false
set_option linter.unusedVariables false

set_option maxHeartbeats 4000000 in
set_option maxRecDepth 100000 in
theorem entry_c (name : ByteArray) (ino gen : Nat) (w : World) (h1 : name.size ≤ 19) (h2 : ino < 4294967296) (h3 : gen < 4294967296) (h0 : name.size = 0 → ino = 0 ∧ gen = 0) :
    Calls Tryz.prog 125 #[.agg (#[.string name, .int .i64 (ino : Int), .int .i64 (gen : Int)] : Array Value)] w fun e w' => ∃ s : ByteArray, e = .returned (.tuple #[.string s, .int .i64 0]) ∧ s.size = 28 ∧ Below w.heap.size w w' := by
  have HF := Aside0.mk (And.intro h1 (And.intro h2 h3))
  have g1 : decide ((19 : Int) < (name.size : Int)) = false := decide_eq_false (by omega)
  have g1' : decide (19 < name.size) = false := decide_eq_false (by omega)
  have hus := Tryz.underlying179
  have huw := Tryz.underlying163
  obtain ⟨bb, hbb⟩ : ∃ bb : UInt8, bb = UInt8.ofNat name.size := ⟨_, rfl⟩
  have hcv : IntKind.u8.wrap (name.size : Int) = (bb.toNat : Int) := by
    rw [hbb, UInt8.toNat_ofNat', IntKind.wrap_u8]
    omega
  have HZ := Aside0.mk h0
  clear h1 h2 h3 h0 hbb
  go_enter Tryz.func125, Tryz.ntmps125
  by_cases hz : name.size = 0
  · obtain ⟨rfl, rfl⟩ := HZ.out hz
    have hn : name = ⟨#[]⟩ := pb_inj (List.eq_nil_of_length_eq_zero (by rw [pb_len]; exact hz))
    have HNL : Aside0 (name.size = 0) := ⟨hz⟩
    have e1 : (name.toList == ([] : List UInt8)) = true := by rw [hn, toL]; rfl
    have e2 : name.toList = [] := by rw [hn, toL]; rfl
    clear hz hn HZ
    go_upto_region 5 with ((with_reducible refine gate_dst (N := 1) rfl ?_); refine box_event ?hg (N := 1) ?hd (cs := (#[.string name, .int .i64 ((0 : Nat) : Int), .int .i64 ((0 : Nat) : Int)] : Array Value)) (t := 179) ?hr ?_; (case hd => rfl); (case hg => rfl); (case hr => first | (go_simp; done) | (go_simp; rfl)); intro g1 hg w1 hbox hb; have H1 := Aside0.mk hbox; have HB1 := Aside0.mk hb; have c0 : w1.cell? ⟨g1, 0, none⟩ = some (.string name) := (blk_cell H1.out 0).trans rfl; have c1 : w1.cell? ⟨g1, 1, none⟩ = some (.int .i64 ((0 : Nat) : Int)) := (blk_cell H1.out 1).trans rfl; have c2 : w1.cell? ⟨g1, 2, none⟩ = some (.int .i64 ((0 : Nat) : Int)) := (blk_cell H1.out 2).trans rfl; clear hg hbox hb)
    go_wp2_with (first | ((with_reducible refine gate_dst (N := 4) rfl ?_); refine box_event ?hg (N := 4) ?hd (cs := #[.slice none 0 0, .bool false]) (t := 163) ?hr ?_; (case hd => rfl); (case hg => rfl); (case hr => first | (go_simp; done) | (go_simp; rfl)); intro g4 hg w2 hbox hb; have H4 := Aside0.mk hbox; have HS : Aside0 (BRow w2 w1.heap.size 1 [bb]) := ⟨⟨#[vb bb], (0, 0), blk_below (blk_new w1 (.cells #[vb bb] 5 (0, 0))) hb, Nat.le_refl 1, by decide, rfl, rfl, .inl rfl⟩⟩; have n1_ := Aside0.mk (below_then (below_alloc (Below.refl w1.heap.size w1) (.cells #[vb bb] 5 (0, 0))) (by rw [alloc_sz]; omega) hb); have G4 := Aside0.mk (show w1.heap.size < g4 by rw [hg, alloc_sz]; omega); clear hg hbox hb) | ((with_reducible refine gate_store (t := 163) rfl ?_); refine store_at rfl _ _ _ rfl g4 0 163 _ [.slice (some ⟨w1.heap.size, 0, none⟩) 1 1, .bool false] infoWr H4.out (Nat.le_of_ble_eq_true rfl) (by first | (go_simp; done) | (go_simp; rfl)) (by first | (go_simp; done) | (go_simp; rfl)) (by intro v hv; simp only [List.mem_cons, List.mem_nil_iff, or_false] at hv; rcases hv with rfl | rfl <;> rfl) ?_; intro w3 hs hgr; have HP : Aside0 (PWB w3 w1.heap.size g4 (.slice (some ⟨w1.heap.size, 0, none⟩) 1 1) false [bb]) := ⟨⟨hs, .inr ⟨w1.heap.size, 1, rfl, Nat.le_refl _, HS.out.heap (hgr.block _ HS.out.lt (fun e => by injection e with e; have := G4.out; omega))⟩⟩⟩; have HB := Aside0.mk (n1_.out.grown hgr n1_.out.size (fun k hk => by injection hk with hk; have := G4.out; omega)); clear c0 c1 c2; have c0 : w3.cell? ⟨g1, 0, none⟩ = some (.string name) := (blk_cell (blk_below H1.out HB.out) 0).trans rfl; have cv : w3.cell? ⟨g4, 0, none⟩ = some (.slice (some ⟨w1.heap.size, 0, none⟩) 1 1) := (blk_cell HP.out.1 0).trans rfl; clear hs hgr H4 HS n1_) | ((with_reducible refine gate_builtin (b := .append) (xs := #[.tmp 29, .tmp 31]) rfl ?_); at_builtin; refine wpList_append_s rfl (.tmp 29) (.tmp 31) rfl w3 w1.heap.size _ [bb] name rfl rfl HP.out.2 HB.out.size (by have := HF.out.1; show 1 + name.size ≤ _; omega) (fun e => by cases e) ?_; intro v8 w8 hf1 hb1 hg1; have HH := Aside0.mk (blk_grown HP.out.1 hg1 (br_ne HP.out.2 HP.out.1 (by decide))); have HB8 := Aside0.mk (HB.out.trans hb1); have HR8 := Aside0.mk hf1; clear hf1 hb1 hg1 HB HP cv c0; have fv := blk_frozen HH.out 0; have cv : w8.cell? ⟨g4, 0, none⟩ = some (.slice (some ⟨w1.heap.size, 0, none⟩) 1 1) := (blk_cell HH.out 0).trans rfl; obtain ⟨A8, n8, c8, e8⟩ : ∃ A n c, v8 = .slice A n c := (by obtain ⟨A, c, e, _⟩ := HR8.out.slice; exact ⟨_, _, _, e⟩); subst e8))
    have HP : Aside0 (PWB (w8.setCell ⟨g4, 0, none⟩ (.slice A8 n8 c8)) w1.heap.size g4 (.slice A8 n8 c8) false ([bb] ++ pb name)) := ⟨PWB.put (bad := false) HH.out HR8.out⟩
    have HB := Aside0.mk (HB8.out.setCell (p := ⟨g4, 0, none⟩) (Nat.le_of_lt G4.out) (.slice A8 n8 c8))
    clear HH HR8 HB8 cv fv
    generalize w8.setCell ⟨g4, 0, none⟩ (.slice A8 n8 c8) = w9 at HP HB ⊢
    have HL0 : Aside0 (([bb] ++ pb name).length + (19 - name.size) = 20) := ⟨by rw [List.length_append, pb_len]; have := HF.out.1; show 1 + name.size + (19 - name.size) = 20; omega⟩
    go_loopg [] (19 - name.size) (fun m wr => ∃ (v : Value) (x : List UInt8), Aside0 (x.length + m = 20) ∧ Aside0 (PWB wr w1.heap.size g4 v false x) ∧ Aside0 (Below w1.heap.size w1 wr))
    case atStart => exact ⟨_, _, HL0, HP, HB⟩
    case round =>
      clear HP HB HL0
      obtain ⟨v, x, HX, HP, HB⟩ := hrel
      obtain ⟨A, c, e, hc⟩ := HP.out.2.slice
      obtain ⟨L, hL⟩ : ∃ L, L = x.length := ⟨_, rfl⟩
      rw [← hL] at e hc
      subst e
      have c0 : wr.cell? ⟨g4, 0, none⟩ = some (.slice A L c) := (blk_cell HP.out.1 0).trans rfl
      have f0 := blk_frozen HP.out.1 0
      by_cases hlt : L < 20
      · have hdec : decide (L < 20) = true := decide_eq_true hlt
        have hdec2 : decide ((L : Int) < 20) = true := decide_eq_true (by omega)
        have HK := Aside0.mk (show x.length < 20 ∧ x.length + gk = 20 from ⟨by omega, HX.out⟩)
        clear hlt hc hL HX
        go_wp2_with ((with_reducible refine gate_builtin (b := .append) (xs := #[.tmp 39, .tmp 40]) rfl ?_); at_builtin; refine wpList_append_b rfl (.tmp 39) (.tmp 40) rfl wr w1.heap.size (.slice A L c) x 0 _ rfl rfl (by first | rfl | (go_simp; rfl)) HP.out.2 (by have := blk_lt HP.out.1; have := G4.out; omega) (by have := HK.out; omega) ?_; intro v1 w9 hf1 hb1 hg1; have HB9 := Aside0.mk (HB.out.trans hb1); have HH := Aside0.mk (blk_grown HP.out.1 hg1 (br_ne HP.out.2 HP.out.1 (by decide))); have HR := Aside0.mk hf1; clear hf1 hb1 hg1 HB c0 f0; obtain ⟨A1, n1, c1, e1⟩ : ∃ A n c, v1 = .slice A n c := (by obtain ⟨A, c, e, _⟩ := HR.out.slice; exact ⟨_, _, _, e⟩); have f0 := blk_frozen HH.out 0; have c0 : w9.cell? ⟨g4, 0, none⟩ = some (.slice A L c) := (blk_cell HH.out 0).trans rfl; subst e1)
        go_roundg (gk - 1)
        case rel =>
          refine ⟨.slice A1 n1 c1, x ++ [0], ⟨?_⟩, ⟨PWB.put (bad := false) HH.out HR.out⟩, ⟨HB9.out.setCell (p := ⟨g4, 0, none⟩) (Nat.le_of_lt G4.out) _⟩⟩
          rw [List.length_append]
          have := HK.out
          show x.length + 1 + (gk - 1) = 20
          omega
        case measure => have := HK.out; omega
      · have hdec : decide (L < 20) = false := decide_eq_false hlt
        have hdec2 : decide ((L : Int) < 20) = false := decide_eq_false (by omega)
        have HLx : Aside0 (x.length = 20) := ⟨by have := HX.out; omega⟩
        have c1 : wr.cell? ⟨g1, 1, none⟩ = some (.int .i64 (0 : Int)) := (blk_cell (blk_below H1.out HB.out) 1).trans rfl
        clear hlt hc hL HX
        go_wp2_with fail
        clear c0 f0 c1
        refine (wputb_c w1 w1.heap.size g4 _ false (x) 0 4 _ HP.out HB.out (Nat.le_of_lt G4.out) (by have := HLx.out; omega) (by decide) (by have := (show 0 < 4294967296 from HF.out.2.1); omega) (Nat.div_eq_of_lt (show 0 < 4294967296 from HF.out.2.1))).mono ?_
        rintro e w10 ⟨rfl, ⟨v10, hp⟩, hb⟩
        clear HP HB
        have HP := Aside0.mk hp
        have HB := Aside0.mk hb
        clear hp hb
        have c2 : w10.cell? ⟨g1, 2, none⟩ = some (.int .i64 (0 : Int)) := (blk_cell (blk_below H1.out HB.out) 2).trans rfl
        go_wp2_with fail
        refine (wputb_c w1 w1.heap.size g4 _ false (x ++ le 0 4) 0 4 _ HP.out HB.out (Nat.le_of_lt G4.out) (by rw [List.length_append, le_length]; have := HLx.out; omega) (by decide) (by have := (show 0 < 4294967296 from HF.out.2.2); omega) (Nat.div_eq_of_lt (show 0 < 4294967296 from HF.out.2.2))).mono ?_
        rintro e w11 ⟨rfl, ⟨v11, hp⟩, hb⟩
        clear HP HB
        have HP := Aside0.mk hp
        have HB := Aside0.mk hb
        clear hp hb
        clear c2
        have cb : w11.cell? ⟨g4, 1, none⟩ = some (.bool false) := (blk_cell HP.out.1 1).trans rfl
        have cv : w11.cell? ⟨g4, 0, none⟩ = some v11 := (blk_cell HP.out.1 0).trans rfl
        have hcv2 := HP.out.2.str
        have hl2 : (x ++ le 0 4 ++ le 0 4).length = 28 := by simp [le_length, HLx.out]
        have HZ : Aside0 ((⟨(x ++ le 0 4 ++ le 0 4).toArray⟩ : ByteArray).size = 28) := ⟨by rw [mk_size, hl2]⟩
        generalize (⟨(x ++ le 0 4 ++ le 0 4).toArray⟩ : ByteArray) = sz at HZ hcv2 ⊢
        clear hl2
        go_wp2_with fail
        go_ret2
        exact ⟨_, rfl, HZ.out, below_then HB1.out HB1.out.size HB.out⟩
  · have e1 : (name.toList == ([] : List UInt8)) = false := by
      rw [toL]
      refine beq_eq_false_iff_ne.mpr (fun e => hz ?_)
      rw [← pb_len, e]
      rfl
    have e3 : (name.toList = []) = False := eq_false (fun e => by rw [e] at e1; cases e1)
    clear hz HZ
    go_upto_region 5 with ((with_reducible refine gate_dst (N := 1) rfl ?_); refine box_event ?hg (N := 1) ?hd (cs := (#[.string name, .int .i64 (ino : Int), .int .i64 (gen : Int)] : Array Value)) (t := 179) ?hr ?_; (case hd => rfl); (case hg => rfl); (case hr => first | (go_simp; done) | (go_simp; rfl)); intro g1 hg w1 hbox hb; have H1 := Aside0.mk hbox; have HB1 := Aside0.mk hb; have c0 : w1.cell? ⟨g1, 0, none⟩ = some (.string name) := (blk_cell H1.out 0).trans rfl; have c1 : w1.cell? ⟨g1, 1, none⟩ = some (.int .i64 (ino : Int)) := (blk_cell H1.out 1).trans rfl; have c2 : w1.cell? ⟨g1, 2, none⟩ = some (.int .i64 (gen : Int)) := (blk_cell H1.out 2).trans rfl; clear hg hbox hb)
    go_wp2_with (first | ((with_reducible refine gate_dst (N := 4) rfl ?_); refine box_event ?hg (N := 4) ?hd (cs := #[.slice none 0 0, .bool false]) (t := 163) ?hr ?_; (case hd => rfl); (case hg => rfl); (case hr => first | (go_simp; done) | (go_simp; rfl)); intro g4 hg w2 hbox hb; have H4 := Aside0.mk hbox; have HS : Aside0 (BRow w2 w1.heap.size 1 [bb]) := ⟨⟨#[vb bb], (0, 0), blk_below (blk_new w1 (.cells #[vb bb] 5 (0, 0))) hb, Nat.le_refl 1, by decide, rfl, rfl, .inl rfl⟩⟩; have n1_ := Aside0.mk (below_then (below_alloc (Below.refl w1.heap.size w1) (.cells #[vb bb] 5 (0, 0))) (by rw [alloc_sz]; omega) hb); have G4 := Aside0.mk (show w1.heap.size < g4 by rw [hg, alloc_sz]; omega); clear hg hbox hb) | ((with_reducible refine gate_store (t := 163) rfl ?_); refine store_at rfl _ _ _ rfl g4 0 163 _ [.slice (some ⟨w1.heap.size, 0, none⟩) 1 1, .bool false] infoWr H4.out (Nat.le_of_ble_eq_true rfl) (by first | (go_simp; done) | (go_simp; rfl)) (by first | (go_simp; done) | (go_simp; rfl)) (by intro v hv; simp only [List.mem_cons, List.mem_nil_iff, or_false] at hv; rcases hv with rfl | rfl <;> rfl) ?_; intro w3 hs hgr; have HP : Aside0 (PWB w3 w1.heap.size g4 (.slice (some ⟨w1.heap.size, 0, none⟩) 1 1) false [bb]) := ⟨⟨hs, .inr ⟨w1.heap.size, 1, rfl, Nat.le_refl _, HS.out.heap (hgr.block _ HS.out.lt (fun e => by injection e with e; have := G4.out; omega))⟩⟩⟩; have HB := Aside0.mk (n1_.out.grown hgr n1_.out.size (fun k hk => by injection hk with hk; have := G4.out; omega)); clear c0 c1 c2; have c0 : w3.cell? ⟨g1, 0, none⟩ = some (.string name) := (blk_cell (blk_below H1.out HB.out) 0).trans rfl; have cv : w3.cell? ⟨g4, 0, none⟩ = some (.slice (some ⟨w1.heap.size, 0, none⟩) 1 1) := (blk_cell HP.out.1 0).trans rfl; clear hs hgr H4 HS n1_) | ((with_reducible refine gate_builtin (b := .append) (xs := #[.tmp 29, .tmp 31]) rfl ?_); at_builtin; refine wpList_append_s rfl (.tmp 29) (.tmp 31) rfl w3 w1.heap.size _ [bb] name rfl rfl HP.out.2 HB.out.size (by have := HF.out.1; show 1 + name.size ≤ _; omega) (fun e => by cases e) ?_; intro v8 w8 hf1 hb1 hg1; have HH := Aside0.mk (blk_grown HP.out.1 hg1 (br_ne HP.out.2 HP.out.1 (by decide))); have HB8 := Aside0.mk (HB.out.trans hb1); have HR8 := Aside0.mk hf1; clear hf1 hb1 hg1 HB HP cv c0; have fv := blk_frozen HH.out 0; have cv : w8.cell? ⟨g4, 0, none⟩ = some (.slice (some ⟨w1.heap.size, 0, none⟩) 1 1) := (blk_cell HH.out 0).trans rfl; obtain ⟨A8, n8, c8, e8⟩ : ∃ A n c, v8 = .slice A n c := (by obtain ⟨A, c, e, _⟩ := HR8.out.slice; exact ⟨_, _, _, e⟩); subst e8))
    have HP : Aside0 (PWB (w8.setCell ⟨g4, 0, none⟩ (.slice A8 n8 c8)) w1.heap.size g4 (.slice A8 n8 c8) false ([bb] ++ pb name)) := ⟨PWB.put (bad := false) HH.out HR8.out⟩
    have HB := Aside0.mk (HB8.out.setCell (p := ⟨g4, 0, none⟩) (Nat.le_of_lt G4.out) (.slice A8 n8 c8))
    clear HH HR8 HB8 cv fv
    generalize w8.setCell ⟨g4, 0, none⟩ (.slice A8 n8 c8) = w9 at HP HB ⊢
    have HL0 : Aside0 (([bb] ++ pb name).length + (19 - name.size) = 20) := ⟨by rw [List.length_append, pb_len]; have := HF.out.1; show 1 + name.size + (19 - name.size) = 20; omega⟩
    go_loopg [] (19 - name.size) (fun m wr => ∃ (v : Value) (x : List UInt8), Aside0 (x.length + m = 20) ∧ Aside0 (PWB wr w1.heap.size g4 v false x) ∧ Aside0 (Below w1.heap.size w1 wr))
    case atStart => exact ⟨_, _, HL0, HP, HB⟩
    case round =>
      clear HP HB HL0
      obtain ⟨v, x, HX, HP, HB⟩ := hrel
      obtain ⟨A, c, e, hc⟩ := HP.out.2.slice
      obtain ⟨L, hL⟩ : ∃ L, L = x.length := ⟨_, rfl⟩
      rw [← hL] at e hc
      subst e
      have c0 : wr.cell? ⟨g4, 0, none⟩ = some (.slice A L c) := (blk_cell HP.out.1 0).trans rfl
      have f0 := blk_frozen HP.out.1 0
      by_cases hlt : L < 20
      · have hdec : decide (L < 20) = true := decide_eq_true hlt
        have hdec2 : decide ((L : Int) < 20) = true := decide_eq_true (by omega)
        have HK := Aside0.mk (show x.length < 20 ∧ x.length + gk = 20 from ⟨by omega, HX.out⟩)
        clear hlt hc hL HX
        go_wp2_with ((with_reducible refine gate_builtin (b := .append) (xs := #[.tmp 39, .tmp 40]) rfl ?_); at_builtin; refine wpList_append_b rfl (.tmp 39) (.tmp 40) rfl wr w1.heap.size (.slice A L c) x 0 _ rfl rfl (by first | rfl | (go_simp; rfl)) HP.out.2 (by have := blk_lt HP.out.1; have := G4.out; omega) (by have := HK.out; omega) ?_; intro v1 w9 hf1 hb1 hg1; have HB9 := Aside0.mk (HB.out.trans hb1); have HH := Aside0.mk (blk_grown HP.out.1 hg1 (br_ne HP.out.2 HP.out.1 (by decide))); have HR := Aside0.mk hf1; clear hf1 hb1 hg1 HB c0 f0; obtain ⟨A1, n1, c1, e1⟩ : ∃ A n c, v1 = .slice A n c := (by obtain ⟨A, c, e, _⟩ := HR.out.slice; exact ⟨_, _, _, e⟩); have f0 := blk_frozen HH.out 0; have c0 : w9.cell? ⟨g4, 0, none⟩ = some (.slice A L c) := (blk_cell HH.out 0).trans rfl; subst e1)
        go_roundg (gk - 1)
        case rel =>
          refine ⟨.slice A1 n1 c1, x ++ [0], ⟨?_⟩, ⟨PWB.put (bad := false) HH.out HR.out⟩, ⟨HB9.out.setCell (p := ⟨g4, 0, none⟩) (Nat.le_of_lt G4.out) _⟩⟩
          rw [List.length_append]
          have := HK.out
          show x.length + 1 + (gk - 1) = 20
          omega
        case measure => have := HK.out; omega
      · have hdec : decide (L < 20) = false := decide_eq_false hlt
        have hdec2 : decide ((L : Int) < 20) = false := decide_eq_false (by omega)
        have HLx : Aside0 (x.length = 20) := ⟨by have := HX.out; omega⟩
        have c1 : wr.cell? ⟨g1, 1, none⟩ = some (.int .i64 (ino : Int)) := (blk_cell (blk_below H1.out HB.out) 1).trans rfl
        clear hlt hc hL HX
        go_wp2_with fail
        clear c0 f0 c1
        refine (wputb_c w1 w1.heap.size g4 _ false (x) ino 4 _ HP.out HB.out (Nat.le_of_lt G4.out) (by have := HLx.out; omega) (by decide) (by have := (show ino < 4294967296 from HF.out.2.1); omega) (Nat.div_eq_of_lt (show ino < 4294967296 from HF.out.2.1))).mono ?_
        rintro e w10 ⟨rfl, ⟨v10, hp⟩, hb⟩
        clear HP HB
        have HP := Aside0.mk hp
        have HB := Aside0.mk hb
        clear hp hb
        have c2 : w10.cell? ⟨g1, 2, none⟩ = some (.int .i64 (gen : Int)) := (blk_cell (blk_below H1.out HB.out) 2).trans rfl
        go_wp2_with fail
        refine (wputb_c w1 w1.heap.size g4 _ false (x ++ le ino 4) gen 4 _ HP.out HB.out (Nat.le_of_lt G4.out) (by rw [List.length_append, le_length]; have := HLx.out; omega) (by decide) (by have := (show gen < 4294967296 from HF.out.2.2); omega) (Nat.div_eq_of_lt (show gen < 4294967296 from HF.out.2.2))).mono ?_
        rintro e w11 ⟨rfl, ⟨v11, hp⟩, hb⟩
        clear HP HB
        have HP := Aside0.mk hp
        have HB := Aside0.mk hb
        clear hp hb
        clear c2
        have cb : w11.cell? ⟨g4, 1, none⟩ = some (.bool false) := (blk_cell HP.out.1 1).trans rfl
        have cv : w11.cell? ⟨g4, 0, none⟩ = some v11 := (blk_cell HP.out.1 0).trans rfl
        have hcv2 := HP.out.2.str
        have hl2 : (x ++ le ino 4 ++ le gen 4).length = 28 := by simp [le_length, HLx.out]
        have HZ : Aside0 ((⟨(x ++ le ino 4 ++ le gen 4).toArray⟩ : ByteArray).size = 28) := ⟨by rw [mk_size, hl2]⟩
        generalize (⟨(x ++ le ino 4 ++ le gen 4).toArray⟩ : ByteArray) = sz at HZ hcv2 ⊢
        clear hl2
        go_wp2_with fail
        go_ret2
        exact ⟨_, rfl, HZ.out, below_then HB1.out HB1.out.size HB.out⟩
end Go.Proofs.YtgpknomegleidaaGreatDoor.T
