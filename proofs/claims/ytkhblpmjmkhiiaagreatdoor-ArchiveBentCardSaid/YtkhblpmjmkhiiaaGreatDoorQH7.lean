/- archive.Of: the walk. -/
import Derived.Test.YtkhblpmjmkhiiaaGreatDoorQH6
import Derived.Recover
import Derived.WalkLawsBesides
import Derived.Test.YtkhblpmjmkhiiaaGreatDoorQH5
import Derived.StillTailTactics
import Derived.Deep.OwnRows
namespace Go.Proofs.YtkhblpmjmkhiiaaGreatDoor.T
open Go.RowKit Go.Proofs.YtkhblpmjmkhiiaaGreatDoorW.PrintWords Go.Proofs.YtkhblpmjmkhiiaaGreatDoorW.PrintLast Go.Proofs.YtkhblpmjmkhiiaaGreatDoorW.PrintMore Go.Proofs.YtkhblpmjmkhiiaaGreatDoor.PAll
set_option linter.unusedSimpArgs false
set_option linter.unusedVariables false
def Rd (w : World) (r : Nat) (s : ByteArray) (at_ : Nat) : Prop := w.heap[r]? = some (.cells #[.string s, .int .i64 (at_ : Int)] 92 (0, 0))
def brk (x : Int) : Ending := .panicked [{ v := .iface 94 (.agg #[.int .i64 x]), recovered := false }]
theorem Rd.below {w w' : World} {r : Nat} {s : ByteArray} {at_ : Nat} (h : Rd w r s at_) (hb : Below w.heap.size w w') : Rd w' r s at_ := blk_below h hb
theorem refuse_c (w : World) : Calls Tryz.prog 62 #[] w fun e w' => e = brk 5 ∧ w' = w := by
 go_enter Tryz.func62, Tryz.ntmps62
 go_wp2
 exact ⟨rfl, rfl, rfl⟩
theorem need_c (r : Nat) (s : ByteArray) (at_ n : Nat) (w : World) (h : Rd w r s at_) (hat : at_ ≤ s.size) (x : Int) (hx : x = (n : Int)) (hs : s.size < 9223372036854775807) :
  Calls Tryz.prog 87 #[.pointer (some ⟨r, 0, none⟩), .int .i64 x] w fun e w' => Drawn0 w w' ∧ e = if at_ + n ≤ s.size then .returned (.tuple #[]) else brk 3 := by
 subst hx
 have c0 : w.cell? ⟨r, 0, none⟩ = some (.string s) := (blk_cell h 0).trans rfl
 have c1 : w.cell? ⟨r, 1, none⟩ = some (.int .i64 (at_ : Int)) := (blk_cell h 1).trans rfl
 have hw0 : IntKind.i64.wrap ((s.size : Int) - (at_ : Int)) = ((s.size - at_ : Nat) : Int) := by
  rw [i64_w, w64 Z3 Z3]; omega
 obtain ⟨m, hm⟩ : ∃ m, s.size - at_ = m := ⟨_, rfl⟩
 rw [hm] at hw0
 by_cases hc : at_ + n ≤ s.size
 ·
  have g1 : decide (m < n) = false := decide_eq_false Z3
  rw [if_pos hc]
  clear hc hm hat hs h
  go_enter Tryz.func87, Tryz.ntmps87
  go_wp2
  go_quiet (fail)
  go_wp2
  go_end0
  exact ⟨Z9, rfl⟩
 ·
  have g1 : decide (m < n) = true := decide_eq_true Z3
  rw [if_neg hc]
  clear hc hm hat hs h
  go_enter Tryz.func87, Tryz.ntmps87
  go_wp2
  go_quiet (fail)
  go_wp2
  exact ⟨rfl, Z9, rfl⟩
def num : List UInt8 → Nat
 | [] => 0
 | b :: r => b.toNat + 256 * num r
theorem num_snoc : ∀ (l : List UInt8) (b : UInt8), num (l ++ [b]) = num l + 256 ^ l.length * b.toNat
 | [], b => by simp [num]
 | a :: r, b => by
  rw [List.cons_append, num, num, num_snoc r b, List.length_cons, Nat.pow_succ, Nat.mul_add, ← Nat.mul_assoc, Nat.mul_comm 256 (256 ^ r.length)]
  omega
theorem num_lt : ∀ l : List UInt8, num l < 256 ^ l.length
 | [] => by simp [num]
 | a :: r => by
  have := num_lt r
  have := a.toNat_lt
  rw [num, List.length_cons, Nat.pow_succ]
  omega
set_option maxHeartbeats 2000000 in
set_option maxRecDepth 100000 in
theorem take_c (g : Nat) (s : ByteArray) (at_ wd : Nat) (w : World) (h : w.heap[g]? = some (.cells #[.string s, .int .i64 (at_ : Int)] 139 (0, 0))) (h6 : wd ≤ 6) (hs : at_ + wd ≤ s.size) (hz : s.size < 9223372036854775807) :
  Calls Tryz.prog 102 #[.pointer (some ⟨g, 0, none⟩), .int .i64 (wd : Int)] w fun e w' => e = .returned (.int .i64 (num (((pb s).drop at_).take wd) : Nat)) ∧ w.grownBy w' (some g) := by
 have c0 : w.cell? ⟨g, 0, none⟩ = some (.string s) := (blk_cell h 0).trans rfl
 have c1 : w.cell? ⟨g, 1, none⟩ = some (.int .i64 (at_ : Int)) := (blk_cell h 1).trans rfl
 obtain ⟨m, hm⟩ : ∃ m, s.size - at_ = m := ⟨_, rfl⟩
 have hw0 : IntKind.i64.wrap ((s.size : Int) - (at_ : Int)) = (m : Int) := by
  rw [i64_w, w64 Z3 Z3]; omega
 have g1 : decide (m < wd) = false := decide_eq_false Z3
 have HF := Aside0.mk (And.intro h6 (And.intro hs hz))
 have HB := Aside0.mk h
 clear h6 hs hz hm h
 go_enter Tryz.func102, Tryz.ntmps102
 go_wp2
 go_quiet (fail)
 go_wp2
 clear hw0 g1 c0 c1
 go_loopw [5, 22] (fun u i wr => ∃ k : Nat, k ≤ wd ∧ u = .int .i64 (num (((pb s).drop at_).take k) : Nat) ∧ i = .int .i64 k ∧ Aside0 (Drawn0 w wr)) (fun _ i _ => wd - (intOf i).toNat)
 case atStart => exact ⟨0, Z3, by simp [num], rfl, ⟨Z9⟩⟩
 case round =>
  obtain ⟨k, hk, rfl, rfl, HD⟩ := hrel
  have HB1 := Aside0.mk (blk_below HB.out (below_drawn HD.out))
  have c0 := (blk_cell HB1.out 0).trans (show (#[.string s, .int .i64 (at_ : Int)] : Array Value)[0]? = some (.string s) from rfl)
  have c1 := (blk_cell HB1.out 1).trans (show (#[.string s, .int .i64 (at_ : Int)] : Array Value)[1]? = some (.int .i64 (at_ : Int)) from rfl)
  by_cases hlt : k < wd
  ·
   have hq0 : at_ + k < s.size := by have := HF.out; omega
   obtain ⟨x, hx⟩ : ∃ x : UInt8, x = ((pb s).drop at_)[k]'(by rw [List.length_drop, pb_len]; omega) := ⟨_, rfl⟩
   have hbt : bt s ((at_ + k : Nat) : Int) = (x.toNat : Int) := by
    rw [bt_pb hq0, hx]
    simp [List.getElem_drop, List.getD_eq_getElem?_getD, pb_len, hq0]
   have hsn : ((pb s).drop at_).take (k + 1) = ((pb s).drop at_).take k ++ [x] := by
    rw [List.take_add_one, List.getElem?_eq_getElem (by rw [List.length_drop, pb_len]; omega), hx]; rfl
   obtain ⟨N, hN⟩ : ∃ N, num (((pb s).drop at_).take k) = N := ⟨_, rfl⟩
   have hlk : (((pb s).drop at_).take k).length = k := by rw [List.length_take, List.length_drop, pb_len]; omega
   have hNlt : N < 256 ^ k := by have := num_lt (((pb s).drop at_).take k); rw [hN, hlk] at this; exact this
   have hnum : num (((pb s).drop at_).take (k + 1)) = N + 256 ^ k * x.toNat := by rw [hsn, num_snoc, hlk, hN]
   have hPb : 256 ^ k ≤ 1099511627776 := Nat.le_trans (Nat.pow_le_pow_right Z11 (show k ≤ 5 by have := HF.out; omega)) Z11
   obtain ⟨X, hX⟩ : ∃ X, x.toNat = X := ⟨_, rfl⟩
   have hXl : X < 256 := by rw [← hX]; exact x.toNat_lt
   obtain ⟨y, hyy⟩ : ∃ y, y = 256 ^ k * x.toNat := ⟨_, rfl⟩
   have hyb : y ≤ 1099511627776 * 255 := by rw [hyy, hX]; exact Nat.mul_le_mul hPb Z3
   have hor : N ||| y = N + y := by
    rw [Nat.or_comm, or_add (8 * k) y N (by rw [hyy, show 2 ^ (8 * k) = 256 ^ k by rw [Nat.pow_mul]]; exact Nat.mul_mod_right _ _) (by rw [Nat.pow_mul]; exact hNlt), Nat.add_comm]
   have hyc : (X : Int) * ((256 ^ k : Nat) : Int) = (y : Int) := by rw [hyy, hX, Nat.mul_comm]; exact_mod_cast rfl
   have hNl : N < 1099511627776 := Nat.lt_of_lt_of_le hNlt hPb
   obtain ⟨q, hq⟩ : ∃ q, q = at_ + k := ⟨_, rfl⟩
   obtain ⟨e8, he⟩ : ∃ e8, e8 = 8 * k := ⟨_, rfl⟩
   have hpw : (2 : Int) ^ min e8 64 = ((256 ^ k : Nat) : Int) := by rw [show min e8 64 = 8 * k by have := HF.out; omega, two_pow8]
   generalize 256 ^ k = P at hNlt hnum hPb hyy hyc hpw
   obtain ⟨z, hzz⟩ : ∃ z, z = N + y := ⟨_, rfl⟩
   have hw1 : IntKind.i64.wrap ((at_ : Int) + (k : Int)) = (q : Int) := by rw [i64_w, w64 Z25 Z25]; omega
   have hw2 : IntKind.i64.wrap (8 * (k : Int)) = (e8 : Int) := by rw [i64_w, w64 Z25 Z25]; omega
   have HX : Aside0 (∀ h : q < s.size, ((s[q]'h).toNat : Int) = (X : Int)) := ⟨fun h => (bt_at s (q : Int) h).trans (by rw [hq, ← hX]; exact hbt)⟩
   have HW4 : Aside0 (wrap64 (X : Int) = (X : Int)) := ⟨by clear hpw hyc; rw [w64 Z3 Z3]⟩
   have HW5 : Aside0 (wrap64 ((X : Int) * 2 ^ min e8 64) = (y : Int)) := ⟨by
    rw [hpw, hyc]
    clear hpw hyc hyy
    exact w64 Z3 Z3⟩
   have HW6 : Aside0 (bits .or .i64 (N : Int) (y : Int) = (z : Int)) := ⟨by
    clear hpw hyc hyy
    rw [i64_or N y Z3 Z3, hor, hzz]⟩
   have hnz : num (((pb s).drop at_).take (k + 1)) = z := by rw [hnum, hzz, hyy]
   have q1 : ((q : Int) < (s.size : Int)) = True := eq_true Z25
   have q2 : (q < s.size) = True := eq_true Z25
   have HZ := Aside0.mk (And.intro hlt (And.intro hk hnz))
   rw [hN]
   clear hq0 hx hbt hsn hN hlk hNlt hnum hPb hX hXl hyb hor hyc hNl hpw hnz hq he hyy hzz hlt hk
   have g2 : decide (k < wd) = true := decide_eq_true HZ.out.1
   go_wp2
   go_quiet (fail)
   go_wp2
   go_roundw
   case rel =>
    refine ⟨k + 1, by have := HZ.out.1; omega, ?_, by have := HZ.out.1; have := HF.out; rw [w64 Z3 Z3]; rfl, ⟨by repeat (first | exact HD.out | apply Drawn0.step)⟩⟩
    rw [HX.out, HW4.out, HW5.out, HW6.out, HZ.out.2.2]
   case measure => have := HZ.out.1; have := HF.out; rw [w64 Z3 Z3]; simp [intOf]; omega
  ·
   have hkw : k = wd := by omega
   subst hkw
   have f1 := blk_frozen HB1.out 1
   clear hk hlt
   go_wp2
   go_ret
   exact ⟨rfl, (grown_of_below (below_drawn HD.out) _).trans (Lib.grownBy_setCell wr g 1 _)⟩
theorem pgave_nil (w : World) : Calls Tryz.prog 101 #[.nilIface] w fun e w' => e = .returned (.bool false) ∧ w' = w := by
 go_enter Tryz.func101, Tryz.ntmps101
 go_wp2
 go_ret
 exact ⟨rfl, rfl⟩
theorem get_idle (p : Addr) (w : World) :
  CallsD Tryz.prog 100 #[.pointer (some p)] .returning w fun e u' w' => e = .returned (.tuple #[]) ∧ u' = .returning ∧ w' = w := by
 refine callsD_of_wpS Tryz.func100 rfl fun c₀ cs hu => ?_
 apply wpS_seq
 apply wpS_region
 simp [wpOpsS, go_sem, recoverD, hu, Tryz.ntmps100, Exit.thenS]
 refine (pgave_nil w).mono ?_
 rintro e w' ⟨rfl, rfl⟩
 simp [wpOpsS, go_sem, recoverD, hu, Tryz.ntmps100, Exit.thenS]
 refine wpS_cond (t := false) (by simp [Act.eval, Array.replicate]) ?_
 simp only [Bool.false_eq_true, if_false]
 refine wpS_of_wp (wp_skip ?_)
 cases c₀
 simp_all [bodyPostS, results]
set_option maxHeartbeats 1000000 in
set_option maxRecDepth 100000 in
theorem pget_c (s : ByteArray) (at_ wd : Nat) (w : World) (h1 : 1 ≤ wd) (h6 : wd ≤ 6) (hs : at_ + wd ≤ s.size) (hz : s.size < 9223372036854775807) :
  Calls Tryz.prog 88 #[.string s, .int .i64 (at_ : Int), .int .i64 (wd : Int)] w fun e w' => e = .returned (.tuple #[.int .i64 (num (((pb s).drop at_).take wd) : Nat), .int .i64 0]) ∧ Below w.heap.size w w' := by
 have hmf : ∀ (fn : Fn) (first cap : Array Value) (w : World), (Instr.makeFunc fn first cap).run Tryz.prog w = .ok (.func fn first cap) w := fun _ _ _ _ => rfl
 have b1 : decide ((wd : Int) < 1) = false := decide_eq_false Z3
 have b2 : decide ((6 : Int) < (wd : Int)) = false := decide_eq_false Z3
 have b3 : decide (s.size < at_) = false := decide_eq_false Z3
 have b4 : decide ((at_ : Int) < 0) = false := decide_eq_false Z3
 have HF := Aside0.mk (And.intro h6 (And.intro hs hz))
 clear h1 h6 hs hz
 go_enter_defers Tryz.func88, Tryz.ntmps88
 go_wp2_with fail
 have HB : Aside0 (Below w.heap.size w ((w.alloc (.cells #[.int .i64 0] 24 (0, 0))).alloc (.cells #[.string s, .int .i64 (at_ : Int)] 139 (0, 0)))) := ⟨below_alloc (below_alloc (Below.refl _ _) _) _⟩
 have HE : Aside0 (((w.alloc (.cells #[.int .i64 0] 24 (0, 0))).alloc (.cells #[.string s, .int .i64 (at_ : Int)] 139 (0, 0))).heap[w.heap.size]? = some (.cells #[.int .i64 0] 24 (0, 0))) := ⟨blk_below (blk_new w _) (below_alloc (Below.refl _ _) _)⟩
 have HC : Aside0 (((w.alloc (.cells #[.int .i64 0] 24 (0, 0))).alloc (.cells #[.string s, .int .i64 (at_ : Int)] 139 (0, 0))).heap[w.heap.size + 1]? = some (.cells #[.string s, .int .i64 (at_ : Int)] 139 (0, 0))) := ⟨by
  have := blk_new (w.alloc (.cells #[.int .i64 0] 24 (0, 0))) (.cells #[.string s, .int .i64 (at_ : Int)] 139 (0, 0))
  rw [alloc_sz] at this
  exact this⟩
 have HS : Aside0 (w.heap.size ≤ ((w.alloc (.cells #[.int .i64 0] 24 (0, 0))).alloc (.cells #[.string s, .int .i64 (at_ : Int)] 139 (0, 0))).heap.size) := ⟨HB.out.size⟩
 generalize (w.alloc (.cells #[.int .i64 0] 24 (0, 0))).alloc (.cells #[.string s, .int .i64 (at_ : Int)] 139 (0, 0)) = w1 at HB HE HC HS ⊢
 refine (take_c (w.heap.size + 1) s at_ wd w1 HC.out HF.out.1 HF.out.2.1 HF.out.2.2).mono ?_
 rintro e w2 ⟨rfl, hg⟩
 have HB2 := Aside0.mk (HB.out.grown hg HS.out (fun q hq => by injection hq with hq; omega))
 have HE2 := Aside0.mk (blk_grown HE.out hg (fun e => by injection e with e; omega))
 clear hg HB HE HC HS
 have c0 : w2.cell? ⟨w.heap.size, 0, none⟩ = some (.int .i64 0) := (blk_cell HE2.out 0).trans rfl
 have f0 := blk_frozen HE2.out 0
 go_wp2
 refine leaves_cons (f := 100) (args := #[.pointer (some ⟨w.heap.size, 0, none⟩)]) Z23 (by simp [go_sem]) ?_
 refine (get_idle ⟨w.heap.size, 0, none⟩ _).mono ?_
 rintro e u' w'' ⟨rfl, rfl, rfl⟩
 have c1 : (w2.setCell ⟨w.heap.size, 0, none⟩ (.int .i64 0)).cell? ⟨w.heap.size, 0, none⟩ = some (.int .i64 0) := (blk_cell (blk_put HE2.out 0 _ rfl) 0).trans rfl
 simp [Leaves, settle, results, go_sem, c1]
 exact HB2.out.setCell (p := ⟨w.heap.size, 0, none⟩) (Nat.le_refl _) _
def RdRet {α : Type} (w : World) (r : Nat) (s : ByteArray) (res : Except Int (α × Nat)) (val : α → Value) (e : Ending) (w' : World) : Prop :=
 w.grownBy w' (some r) ∧ match res with
  | .ok (v, a) => e = .returned (val v) ∧ Rd w' r s a ∧ a ≤ s.size
  | .error x => e = brk x
theorem RdRet.cases {α : Type} {w w' : World} {r : Nat} {s : ByteArray} {res : Except Int (α × Nat)} {val : α → Value} {e : Ending} (h : RdRet w r s res val e w') :
  (∃ x, res = .error x ∧ e = brk x ∧ w.grownBy w' (some r)) ∨ (∃ v a, res = .ok (v, a) ∧ e = .returned (val v) ∧ Rd w' r s a ∧ a ≤ s.size ∧ w.grownBy w' (some r)) := by
 obtain ⟨hg, h⟩ := h
 cases res with
 | error x => exact .inl ⟨x, rfl, h, hg⟩
 | ok p => exact .inr ⟨p.1, p.2, rfl, h.1, h.2.1, h.2.2, hg⟩
theorem RdRet.err {α : Type} {w w' : World} {r : Nat} {s : ByteArray} {res : Except Int (α × Nat)} {val : α → Value} {x : Int} (hg : w.grownBy w' (some r)) (h : res = .error x) : RdRet w r s res val (brk x) w' := by
 subst h
 exact ⟨hg, rfl⟩
theorem RdRet.ok {α : Type} {w w' : World} {r : Nat} {s : ByteArray} {res : Except Int (α × Nat)} {val : α → Value} {v : α} {a : Nat} (hg : w.grownBy w' (some r)) (h : res = .ok (v, a)) (hr : Rd w' r s a) (ha : a ≤ s.size) : RdRet w r s res val (.returned (val v)) w' := by
 subst h
 exact ⟨hg, rfl, hr, ha⟩
def getR (s : List UInt8) (at_ wd : Nat) : Except Int (Nat × Nat) := if at_ + wd ≤ s.length then .ok (num ((s.drop at_).take wd), at_ + wd) else .error 3
def bytesR (s : List UInt8) (at_ n : Nat) : Except Int (List UInt8 × Nat) := if at_ + n ≤ s.length then .ok ((s.drop at_).take n, at_ + n) else .error 3
def textR (s : List UInt8) (at_ : Nat) : Except Int (List UInt8 × Nat) := do
 let (n, a) ← getR s at_ 1
 bytesR s a n
def natV (n : Nat) : Value := .int .i64 (n : Int)
def strV (l : List UInt8) : Value := .string ⟨l.toArray⟩
def RdF (w : World) (r : Nat) (s : ByteArray) (at_ : Nat) : Prop := w.cell? ⟨r, 0, none⟩ = some (.string s) ∧ w.cell? ⟨r, 1, none⟩ = some (.int .i64 (at_ : Int)) ∧ Rd w r s at_
theorem Rd.facts {w : World} {r : Nat} {s : ByteArray} {at_ : Nat} (h : Rd w r s at_) : RdF w r s at_ := ⟨(blk_cell h 0).trans rfl, (blk_cell h 1).trans rfl, h⟩
set_option maxHeartbeats 1000000 in
set_option maxRecDepth 100000 in
theorem rget_c (r : Nat) (s : ByteArray) (at_ wd : Nat) (w : World) (x : Int) (hx : x = (wd : Int)) (h : Rd w r s at_) (hat : at_ ≤ s.size) (h1 : 1 ≤ wd) (h6 : wd ≤ 6) (hs : s.size < 1000000000000) :
  Calls Tryz.prog 63 #[.pointer (some ⟨r, 0, none⟩), .int .i64 x] w fun e w' => RdRet w r s (getR (pb s) at_ wd) natV e w' := by
 subst hx
 have HR := Aside0.mk h
 have HF := Aside0.mk (And.intro hat (And.intro h1 (And.intro h6 hs)))
 clear h hat h1 h6 hs
 go_enter Tryz.func63, Tryz.ntmps63
 go_wp2_with fail
 refine (need_c r s at_ wd w HR.out HF.out.1 _ rfl Z25).mono ?_
 rintro e w1 ⟨hd, rfl⟩
 have HR1 := Aside0.mk (HR.out.below (below_drawn hd))
 have HG1 := Aside0.mk (grown_of_below (below_drawn hd) (some r))
 clear hd
 by_cases hc : at_ + wd ≤ s.size
 ·
  have HC := Aside0.mk hc
  rw [if_pos hc]
  clear hc
  have c0 : w1.cell? ⟨r, 0, none⟩ = some (.string s) := (blk_cell HR1.out 0).trans rfl
  have c1 : w1.cell? ⟨r, 1, none⟩ = some (.int .i64 (at_ : Int)) := (blk_cell HR1.out 1).trans rfl
  dsimp only
  go_wp2_with fail
  refine start_ (n := 15) (S := fun w' => RdF w' r s at_) (ds := []) #[false, false, false, false, false, false, false, false, false, false, false, false, false, false, false] Z13 rfl rfl (HR1.out.below (below_drew (Below.refl _ _))).facts (fun hHeld => ?_)
  have HR2 := Aside0.mk (HR1.out.below (below_drew (Below.refl _ _)))
  have HG2 := Aside0.mk (HG1.out.trans (grown_of_below (below_drew (Below.refl _ _)) (some r)))
  clear HR1 HG1 c0 c1
  generalize w1.drew = w2 at HR2 HG2 hHeld ⊢
  refine pk 0 11 (bl 15 1) ?_
  refine pk 1 12 (bl 15 3) ?_
  refine pk 2 13 (bl 15 7) ?_
  refine take_ (i := 3) (N := some 14) (v := ?_) (a' := ?_) (bl 15 15) rfl rfl Z13 (fun _ _ _ h => h) (Or.inl ⟨by rfl, ?_⟩) hHeld ?_ ?_
  rotate_left; · rintro w' ⟨c0, c1, _⟩; go_simp; with_reducible rfl
  rotate_left; · simp only [Act.put, List.setIfInBounds_toArray, List.set_cons_zero, List.set_cons_succ, i64_w, i32_w]; rfl
  refine pk 4 15 (bl 15 31) ?_
  refine pk 5 16 (bl 15 63) ?_
  refine pk 6 17 (bl 15 127) ?_
  refine take_ (i := 7) (N := some 18) (v := ?_) (a' := ?_) (bl 15 255) rfl rfl Z13 (fun _ _ _ h => h) (Or.inl ⟨by rfl, ?_⟩) hHeld ?_ ?_
  rotate_left; · rintro w' ⟨c0, c1, _⟩; go_simp; with_reducible rfl
  rotate_left; · simp only [Act.put, List.setIfInBounds_toArray, List.set_cons_zero, List.set_cons_succ, i64_w, i32_w]; rfl
  refine pk 8 19 (bl 15 511) ?_
  refine one_ (i := 9) (N := some 20) (bl 15 1023) rfl rfl Z13 Z11 (fun K hK => ?_)
  refine goes_ Tryz.func88 Z13 rfl #[.string s, .int .i64 (at_ : Int), .int .i64 (wd : Int)] (by rfl) rfl rfl Z19 ?_
  refine (pget_c s at_ wd _ HF.out.2.1 HF.out.2.2.1 HC.out Z25).mono ?_
  rintro e w3 ⟨rfl, hb⟩
  have HR3 := Aside0.mk (HR2.out.below hb)
  have HG3 := Aside0.mk (HG2.out.trans (grown_of_below hb (some r)))
  refine ⟨_, rfl, ?_⟩
  refine hK.out _ _ HR3.out.facts (fun hHeld => ?_)
  clear hK K hb HR2 HG2
  refine norm_ (a' := ?_) ?_ ?_
  rotate_left; · show Act.put _ (some 20) _ = _; simp only [Act.put, List.setIfInBounds_toArray, List.set_cons_zero, List.set_cons_succ, i64_w, i32_w]; rfl
  refine pk 10 10 (bl 15 2047) ?_
  refine pk 11 21 (bl 15 4095) ?_
  refine pk 12 22 (bl 15 8191) ?_
  refine pk 13 5 (bl 15 16383) ?_
  refine pk 14 6 (bl 15 32767) ?_
  refine done_ Z13 ?_
  have c1 : w3.cell? ⟨r, 1, none⟩ = some (.int .i64 (at_ : Int)) := (blk_cell HR3.out 1).trans rfl
  have f1 := blk_frozen HR3.out 1
  obtain ⟨b, hb⟩ : ∃ b, b = at_ + wd := ⟨_, rfl⟩
  have HBB := Aside0.mk hb
  have hw1 : IntKind.i64.wrap ((at_ : Int) + (wd : Int)) = (b : Int) := by rw [i64_w, w64 Z25 Z25]; omega
  clear hb
  go_wp2_with fail
  go_ret
  refine ⟨HG3.out.trans (Lib.grownBy_setCell w3 r 1 _), ?_⟩
  unfold getR
  rw [if_pos (by rw [pb_len]; exact HC.out)]
  refine ⟨rfl, ?_, by have := HC.out; omega⟩
  rw [← HBB.out]
  exact blk_put HR3.out 1 _ rfl
 ·
  rw [if_neg hc]
  unfold brk
  go_wp2
  refine ⟨rfl, HG1.out, ?_⟩
  unfold getR
  rw [if_neg (by rw [pb_len]; exact hc)]
  rfl
set_option maxHeartbeats 1000000 in
set_option maxRecDepth 100000 in
theorem rbytes_c (r : Nat) (s : ByteArray) (at_ n : Nat) (w : World) (x : Int) (hx : x = (n : Int)) (h : Rd w r s at_) (hat : at_ ≤ s.size) (hs : s.size < 1000000000000) :
  Calls Tryz.prog 61 #[.pointer (some ⟨r, 0, none⟩), .int .i64 x] w fun e w' => RdRet w r s (bytesR (pb s) at_ n) strV e w' := by
 subst hx
 have HR := Aside0.mk h
 have HF := Aside0.mk (And.intro hat hs)
 clear h hat hs
 go_enter Tryz.func61, Tryz.ntmps61
 go_wp2_with fail
 refine (need_c r s at_ n w HR.out HF.out.1 _ rfl Z25).mono ?_
 rintro e w1 ⟨hd, rfl⟩
 have HR1 := Aside0.mk (HR.out.below (below_drawn hd))
 have HG1 := Aside0.mk (grown_of_below (below_drawn hd) (some r))
 clear hd
 by_cases hc : at_ + n ≤ s.size
 ·
  have HC := Aside0.mk hc
  rw [if_pos hc]
  clear hc
  have c0 : w1.cell? ⟨r, 0, none⟩ = some (.string s) := (blk_cell HR1.out 0).trans rfl
  have c1 : w1.cell? ⟨r, 1, none⟩ = some (.int .i64 (at_ : Int)) := (blk_cell HR1.out 1).trans rfl
  obtain ⟨b, hb⟩ : ∃ b, b = at_ + n := ⟨_, rfl⟩
  have HBB := Aside0.mk hb
  have hw1 : IntKind.i64.wrap ((at_ : Int) + (n : Int)) = (b : Int) := by rw [i64_w, w64 (by have := HF.out; have := HC.out; omega) (by have := HF.out; have := HC.out; omega)]; omega
  have q1 : (at_ ≤ b) = True := eq_true Z3
  have q2 : (b ≤ s.size) = True := eq_true (by have := HC.out; omega)
  clear hb
  go_wp2_with fail
  go_quiet (fail)
  have HR2 := Aside0.mk (HR1.out.below (pw_below_drewN (Below.refl _ _) nq))
  have HG2 := Aside0.mk (HG1.out.trans (grown_of_below (pw_below_drewN (Below.refl w1.heap.size w1) nq) (some r)))
  clear c0 c1 q1 q2 HR1 HG1
  generalize w1.drewN nq = w2 at HR2 HG2 ⊢
  have c1 : w2.cell? ⟨r, 1, none⟩ = some (.int .i64 (at_ : Int)) := (blk_cell HR2.out 1).trans rfl
  have f1 := blk_frozen HR2.out 1
  go_wp2_with fail
  go_ret
  refine ⟨HG2.out.trans (Lib.grownBy_setCell w2 r 1 _), ?_⟩
  unfold bytesR
  rw [if_pos (by rw [pb_len]; exact HC.out)]
  refine ⟨?_, ?_, by have := HC.out; omega⟩
  ·
   have e : s.extract at_ b = ⟨(((pb s).drop at_).take n).toArray⟩ := pb_inj (by rw [pb_ext, List.extract_eq_take_drop, HBB.out, show at_ + n - at_ = n by omega]; rfl)
   exact congrArg (fun q => Ending.returned (.string q)) e
  ·
   rw [← HBB.out]
   exact blk_put HR2.out 1 _ rfl
 ·
  rw [if_neg hc]
  unfold brk
  go_wp2
  refine ⟨rfl, HG1.out, ?_⟩
  unfold bytesR
  rw [if_neg (by rw [pb_len]; exact hc)]
  rfl
set_option maxHeartbeats 1000000 in
set_option maxRecDepth 100000 in
theorem rtext_c (r : Nat) (s : ByteArray) (at_ : Nat) (w : World) (h : Rd w r s at_) (hat : at_ ≤ s.size) (hs : s.size < 1000000000000) :
  Calls Tryz.prog 89 #[.pointer (some ⟨r, 0, none⟩)] w fun e w' => RdRet w r s (textR (pb s) at_) strV e w' := by
 have HR := Aside0.mk h
 have HF := Aside0.mk (And.intro hat hs)
 clear h hat hs
 go_enter Tryz.func89, Tryz.ntmps89
 go_wp2_with fail
 refine (rget_c r s at_ 1 w _ rfl HR.out HF.out.1 Z11 Z11 HF.out.2).mono ?_
 intro e w1 hq
 rcases hq.cases with ⟨x, hgr, rfl, hg⟩ | ⟨n, a, hgr, rfl, hr1, ha1, hg⟩
 ·
  unfold brk
  go_wp2
  exact ⟨rfl, .err hg (by unfold textR; rw [hgr]; rfl)⟩
 ·
  have HR1 := Aside0.mk hr1
  have HA1 := Aside0.mk ha1
  have HG1 := Aside0.mk hg
  have HE := Aside0.mk hgr
  clear hr1 ha1 hgr hg hq
  unfold natV
  go_wp2_with fail
  refine (rbytes_c r s a n w1 _ rfl HR1.out HA1.out HF.out.2).mono ?_
  intro e w2 hq
  rcases hq.cases with ⟨x, hgr, rfl, hg⟩ | ⟨v, b, hgr, rfl, hr2, ha2, hg⟩
  ·
   unfold brk
   go_wp2
   exact ⟨rfl, .err (HG1.out.trans hg) (by unfold textR; rw [HE.out]; exact hgr)⟩
  ·
   unfold strV
   go_wp2_with fail
   go_ret
   exact .ok (HG1.out.trans hg) (v := v) (by unfold textR; rw [HE.out]; exact hgr) hr2 ha2
def laidB (b : List UInt8) (at_ : Nat) (p : List UInt8) : List UInt8 := b.take at_ ++ p ++ b.drop (at_ + p.length)
def loopF (s : List UInt8) (size : Nat) : Nat → Nat → List UInt8 → Nat → Except Int (List UInt8 × Nat)
 | 0, _, b, a => .ok (b, a)
 | m + 1, lo, b, a => do
  let (i, a1) ← getR s a 4
  if i < lo ∨ size ≤ 448 * i then .error 5 else do
   let (p, a2) ← bytesR s a1 (min 448 (size - 448 * i))
   if blankL p then .error 5 else loopF s size m (i + 1) (laidB b (448 * i) p) a2
def fileR (s : List UInt8) (at_ : Nat) : Except Int (List UInt8 × Nat) := do
 let (size, a1) ← getR s at_ 6
 let (n, a2) ← getR s a1 4
 if 5675264 < size then .error 5 else loopF s size n 0 (List.replicate size 0) a2
theorem getR_ok {s : List UInt8} {at_ wd n a : Nat} (h : getR s at_ wd = .ok (n, a)) : n < 256 ^ wd ∧ a = at_ + wd ∧ a ≤ s.length := by
 unfold getR at h
 split at h
 ·
  rename_i hc
  injection h with h
  injection h with h1 h2
  subst h1 h2
  refine ⟨?_, rfl, hc⟩
  have := num_lt ((s.drop at_).take wd)
  rwa [List.length_take, List.length_drop, Nat.min_eq_left Z3] at this
 ·
  cases h
theorem bytesR_ok {s : List UInt8} {at_ n a : Nat} {p : List UInt8} (h : bytesR s at_ n = .ok (p, a)) : p.length = n ∧ a = at_ + n ∧ a ≤ s.length := by
 unfold bytesR at h
 split at h
 ·
  rename_i hc
  injection h with h
  injection h with h1 h2
  subst h1 h2
  refine ⟨?_, rfl, hc⟩
  rw [List.length_take, List.length_drop, Nat.min_eq_left Z3]
 ·
  cases h
theorem laidB_length {b p : List UInt8} {at_ : Nat} (h : at_ + p.length ≤ b.length) : (laidB b at_ p).length = b.length := by
 unfold laidB
 rw [List.length_append, List.length_append, List.length_take, List.length_drop]
 omega
theorem grown_new {w wr w2 : World} {r g : Nat} (h : w.grownBy wr (some r)) (k : wr.grownBy w2 (some g)) (hg : w.heap.size ≤ g) : w.grownBy w2 (some r) :=
 ⟨k.os.trans h.os, k.tape.trans h.tape, k.output.trans h.output, Nat.le_trans h.size k.size, fun i hi hne => (k.block i (Nat.lt_of_lt_of_le hi h.size) (by intro e; injection e with e; omega)).trans (h.block i hi hne)⟩
theorem rowB_laid (b p : List UInt8) (at_ : Nat) : ((rowB b).toList.take at_ ++ Lib.byteCells p ++ (rowB b).toList.drop (at_ + p.length)).toArray = rowB (laidB b at_ p) := by
 unfold rowB laidB Lib.byteCells
 simp [List.map_append, List.map_take, List.map_drop]
 intro a _
 rfl
set_option maxHeartbeats 2000000 in
set_option maxRecDepth 100000 in
theorem rfile_c (r : Nat) (s : ByteArray) (at_ : Nat) (w : World) (h : Rd w r s at_) (hat : at_ ≤ s.size) (hs : s.size < 1000000000000) :
  Calls Tryz.prog 90 #[.pointer (some ⟨r, 0, none⟩)] w fun e w' => RdRet w r s (fileR (pb s) at_) strV e w' := by
 have HR := Aside0.mk h
 have HF := Aside0.mk (And.intro hat hs)
 have HRL := Aside0.mk (blk_lt h)
 clear h hat hs
 go_enter Tryz.func90, Tryz.ntmps90
 go_wp2_with fail
 refine (rget_c r s at_ 6 w _ rfl HR.out HF.out.1 Z11 Z11 HF.out.2).mono ?_
 intro e w1 hq
 rcases hq.cases with ⟨x, hgr, rfl, hg⟩ | ⟨size, a, hgr, rfl, hr1, ha1, hg⟩
 ·
  unfold brk
  go_wp2
  exact ⟨rfl, .err hg (by unfold fileR; rw [hgr]; rfl)⟩
 have HR1 := Aside0.mk hr1
 have HA1 := Aside0.mk ha1
 have HG1 := Aside0.mk hg
 have HE1 := Aside0.mk hgr
 clear hr1 ha1 hgr hg hq
 unfold natV
 go_wp2_with fail
 refine (rget_c r s a 4 w1 _ rfl HR1.out HA1.out Z11 Z11 HF.out.2).mono ?_
 intro e w2 hq
 rcases hq.cases with ⟨x, hgr, rfl, hg⟩ | ⟨n, a2, hgr, rfl, hr2, ha2, hg⟩
 ·
  unfold brk
  go_wp2
  exact ⟨rfl, .err (HG1.out.trans hg) (by unfold fileR; rw [HE1.out]; show (do let (n, a2) ← getR (pb s) a 4; _) = _; rw [hgr]; rfl)⟩
 have HR2 := Aside0.mk hr2
 have HA2 := Aside0.mk ha2
 have HG2 := Aside0.mk (HG1.out.trans hg)
 have HE2 := Aside0.mk hgr
 have HNB : Aside0 (n < 4294967296) := ⟨(getR_ok hgr).1⟩
 clear hr2 ha2 hgr hg hq
 unfold natV
 by_cases hbig : 5675264 < size
 ·
  have HE : Aside0 (fileR (pb s) at_ = .error 5) := ⟨by
   unfold fileR
   rw [HE1.out]
   show (do let (n, a2) ← getR (pb s) a 4; _) = _
   rw [HE2.out]
   show (if 5675264 < size then _ else _) = _
   rw [if_pos hbig]⟩
  have g1 : decide ((5675264 : Int) < (size : Int)) = true := decide_eq_true Z3
  clear hbig
  go_wp2_with fail
  refine (refuse_c w2).mono ?_
  rintro e w3 ⟨rfl, rfl⟩
  unfold brk
  go_wp2
  exact ⟨rfl, .err HG2.out HE.out⟩
 have HE : Aside0 (fileR (pb s) at_ = loopF (pb s) size n 0 (List.replicate size 0) a2) := ⟨by
   unfold fileR
   rw [HE1.out]
   show (do let (n, a2) ← getR (pb s) a 4; _) = _
   rw [HE2.out]
   show (if 5675264 < size then _ else _) = _
   rw [if_neg hbig]⟩
 have g1 : decide ((5675264 : Int) < (size : Int)) = false := decide_eq_false Z3
 have HZ := Aside0.mk (show size ≤ 5675264 by omega)
 have hmk := run_make_row' (P := Tryz.prog) 31 5 (.int .u8 0) 1 Tryz.underlying31 infoU8 rfl .i64 .i64 size (by have := HZ.out; omega) (by have := HZ.out; omega) w2
 have hcells : madeCells #[.int .u8 0] size = rowB (List.replicate size 0) := by
  apply Array.toList_inj.1
  rw [toList_madeCells_one]
  simp [rowB, vb]
 rw [hcells] at hmk
 clear hcells
 obtain ⟨g, hg⟩ : ∃ g, g = w2.heap.size := ⟨_, rfl⟩
 rw [← hg] at hmk
 have HGL : Aside0 (w.heap.size ≤ g) := ⟨by rw [hg]; exact HG2.out.size⟩
 have HR3 := Aside0.mk (HR2.out.below (below_alloc (Below.refl w2.heap.size w2) (.cells (rowB (List.replicate size 0)) 5 (0, 0))))
 have HG3 := Aside0.mk (HG2.out.trans (grown_of_below (below_alloc (Below.refl w2.heap.size w2) (.cells (rowB (List.replicate size 0)) 5 (0, 0))) (some r)))
 have HB3 : Aside0 ((w2.alloc (.cells (rowB (List.replicate size 0)) 5 (0, 0))).heap[g]? = some (.cells (rowB (List.replicate size 0)) 5 (0, 0))) := ⟨by rw [hg]; exact blk_new w2 _⟩
 generalize w2.alloc (.cells (rowB (List.replicate size 0)) 5 (0, 0)) = w3 at hmk HR3 HG3 HB3
 clear hbig HE1 HE2 HR2 HG2 HR1 HG1 hg
 go_wp2_with fail
 clear hmk g1
 go_loopw [6, 19] (fun v6 v19 wr => ∃ (k lo a : Nat) (la : Int) (buf : List UInt8), k ≤ n ∧ v6 = .int .i64 la ∧ v19 = .int .i64 k ∧ la = (lo : Int) - 1 ∧ Aside0 (lo ≤ 4294967296 ∧ buf.length = size ∧ a ≤ s.size ∧ fileR (pb s) at_ = loopF (pb s) size (n - k) lo buf a) ∧ Aside0 (Rd wr r s a) ∧ Aside0 (w.grownBy wr (some r)) ∧ Aside0 (wr.heap[g]? = some (.cells (rowB buf) 5 (0, 0)))) (fun _ i _ => n - (intOf i).toNat)
 case atStart => exact ⟨0, 0, a2, -1, List.replicate size 0, Z3, rfl, rfl, Z3, ⟨Z3, Z23, HA2.out, by simpa using HE.out⟩, HR3, HG3, HB3⟩
 case round =>
  clear HR3 HG3 HB3 HE
  obtain ⟨k, lo, a, la, buf, hk, rfl, rfl, hla, HS, HR, HG, HB⟩ := hrel
  by_cases hlt : k < n
  ·
   have hdec : decide (k < n) = true := decide_eq_true hlt
   have HK := Aside0.mk (And.intro hlt hla)
   have HSP : Aside0 (fileR (pb s) at_ = loopF (pb s) size ((n - (k + 1)) + 1) lo buf a) := ⟨by rw [HS.out.2.2.2, show n - k = (n - (k + 1)) + 1 by omega]⟩
   clear hlt hla hk
   go_wp2_with fail
   refine (rget_c r s a 4 wr _ rfl HR.out HS.out.2.2.1 Z11 Z11 HF.out.2).mono ?_
   intro e w4 hq
   rcases hq.cases with ⟨x, hgr, rfl, hg⟩ | ⟨i, a1, hgr, rfl, hr1, ha1, hg⟩
   ·
    unfold brk
    go_wp2
    exact ⟨rfl, .err (HG.out.trans hg) (by rw [HSP.out, loopF, hgr]; rfl)⟩
   have HR4 := Aside0.mk hr1
   have HA4 := Aside0.mk ha1
   have HG4 := Aside0.mk (HG.out.trans hg)
   have HB4 := Aside0.mk (blk_grown HB.out hg (fun e => by injection e with e; have := HGL.out; have := HRL.out; omega))
   have HI : Aside0 (i < 4294967296) := ⟨(getR_ok hgr).1⟩
   have HSP4 : Aside0 (fileR (pb s) at_ = (if i < lo ∨ size ≤ 448 * i then .error 5 else do
     let (p, a2) ← bytesR (pb s) a1 (min 448 (size - 448 * i))
     if blankL p then .error 5 else loopF (pb s) size (n - (k + 1)) (i + 1) (laidB buf (448 * i) p) a2)) := ⟨by rw [HSP.out, loopF, hgr]; rfl⟩
   clear hr1 ha1 hg hgr hq HR HG HB HSP
   unfold natV
   obtain ⟨e8, he8⟩ : ∃ e8, e8 = 448 * i := ⟨_, rfl⟩
   have hw1 : IntKind.i64.wrap ((i : Int) * 448) = (e8 : Int) := by rw [i64_w, w64 (by have := HI.out; omega) (by have := HI.out; omega)]; omega
   by_cases h1 : i < lo
   ·
    have HE5 : Aside0 (fileR (pb s) at_ = .error 5) := ⟨by rw [HSP4.out, if_pos (.inl h1)]⟩
    have gA : decide ((i : Int) ≤ la) = true := decide_eq_true (by have := HK.out.2; omega)
    clear h1 HSP4
    go_wp2_with fail
    refine (refuse_c w4).mono ?_
    rintro e w5 ⟨rfl, rfl⟩
    unfold brk
    go_wp2
    exact ⟨rfl, .err HG4.out HE5.out⟩
   have gA : decide ((i : Int) ≤ la) = false := decide_eq_false (by have := HK.out.2; omega)
   by_cases h2 : size ≤ 448 * i
   ·
    have HE5 : Aside0 (fileR (pb s) at_ = .error 5) := ⟨by rw [HSP4.out, if_pos (.inr h2)]⟩
    have gB : decide (size ≤ e8) = true := decide_eq_true Z3
    have gB' : decide ((size : Int) ≤ (e8 : Int)) = true := decide_eq_true Z3
    clear h1 h2 HSP4 he8
    go_wp2_with fail
    refine (refuse_c w4).mono ?_
    rintro e w5 ⟨rfl, rfl⟩
    unfold brk
    go_wp2
    exact ⟨rfl, .err HG4.out HE5.out⟩
   have gB : decide (size ≤ e8) = false := decide_eq_false Z3
   obtain ⟨y, hy⟩ : ∃ y, y = size - 448 * i := ⟨_, rfl⟩
   have hw2 : IntKind.i64.wrap ((size : Int) - (e8 : Int)) = (y : Int) := by rw [i64_w, w64 (by have := HZ.out; have := HI.out; omega) (by have := HZ.out; have := HI.out; omega)]; omega
   have HSP5 : Aside0 (fileR (pb s) at_ = (do
     let (p, a2) ← bytesR (pb s) a1 (min 448 y)
     if blankL p then .error 5 else loopF (pb s) size (n - (k + 1)) (i + 1) (laidB buf e8 p) a2)) := ⟨by rw [HSP4.out, if_neg Z3, hy, he8]⟩
   have HY := Aside0.mk (show e8 + y = size by omega)
   clear h1 h2 HSP4 he8 hy
   go_wp2_with fail
   refine (rbytes_c r s a1 (min 448 y) w4 _ Z3 HR4.out HA4.out HF.out.2).mono ?_
   intro e w5 hq
   rcases hq.cases with ⟨x, hgr, rfl, hg⟩ | ⟨p, a2, hgr, rfl, hr1, ha1, hg⟩
   ·
    unfold brk
    go_wp2
    exact ⟨rfl, .err (HG4.out.trans hg) (by rw [HSP5.out, hgr]; rfl)⟩
   have HR5 := Aside0.mk hr1
   have HA5 := Aside0.mk ha1
   have HG5 := Aside0.mk (HG4.out.trans hg)
   have HB5 := Aside0.mk (blk_grown HB4.out hg (fun e => by injection e with e; have := HGL.out; have := HRL.out; omega))
   have HP : Aside0 (p.length = min 448 y) := ⟨(bytesR_ok hgr).1⟩
   have HSP6 : Aside0 (fileR (pb s) at_ = if blankL p then .error 5 else loopF (pb s) size (n - (k + 1)) (i + 1) (laidB buf e8 p) a2) := ⟨by rw [HSP5.out, hgr]; rfl⟩
   clear hr1 ha1 hg hgr hq HR4 HG4 HB4 HA4 HSP5
   unfold strV
   go_wp2_with fail
   refine (blank_c ⟨p.toArray⟩ w5 (by have := HP.out; show p.toArray.size < _; rw [List.size_toArray]; omega)).mono ?_
   rintro e w6 ⟨rfl, hd6⟩
   rw [pb_mk]
   have HR6 := Aside0.mk (HR5.out.below (below_drawn hd6))
   have HG6 := Aside0.mk (HG5.out.trans (grown_of_below (below_drawn hd6) (some r)))
   have HB6 := Aside0.mk (blk_below HB5.out (below_drawn hd6))
   clear hd6 HR5 HG5 HB5
   cases hbl : blankL p with
   | true =>
    have HE5 : Aside0 (fileR (pb s) at_ = .error 5) := ⟨by rw [HSP6.out, hbl]; rfl⟩
    clear hbl
    go_wp2_with fail
    refine (refuse_c w6).mono ?_
    rintro e w5 ⟨rfl, rfl⟩
    unfold brk
    go_wp2
    exact ⟨rfl, .err HG6.out HE5.out⟩
   | false =>
    have HSP7 : Aside0 (fileR (pb s) at_ = loopF (pb s) size (n - (k + 1)) (i + 1) (laidB buf e8 p) a2) := ⟨by rw [HSP6.out, hbl]; rfl⟩
    clear hbl HSP6
    have q1 : (e8 ≤ size) = True := eq_true (by have := HY.out; omega)
    have hcp := Lib.run_copy_row_string w6 31 9 3 5 g e8 (size - e8) (size - e8) ⟨p.toArray⟩ (rowB buf) 5 Tryz.underlying31 sizeU8 HB6.out (by have := HP.out; have := HY.out; show p.toArray.size ≤ _; rw [List.size_toArray]; omega) (by have := HP.out; have := HY.out; have := HS.out.2.1; show _ + p.toArray.size ≤ _; rw [List.size_toArray, rowB_size]; omega)
    have hrow : ((rowB buf).toList.take e8 ++ Lib.byteCells (⟨p.toArray⟩ : ByteArray).data.toList ++ (rowB buf).toList.drop (e8 + (⟨p.toArray⟩ : ByteArray).size)).toArray = rowB (laidB buf e8 p) := rowB_laid buf p e8
    rw [hrow] at hcp
    clear hrow
    have HR7 := Aside0.mk (blk_grown HR6.out (grownBy_setRow w6 g (rowB (laidB buf e8 p))) (fun e => by injection e with e; have := HGL.out; have := HRL.out; omega))
    have HG7 := Aside0.mk (grown_new HG6.out (grownBy_setRow w6 g (rowB (laidB buf e8 p))) HGL.out)
    have HB7 := Aside0.mk (setRow_heap w6 g (rowB buf) (rowB (laidB buf e8 p)) 5 _ HB6.out)
    clear HR6 HG6 HB6
    generalize w6.setRow g _ = w7 at HR7 HG7 HB7 hcp
    go_wp2_with fail
    ·
     exact absurd gB Z43
    go_roundw
    case rel =>
     have := HK.out.1
     refine ⟨k + 1, i + 1, a2, (i : Int), laidB buf e8 p, Z3, rfl, by rw [w64 (by have := HNB.out; omega) (by have := HNB.out; omega)]; rfl, Z3, ⟨by have := HI.out; omega, ?_, HA5.out, HSP7.out⟩, HR7, HG7, HB7⟩
     rw [laidB_length (by have := HP.out; have := HY.out; have := HS.out.2.1; omega)]
     exact HS.out.2.1
    case measure =>
     have := HK.out.1
     rw [w64 (by have := HNB.out; omega) (by have := HNB.out; omega)]
     simp [intOf]
     omega
  ·
   have hkn : k = n := by omega
   subst hkn
   have HE5 : Aside0 (fileR (pb s) at_ = .ok (buf, a)) := ⟨by rw [HS.out.2.2.2, Nat.sub_self]; rfl⟩
   have hown : wr.ownsRow w.heap.size 5 1 (.slice (some ⟨g, 0, none⟩) size size) size (nums .u8 (buf.map fun b => (b.toNat : Int))) := by
    have e : nums .u8 (buf.map fun b => (b.toNat : Int)) = (rowB buf).toList := by unfold nums rowB; rw [List.map_map]; rfl
    rw [e]
    have hl := HS.out.2.1
    refine ⟨by rw [Array.length_toList, rowB_size]; omega, .inr ⟨g, size, rowB buf, rfl, HGL.out, HB.out, Nat.le_refl _, by unfold maxLen; have := HZ.out; omega, by rw [rowB_size]; omega, ?_⟩⟩
    rw [List.take_of_length_le]
    rw [Array.length_toList, rowB_size]; omega
   have hcv : (convert 31 9 (.slice (some ⟨g, 0, none⟩) size size)).run Tryz.prog wr = .ok (.string ⟨buf.toArray⟩) wr := by
    have h := own_string (P := Tryz.prog) Tryz.underlying31 Tryz.underlying5 Tryz.underlying9 hown
    rw [h, Lib.Lz.strOfNums_map]
   clear hown hlt hk hla
   go_wp2
   go_ret
   exact .ok HG.out (v := buf) HE5.out HR.out HS.out.2.2.1
def mkN (p d : List UInt8) (ino kd : Nat) : S38 := ⟨⟨p.toArray⟩, ⟨(ino : Int), 0, (kd : Int), 0, (d.length : Int)⟩, ⟨d.toArray⟩⟩
def nodeR (s : List UInt8) (l : List S38) (at_ : Nat) : Except Int (S38 × Nat) := do
 let (kd, a1) ← getR s at_ 1
 let (p, a2) ← textR s a1
 if kd = 2 then .ok (mkN p [] (l.length + 1) 2, a2)
 else if kd = 3 then do
  let (d, a3) ← textR s a2
  .ok (mkN p d (l.length + 1) 3, a3)
 else if kd = 1 then do
  let (k, a3) ← getR s a2 4
  if k ≠ 0 then
   if l.length < k ∨ (rdn l (k - 1)).f1.f2 ≠ 1 ∨ (rdn l (k - 1)).f1.f0 ≠ (k : Int) then .error 5
   else .ok (mkN p (pb (rdn l (k - 1)).f2) k 1, a3)
  else do
   let (d, a4) ← fileR s a3
   .ok (mkN p d (l.length + 1) 1, a4)
 else .error 5
def nodeV (n : S38) : Value := .agg #[.string n.f0, .int .i64 n.f1.f0, .int .i64 n.f1.f1, .int .i64 n.f1.f2, .int .i64 n.f1.f3, .int .i64 n.f1.f4, .string n.f2]
theorem row_keep {w w' : World} {r base : Nat} {s : ByteArray} {a : Nat} {ok : Nat → Prop} {v : Value} {l : List S38} (HO : Kd.R k38 38 w base ok v l) (hr : Rd w r s a) (hg : w.grownBy w' (some r)) :
  Kd.R k38 38 w' base ok v l :=
 Kd.R_grown2 HO rfl hg (fun k hk => by injection hk with hk; subst hk; exact Kd.R_ne HO hr Z11)
theorem cell_other {w : World} {a : Addr} {g i : Nat} (v : Value) (h : a.block ≠ g) : (w.setCell ⟨g, i, none⟩ v).cell? a = w.cell? a :=
 World.cell?_of_block (Below.heap_setCell w ⟨g, i, none⟩ v a.block h)
theorem x6ne {w : World} {base g j : Nat} {ad : Addr} {c : Nat} {l : List S38} {v : Value} (HO : Kd.R k38 38 w base (fun q => True ∧ q ≠ g) (.slice (some ad) l.length c) l) (x0 : w.cell? (ad.add (j * 7)) = some v) : (ad.add (j * 7)).block ≠ g := by
 have h1 : (ad.add (j * 7)).block = ad.block := by unfold Addr.add; split <;> rfl
 rw [h1]
 rcases row_open HO with ⟨e, _⟩ | ⟨g', cap', cur, e, hb, hg, h1, h2, h3, h4⟩
 ·
  cases e
 ·
  injection e with e1 e2 e3
  injection e1 with e1
  subst e1
  exact (HO.1 g' rfl).2
set_option maxHeartbeats 4000000 in
set_option maxRecDepth 100000 in
theorem rnode_c (r base : Nat) (s : ByteArray) (l : List S38) (A : Option Addr) (c : Nat) (at_ : Nat) (w : World) (h : Rd w r s at_) (hO : Kd.R k38 38 w base (fun _ => True) (.slice A l.length c) l) (hl : l.length < 4294967296) (hat : at_ ≤ s.size) (hs : s.size < 1000000000000) :
  Calls Tryz.prog 64 #[.pointer (some ⟨r, 0, none⟩), .slice A l.length c] w fun e w' => RdRet w r s (nodeR (pb s) l at_) nodeV e w' := by
 have hu46 := Tryz.underlying38
 have hu44 := Tryz.underlying36
 have HR := Aside0.mk h
 have HF := Aside0.mk (And.intro hat hs)
 have HRL := Aside0.mk (blk_lt h)
 have HL := Aside0.mk hl
 have HO := Aside0.mk hO
 have HG := Aside0.mk (show w.grownBy w (some r) from ⟨rfl, rfl, rfl, Nat.le_refl _, fun _ _ _ => rfl⟩)
 obtain ⟨m, hm⟩ : ∃ m, m = l.length + 1 := ⟨_, rfl⟩
 have hw0 : IntKind.i64.wrap ((l.length : Int) + 1) = (m : Int) := by rw [i64_w, w64 Z3 Z3]; omega
 have HM := Aside0.mk hm
 clear h hat hs hl hO hm
 go_enter Tryz.func64, Tryz.ntmps64
 go_wp2_with ((with_reducible refine gate_dst (N := 4) rfl ?_); refine box_event ?hg (N := 4) ?hd (cs := #[.string (⟨#[]⟩ : ByteArray), .int .i64 0, .int .i64 0, .int .i64 0, .int .i64 0, .int .i64 0, .string (⟨#[]⟩ : ByteArray)]) (t := 38) ?hr ?_; (case hd => rfl); (case hg => rfl); (case hr => first | (go_simp; done) | (go_simp; rfl)); intro g4 hg w5 hbox hb; have n0_ := Aside0.mk (HR.out.below hb); have n1_ := Aside0.mk (HG.out.trans (grown_of_below hb (some r))); have n2_ := Aside0.mk hbox; have n3_ := Aside0.mk (Nat.le_of_eq hg.symm : w.heap.size ≤ g4); have n4_ := Aside0.mk (row_keep HO.out HR.out (grown_of_below hb (some r))); clear HR HG HO; have HR := n0_; have HG := n1_; have B4 := n2_; have G4 := n3_; have HO := n4_; clear n0_ n1_ n2_ n3_ n4_ hb hbox hg)
 refine (rget_c r s at_ 1 _ _ rfl HR.out HF.out.1 Z11 Z11 HF.out.2).mono ?_
 intro e w1 hq
 rcases hq.cases with ⟨x, hgr, rfl, hg⟩ | ⟨kd, a1, hgr, rfl, hr1, ha1, hg⟩
 ·
  unfold brk
  go_wp2
  exact ⟨rfl, .err (HG.out.trans hg) (by unfold nodeR; rw [hgr]; rfl)⟩
 have HR1 := Aside0.mk hr1
 have HA1 := Aside0.mk ha1
 have HG1 := Aside0.mk (HG.out.trans hg)
 have HO1 := Aside0.mk (row_keep HO.out HR.out hg)
 have B41 := Aside0.mk (blk_grown B4.out hg (fun e => by injection e with e; have := G4.out; have := HRL.out; omega))
 have HE1 := Aside0.mk hgr
 clear hr1 ha1 hgr hg hq HR HG HO B4
 unfold natV
 go_wp2_with fail
 refine (rtext_c r s a1 w1 HR1.out HA1.out HF.out.2).mono ?_
 intro e w2 hq
 rcases hq.cases with ⟨x, hgr, rfl, hg⟩ | ⟨p, a2, hgr, rfl, hr2, ha2, hg⟩
 ·
  unfold brk
  go_wp2
  exact ⟨rfl, .err (HG1.out.trans hg) (by unfold nodeR; rw [HE1.out]; show (do let (p, a2) ← textR (pb s) a1; _) = _; rw [hgr]; rfl)⟩
 have HR := Aside0.mk hr2
 have HA := Aside0.mk ha2
 have HG := Aside0.mk (HG1.out.trans hg)
 have HO := Aside0.mk (row_keep HO1.out HR1.out hg)
 have B4 := Aside0.mk (blk_grown B41.out hg (fun e => by injection e with e; have := G4.out; have := HRL.out; omega))
 have HSP : Aside0 (nodeR (pb s) l at_ = if kd = 2 then .ok (mkN p [] (l.length + 1) 2, a2)
   else if kd = 3 then do
    let (d, a3) ← textR (pb s) a2
    .ok (mkN p d (l.length + 1) 3, a3)
   else if kd = 1 then do
    let (k, a3) ← getR (pb s) a2 4
    if k ≠ 0 then
     if l.length < k ∨ (rdn l (k - 1)).f1.f2 ≠ 1 ∨ (rdn l (k - 1)).f1.f0 ≠ (k : Int) then .error 5
     else .ok (mkN p (pb (rdn l (k - 1)).f2) k 1, a3)
    else do
     let (d, a4) ← fileR (pb s) a3
     .ok (mkN p d (l.length + 1) 1, a4)
   else .error 5) := ⟨by unfold nodeR; rw [HE1.out]; show (do let (p, a2) ← textR (pb s) a1; _) = _; rw [hgr]; rfl⟩
 clear hr2 ha2 hgr hg hq HR1 HG1 HO1 B41 HE1
 unfold strV
 by_cases hk2 : kd = 2
 ·
  subst hk2
  go_wp2_with (first | ((with_reducible refine gate_dst (N := 5) rfl ?_); refine box_event ?hg (N := 5) ?hd (cs := #[.string (⟨#[]⟩ : ByteArray), .int .i64 0, .int .i64 0, .int .i64 0, .int .i64 0, .int .i64 0, .string (⟨#[]⟩ : ByteArray)]) (t := 38) ?hr ?_; (case hd => rfl); (case hg => rfl); (case hr => first | (go_simp; done) | (go_simp; rfl)); intro g5 hg w5 hbox hb; have n0_ := Aside0.mk (HR.out.below hb); have n1_ := Aside0.mk (HG.out.trans (grown_of_below hb (some r))); have n2_ := Aside0.mk hbox; have n3_ := Aside0.mk ((by rw [hg]; exact ⟨HG.out.size, blk_lt B4.out⟩) : w.heap.size ≤ g5 ∧ g4 < g5); have n4_ := Aside0.mk (row_keep (Kd.R_elderB HO.out g5 (Nat.le_of_eq hg.symm)) HR.out (grown_of_below hb (some r))); have n5_ := Aside0.mk (blk_below B4.out hb); clear HR HG HO B4; have HR := n0_; have HG := n1_; have B5 := n2_; have G5 := n3_; have HO := n4_; have B4 := n5_; clear n0_ n1_ n2_ n3_ n4_ n5_ hb hbox hg) | ((with_reducible refine gate_store (t := 38) rfl ?_); refine store_node' rfl rfl _ _ rfl g5 _ (⟨⟨p.toArray⟩, ⟨(m : Int), 0, 2, 0, 0⟩, ⟨#[]⟩⟩ : S38) B5.out rfl rfl rfl ?_; intro w6 hS1 hS2; have n0_ := Aside0.mk (blk_grown HR.out hS2 (fun e => by injection e with e; have := G5.out; have := HRL.out; omega)); have n1_ := Aside0.mk (grown_new HG.out hS2 G5.out.1); have n2_ := Aside0.mk hS1; have n4_ := Aside0.mk (Kd.R_grown HO.out hS2 (fun k hk e => hk.2 (Option.some.inj e))); have n5_ := Aside0.mk (blk_grown B4.out hS2 (fun e => by injection e with e; have := G5.out; omega)); clear HR HG HO B4 B5 hS1 hS2; have HR := n0_; have HG := n1_; have B5 := n2_; have HO := n4_; have B4 := n5_; clear n0_ n1_ n2_ n4_ n5_; have c0 : w6.cell? ⟨g5, 0, none⟩ = some (.string ⟨p.toArray⟩) := (blk_cell B5.out 0).trans rfl; have c1 : w6.cell? ⟨g5, 1, none⟩ = some (.int .i64 (m : Int)) := (blk_cell B5.out 1).trans rfl; have c2 : w6.cell? ⟨g5, 2, none⟩ = some (.int .i64 0) := (blk_cell B5.out 2).trans rfl; have c3 : w6.cell? ⟨g5, 3, none⟩ = some (.int .i64 2) := (blk_cell B5.out 3).trans rfl; have c4 : w6.cell? ⟨g5, 4, none⟩ = some (.int .i64 0) := (blk_cell B5.out 4).trans rfl; have c5 : w6.cell? ⟨g5, 5, none⟩ = some (.int .i64 0) := (blk_cell B5.out 5).trans rfl; have c6 : w6.cell? ⟨g5, 6, none⟩ = some (.string ⟨#[]⟩) := (blk_cell B5.out 6).trans rfl; have f5 := blk_frozen B5.out 5) | ((with_reducible refine gate_store (t := 38) rfl ?_); refine store_node' rfl rfl _ _ rfl g4 _ (⟨⟨p.toArray⟩, ⟨(m : Int), 0, 2, 0, 0⟩, ⟨#[]⟩⟩ : S38) (blk_grown B4.out (Lib.grownBy_setCell _ g5 5 _) (fun e => by injection e with e; have := G5.out; omega)) rfl rfl rfl ?_; intro w7 hS1 hS2; have HR7 := Aside0.mk (blk_grown (blk_grown HR.out (Lib.grownBy_setCell _ g5 5 _) (fun e => by injection e with e; have := G5.out; have := HRL.out; omega)) hS2 (fun e => by injection e with e; have := G4.out; have := HRL.out; omega)); have HG7 := Aside0.mk (grown_new (grown_new HG.out (Lib.grownBy_setCell _ g5 5 _) G5.out.1) hS2 G4.out); have d0 := (blk_cell hS1 0).trans (show _ = some _ from rfl); have d1 := (blk_cell hS1 1).trans (show _ = some _ from rfl); have d2 := (blk_cell hS1 2).trans (show _ = some _ from rfl); have d3 := (blk_cell hS1 3).trans (show _ = some _ from rfl); have d4 := (blk_cell hS1 4).trans (show _ = some _ from rfl); have d5 := (blk_cell hS1 5).trans (show _ = some _ from rfl); have d6 := (blk_cell hS1 6).trans (show _ = some _ from rfl); clear hS1 hS2 HR HG HO B4 B5 c0 c1 c2 c3 c4 c5 c6 f5))
  (try simp only [Exit.inBlock, Exit.then])
  refine bodyPost_ret (v := nodeV (mkN p [] m 2)) Z44 rfl ?_
  exact .ok HG7.out (by rw [HSP.out, HM.out]; rfl) HR7.out HA.out
 by_cases hk3 : kd = 3
 ·
  subst hk3
  go_wp2_with (first | ((with_reducible refine gate_dst (N := 5) rfl ?_); refine box_event ?hg (N := 5) ?hd (cs := #[.string (⟨#[]⟩ : ByteArray), .int .i64 0, .int .i64 0, .int .i64 0, .int .i64 0, .int .i64 0, .string (⟨#[]⟩ : ByteArray)]) (t := 38) ?hr ?_; (case hd => rfl); (case hg => rfl); (case hr => first | (go_simp; done) | (go_simp; rfl)); intro g5 hg w5 hbox hb; have n0_ := Aside0.mk (HR.out.below hb); have n1_ := Aside0.mk (HG.out.trans (grown_of_below hb (some r))); have n2_ := Aside0.mk hbox; have n3_ := Aside0.mk ((by rw [hg]; exact ⟨HG.out.size, blk_lt B4.out⟩) : w.heap.size ≤ g5 ∧ g4 < g5); have n4_ := Aside0.mk (row_keep (Kd.R_elderB HO.out g5 (Nat.le_of_eq hg.symm)) HR.out (grown_of_below hb (some r))); have n5_ := Aside0.mk (blk_below B4.out hb); clear HR HG HO B4; have HR := n0_; have HG := n1_; have B5 := n2_; have G5 := n3_; have HO := n4_; have B4 := n5_; clear n0_ n1_ n2_ n3_ n4_ n5_ hb hbox hg) | ((with_reducible refine gate_store (t := 38) rfl ?_); refine store_node' rfl rfl _ _ rfl g5 _ (⟨⟨p.toArray⟩, ⟨(m : Int), 0, 3, 0, 0⟩, ⟨#[]⟩⟩ : S38) B5.out rfl rfl rfl ?_; intro w6 hS1 hS2; have n0_ := Aside0.mk (blk_grown HR.out hS2 (fun e => by injection e with e; have := G5.out; have := HRL.out; omega)); have n1_ := Aside0.mk (grown_new HG.out hS2 G5.out.1); have n2_ := Aside0.mk hS1; have n4_ := Aside0.mk (Kd.R_grown HO.out hS2 (fun k hk e => hk.2 (Option.some.inj e))); have n5_ := Aside0.mk (blk_grown B4.out hS2 (fun e => by injection e with e; have := G5.out; omega)); clear HR HG HO B4 B5 hS1 hS2; have HR := n0_; have HG := n1_; have B5 := n2_; have HO := n4_; have B4 := n5_; clear n0_ n1_ n2_ n4_ n5_; have c3 : w6.cell? ⟨g5, 3, none⟩ = some (.int .i64 3) := (blk_cell B5.out 3).trans rfl))
  refine (rtext_c r s a2 w6 HR.out HA.out HF.out.2).mono ?_
  intro e w8 hq
  rcases hq.cases with ⟨x, hgr, rfl, hg⟩ | ⟨d, a3, hgr, rfl, hr3, ha3, hg⟩
  ·
   unfold brk
   go_wp2
   exact ⟨rfl, .err (HG.out.trans hg) (by rw [HSP.out]; show (do let (d, a3) ← textR (pb s) a2; _) = _; rw [hgr]; rfl)⟩
  clear c3
  have HR8 := Aside0.mk hr3
  have HA8 := Aside0.mk ha3
  have HG8 := Aside0.mk (HG.out.trans hg)
  have HO8 := Aside0.mk (row_keep HO.out HR.out hg)
  have B48 := Aside0.mk (blk_grown B4.out hg (fun e => by injection e with e; have := G4.out; have := HRL.out; omega))
  have B58 := Aside0.mk (blk_grown B5.out hg (fun e => by injection e with e; have := G5.out; have := HRL.out; omega))
  have HE8 := Aside0.mk hgr
  clear hr3 ha3 hg hq hgr HR HG HO B4 B5
  have HR := HR8
  have HG := HG8
  have HO := HO8
  have B4 := B48
  have B5 := B58
  clear HR8 HG8 HO8 B48 B58
  have c0 : w8.cell? ⟨g5, 0, none⟩ = some (.string ⟨p.toArray⟩) := (blk_cell B5.out 0).trans rfl
  have c1 : w8.cell? ⟨g5, 1, none⟩ = some (.int .i64 (m : Int)) := (blk_cell B5.out 1).trans rfl
  have c2 : w8.cell? ⟨g5, 2, none⟩ = some (.int .i64 0) := (blk_cell B5.out 2).trans rfl
  have c3 : w8.cell? ⟨g5, 3, none⟩ = some (.int .i64 3) := (blk_cell B5.out 3).trans rfl
  have c4 : w8.cell? ⟨g5, 4, none⟩ = some (.int .i64 0) := (blk_cell B5.out 4).trans rfl
  have c5 : w8.cell? ⟨g5, 5, none⟩ = some (.int .i64 0) := (blk_cell B5.out 5).trans rfl
  have c6 : w8.cell? ⟨g5, 6, none⟩ = some (.string ⟨#[]⟩) := (blk_cell B5.out 6).trans rfl
  have f5 := blk_frozen B5.out 5
  have f6 := blk_frozen B5.out 6
  unfold strV
  go_wp2_with ((with_reducible refine gate_store (t := 38) rfl ?_); refine store_node' rfl rfl _ _ rfl g4 _ (mkN p d m 3 : S38) (blk_grown (blk_grown B4.out (Lib.grownBy_setCell _ g5 6 _) (fun e => by injection e with e; have := G5.out; omega)) (Lib.grownBy_setCell _ g5 5 _) (fun e => by injection e with e; have := G5.out; omega)) rfl rfl rfl ?_; intro w7 hS1 hS2; have HR7 := Aside0.mk (blk_grown (blk_grown (blk_grown HR.out (Lib.grownBy_setCell _ g5 6 _) (fun e => by injection e with e; have := G5.out; have := HRL.out; omega)) (Lib.grownBy_setCell _ g5 5 _) (fun e => by injection e with e; have := G5.out; have := HRL.out; omega)) hS2 (fun e => by injection e with e; have := G4.out; have := HRL.out; omega)); have HG7 := Aside0.mk (grown_new (grown_new (grown_new HG.out (Lib.grownBy_setCell _ g5 6 _) G5.out.1) (Lib.grownBy_setCell _ g5 5 _) G5.out.1) hS2 G4.out); have d0 := (blk_cell hS1 0).trans (show _ = some _ from rfl); have d1 := (blk_cell hS1 1).trans (show _ = some _ from rfl); have d2 := (blk_cell hS1 2).trans (show _ = some _ from rfl); have d3 := (blk_cell hS1 3).trans (show _ = some _ from rfl); have d4 := (blk_cell hS1 4).trans (show _ = some _ from rfl); have d5 := (blk_cell hS1 5).trans (show _ = some _ from rfl); have d6 := (blk_cell hS1 6).trans (show _ = some _ from rfl); clear hS1 hS2 HR HG HO B4 B5 c0 c1 c2 c3 c4 c5 c6 f5 f6)
  (try simp only [Exit.inBlock, Exit.then])
  refine bodyPost_ret (v := nodeV (mkN p d m 3)) Z44 rfl ?_
  exact .ok HG7.out (by rw [HSP.out, HM.out]; show (do let (d, a3) ← textR (pb s) a2; _) = _; rw [HE8.out]; rfl) HR7.out HA8.out
 by_cases hk1 : kd = 1
 rotate_left
 ·
  have HE5 : Aside0 (nodeR (pb s) l at_ = .error 5) := ⟨by rw [HSP.out, if_neg hk2, if_neg hk3, if_neg hk1]⟩
  have z1 : ((kd : Int) == 2) = false := by simpa using (Z3 : ¬ (kd : Int) = 2)
  have z2 : ((kd : Int) == 3) = false := by simpa using (Z3 : ¬ (kd : Int) = 3)
  have z3 : ((kd : Int) == 1) = false := by simpa using (Z3 : ¬ (kd : Int) = 1)
  clear hk1 hk2 hk3
  go_wp2_with (first | ((with_reducible refine gate_dst (N := 5) rfl ?_); refine box_event ?hg (N := 5) ?hd (cs := #[.string (⟨#[]⟩ : ByteArray), .int .i64 0, .int .i64 0, .int .i64 0, .int .i64 0, .int .i64 0, .string (⟨#[]⟩ : ByteArray)]) (t := 38) ?hr ?_; (case hd => rfl); (case hg => rfl); (case hr => first | (go_simp; done) | (go_simp; rfl)); intro g5 hg w5 hbox hb; have n0_ := Aside0.mk (HR.out.below hb); have n1_ := Aside0.mk (HG.out.trans (grown_of_below hb (some r))); have n2_ := Aside0.mk hbox; have n3_ := Aside0.mk ((by rw [hg]; exact ⟨HG.out.size, blk_lt B4.out⟩) : w.heap.size ≤ g5 ∧ g4 < g5); have n4_ := Aside0.mk (row_keep (Kd.R_elderB HO.out g5 (Nat.le_of_eq hg.symm)) HR.out (grown_of_below hb (some r))); have n5_ := Aside0.mk (blk_below B4.out hb); clear HR HG HO B4; have HR := n0_; have HG := n1_; have B5 := n2_; have G5 := n3_; have HO := n4_; have B4 := n5_; clear n0_ n1_ n2_ n3_ n4_ n5_ hb hbox hg) | ((with_reducible refine gate_store (t := 38) rfl ?_); refine store_node' rfl rfl _ _ rfl g5 _ (⟨⟨p.toArray⟩, ⟨(m : Int), 0, (kd : Int), 0, 0⟩, ⟨#[]⟩⟩ : S38) B5.out rfl rfl rfl ?_; intro w6 hS1 hS2; have n0_ := Aside0.mk (blk_grown HR.out hS2 (fun e => by injection e with e; have := G5.out; have := HRL.out; omega)); have n1_ := Aside0.mk (grown_new HG.out hS2 G5.out.1); have n2_ := Aside0.mk hS1; have n4_ := Aside0.mk (Kd.R_grown HO.out hS2 (fun k hk e => hk.2 (Option.some.inj e))); have n5_ := Aside0.mk (blk_grown B4.out hS2 (fun e => by injection e with e; have := G5.out; omega)); clear HR HG HO B4 B5 hS1 hS2; have HR := n0_; have HG := n1_; have B5 := n2_; have HO := n4_; have B4 := n5_; clear n0_ n1_ n2_ n4_ n5_; have c3 : w6.cell? ⟨g5, 3, none⟩ = some (.int .i64 (kd : Int)) := (blk_cell B5.out 3).trans rfl))
  refine (refuse_c w6).mono ?_
  rintro e w7 ⟨rfl, rfl⟩
  unfold brk
  go_wp2
  exact ⟨rfl, .err HG.out HE5.out⟩
 subst hk1
 go_wp2_with (first | ((with_reducible refine gate_dst (N := 5) rfl ?_); refine box_event ?hg (N := 5) ?hd (cs := #[.string (⟨#[]⟩ : ByteArray), .int .i64 0, .int .i64 0, .int .i64 0, .int .i64 0, .int .i64 0, .string (⟨#[]⟩ : ByteArray)]) (t := 38) ?hr ?_; (case hd => rfl); (case hg => rfl); (case hr => first | (go_simp; done) | (go_simp; rfl)); intro g5 hg w5 hbox hb; have n0_ := Aside0.mk (HR.out.below hb); have n1_ := Aside0.mk (HG.out.trans (grown_of_below hb (some r))); have n2_ := Aside0.mk hbox; have n3_ := Aside0.mk ((by rw [hg]; exact ⟨HG.out.size, blk_lt B4.out⟩) : w.heap.size ≤ g5 ∧ g4 < g5); have n4_ := Aside0.mk (row_keep (Kd.R_elderB HO.out g5 (Nat.le_of_eq hg.symm)) HR.out (grown_of_below hb (some r))); have n5_ := Aside0.mk (blk_below B4.out hb); clear HR HG HO B4; have HR := n0_; have HG := n1_; have B5 := n2_; have G5 := n3_; have HO := n4_; have B4 := n5_; clear n0_ n1_ n2_ n3_ n4_ n5_ hb hbox hg) | ((with_reducible refine gate_store (t := 38) rfl ?_); refine store_node' rfl rfl _ _ rfl g5 _ (⟨⟨p.toArray⟩, ⟨(m : Int), 0, 1, 0, 0⟩, ⟨#[]⟩⟩ : S38) B5.out rfl rfl rfl ?_; intro w6 hS1 hS2; have n0_ := Aside0.mk (blk_grown HR.out hS2 (fun e => by injection e with e; have := G5.out; have := HRL.out; omega)); have n1_ := Aside0.mk (grown_new HG.out hS2 G5.out.1); have n2_ := Aside0.mk hS1; have n4_ := Aside0.mk (Kd.R_grown HO.out hS2 (fun k hk e => hk.2 (Option.some.inj e))); have n5_ := Aside0.mk (blk_grown B4.out hS2 (fun e => by injection e with e; have := G5.out; omega)); clear HR HG HO B4 B5 hS1 hS2; have HR := n0_; have HG := n1_; have B5 := n2_; have HO := n4_; have B4 := n5_; clear n0_ n1_ n2_ n4_ n5_; have c3 : w6.cell? ⟨g5, 3, none⟩ = some (.int .i64 1) := (blk_cell B5.out 3).trans rfl))
 refine (rget_c r s a2 4 w6 _ rfl HR.out HA.out Z11 Z11 HF.out.2).mono ?_
 intro e w8 hq
 rcases hq.cases with ⟨x, hgr, rfl, hg⟩ | ⟨k, a3, hgr, rfl, hr3, ha3, hg⟩
 ·
  unfold brk
  go_wp2
  exact ⟨rfl, .err (HG.out.trans hg) (by rw [HSP.out]; show (do let (k, a3) ← getR (pb s) a2 4; _) = _; rw [hgr]; rfl)⟩
 clear c3
 have HKB : Aside0 (k < 4294967296) := ⟨(getR_ok hgr).1⟩
 have HR8 := Aside0.mk hr3
 have HA8 := Aside0.mk ha3
 have HG8 := Aside0.mk (HG.out.trans hg)
 have HO8 := Aside0.mk (row_keep HO.out HR.out hg)
 have B48 := Aside0.mk (blk_grown B4.out hg (fun e => by injection e with e; have := G4.out; have := HRL.out; omega))
 have B58 := Aside0.mk (blk_grown B5.out hg (fun e => by injection e with e; have := G5.out; have := HRL.out; omega))
 have HE8 := Aside0.mk hgr
 clear hr3 ha3 hg hq hgr HR HG HO B4 B5
 have HR := HR8
 have HG := HG8
 have HO := HO8
 have B4 := B48
 have B5 := B58
 clear HR8 HG8 HO8 B48 B58
 have HSP8 : Aside0 (nodeR (pb s) l at_ = if k ≠ 0 then if l.length < k ∨ (rdn l (k - 1)).f1.f2 ≠ 1 ∨ (rdn l (k - 1)).f1.f0 ≠ (k : Int) then .error 5 else .ok (mkN p (pb (rdn l (k - 1)).f2) k 1, a3) else do let (d, a4) ← fileR (pb s) a3; .ok (mkN p d (l.length + 1) 1, a4)) := ⟨by rw [HSP.out]; show (do let (k, a3) ← getR (pb s) a2 4; _) = _; rw [HE8.out]; rfl⟩
 clear HE8 HSP
 unfold natV
 by_cases hk0 : k = 0
 ·
  subst hk0
  go_wp2_with fail
  refine (rfile_c r s a3 w8 HR.out HA8.out HF.out.2).mono ?_
  intro e w9 hq
  rcases hq.cases with ⟨x, hgr, rfl, hg⟩ | ⟨d, a4, hgr, rfl, hr3, ha3, hg⟩
  ·
   unfold brk
   go_wp2
   exact ⟨rfl, .err (HG.out.trans hg) (by rw [HSP8.out]; show (do let (d, a4) ← fileR (pb s) a3; _) = _; rw [hgr]; rfl)⟩
  clear HA8
  have HR8 := Aside0.mk hr3
  have HA8 := Aside0.mk ha3
  have HG8 := Aside0.mk (HG.out.trans hg)
  have HO8 := Aside0.mk (row_keep HO.out HR.out hg)
  have B48 := Aside0.mk (blk_grown B4.out hg (fun e => by injection e with e; have := G4.out; have := HRL.out; omega))
  have B58 := Aside0.mk (blk_grown B5.out hg (fun e => by injection e with e; have := G5.out; have := HRL.out; omega))
  have HE8 := Aside0.mk hgr
  clear hr3 ha3 hg hq hgr HR HG HO B4 B5
  have HR := HR8
  have HG := HG8
  have HO := HO8
  have B4 := B48
  have B5 := B58
  clear HR8 HG8 HO8 B48 B58
  have c0 : w9.cell? ⟨g5, 0, none⟩ = some (.string ⟨p.toArray⟩) := (blk_cell B5.out 0).trans rfl
  have c1 : w9.cell? ⟨g5, 1, none⟩ = some (.int .i64 (m : Int)) := (blk_cell B5.out 1).trans rfl
  have c2 : w9.cell? ⟨g5, 2, none⟩ = some (.int .i64 0) := (blk_cell B5.out 2).trans rfl
  have c3 : w9.cell? ⟨g5, 3, none⟩ = some (.int .i64 1) := (blk_cell B5.out 3).trans rfl
  have c4 : w9.cell? ⟨g5, 4, none⟩ = some (.int .i64 0) := (blk_cell B5.out 4).trans rfl
  have c5 : w9.cell? ⟨g5, 5, none⟩ = some (.int .i64 0) := (blk_cell B5.out 5).trans rfl
  have c6 : w9.cell? ⟨g5, 6, none⟩ = some (.string ⟨#[]⟩) := (blk_cell B5.out 6).trans rfl
  have f5 := blk_frozen B5.out 5
  have f6 := blk_frozen B5.out 6
  unfold strV
  go_wp2_with ((with_reducible refine gate_store (t := 38) rfl ?_); refine store_node' rfl rfl _ _ rfl g4 _ (mkN p d m 1 : S38) (blk_grown (blk_grown B4.out (Lib.grownBy_setCell _ g5 6 _) (fun e => by injection e with e; have := G5.out; omega)) (Lib.grownBy_setCell _ g5 5 _) (fun e => by injection e with e; have := G5.out; omega)) rfl rfl rfl ?_; intro w7 hS1 hS2; have HR7 := Aside0.mk (blk_grown (blk_grown (blk_grown HR.out (Lib.grownBy_setCell _ g5 6 _) (fun e => by injection e with e; have := G5.out; have := HRL.out; omega)) (Lib.grownBy_setCell _ g5 5 _) (fun e => by injection e with e; have := G5.out; have := HRL.out; omega)) hS2 (fun e => by injection e with e; have := G4.out; have := HRL.out; omega)); have HG7 := Aside0.mk (grown_new (grown_new (grown_new HG.out (Lib.grownBy_setCell _ g5 6 _) G5.out.1) (Lib.grownBy_setCell _ g5 5 _) G5.out.1) hS2 G4.out); have d0 := (blk_cell hS1 0).trans (show _ = some _ from rfl); have d1 := (blk_cell hS1 1).trans (show _ = some _ from rfl); have d2 := (blk_cell hS1 2).trans (show _ = some _ from rfl); have d3 := (blk_cell hS1 3).trans (show _ = some _ from rfl); have d4 := (blk_cell hS1 4).trans (show _ = some _ from rfl); have d5 := (blk_cell hS1 5).trans (show _ = some _ from rfl); have d6 := (blk_cell hS1 6).trans (show _ = some _ from rfl); clear hS1 hS2 HR HG HO B4 B5 c0 c1 c2 c3 c4 c5 c6 f5 f6)
  (try simp only [Exit.inBlock, Exit.then])
  refine bodyPost_ret (v := nodeV (mkN p d m 1)) Z44 rfl ?_
  exact .ok HG7.out (by rw [HSP8.out, HM.out]; show (do let (d, a4) ← fileR (pb s) a3; _) = _; rw [HE8.out]; rfl) HR7.out HA8.out
 have zk : ((k : Int) != 0) = true := by simpa using (Z3 : ¬ (k : Int) = 0)
 by_cases hkl : l.length < k
 ·
  have HE5 : Aside0 (nodeR (pb s) l at_ = .error 5) := ⟨by rw [HSP8.out, if_pos hk0, if_pos (.inl hkl)]⟩
  have gA : decide (l.length < k) = true := decide_eq_true hkl
  clear hk0 hkl
  go_wp2_with fail
  refine (refuse_c w8).mono ?_
  rintro e w7 ⟨rfl, rfl⟩
  unfold brk
  go_wp2
  exact ⟨rfl, .err HG.out HE5.out⟩
 have gA : decide (l.length < k) = false := decide_eq_false hkl
 obtain ⟨j, hj⟩ : ∃ j, j = k - 1 := ⟨_, rfl⟩
 have hw1 : IntKind.i64.wrap ((k : Int) - 1) = (j : Int) := by rw [i64_w, w64 (by have := HKB.out; omega) (by have := HKB.out; omega)]; omega
 have hjl : j < l.length := by omega
 obtain ⟨ad, ea, x0, x1, x2, x3, x4, x5, x6⟩ := at_T38 (Kd.R_reads' HO.out).2.2 (j : Int) Z3 Z3
 cases ea
 simp only [Int.toNat_natCast] at x0 x1 x2 x3 x4 x5 x6
 have p1 : (0 ≤ (j : Int)) = True := eq_true Z3
 have q1 : ((j : Int) < (l.length : Int)) = True := eq_true Z3
 have HJ := Aside0.mk (And.intro hj (And.intro hjl hk0))
 have HKL := Aside0.mk hkl
 clear hj hjl hk0 hkl
 by_cases h1 : (rdn l j).f1.f2 = 1
 rotate_left
 ·
  have HE5 : Aside0 (nodeR (pb s) l at_ = .error 5) := ⟨by rw [HSP8.out, if_pos HJ.out.2.2, if_pos (.inr (.inl (by rw [← HJ.out.1]; exact h1)))]⟩
  have gB : ((rdn l j).f1.f2 != 1) = true := by simpa using h1
  clear h1
  go_wp2_with fail
  refine (refuse_c w8).mono ?_
  rintro e w7 ⟨rfl, rfl⟩
  unfold brk
  go_wp2
  exact ⟨rfl, .err HG.out HE5.out⟩
 have gB : ((rdn l j).f1.f2 != 1) = false := by simpa using h1
 by_cases h2 : (rdn l j).f1.f0 = (k : Int)
 rotate_left
 ·
  have HE5 : Aside0 (nodeR (pb s) l at_ = .error 5) := ⟨by rw [HSP8.out, if_pos HJ.out.2.2, if_pos (.inr (.inr (by rw [← HJ.out.1]; exact h2)))]⟩
  have gC : ((rdn l j).f1.f0 != (k : Int)) = true := by simpa using h2
  clear h1 h2
  go_wp2_with fail
  refine (refuse_c w8).mono ?_
  rintro e w7 ⟨rfl, rfl⟩
  unfold brk
  go_wp2
  exact ⟨rfl, .err HG.out HE5.out⟩
 have gC : ((rdn l j).f1.f0 != (k : Int)) = false := by simpa using h2
 have HSP9 : Aside0 (nodeR (pb s) l at_ = .ok (mkN p (pb (rdn l j).f2) k 1, a3)) := ⟨by rw [HSP8.out, if_pos HJ.out.2.2, if_neg (by rw [← HJ.out.1]; have := HKL.out; exact fun e => by rcases e with e | e | e; exact this e; exact e h1; exact e h2), ← HJ.out.1]⟩
 clear h1 h2
 have c0 : w8.cell? ⟨g5, 0, none⟩ = some (.string ⟨p.toArray⟩) := (blk_cell B5.out 0).trans rfl
 have c1 : w8.cell? ⟨g5, 1, none⟩ = some (.int .i64 (m : Int)) := (blk_cell B5.out 1).trans rfl
 have c2 : w8.cell? ⟨g5, 2, none⟩ = some (.int .i64 0) := (blk_cell B5.out 2).trans rfl
 have c3 : w8.cell? ⟨g5, 3, none⟩ = some (.int .i64 1) := (blk_cell B5.out 3).trans rfl
 have c4 : w8.cell? ⟨g5, 4, none⟩ = some (.int .i64 0) := (blk_cell B5.out 4).trans rfl
 have c5 : w8.cell? ⟨g5, 5, none⟩ = some (.int .i64 0) := (blk_cell B5.out 5).trans rfl
 have c6 : w8.cell? ⟨g5, 6, none⟩ = some (.string ⟨#[]⟩) := (blk_cell B5.out 6).trans rfl
 have f5 := blk_frozen B5.out 5
 have f6 := blk_frozen B5.out 6
 have f1 := blk_frozen B5.out 1
 go_wp2_with fail
 have hA : (ad.add (j * 7)).block ≠ g5 := x6ne HO.out x0
 refine start_ (n := 12) (S := fun w' => w'.cell? ⟨(ad.add (j * 7)).block, (ad.add (j * 7)).off + 6, none⟩ = some (.string (rdn l j).f2)) (ds := [11]) #[false, false, false, false, false, false, false, false, false, false, false, false] Z13 rfl rfl x6 (fun hHeld => ?_)
 have HR9 := Aside0.mk (HR.out.below (below_drew (Below.refl _ _)))
 have HG9 := Aside0.mk (HG.out.trans (grown_of_below (below_drew (Below.refl _ _)) (some r)))
 have B59 := Aside0.mk (blk_below B5.out (below_drew (Below.refl _ _)))
 have B49 := Aside0.mk (blk_below B4.out (below_drew (Below.refl _ _)))
 clear HR HG B5 B4 HO x0 x1 x2 x3 x4 x5 x6 c0 c1 c2 c3 c4 c5 c6 f5 f6 f1
 generalize w8.drew = w9 at HR9 HG9 B59 B49 hHeld ⊢
 have c1 : w9.cell? ⟨g5, 1, none⟩ = some (.int .i64 (m : Int)) := (blk_cell B59.out 1).trans rfl
 have f1 := blk_frozen B59.out 1
 refine pk 0 59 (bl 12 1) ?_
 refine pk 1 60 (bl 12 3) ?_
 refine pk 2 61 (bl 12 7) ?_
 refine pk 3 62 (bl 12 15) ?_
 refine pk 4 63 (bl 12 31) ?_
 refine pk 5 64 (bl 12 63) ?_
 refine pk 7 66 (bl 12 191) ?_
 refine pk 8 67 (bl 12 447) ?_
 refine take_ (i := 6) (N := some 65) (v := ?_) (a' := ?_) (bl 12 511) rfl rfl Z13 (fun _ _ _ h => h) (Or.inl ⟨by rfl, ?_⟩) hHeld ?_ ?_
 rotate_left; · rintro w' hx6; go_simp; with_reducible rfl
 rotate_left; · simp only [Act.put, List.setIfInBounds_toArray, List.set_cons_zero, List.set_cons_succ, i64_w, i32_w]; rfl
 refine one_ (i := 9) (N := none) (bl 12 1023) rfl rfl Z13 Z11 (fun K hK => ?_)
 refine skip_ (by rfl) rfl (by go_simp; rfl) ?_
 refine hK.out _ _ ((cell_other (a := ⟨(ad.add (j * 7)).block, (ad.add (j * 7)).off + 6, none⟩) _ hA).trans hHeld) (fun hHeld => ?_)
 have HR10 := Aside0.mk (blk_grown HR9.out (Lib.grownBy_setCell w9 g5 1 (.int .i64 (k : Int))) (fun e => by injection e with e; have := G5.out; have := HRL.out; omega))
 have HG10 := Aside0.mk (grown_new HG9.out (Lib.grownBy_setCell w9 g5 1 (.int .i64 (k : Int))) G5.out.1)
 have B510 := Aside0.mk (blk_put B59.out 1 (.int .i64 (k : Int)) rfl)
 have B410 := Aside0.mk (blk_grown B49.out (Lib.grownBy_setCell w9 g5 1 (.int .i64 (k : Int))) (fun e => by injection e with e; have := G5.out; omega))
 clear hK K HR9 HG9 B59 B49 c1 f1
 generalize w9.setCell ⟨g5, 1, none⟩ (.int .i64 (k : Int)) = w10 at HR10 HG10 B510 B410 hHeld ⊢
 have c6 : w10.cell? ⟨g5, 6, none⟩ = some (.string ⟨#[]⟩) := (blk_cell B510.out 6).trans rfl
 have f6 := blk_frozen B510.out 6
 refine pk 10 68 (bl 12 2047) ?_
 refine last_ (i := 11) (N := none) (bl 12 4095) rfl rfl Z13 Z11 (fun K hK => ?_)
 refine skip_ (by rfl) rfl (by go_simp; rfl) ?_
 refine hK.out _ _ ?_
 clear hK K
 have HR11 := Aside0.mk (blk_grown HR10.out (Lib.grownBy_setCell w10 g5 6 (.string (rdn l j).f2)) (fun e => by injection e with e; have := G5.out; have := HRL.out; omega))
 have HG11 := Aside0.mk (grown_new HG10.out (Lib.grownBy_setCell w10 g5 6 (.string (rdn l j).f2)) G5.out.1)
 have B511 := Aside0.mk (blk_put B510.out 6 (.string (rdn l j).f2) rfl)
 have B411 := Aside0.mk (blk_grown B410.out (Lib.grownBy_setCell w10 g5 6 (.string (rdn l j).f2)) (fun e => by injection e with e; have := G5.out; omega))
 clear HR10 HG10 B510 B410 c6 f6 hHeld
 generalize w10.setCell ⟨g5, 6, none⟩ (.string (rdn l j).f2) = w11 at HR11 HG11 B511 B411 ⊢
 refine done_ Z13 ?_
 have HR := HR11
 have HG := HG11
 have B5 := B511
 have B4 := B411
 have c0 : w11.cell? ⟨g5, 0, none⟩ = some (.string ⟨p.toArray⟩) := (blk_cell B5.out 0).trans rfl
 have c1 : w11.cell? ⟨g5, 1, none⟩ = some (.int .i64 (k : Int)) := (blk_cell B5.out 1).trans rfl
 have c2 : w11.cell? ⟨g5, 2, none⟩ = some (.int .i64 0) := (blk_cell B5.out 2).trans rfl
 have c3 : w11.cell? ⟨g5, 3, none⟩ = some (.int .i64 1) := (blk_cell B5.out 3).trans rfl
 have c4 : w11.cell? ⟨g5, 4, none⟩ = some (.int .i64 0) := (blk_cell B5.out 4).trans rfl
 have c5 : w11.cell? ⟨g5, 5, none⟩ = some (.int .i64 0) := (blk_cell B5.out 5).trans rfl
 have c6 : w11.cell? ⟨g5, 6, none⟩ = some (.string (rdn l j).f2) := (blk_cell B5.out 6).trans rfl
 have f5 := blk_frozen B5.out 5
 clear HR11 HG11 B511 B411
 go_wp2_with ((with_reducible refine gate_store (t := 38) rfl ?_); refine store_node' rfl rfl _ _ rfl g4 _ (⟨⟨p.toArray⟩, ⟨(k : Int), 0, 1, 0, ((rdn l j).f2.size : Int)⟩, (rdn l j).f2⟩ : S38) (blk_grown B4.out (Lib.grownBy_setCell _ g5 5 _) (fun e => by injection e with e; have := G5.out; omega)) rfl rfl rfl ?_; intro w7 hS1 hS2; have HR7 := Aside0.mk (blk_grown (blk_grown HR.out (Lib.grownBy_setCell _ g5 5 _) (fun e => by injection e with e; have := G5.out; have := HRL.out; omega)) hS2 (fun e => by injection e with e; have := G4.out; have := HRL.out; omega)); have HG7 := Aside0.mk (grown_new (grown_new HG.out (Lib.grownBy_setCell _ g5 5 _) G5.out.1) hS2 G4.out); have d0 := (blk_cell hS1 0).trans (show _ = some _ from rfl); have d1 := (blk_cell hS1 1).trans (show _ = some _ from rfl); have d2 := (blk_cell hS1 2).trans (show _ = some _ from rfl); have d3 := (blk_cell hS1 3).trans (show _ = some _ from rfl); have d4 := (blk_cell hS1 4).trans (show _ = some _ from rfl); have d5 := (blk_cell hS1 5).trans (show _ = some _ from rfl); have d6 := (blk_cell hS1 6).trans (show _ = some _ from rfl); clear hS1 hS2 HR HG B4 B5 c0 c1 c2 c3 c4 c5 c6 f5)
 have hmk : mkN p (pb (rdn l j).f2) k 1 = ⟨⟨p.toArray⟩, ⟨(k : Int), 0, 1, 0, ((rdn l j).f2.size : Int)⟩, (rdn l j).f2⟩ := by unfold mkN; rw [pb_len]; rfl
 rw [hmk] at HSP9
 (try simp only [Exit.inBlock, Exit.then])
 refine bodyPost_ret (v := nodeV (⟨⟨p.toArray⟩, ⟨(k : Int), 0, 1, 0, ((rdn l j).f2.size : Int)⟩, (rdn l j).f2⟩)) Z44 rfl ?_
 exact .ok HG7.out (by exact HSP9.out) HR7.out HA8.out
theorem rgave_nil (w : World) : Calls Tryz.prog 60 #[.nilIface] w fun e w' => e = .returned (.int .i64 0) ∧ w' = w := by
 go_enter Tryz.func60, Tryz.ntmps60
 go_wp2
 go_ret
 exact ⟨rfl, rfl⟩
theorem assert_brk (v : Value) (xT : TypeId) (w : World) : (Instr.typeAssert (.iface 94 v) xT 94 true).run Tryz.prog w = .ok (.tuple #[v, .bool true]) w := by
 have hu := Tryz.underlying94
 simp [Instr.typeAssert, run_underlying hu]
set_option maxRecDepth 100000 in
theorem rgave_brk (x : Int) (w : World) : Calls Tryz.prog 60 #[.iface 94 (.agg #[.int .i64 x])] w fun e w' => e = .returned (.int .i64 x) ∧ Below w.heap.size w w' := by
 have hta := assert_brk (.agg #[.int .i64 x]) 20 w
 go_enter Tryz.func60, Tryz.ntmps60
 go_wp2
 go_ret
 exact ⟨rfl, below_alloc (Below.refl _ _) _⟩
theorem read_idle (p q : Addr) (w : World) :
  CallsD Tryz.prog 59 #[.pointer (some p), .pointer (some q)] .returning w fun e u' w' => e = .returned (.tuple #[]) ∧ u' = .returning ∧ w' = w := by
 refine callsD_of_wpS Tryz.func59 rfl fun c₀ cs hu => ?_
 apply wpS_seq
 apply wpS_region
 simp [wpOpsS, go_sem, recoverD, hu, Tryz.ntmps59, Exit.thenS]
 refine (rgave_nil w).mono ?_
 rintro e w' ⟨rfl, rfl⟩
 simp [wpOpsS, go_sem, recoverD, hu, Tryz.ntmps59, Exit.thenS]
 apply wpS_seq
 apply wpS_region
 simp [wpOpsS, go_sem, recoverD, hu, Tryz.ntmps59, Exit.thenS]
 refine wpS_cond (t := false) (by simp [Act.eval, Array.replicate]) ?_
 simp only [Bool.false_eq_true, if_false]
 refine wpS_of_wp (wp_skip ?_)
 cases c₀
 simp_all [bodyPostS, results]
theorem read_catch (gp gq : Nat) (vl : Value) (y x : Int) (hx : x ≠ 0) (w : World) (hp : w.heap[gp]? = some (.cells #[vl] 22 (0, 0))) (hq : w.heap[gq]? = some (.cells #[.int .i64 y] 24 (0, 0))) (hne : gp ≠ gq) :
  CallsD Tryz.prog 59 #[.pointer (some ⟨gp, 0, none⟩), .pointer (some ⟨gq, 0, none⟩)] (.panicking [{ v := .iface 94 (.agg #[.int .i64 x]), recovered := false }]) w fun e u' w' =>
   e = .returned (.tuple #[]) ∧ u' = .panicking [{ v := .iface 94 (.agg #[.int .i64 x]), recovered := true }] ∧ (∃ w1, Below w.heap.size w w1 ∧ w' = (w1.setCell ⟨gp, 0, none⟩ (.slice none 0 0)).setCell ⟨gq, 0, none⟩ (.int .i64 x)) := by
 refine callsD_of_wpS Tryz.func59 rfl fun c₀ cs hu => ?_
 apply wpS_seq
 apply wpS_region
 simp [wpOpsS, go_sem, recoverD, hu, Tryz.ntmps59, Exit.thenS]
 refine (rgave_brk x w).mono ?_
 rintro e w1 ⟨rfl, hb⟩
 have P1 := blk_below hp hb
 have Q1 := blk_below hq hb
 have cp := (blk_cell P1 0).trans (show (#[vl] : Array Value)[0]? = some vl from rfl)
 have cq : w1.cell? ⟨gq, 0, none⟩ = some (.int .i64 y) := (blk_cell Q1 0).trans rfl
 have fp := blk_frozen P1 0
 have fq := blk_frozen Q1 0
 simp [wpOpsS, go_sem, recoverD, hu, Tryz.ntmps59, Exit.thenS]
 apply wpS_seq
 apply wpS_region
 simp [wpOpsS, go_sem, recoverD, hu, Tryz.ntmps59, Exit.thenS]
 refine wpS_cond (t := true) (by simp [Act.eval, Array.replicate, hx]) ?_
 simp only [if_true]
 apply wpS_region
 simp [wpOpsS, go_sem, cp, cq, fp, fq, hne, bodyPostS, results]
 exact ⟨w1, hb, rfl⟩
def loopN (s : List UInt8) : Nat → List S38 → Nat → Nat → Except Int (List S38 × Nat)
 | 0, l, _, a => .ok (l, a)
 | m + 1, l, z, a => do
  let (x, a1) ← nodeR s l a
  if 8388608 < z + x.f2.size then .error 4 else loopN s m (l ++ [x]) (z + x.f2.size) a1
def readR (s : List UInt8) : Except Int (List S38) := do
 let (h, a0) ← bytesR s 0 4
 if h ≠ [65, 82, 67, 72] then .error 5 else do
  let (n, a1) ← getR s a0 4
  let (l, a2) ← loopN s n [] 0 a1
  if a2 ≠ s.length then .error 5 else .ok l
theorem textR_size {s p : List UInt8} {at_ a : Nat} (h : textR s at_ = .ok (p, a)) : p.length < 256 := by
 unfold textR at h
 cases hg : getR s at_ 1 with
 | error x => rw [hg] at h; cases h
 | ok q =>
  obtain ⟨n, b⟩ := q
  rw [hg] at h
  have h1 := (getR_ok hg).1
  have h2 := (bytesR_ok (show bytesR s b n = .ok (p, a) from h)).1
  omega
theorem loopF_size {s : List UInt8} {size : Nat} : ∀ {m lo : Nat} {b p : List UInt8} {at_ a : Nat}, b.length = size → loopF s size m lo b at_ = .ok (p, a) → p.length = size
 | 0, lo, b, p, at_, a, hb, h => by
  injection h with h
  injection h with h1 h2
  rw [← h1, hb]
 | m + 1, lo, b, p, at_, a, hb, h => by
  rw [loopF] at h
  cases hg : getR s at_ 4 with
  | error x => rw [hg] at h; cases h
  | ok q =>
   obtain ⟨i, b1⟩ := q
   rw [hg] at h
   replace h : (if i < lo ∨ size ≤ 448 * i then .error 5 else do
    let (p, a2) ← bytesR s b1 (min 448 (size - 448 * i))
    if blankL p then .error 5 else loopF s size m (i + 1) (laidB b (448 * i) p) a2) = .ok (p, a) := h
   split at h
   ·
    cases h
   ·
    rename_i hc
    cases hg2 : bytesR s b1 (min 448 (size - 448 * i)) with
    | error x => rw [hg2] at h; cases h
    | ok q =>
     obtain ⟨t, b2⟩ := q
     rw [hg2] at h
     replace h : (if blankL t then .error 5 else loopF s size m (i + 1) (laidB b (448 * i) t) b2) = .ok (p, a) := h
     split at h
     ·
      cases h
     ·
      refine loopF_size ?_ h
      have := (bytesR_ok hg2).1
      rw [laidB_length Z3, hb]
theorem fileR_size {s p : List UInt8} {at_ a : Nat} (h : fileR s at_ = .ok (p, a)) : p.length ≤ 5675264 := by
 unfold fileR at h
 cases hg : getR s at_ 6 with
 | error x => rw [hg] at h; cases h
 | ok q =>
  obtain ⟨size, b1⟩ := q
  rw [hg] at h
  replace h : (do let (n, a2) ← getR s b1 4; if 5675264 < size then .error 5 else loopF s size n 0 (List.replicate size 0) a2) = .ok (p, a) := h
  cases hg2 : getR s b1 4 with
  | error x => rw [hg2] at h; cases h
  | ok q =>
   obtain ⟨n, b2⟩ := q
   rw [hg2] at h
   replace h : (if 5675264 < size then .error 5 else loopF s size n 0 (List.replicate size 0) b2) = .ok (p, a) := h
   split at h
   ·
    cases h
   ·
    have := loopF_size Z23 h
    omega
theorem mkN_size (p d : List UInt8) (i k : Nat) : (mkN p d i k).f2.size = d.length := by
 show d.toArray.size = _
 simp
theorem nodeR_size {s : List UInt8} {l : List S38} {at_ a : Nat} {x : S38} (h : nodeR s l at_ = .ok (x, a)) (hl : ∀ n ∈ l, n.f2.size ≤ 8388608) : x.f2.size ≤ 8388608 := by
 unfold nodeR at h
 cases hg : getR s at_ 1 with
 | error x => rw [hg] at h; cases h
 | ok q =>
  obtain ⟨kd, b1⟩ := q
  rw [hg] at h
  dsimp only [bind, Except.bind] at h
  cases hg2 : textR s b1 with
  | error x => rw [hg2] at h; cases h
  | ok q =>
   obtain ⟨p, b2⟩ := q
   rw [hg2] at h
   dsimp only at h
   split at h
   ·
    injection h with h
    injection h with h1 h2
    rw [← h1, mkN_size]
    decide
   ·
    split at h
    ·
     cases hg3 : textR s b2 with
     | error x => rw [hg3] at h; cases h
     | ok q =>
      rw [hg3] at h
      dsimp only at h
      injection h with h
      injection h with h1 h2
      rw [← h1, mkN_size]
      have := textR_size (p := q.1) (a := q.2) hg3
      omega
    ·
     split at h
     ·
      cases hg3 : getR s b2 4 with
      | error x => rw [hg3] at h; cases h
      | ok q =>
       obtain ⟨k, b3⟩ := q
       rw [hg3] at h
       dsimp only at h
       split at h
       ·
        split at h
        ·
         cases h
        ·
         rename_i hk hc
         injection h with h
         injection h with h1 h2
         rw [← h1, mkN_size, pb_len]
         exact hl _ (rdn_mem Z3)
       ·
        cases hg4 : fileR s b3 with
        | error x => rw [hg4] at h; cases h
        | ok q =>
         rw [hg4] at h
         dsimp only at h
         injection h with h
         injection h with h1 h2
         rw [← h1, mkN_size]
         have := fileR_size (p := q.1) (a := q.2) hg4
         omega
     ·
      cases h
def ReadRet (w : World) (res : Except Int (List S38)) (e : Ending) (w' : World) : Prop :=
 Below w.heap.size w w' ∧ match res with
  | .ok l => ∃ v, e = .returned (.tuple #[v, .int .i64 0]) ∧ Kd.R k38 38 w' w.heap.size (fun _ => True) v l
  | .error x => x ≠ 0 ∧ e = .returned (.tuple #[.slice none 0 0, .int .i64 x])
def RdFr (w wx : World) (l : List S38) : Prop :=
 Below w.heap.size w wx ∧ wx.heap[w.heap.size + 1]? = some (.cells #[.int .i64 0] 24 (0, 0)) ∧
  ∃ v, wx.heap[w.heap.size]? = some (.cells #[v] 22 (0, 0)) ∧ Kd.R k38 38 wx w.heap.size (fun _ => True) v l
def frD (n : Nat) : List Deferred := [{ target := .fn (.func 59) #[.pointer (some ⟨n, 0, none⟩), .pointer (some ⟨n + 1, 0, none⟩)], args := #[] }]
theorem read_err {w wx : World} {l : List S38} (h : RdFr w wx l) {x : Int} (hx : x ≠ 0) {tmps : Array Value} (h2 : tmps.getD 2 undef = .pointer (some ⟨w.heap.size, 0, none⟩)) (h3 : tmps.getD 3 undef = .pointer (some ⟨w.heap.size + 1, 0, none⟩))
  {res : Except Int (List S38)} (hr : res = .error x) :
  Leaves Tryz.prog Tryz.f34 tmps (fun e w' => ReadRet w res e w') (frD w.heap.size) (.panicking [{ v := .iface 94 (.agg #[.int .i64 x]), recovered := false }]) wx := by
 obtain ⟨hb, hq, v, hp, _⟩ := h
 refine leaves_cons (f := 59) (args := #[.pointer (some ⟨w.heap.size, 0, none⟩), .pointer (some ⟨w.heap.size + 1, 0, none⟩)]) Z23 (by simp [go_sem]) ?_
 refine (read_catch w.heap.size (w.heap.size + 1) v 0 x hx wx hp hq Z3).mono ?_
 rintro e u' w' ⟨rfl, rfl, w1, hb1, rfl⟩
 have P1 := blk_put (blk_below hp hb1) 0 (.slice none 0 0) rfl
 have Q1 := blk_put (blk_grown (blk_below hq hb1) (Lib.grownBy_setCell w1 w.heap.size 0 (.slice none 0 0)) (fun e => by injection e with e; omega)) 0 (.int .i64 x) rfl
 have P2 := blk_grown P1 (Lib.grownBy_setCell (w1.setCell ⟨w.heap.size, 0, none⟩ (.slice none 0 0)) (w.heap.size + 1) 0 (.int .i64 x)) (fun e => by injection e with e; omega)
 have cp := (blk_cell P2 0).trans (show _ = some (Value.slice none 0 0) from rfl)
 have cq := (blk_cell Q1 0).trans (show _ = some (Value.int .i64 x) from rfl)
 have hB := ((below_then hb hb.size hb1).setCell (p := ⟨w.heap.size, 0, none⟩) (Nat.le_refl _) (.slice none 0 0)).setCell (p := ⟨w.heap.size + 1, 0, none⟩) (Nat.le_succ _) (.int .i64 x)
 subst hr
 rw [Array.getD_eq_getD_getElem?] at h2 h3
 simp [Leaves, settle, results, Tryz.results34, go_sem, cp, cq, h2, h3]
 exact ⟨hB, hx, rfl⟩
def NZ {α : Type} (r : Except Int α) : Prop := ∀ x, r = .error x → x ≠ 0
theorem NZ.bind {α β : Type} {r : Except Int α} {f : α → Except Int β} (h : NZ r) (k : ∀ v, NZ (f v)) : NZ (r >>= f) := by
 cases r with
 | error x =>
  intro y e
  have e' : (Except.error x : Except Int β) = .error y := e
  injection e' with e'
  exact e' ▸ h x rfl
 | ok v => exact k v
theorem NZ.ok {α : Type} (v : α) : NZ (.ok v : Except Int α) := fun _ e => by cases e
theorem NZ.err {α : Type} {x : Int} (h : x ≠ 0) : NZ (.error x : Except Int α) := fun _ e => by injection e with e; rw [← e]; exact h
theorem NZ.ite {α : Type} {c : Prop} [Decidable c] {a b : Except Int α} (h : NZ a) (k : NZ b) : NZ (if c then a else b) := by
 split <;> assumption
theorem nz_get (s : List UInt8) (a wd : Nat) : NZ (getR s a wd) := NZ.ite (NZ.ok _) (NZ.err Z11)
theorem nz_bytes (s : List UInt8) (a n : Nat) : NZ (bytesR s a n) := NZ.ite (NZ.ok _) (NZ.err Z11)
theorem nz_text (s : List UInt8) (a : Nat) : NZ (textR s a) := NZ.bind (nz_get _ _ _) (fun _ => nz_bytes _ _ _)
theorem nz_loop (s : List UInt8) (z : Nat) : ∀ (m lo : Nat) (b : List UInt8) (a : Nat), NZ (loopF s z m lo b a)
 | 0, _, _, _ => NZ.ok _
 | m + 1, lo, b, a => by
  rw [loopF]
  exact NZ.bind (nz_get _ _ _) (fun _ => NZ.ite (NZ.err Z11) (NZ.bind (nz_bytes _ _ _) (fun _ => NZ.ite (NZ.err Z11) (nz_loop s z m _ _ _))))
theorem nz_file (s : List UInt8) (a : Nat) : NZ (fileR s a) := NZ.bind (nz_get _ _ _) (fun _ => NZ.bind (nz_get _ _ _) (fun _ => NZ.ite (NZ.err Z11) (nz_loop _ _ _ _ _ _)))
theorem nz_node (s : List UInt8) (l : List S38) (a : Nat) : NZ (nodeR s l a) :=
 NZ.bind (nz_get _ _ _) (fun _ => NZ.bind (nz_text _ _) (fun _ => NZ.ite (NZ.ok _) (NZ.ite (NZ.bind (nz_text _ _) (fun _ => NZ.ok _)) (NZ.ite (NZ.bind (nz_get _ _ _) (fun _ => NZ.ite (NZ.ite (NZ.err Z11) (NZ.ok _)) (NZ.bind (nz_file _ _) (fun _ => NZ.ok _)))) (NZ.err Z11)))))
theorem read_ok {w wx : World} {l : List S38} (h : RdFr w wx l) {tmps : Array Value} (h2 : tmps.getD 2 undef = .pointer (some ⟨w.heap.size, 0, none⟩)) (h3 : tmps.getD 3 undef = .pointer (some ⟨w.heap.size + 1, 0, none⟩))
  {res : Except Int (List S38)} (hr : res = .ok l) :
  Leaves Tryz.prog Tryz.f34 tmps (fun e w' => ReadRet w res e w') (frD w.heap.size) .returning wx := by
 obtain ⟨hb, hq, v, hp, hO⟩ := h
 refine leaves_cons (f := 59) (args := #[.pointer (some ⟨w.heap.size, 0, none⟩), .pointer (some ⟨w.heap.size + 1, 0, none⟩)]) Z23 (by simp [go_sem]) ?_
 refine (read_idle ⟨w.heap.size, 0, none⟩ ⟨w.heap.size + 1, 0, none⟩ wx).mono ?_
 rintro e u' w' ⟨rfl, rfl, rfl⟩
 have cp := (blk_cell hp 0).trans (show _ = some v from rfl)
 have cq := (blk_cell hq 0).trans (show _ = some (Value.int .i64 0) from rfl)
 subst hr
 rw [Array.getD_eq_getD_getElem?] at h2 h3
 simp [Leaves, settle, results, Tryz.results34, go_sem, cp, cq, h2, h3]
 exact ⟨hb, v, rfl, hO⟩
theorem RdFr.keep {w wx w' : World} {l : List S38} {s : ByteArray} {a : Nat} (h : RdFr w wx l) (hr : Rd wx (w.heap.size + 1 + 1) s a) (hg : wx.grownBy w' (some (w.heap.size + 1 + 1))) : RdFr w w' l := by
 obtain ⟨hb, hq, v, hp, hO⟩ := h
 exact ⟨hb.grown hg hb.size (fun q hq => by injection hq with hq; omega), blk_grown hq hg (fun e => by injection e with e; omega), v, blk_grown hp hg (fun e => by injection e with e; omega), row_keep hO hr hg⟩
set_option maxHeartbeats 4000000 in
set_option maxRecDepth 100000 in
theorem read_c (s : ByteArray) (w : World) (hs : s.size < 1000000000000) :
  Calls Tryz.prog 34 #[.string s] w fun e w' => ReadRet w (readR (pb s)) e w' := by
 have hu46 := Tryz.underlying38
 have hu44 := Tryz.underlying36
 have hmf : ∀ (fn : Fn) (first cap : Array Value) (w : World), (Instr.makeFunc fn first cap).run Tryz.prog w = .ok (.func fn first cap) w := fun _ _ _ _ => rfl
 have HF := Aside0.mk hs
 clear hs
 go_enter_defers Tryz.func34, Tryz.ntmps34
 go_wp2_with fail
 clear hmf
 have HFR : Aside0 (RdFr w (((w.alloc (.cells #[.slice none 0 0] 22 (0, 0))).alloc (.cells #[.int .i64 0] 24 (0, 0))).alloc (.cells #[.string s, .int .i64 0] 92 (0, 0))) []) := ⟨by
  have b1 := below_alloc (Below.refl w.heap.size w) (.cells #[.slice none 0 0] 22 (0, 0))
  have b2 := below_alloc b1 (.cells #[.int .i64 0] 24 (0, 0))
  have p1 := blk_new w (.cells #[.slice none 0 0] 22 (0, 0))
  have q1 := blk_new (w.alloc (.cells #[.slice none 0 0] 22 (0, 0))) (.cells #[.int .i64 0] 24 (0, 0))
  rw [alloc_sz] at q1
  exact ⟨below_alloc b2 _, blk_below q1 (below_alloc (Below.refl _ _) _), _, blk_below (blk_below p1 (below_alloc (Below.refl _ _) _)) (below_alloc (Below.refl _ _) _), Kd.R_nil _ _ _ _ _⟩⟩
 have HR : Aside0 (Rd (((w.alloc (.cells #[.slice none 0 0] 22 (0, 0))).alloc (.cells #[.int .i64 0] 24 (0, 0))).alloc (.cells #[.string s, .int .i64 0] 92 (0, 0))) (w.heap.size + 1 + 1) s 0) := ⟨by
  have := blk_new ((w.alloc (.cells #[.slice none 0 0] 22 (0, 0))).alloc (.cells #[.int .i64 0] 24 (0, 0))) (.cells #[.string s, .int .i64 0] 92 (0, 0))
  rw [alloc_sz, alloc_sz] at this
  exact this⟩
 generalize ((w.alloc (.cells #[.slice none 0 0] 22 (0, 0))).alloc (.cells #[.int .i64 0] 24 (0, 0))).alloc (.cells #[.string s, .int .i64 0] 92 (0, 0)) = w0 at HFR HR ⊢
 refine (rbytes_c (w.heap.size + 1 + 1) s 0 4 w0 _ rfl HR.out (Nat.zero_le _) HF.out).mono ?_
 intro e w1 hq
 rcases hq.cases with ⟨x, hgr, rfl, hg⟩ | ⟨h4, a0, hgr, rfl, hr1, ha1, hg⟩
 ·
  unfold brk
  go_wp2
  exact read_err (HFR.out.keep HR.out hg) (nz_bytes _ _ _ _ hgr) rfl rfl (by unfold readR; rw [hgr]; rfl)
 have HFR1 := Aside0.mk (HFR.out.keep HR.out hg)
 have HR1 := Aside0.mk hr1
 have HA1 := Aside0.mk ha1
 have HE1 := Aside0.mk hgr
 clear hq hgr hr1 ha1 hg HFR HR
 unfold strV
 by_cases hh : h4 = [65, 82, 67, 72]
 rotate_left
 ·
  have hn : (h4 == [65, 82, 67, 72]) = false := by simpa using hh
  have HE : Aside0 (readR (pb s) = .error 5) := ⟨by unfold readR; rw [HE1.out]; show (if h4 ≠ [65, 82, 67, 72] then _ else _) = _; rw [if_pos hh]⟩
  clear hh
  go_wp2_with fail
  refine (refuse_c w1).mono ?_
  rintro e w5 ⟨rfl, rfl⟩
  unfold brk
  go_wp2
  exact read_err HFR1.out Z11 rfl rfl HE.out
 subst hh
 go_wp2_with fail
 refine (rget_c (w.heap.size + 1 + 1) s a0 4 w1 _ rfl HR1.out HA1.out Z11 Z11 HF.out).mono ?_
 intro e w2 hq
 rcases hq.cases with ⟨x, hgr, rfl, hg⟩ | ⟨n, a1, hgr, rfl, hr1, ha1, hg⟩
 ·
  unfold brk
  go_wp2
  exact read_err (HFR1.out.keep HR1.out hg) (nz_get _ _ _ _ hgr) rfl rfl (by unfold readR; rw [HE1.out]; show (do let (n, a1) ← getR (pb s) a0 4; _) = _; rw [hgr]; rfl)
 have HFR := Aside0.mk (HFR1.out.keep HR1.out hg)
 have HR := Aside0.mk hr1
 have HA := Aside0.mk ha1
 have HN : Aside0 (n < 4294967296) := ⟨(getR_ok hgr).1⟩
 have HE : Aside0 (readR (pb s) = (do let (l, a2) ← loopN (pb s) n [] 0 a1; if a2 ≠ (pb s).length then .error 5 else .ok l)) := ⟨by unfold readR; rw [HE1.out]; show (do let (n, a1) ← getR (pb s) a0 4; _) = _; rw [hgr]; rfl⟩
 clear hq hgr hr1 ha1 hg HFR1 HR1 HA1 HE1
 unfold natV
 go_wp2_with fail
 go_loopw [6, 19] (fun v6 v19 wr => ∃ (k z a : Nat) (l : List S38), k ≤ n ∧ v6 = .int .i64 z ∧ v19 = .int .i64 k ∧ Aside0 (z ≤ 8388608 ∧ l.length = k ∧ (∀ x ∈ l, x.f2.size ≤ 8388608) ∧ a ≤ s.size ∧ readR (pb s) = (do let (l, a2) ← loopN (pb s) (n - k) l z a; if a2 ≠ (pb s).length then .error 5 else .ok l)) ∧ Aside0 (Rd wr (w.heap.size + 1 + 1) s a) ∧ Aside0 (RdFr w wr l)) (fun _ i _ => n - (intOf i).toNat)
 case atStart => exact ⟨0, 0, a1, [], Z3, rfl, rfl, ⟨Z3, rfl, (fun x hx => by cases hx), HA.out, by simpa using HE.out⟩, HR, HFR⟩
 case round =>
  clear HR HFR HE HA
  obtain ⟨k, z, a, l, hk, rfl, rfl, HS, HR, HFR⟩ := hrel
  obtain ⟨hB, hQ, v, hP, hO⟩ := HFR.out
  obtain ⟨A, c, rfl⟩ := Kd.R_slice hO
  have HB := Aside0.mk hB
  have HQ := Aside0.mk hQ
  have HP := Aside0.mk hP
  have HO := Aside0.mk hO
  clear hB hQ hP hO
  by_cases hlt : k < n
  ·
   have hdec : decide (k < n) = true := decide_eq_true hlt
   have HK := Aside0.mk (show k < n ∧ l.length < 4294967296 by have := HN.out; have := HS.out.2.1; omega)
   have HSP : Aside0 (readR (pb s) = (do let (l, a2) ← loopN (pb s) ((n - (k + 1)) + 1) l z a; if a2 ≠ (pb s).length then .error 5 else .ok l)) := ⟨by rw [HS.out.2.2.2.2, show n - k = (n - (k + 1)) + 1 by omega]⟩
   clear hlt hk
   have cp : wr.cell? ⟨w.heap.size, 0, none⟩ = some (.slice A l.length c) := (blk_cell HP.out 0).trans rfl
   go_wp2_with fail
   refine (rnode_c (w.heap.size + 1 + 1) w.heap.size s l A c a wr HR.out HO.out HK.out.2 HS.out.2.2.2.1 HF.out).mono ?_
   intro e w4 hq
   rcases hq.cases with ⟨x, hgr, rfl, hg⟩ | ⟨x, a2, hgr, rfl, hr1, ha1, hg⟩
   ·
    unfold brk
    go_wp2
    exact read_err (HFR.out.keep HR.out hg) (nz_node _ _ _ _ hgr) rfl rfl (by rw [HSP.out, loopN, hgr]; rfl)
   obtain ⟨hB, hQ, v, hP, hO⟩ := HFR.out.keep HR.out hg
   have hP := blk_grown HP.out hg (fun e => by injection e with e; omega)
   have hO := row_keep HO.out HR.out hg
   have hxs := nodeR_size hgr HS.out.2.2.1
   have HSP4 : Aside0 (readR (pb s) = (do let (l, a2) ← (if 8388608 < z + x.f2.size then .error 4 else loopN (pb s) (n - (k + 1)) (l ++ [x]) (z + x.f2.size) a2); if a2 ≠ (pb s).length then .error 5 else .ok l)) := ⟨by rw [HSP.out, loopN, hgr]; rfl⟩
   have HR4 := Aside0.mk hr1
   have HA4 := Aside0.mk ha1
   have HX := Aside0.mk hxs
   have HB4 := Aside0.mk hB
   have HQ4 := Aside0.mk hQ
   have HP4 := Aside0.mk hP
   have HO4 := Aside0.mk hO
   clear hr1 ha1 hg hgr hq hxs hB hQ hP hO HSP HR HB HQ HP HO HFR cp
   have HR := HR4
   have HB := HB4
   have HQ := HQ4
   have HP := HP4
   have HO := HO4
   clear HR4 HB4 HQ4 HP4 HO4
   obtain ⟨z2, hz2⟩ : ∃ z2, z2 = z + x.f2.size := ⟨_, rfl⟩
   have hw1 : IntKind.i64.wrap ((z : Int) + (x.f2.size : Int)) = (z2 : Int) := by rw [i64_w, w64 (by have := HS.out; have := HX.out; omega) (by have := HS.out; have := HX.out; omega)]; omega
   rw [← hz2] at HSP4
   have HZ2 := Aside0.mk hz2
   clear hz2
   unfold nodeV
   by_cases hbig : 8388608 < z2
   ·
    have gb : decide ((8388608 : Int) < (z2 : Int)) = true := decide_eq_true Z3
    have HE : Aside0 (readR (pb s) = .error 4) := ⟨by rw [HSP4.out, if_pos hbig]; rfl⟩
    clear hbig
    go_wp2_with (first | ((with_reducible refine gate_dst (N := 7) rfl ?_); refine box_event ?hg (N := 7) ?hd (cs := #[.string (⟨#[]⟩ : ByteArray), .int .i64 0, .int .i64 0, .int .i64 0, .int .i64 0, .int .i64 0, .string (⟨#[]⟩ : ByteArray)]) (t := 38) ?hr ?_; (case hd => rfl); (case hg => rfl); (case hr => first | (go_simp; done) | (go_simp; rfl)); intro g7 hg w5 hbox hb; have n0_ := Aside0.mk (HR.out.below hb); have n1_ := Aside0.mk (below_then HB.out HB.out.size hb); have n2_ := Aside0.mk hbox; have n3_ := Aside0.mk ((by rw [hg]; exact ⟨HB.out.size, blk_lt HQ.out, blk_lt HR.out⟩) : w.heap.size ≤ g7 ∧ w.heap.size + 1 < g7 ∧ w.heap.size + 1 + 1 < g7); have n4_ := Aside0.mk (Kd.R_below (Kd.R_elderB HO.out g7 (Nat.le_of_eq hg.symm)) hb); have n5_ := Aside0.mk (blk_below HQ.out hb); have n6_ := Aside0.mk (blk_below HP.out hb); clear HR HB HO HQ HP; have HR := n0_; have HB := n1_; have B7 := n2_; have G7 := n3_; have HO := n4_; have HQ := n5_; have HP := n6_; clear n0_ n1_ n2_ n3_ n4_ n5_ n6_ hb hbox hg) | ((with_reducible refine gate_store (t := 38) rfl ?_); refine store_node' rfl rfl _ _ rfl g7 _ x B7.out rfl rfl rfl ?_; intro w6 hS1 hS2; have n0_ := Aside0.mk (blk_grown HR.out hS2 (fun e => by injection e with e; have := G7.out; omega)); have n1_ := Aside0.mk (HB.out.grown hS2 HB.out.size (fun q hq => by injection hq with hq; have := G7.out; omega)); have n2_ := Aside0.mk hS1; have n4_ := Aside0.mk (Kd.R_grown HO.out hS2 (fun k hk e => hk.2 (Option.some.inj e))); have n5_ := Aside0.mk (blk_grown HQ.out hS2 (fun e => by injection e with e; have := G7.out; omega)); have n6_ := Aside0.mk (blk_grown HP.out hS2 (fun e => by injection e with e; have := G7.out; omega)); clear HR HB HO HQ HP B7 hS1 hS2; have HR := n0_; have HB := n1_; have B7 := n2_; have HO := n4_; have HQ := n5_; have HP := n6_; clear n0_ n1_ n2_ n4_ n5_ n6_; have cp : w6.cell? ⟨w.heap.size, 0, none⟩ = some (.slice A l.length c) := (blk_cell HP.out 0).trans rfl; have c0 : w6.cell? ⟨g7, 0, none⟩ = some (.string x.f0) := (blk_cell B7.out 0).trans rfl; have c1 : w6.cell? ⟨g7, 1, none⟩ = some (.int .i64 x.f1.f0) := (blk_cell B7.out 1).trans rfl; have c2 : w6.cell? ⟨g7, 2, none⟩ = some (.int .i64 x.f1.f1) := (blk_cell B7.out 2).trans rfl; have c3 : w6.cell? ⟨g7, 3, none⟩ = some (.int .i64 x.f1.f2) := (blk_cell B7.out 3).trans rfl; have c4 : w6.cell? ⟨g7, 4, none⟩ = some (.int .i64 x.f1.f3) := (blk_cell B7.out 4).trans rfl; have c5 : w6.cell? ⟨g7, 5, none⟩ = some (.int .i64 x.f1.f4) := (blk_cell B7.out 5).trans rfl; have c6 : w6.cell? ⟨g7, 6, none⟩ = some (.string x.f2) := (blk_cell B7.out 6).trans rfl) | ((with_reducible refine gate_builtin (b := .append) (xs := #[.tmp 24, .tmp 26]) rfl ?_); at_builtin; go_must (refine Kd.R_append k38 (w0 := w) w.heap.size rfl (.tmp 24) (.tmp 26) 22 38 (.agg #[(.string ⟨#[]⟩), (.int .i64 0), (.int .i64 0), (.int .i64 0), (.int .i64 0), (.int .i64 0), (.string ⟨#[]⟩)]) 72 rfl Tryz.underlying22 info38 rfl Z11 Z3 (.slice A l.length c) l x [.string x.f0, .int .i64 x.f1.f0, .int .i64 x.f1.f1, .int .i64 x.f1.f2, .int .i64 x.f1.f3, .int .i64 x.f1.f4, .string x.f2] (fun k_ => k_ ≠ g7) (fun _ => False) rfl Z33 ?aP (fun _ hk => hk.elim) ?aF ?aO ?aB ?aS ?aL ?_; (case aP => exact k38_mkM _ _ _ x); (case aB => exact HB.out); (case aF => exact (fun k_ hk => Kd.freshB B7.out k_ hk)); (case aO => exact Kd.R_mono HO.out (fun _ hk => hk.2)); (case aS => exact HB.out.size); (case aL => have := HK.out; omega); intro v9 w9 ho hb hg hat; have n0_ := Aside0.mk (blk_grown HR.out hg (Kd.R_ne HO.out HR.out Z11)); have n1_ := Aside0.mk hb; have n2_ := Aside0.mk (blk_grown B7.out hg (Kd.R_away HO.out (fun _ hk => hk.2))); have n4_ := Aside0.mk (Kd.R_mono ho (fun _ _ => trivial) : Kd.R k38 38 w9 w.heap.size (fun _ => True) v9 (l ++ [x])); have n5_ := Aside0.mk (blk_grown HQ.out hg (Kd.R_ne HO.out HQ.out Z11)); have n6_ := Aside0.mk (blk_grown HP.out hg (Kd.R_ne HO.out HP.out Z11)); clear HR HB HO HQ HP B7 ho hb hg hat cp c0 c1 c2 c3 c4 c5 c6; have HR := n0_; have HB := n1_; have B7 := n2_; have HO := n4_; have HQ := n5_; have HP := n6_; clear n0_ n1_ n2_ n4_ n5_ n6_; obtain ⟨A9, c9, e9⟩ := Kd.R_slice HO.out; rw [List.length_append, List.length_singleton] at e9; subst e9; have cp : w9.cell? ⟨w.heap.size, 0, none⟩ = some (.slice A l.length c) := (blk_cell HP.out 0).trans rfl; have fp := blk_frozen HP.out 0; have c6 : (w9.setCell ⟨w.heap.size, 0, none⟩ (.slice A9 (l.length + 1) c9)).cell? ⟨g7, 6, none⟩ = some (.string x.f2) := (cell_other (a := ⟨g7, 6, none⟩) (.slice A9 (l.length + 1) c9) (fun e => by have e' : g7 = w.heap.size := e; have := G7.out; omega)).trans ((blk_cell B7.out 6).trans rfl))))
    refine read_err (l := l ++ [x]) ⟨HB.out.setCell (p := ⟨w.heap.size, 0, none⟩) (Nat.le_refl _) _, blk_grown HQ.out (Lib.grownBy_setCell _ w.heap.size 0 _) (fun e => by injection e with e; omega), _, blk_put HP.out 0 _ rfl, Kd.R_grown2 HO.out rfl (Lib.grownBy_setCell _ w.heap.size 0 _) (fun k hk => by injection hk with hk; subst hk; exact Kd.R_ne HO.out HP.out Z11)⟩ Z11 rfl rfl HE.out
   ·
    have gb : decide ((8388608 : Int) < (z2 : Int)) = false := decide_eq_false Z3
    have HE : Aside0 (readR (pb s) = (do let (l, a2) ← loopN (pb s) (n - (k + 1)) (l ++ [x]) z2 a2; if a2 ≠ (pb s).length then .error 5 else .ok l)) := ⟨by rw [HSP4.out, if_neg hbig]⟩
    have HZB := Aside0.mk hbig
    clear hbig
    go_wp2_with (first | ((with_reducible refine gate_dst (N := 7) rfl ?_); refine box_event ?hg (N := 7) ?hd (cs := #[.string (⟨#[]⟩ : ByteArray), .int .i64 0, .int .i64 0, .int .i64 0, .int .i64 0, .int .i64 0, .string (⟨#[]⟩ : ByteArray)]) (t := 38) ?hr ?_; (case hd => rfl); (case hg => rfl); (case hr => first | (go_simp; done) | (go_simp; rfl)); intro g7 hg w5 hbox hb; have n0_ := Aside0.mk (HR.out.below hb); have n1_ := Aside0.mk (below_then HB.out HB.out.size hb); have n2_ := Aside0.mk hbox; have n3_ := Aside0.mk ((by rw [hg]; exact ⟨HB.out.size, blk_lt HQ.out, blk_lt HR.out⟩) : w.heap.size ≤ g7 ∧ w.heap.size + 1 < g7 ∧ w.heap.size + 1 + 1 < g7); have n4_ := Aside0.mk (Kd.R_below (Kd.R_elderB HO.out g7 (Nat.le_of_eq hg.symm)) hb); have n5_ := Aside0.mk (blk_below HQ.out hb); have n6_ := Aside0.mk (blk_below HP.out hb); clear HR HB HO HQ HP; have HR := n0_; have HB := n1_; have B7 := n2_; have G7 := n3_; have HO := n4_; have HQ := n5_; have HP := n6_; clear n0_ n1_ n2_ n3_ n4_ n5_ n6_ hb hbox hg) | ((with_reducible refine gate_store (t := 38) rfl ?_); refine store_node' rfl rfl _ _ rfl g7 _ x B7.out rfl rfl rfl ?_; intro w6 hS1 hS2; have n0_ := Aside0.mk (blk_grown HR.out hS2 (fun e => by injection e with e; have := G7.out; omega)); have n1_ := Aside0.mk (HB.out.grown hS2 HB.out.size (fun q hq => by injection hq with hq; have := G7.out; omega)); have n2_ := Aside0.mk hS1; have n4_ := Aside0.mk (Kd.R_grown HO.out hS2 (fun k hk e => hk.2 (Option.some.inj e))); have n5_ := Aside0.mk (blk_grown HQ.out hS2 (fun e => by injection e with e; have := G7.out; omega)); have n6_ := Aside0.mk (blk_grown HP.out hS2 (fun e => by injection e with e; have := G7.out; omega)); clear HR HB HO HQ HP B7 hS1 hS2; have HR := n0_; have HB := n1_; have B7 := n2_; have HO := n4_; have HQ := n5_; have HP := n6_; clear n0_ n1_ n2_ n4_ n5_ n6_; have cp : w6.cell? ⟨w.heap.size, 0, none⟩ = some (.slice A l.length c) := (blk_cell HP.out 0).trans rfl; have c0 : w6.cell? ⟨g7, 0, none⟩ = some (.string x.f0) := (blk_cell B7.out 0).trans rfl; have c1 : w6.cell? ⟨g7, 1, none⟩ = some (.int .i64 x.f1.f0) := (blk_cell B7.out 1).trans rfl; have c2 : w6.cell? ⟨g7, 2, none⟩ = some (.int .i64 x.f1.f1) := (blk_cell B7.out 2).trans rfl; have c3 : w6.cell? ⟨g7, 3, none⟩ = some (.int .i64 x.f1.f2) := (blk_cell B7.out 3).trans rfl; have c4 : w6.cell? ⟨g7, 4, none⟩ = some (.int .i64 x.f1.f3) := (blk_cell B7.out 4).trans rfl; have c5 : w6.cell? ⟨g7, 5, none⟩ = some (.int .i64 x.f1.f4) := (blk_cell B7.out 5).trans rfl; have c6 : w6.cell? ⟨g7, 6, none⟩ = some (.string x.f2) := (blk_cell B7.out 6).trans rfl) | ((with_reducible refine gate_builtin (b := .append) (xs := #[.tmp 24, .tmp 26]) rfl ?_); at_builtin; go_must (refine Kd.R_append k38 (w0 := w) w.heap.size rfl (.tmp 24) (.tmp 26) 22 38 (.agg #[(.string ⟨#[]⟩), (.int .i64 0), (.int .i64 0), (.int .i64 0), (.int .i64 0), (.int .i64 0), (.string ⟨#[]⟩)]) 72 rfl Tryz.underlying22 info38 rfl Z11 Z3 (.slice A l.length c) l x [.string x.f0, .int .i64 x.f1.f0, .int .i64 x.f1.f1, .int .i64 x.f1.f2, .int .i64 x.f1.f3, .int .i64 x.f1.f4, .string x.f2] (fun k_ => k_ ≠ g7) (fun _ => False) rfl Z33 ?aP (fun _ hk => hk.elim) ?aF ?aO ?aB ?aS ?aL ?_; (case aP => exact k38_mkM _ _ _ x); (case aB => exact HB.out); (case aF => exact (fun k_ hk => Kd.freshB B7.out k_ hk)); (case aO => exact Kd.R_mono HO.out (fun _ hk => hk.2)); (case aS => exact HB.out.size); (case aL => have := HK.out; omega); intro v9 w9 ho hb hg hat; have n0_ := Aside0.mk (blk_grown HR.out hg (Kd.R_ne HO.out HR.out Z11)); have n1_ := Aside0.mk hb; have n2_ := Aside0.mk (blk_grown B7.out hg (Kd.R_away HO.out (fun _ hk => hk.2))); have n4_ := Aside0.mk (Kd.R_mono ho (fun _ _ => trivial) : Kd.R k38 38 w9 w.heap.size (fun _ => True) v9 (l ++ [x])); have n5_ := Aside0.mk (blk_grown HQ.out hg (Kd.R_ne HO.out HQ.out Z11)); have n6_ := Aside0.mk (blk_grown HP.out hg (Kd.R_ne HO.out HP.out Z11)); clear HR HB HO HQ HP B7 ho hb hg hat cp c0 c1 c2 c3 c4 c5 c6; have HR := n0_; have HB := n1_; have B7 := n2_; have HO := n4_; have HQ := n5_; have HP := n6_; clear n0_ n1_ n2_ n4_ n5_ n6_; obtain ⟨A9, c9, e9⟩ := Kd.R_slice HO.out; rw [List.length_append, List.length_singleton] at e9; subst e9; have cp : w9.cell? ⟨w.heap.size, 0, none⟩ = some (.slice A l.length c) := (blk_cell HP.out 0).trans rfl; have fp := blk_frozen HP.out 0; have c6 : (w9.setCell ⟨w.heap.size, 0, none⟩ (.slice A9 (l.length + 1) c9)).cell? ⟨g7, 6, none⟩ = some (.string x.f2) := (cell_other (a := ⟨g7, 6, none⟩) (.slice A9 (l.length + 1) c9) (fun e => by have e' : g7 = w.heap.size := e; have := G7.out; omega)).trans ((blk_cell B7.out 6).trans rfl))))
    go_roundw
    case rel =>
     have := HK.out
     refine ⟨k + 1, z2, a2, l ++ [x], Z3, rfl, by rw [w64 Z3 (by have := HN.out; omega)]; rfl, ⟨by have := HZB.out; omega, by rw [List.length_append, HS.out.2.1]; rfl, ?_, HA4.out, HE.out⟩, ⟨blk_grown HR.out (Lib.grownBy_setCell _ w.heap.size 0 _) (fun e => by injection e with e; omega)⟩, ⟨HB.out.setCell (p := ⟨w.heap.size, 0, none⟩) (Nat.le_refl _) _, blk_grown HQ.out (Lib.grownBy_setCell _ w.heap.size 0 _) (fun e => by injection e with e; omega), _, blk_put HP.out 0 _ rfl, Kd.R_grown2 HO.out rfl (Lib.grownBy_setCell _ w.heap.size 0 _) (fun k hk => by injection hk with hk; subst hk; exact Kd.R_ne HO.out HP.out Z11)⟩⟩
     intro y hy
     rcases List.mem_append.1 hy with hy | hy
     ·
      exact HS.out.2.2.1 y hy
     ·
      rcases List.mem_cons.1 hy with rfl | hy
      ·
       exact HX.out
      ·
       cases hy
    case measure =>
     have := HK.out
     rw [w64 Z3 (by have := HN.out; omega)]
     simp [intOf]
     omega
  ·
   have hkn : k = n := by omega
   subst hkn
   have HE : Aside0 (readR (pb s) = if a ≠ (pb s).length then .error 5 else .ok l) := ⟨by rw [HS.out.2.2.2.2, Nat.sub_self]; rfl⟩
   have hdec : decide (k < k) = false := by simp
   have c1 : wr.cell? ⟨w.heap.size + 1 + 1, 1, none⟩ = some (.int .i64 (a : Int)) := (blk_cell HR.out 1).trans rfl
   have cp : wr.cell? ⟨w.heap.size, 0, none⟩ = some (.slice A l.length c) := (blk_cell HP.out 0).trans rfl
   have fp := blk_frozen HP.out 0
   have cq : wr.cell? ⟨w.heap.size + 1, 0, none⟩ = some (.int .i64 0) := (blk_cell HQ.out 0).trans rfl
   have fq := blk_frozen HQ.out 0
   clear hlt hk
   by_cases ha : a = s.size
   ·
    have HE' : Aside0 (readR (pb s) = .ok l) := ⟨by rw [HE.out, pb_len, if_neg (by simpa using ha)]⟩
    have gA : ((a : Int) != (s.size : Int)) = false := by simpa using (Z3 : (a : Int) = (s.size : Int))
    have gA' : (a != s.size) = false := by simpa using ha
    have gA'' : (a == s.size) = true := by simpa using ha
    clear ha HE
    go_wp2_with fail
    have b1 := HB.out.setCell (p := ⟨w.heap.size, 0, none⟩) (Nat.le_refl _) (.slice A l.length c)
    have q1 := blk_grown HQ.out (Lib.grownBy_setCell wr w.heap.size 0 (.slice A l.length c)) (fun e => by injection e with e; omega)
    have p1 := blk_put HP.out 0 (.slice A l.length c) rfl
    have o1 := Kd.R_grown2 HO.out rfl (Lib.grownBy_setCell wr w.heap.size 0 (.slice A l.length c)) (fun k hk => by injection hk with hk; subst hk; exact Kd.R_ne HO.out HP.out Z11)
    exact read_ok (l := l) ⟨b1.setCell (p := ⟨w.heap.size + 1, 0, none⟩) (Nat.le_succ _) _, blk_put q1 0 _ rfl, _, blk_grown p1 (Lib.grownBy_setCell _ (w.heap.size + 1) 0 _) (fun e => by injection e with e; omega), Kd.R_grown2 o1 rfl (Lib.grownBy_setCell _ (w.heap.size + 1) 0 _) (fun k hk => by injection hk with hk; subst hk; exact Kd.R_ne o1 q1 Z11)⟩ rfl rfl HE'.out
   ·
    have HE' : Aside0 (readR (pb s) = .error 5) := ⟨by rw [HE.out, pb_len, if_pos ha]⟩
    have gA : ((a : Int) != (s.size : Int)) = true := by simpa using (Z3 : ¬ (a : Int) = (s.size : Int))
    have gA' : (a != s.size) = true := by simpa using ha
    have gA'' : (a == s.size) = false := by simpa using ha
    clear ha HE
    go_wp2_with fail
    refine (refuse_c wr).mono ?_
    rintro e w5 ⟨rfl, rfl⟩
    unfold brk
    go_wp2
    exact read_err HFR.out Z11 rfl rfl HE'.out
theorem textR_adv {s p : List UInt8} {at_ a : Nat} (h : textR s at_ = .ok (p, a)) : at_ + 1 ≤ a ∧ a ≤ s.length := by
 unfold textR at h
 cases hg : getR s at_ 1 with
 | error x => rw [hg] at h; cases h
 | ok q =>
  obtain ⟨n, b⟩ := q
  rw [hg] at h
  have h1 := (getR_ok hg).2
  have h2 := (bytesR_ok (show bytesR s b n = .ok (p, a) from h)).2
  omega
theorem loopF_adv {s : List UInt8} {size : Nat} : ∀ {m lo : Nat} {b p : List UInt8} {at_ a : Nat}, at_ ≤ s.length → loopF s size m lo b at_ = .ok (p, a) → at_ ≤ a ∧ a ≤ s.length
 | 0, lo, b, p, at_, a, hb, h => by
  injection h with h
  injection h with h1 h2
  omega
 | m + 1, lo, b, p, at_, a, hb, h => by
  rw [loopF] at h
  cases hg : getR s at_ 4 with
  | error x => rw [hg] at h; cases h
  | ok q =>
   obtain ⟨i, b1⟩ := q
   rw [hg] at h
   replace h : (if i < lo ∨ size ≤ 448 * i then .error 5 else do
    let (p, a2) ← bytesR s b1 (min 448 (size - 448 * i))
    if blankL p then .error 5 else loopF s size m (i + 1) (laidB b (448 * i) p) a2) = .ok (p, a) := h
   split at h
   ·
    cases h
   ·
    cases hg2 : bytesR s b1 (min 448 (size - 448 * i)) with
    | error x => rw [hg2] at h; cases h
    | ok q =>
     obtain ⟨t, b2⟩ := q
     rw [hg2] at h
     replace h : (if blankL t then .error 5 else loopF s size m (i + 1) (laidB b (448 * i) t) b2) = .ok (p, a) := h
     split at h
     ·
      cases h
     ·
      have h1 := (getR_ok hg).2
      have h2 := (bytesR_ok hg2).2
      have := loopF_adv Z3 h
      omega
theorem fileR_adv {s p : List UInt8} {at_ a : Nat} (h : fileR s at_ = .ok (p, a)) : at_ ≤ a ∧ a ≤ s.length := by
 unfold fileR at h
 cases hg : getR s at_ 6 with
 | error x => rw [hg] at h; cases h
 | ok q =>
  obtain ⟨size, b1⟩ := q
  rw [hg] at h
  replace h : (do let (n, a2) ← getR s b1 4; if 5675264 < size then .error 5 else loopF s size n 0 (List.replicate size 0) a2) = .ok (p, a) := h
  cases hg2 : getR s b1 4 with
  | error x => rw [hg2] at h; cases h
  | ok q =>
   obtain ⟨n, b2⟩ := q
   rw [hg2] at h
   replace h : (if 5675264 < size then .error 5 else loopF s size n 0 (List.replicate size 0) b2) = .ok (p, a) := h
   split at h
   ·
    cases h
   ·
    have h1 := (getR_ok hg).2
    have h2 := (getR_ok hg2).2
    have := loopF_adv Z3 h
    omega
theorem nodeR_adv {s : List UInt8} {l : List S38} {at_ a : Nat} {x : S38} (h : nodeR s l at_ = .ok (x, a)) : at_ + 2 ≤ a ∧ a ≤ s.length ∧ ∃ k : Nat, x.f1.f0 = (k : Int) ∧ k < 4294967296 + l.length := by
 unfold nodeR at h
 cases hg : getR s at_ 1 with
 | error x => rw [hg] at h; cases h
 | ok q =>
  obtain ⟨kd, b1⟩ := q
  rw [hg] at h
  dsimp only [bind, Except.bind] at h
  have h1 := (getR_ok hg).2
  cases hg2 : textR s b1 with
  | error x => rw [hg2] at h; cases h
  | ok q =>
   obtain ⟨p, b2⟩ := q
   rw [hg2] at h
   dsimp only at h
   have h2 := textR_adv hg2
   split at h
   ·
    injection h with h
    injection h with e1 e2
    exact ⟨Z3, Z3, l.length + 1, by rw [← e1]; rfl, Z3⟩
   ·
    split at h
    ·
     cases hg3 : textR s b2 with
     | error x => rw [hg3] at h; cases h
     | ok q =>
      rw [hg3] at h
      dsimp only at h
      injection h with h
      injection h with e1 e2
      have h3 := textR_adv (p := q.1) (a := q.2) hg3
      exact ⟨Z3, Z3, l.length + 1, by rw [← e1]; rfl, Z3⟩
    ·
     split at h
     ·
      cases hg3 : getR s b2 4 with
      | error x => rw [hg3] at h; cases h
      | ok q =>
       obtain ⟨k, b3⟩ := q
       rw [hg3] at h
       dsimp only at h
       have h3 := getR_ok hg3
       split at h
       ·
        split at h
        ·
         cases h
        ·
         injection h with h
         injection h with e1 e2
         exact ⟨Z3, Z3, k, by rw [← e1]; rfl, Z3⟩
       ·
        cases hg4 : fileR s b3 with
        | error x => rw [hg4] at h; cases h
        | ok q =>
         rw [hg4] at h
         dsimp only at h
         injection h with h
         injection h with e1 e2
         have h4 := fileR_adv (p := q.1) (a := q.2) hg4
         exact ⟨Z3, Z3, l.length + 1, by rw [← e1]; rfl, Z3⟩
     ·
      cases h
theorem big_wf {k : Nat} (h : k < 9223372036854775808) : (Lit.int .i64 (k : Int)).wf = true := by
 rw [← w64 (x := (k : Int)) Z3 Z3]
 exact wrap64_wf _
theorem loopN_ok {s : List UInt8} : ∀ {m : Nat} {l l' : List S38} {z at_ a : Nat}, at_ ≤ s.length → s.length < 1000000000000 → l.length ≤ s.length → 2 * l.length ≤ at_ → Wf l → loopN s m l z at_ = .ok (l', a) → Wf l' ∧ 2 * l'.length ≤ a ∧ a ≤ s.length
 | 0, l, l', z, at_, a, ha, hs, hl, h2, hw, h => by
  injection h with h
  injection h with e1 e2
  rw [← e1, ← e2]
  exact ⟨hw, h2, ha⟩
 | m + 1, l, l', z, at_, a, ha, hs, hl, h2, hw, h => by
  rw [loopN] at h
  cases hg : nodeR s l at_ with
  | error x => rw [hg] at h; cases h
  | ok q =>
   obtain ⟨x, a1⟩ := q
   rw [hg] at h
   replace h : (if 8388608 < z + x.f2.size then .error 4 else loopN s m (l ++ [x]) (z + x.f2.size) a1) = .ok (l', a) := h
   split at h
   ·
    cases h
   ·
    obtain ⟨h1, h3, k, e, hk⟩ := nodeR_adv hg
    refine loopN_ok h3 hs ?_ ?_ (hw.snoc (by show (Lit.int .i64 x.f1.f0).wf = true; rw [e]; exact big_wf Z3)) h
    ·
     rw [List.length_append]; simp; omega
    ·
     rw [List.length_append]; simp; omega
theorem readR_ok {s : List UInt8} {l : List S38} (hs : s.length < 1000000000000) (h : readR s = .ok l) : Wf l ∧ 2 * l.length ≤ s.length := by
 unfold readR at h
 cases hg : bytesR s 0 4 with
 | error x => rw [hg] at h; cases h
 | ok q =>
  obtain ⟨h4, a0⟩ := q
  rw [hg] at h
  replace h : (if h4 ≠ [65, 82, 67, 72] then .error 5 else do
   let (n, a1) ← getR s a0 4
   let (l, a2) ← loopN s n [] 0 a1
   if a2 ≠ s.length then .error 5 else .ok l) = .ok l := h
  split at h
  ·
   cases h
  ·
   cases hg2 : getR s a0 4 with
   | error x => rw [hg2] at h; cases h
   | ok q =>
    obtain ⟨n, a1⟩ := q
    rw [hg2] at h
    replace h : (do let (l, a2) ← loopN s n [] 0 a1; if a2 ≠ s.length then .error 5 else .ok l) = .ok l := h
    cases hg3 : loopN s n [] 0 a1 with
    | error x => rw [hg3] at h; cases h
    | ok q =>
     obtain ⟨l', a2⟩ := q
     rw [hg3] at h
     dsimp only [bind, Except.bind] at h
     split at h
     ·
      cases h
     ·
      injection h with h
      subst h
      have h1 := (getR_ok hg2).2
      obtain ⟨w1, w2, w3⟩ := loopN_ok Z3 hs Z23 Z23 (fun n hn => by cases hn) hg3
      exact ⟨w1, Z3⟩
open Classical in
def Alike (t l : List S38) : Prop := ∀ i, i < t.length → (rdn t i).f0 = (rdn l i).f0 ∧ (rdn t i).f1.f0 = (rdn l i).f1.f0
open Classical in
noncomputable def ofL (l : List S38) : List S38 × Int := if (normT l).2 ≠ 0 then ([], 5) else if Alike (normT l).1 l then ((normT l).1, 0) else ([], 5)
noncomputable def ofR : Except Int (List S38) → List S38 × Int
 | .error x => ([], x)
 | .ok l => ofL l
noncomputable def ofP (s : List UInt8) : List S38 × Int :=
 if s.length < 32 then ([], 3) else if 8388640 < s.length then ([], 4)
 else if sha (s.take (s.length - 32)) ≠ s.drop (s.length - 32) then ([], 10)
 else ofR (readR (s.take (s.length - 32)))
def OfRet (w : World) (r : List S38 × Int) (e : Ending) (w' : World) : Prop :=
 ∃ v, e = .returned (.tuple #[v, .int .i64 r.2]) ∧ Kd.R k38 38 w' w.heap.size (fun _ => True) v r.1 ∧ Below w.heap.size w w'
theorem of_none {w w' : World} {r : List S38 × Int} {x : Int} (hb : Below w.heap.size w w') (h : r = ([], x)) : OfRet w r (.returned (.tuple #[.slice none 0 0, .int .i64 x])) w' := by
 subst h
 exact ⟨_, rfl, Kd.R_nil _ _ _ _ _, hb⟩
theorem ext_head (s : ByteArray) (n : Nat) : pb (s.extract 0 n) = (pb s).take n := by rw [pb_ext, List.extract_eq_take_drop]; simp
theorem ext_tail (s : ByteArray) (n : Nat) : pb (s.extract n s.size) = (pb s).drop n := by
 rw [pb_ext, List.extract_eq_take_drop, List.take_of_length_le (by rw [List.length_drop, pb_len]; omega)]
set_option maxHeartbeats 4000000 in
set_option maxRecDepth 100000 in
theorem of_c (s : ByteArray) (w : World) (hs : s.size < 1000000000000) (hT : Tab w) :
  Calls Tryz.prog 11 #[.string s] w fun e w' => OfRet w (ofP (pb s)) e w' := by
 have hu46 := Tryz.underlying38
 have hu44 := Tryz.underlying36
 have HF := Aside0.mk hs
 have HT := Aside0.mk hT
 clear hs hT
 by_cases h32 : s.size < 32
 ·
  have HP : Aside0 (ofP (pb s) = ([], 3)) := ⟨by unfold ofP; rw [if_pos (by rw [pb_len]; exact h32)]⟩
  obtain ⟨z, hz⟩ : ∃ z : Int, z = (s.size : Int) - 32 := ⟨_, rfl⟩
  have hw0 : IntKind.i64.wrap ((s.size : Int) - 32) = z := by rw [i64_w, w64 Z25 Z25, hz]
  have gz : decide (z < 0) = true := decide_eq_true Z3
  clear h32 hz
  go_enter Tryz.func11, Tryz.ntmps11
  go_wp2_with fail
  go_ret2
  exact of_none (Below.refl _ _) HP.out
 obtain ⟨n, hn⟩ : ∃ n, n = s.size - 32 := ⟨_, rfl⟩
 have hw0 : IntKind.i64.wrap ((s.size : Int) - 32) = (n : Int) := by rw [i64_w, w64 Z25 Z25]; omega
 by_cases hbig : 8388640 < s.size
 ·
  have HP : Aside0 (ofP (pb s) = ([], 4)) := ⟨by unfold ofP; rw [if_neg (by rw [pb_len]; exact h32), if_pos (by rw [pb_len]; exact hbig)]⟩
  have gb : decide (8388640 < s.size) = true := decide_eq_true hbig
  have gb' : decide ((8388640 : Int) < (s.size : Int)) = true := decide_eq_true Z3
  clear h32 hn hbig
  go_enter Tryz.func11, Tryz.ntmps11
  go_wp2_with fail
  go_ret2
  exact of_none (Below.refl _ _) HP.out
 have gb' : decide ((8388640 : Int) < (s.size : Int)) = false := decide_eq_false Z3
 have qn : (n ≤ s.size) = True := eq_true Z3
 have HN := Aside0.mk (show n + 32 = s.size ∧ s.size ≤ 8388640 by omega)
 have HP : Aside0 (ofP (pb s) = if sha ((pb s).take n) ≠ (pb s).drop n then ([], 10) else ofR (readR ((pb s).take n))) := ⟨by
   unfold ofP
   rw [if_neg (by rw [pb_len]; exact h32), if_neg (by rw [pb_len]; exact hbig), pb_len, ← hn]⟩
 clear h32 hn hbig
 go_enter Tryz.func11, Tryz.ntmps11
 go_wp2_with fail
 refine start_ (n := 9) (S := fun _ => True) (ds := []) #[false, false, false, false, false, false, false, false, false] Z13 rfl rfl trivial (fun _ => ?_)
 have HB1 : Aside0 (Below w.heap.size w w.drew) := ⟨below_drew (Below.refl _ _)⟩
 generalize w.drew = w1 at HB1 ⊢
 refine pk 0 21 (bl 9 1) ?_
 refine pk 1 22 (bl 9 3) ?_
 refine pk 2 23 (bl 9 7) ?_
 refine pk 4 25 (bl 9 23) ?_
 refine pk 5 26 (bl 9 55) ?_
 refine pk 6 27 (bl 9 119) ?_
 refine one_ (i := 3) (N := some 24) (bl 9 127) rfl rfl Z13 Z11 (fun K hK => ?_)
 refine goes_ Tryz.func24 Z13 rfl #[.string (s.extract 0 n)] (by rfl) rfl rfl Z19 ?_
 refine (sum_c (s.extract 0 n) _ (by have := HN.out; have e := congrArg List.length (ext_head s n); rw [pb_len, List.length_take, pb_len] at e; omega)).mono ?_
 rintro e w2 ⟨rfl, hb⟩
 have HB2 := Aside0.mk (below_then HB1.out HB1.out.size hb)
 refine ⟨_, rfl, ?_⟩
 refine hK.out _ _ trivial (fun _ => ?_)
 clear hK K hb HB1
 refine norm_ (a' := ?_) ?_ ?_
 rotate_left; · show Act.put _ (some 24) _ = _; simp only [Act.put, List.setIfInBounds_toArray, List.set_cons_zero, List.set_cons_succ, i64_w, i32_w]; rfl
 refine pk 7 28 (bl 9 255) ?_
 refine pk 8 20 (bl 9 511) ?_
 refine done_ Z13 ?_
 have hds : pb s = s.data.toList := rfl
 by_cases hsum : sha ((pb s).take n) = (pb s).drop n
 rotate_left
 ·
  have HP' : Aside0 (ofP (pb s) = ([], 10)) := ⟨by rw [HP.out, if_pos hsum]⟩
  have hX : (sha (List.take n s.data.toList) == (s.extract n s.size).toList) = false := by
   rw [toL, ext_tail, ← hds]
   simpa using hsum
  clear hsum hds
  simp only [hX, Bool.not_false]
  go_wp2_with fail
  go_ret2
  exact of_none HB2.out HP'.out
 have hX : (sha (List.take n s.data.toList) == (s.extract n s.size).toList) = true := by
  rw [toL, ext_tail, ← hds]
  simpa using hsum
 have HP2 : Aside0 (ofP (pb s) = ofR (readR (pb (s.extract 0 n)))) := ⟨by rw [HP.out, if_neg (by simpa using hsum), ext_head]⟩
 have HXS : Aside0 ((s.extract 0 n).size < 1000000000000) := ⟨by have := HN.out; have e := congrArg List.length (ext_head s n); rw [pb_len, List.length_take, pb_len] at e; omega⟩
 clear hsum hds HP
 simp only [hX, Bool.not_true]
 go_wp2_with fail
 refine (read_c (s.extract 0 n) w2 HXS.out).mono ?_
 intro e w3 hq
 obtain ⟨hb3, hq⟩ := hq
 have HB3 := Aside0.mk (below_then HB2.out HB2.out.size hb3)
 cases hr : readR (pb (s.extract 0 n)) with
 | error x =>
  rw [hr] at hq
  obtain ⟨hx0, rfl⟩ := hq
  have HP3 : Aside0 (ofP (pb s) = ([], x)) := ⟨by rw [HP2.out, hr]; rfl⟩
  have zx : (x != 0) = true := by simpa using hx0
  clear hx0 hr hb3
  go_wp2_with fail
  go_ret2
  exact of_none HB3.out HP3.out
 | ok l =>
  rw [hr] at hq
  obtain ⟨v, rfl, hO⟩ := hq
  have HP3 : Aside0 (ofP (pb s) = ofL l) := ⟨by rw [HP2.out, hr]; rfl⟩
  have HW := Aside0.mk (readR_ok (by rw [pb_len]; exact HXS.out) hr)
  have HO := Aside0.mk (Kd.R_lower hO HB2.out.size)
  obtain ⟨A, c, rfl⟩ := Kd.R_slice hO
  have HTb := Aside0.mk (HT.out.below HB3.out)
  clear hb3 hr hO HP2 HB2
  go_wp2_with fail
  refine (normal_c l A c w3 (Kd.R_reads' HO.out).2.2 (Kd.R_reads' HO.out).2.1 (by have := HW.out.2; rw [pb_len] at this; have := HN.out; have e := congrArg List.length (ext_head s n); rw [pb_len, List.length_take, pb_len] at e; omega) HW.out.1 HTb.out).mono ?_
  rintro e w4 ⟨v4, rfl, hv, hb⟩
  have HB4 := Aside0.mk (below_then HB3.out HB3.out.size hb)
  have HO4 := Aside0.mk (Kd.R_below HO.out hb)
  have HV4 := Aside0.mk (Kd.R_lower hv HB3.out.size)
  clear hb hv HO HB3 HTb
  rcases normT_err l with h0 | hbad
  rotate_left
  ·
   have HP4 : Aside0 (ofP (pb s) = ([], 5)) := ⟨by rw [HP3.out]; unfold ofL; rw [hbad]; rfl⟩
   rw [hbad] at HV4 ⊢
   obtain ⟨A1, c1, e1⟩ := Kd.R_slice HV4.out
   subst e1
   dsimp only [bad]
   clear hbad
   go_wp2_with fail
   go_ret2
   exact of_none HB4.out HP4.out
  obtain ⟨t, ht⟩ : ∃ t, normT l = (t, 0) := ⟨(normT l).1, Prod.ext rfl h0⟩
  open Classical in
  have HP4 : Aside0 (ofP (pb s) = if Alike t l then (t, 0) else ([], 5)) := ⟨by rw [HP3.out]; unfold ofL; rw [ht]; rfl⟩
  have HTL : Aside0 (t.length = l.length) := ⟨by
   have h' := congrArg Prod.fst ht
   unfold normT at h'
   split at h'
   ·
    rw [← show canon (sortT l) = t from h', canon_len, (sortT_perm l).length_eq]
   ·
    rename_i hno
    unfold normT at h0
    rw [if_neg hno] at h0
    cases h0⟩
  rw [ht] at HV4 ⊢
  clear h0 ht HP3
  dsimp only
  obtain ⟨A1, c1, e1⟩ := Kd.R_slice HV4.out
  subst e1
  go_wp2_with fail
  go_loopw [48] (fun v48 wr => ∃ k : Nat, k ≤ t.length ∧ v48 = .int .i64 k ∧ Aside0 (∀ j, j < k → (rdn t j).f0 = (rdn l j).f0 ∧ (rdn t j).f1.f0 = (rdn l j).f1.f0) ∧ Aside0 (Below w.heap.size w wr) ∧ Aside0 (Kd.R k38 38 wr w.heap.size (fun _ => True) (.slice A l.length c) l) ∧ Aside0 (Kd.R k38 38 wr w.heap.size (fun _ => True) (.slice A1 t.length c1) t)) (fun i _ => t.length - (intOf i).toNat)
  case atStart => exact ⟨0, Z3, rfl, ⟨fun j hj => absurd hj Z3⟩, HB4, HO4, HV4⟩
  case round =>
   clear HB4 HO4 HV4
   obtain ⟨k, hk, rfl, HA, HB, HO, HV⟩ := hrel
   by_cases hlt : k < t.length
   ·
    have HK := Aside0.mk (show k < t.length ∧ t.length < 2147483648 from ⟨hlt, by have := HTL.out; have h2 := HW.out.2; rw [pb_len] at h2; have := HN.out; have e := congrArg List.length (ext_head s n); rw [pb_len, List.length_take, pb_len] at e; omega⟩)
    have hkl : k < l.length := by have := HTL.out; omega
    obtain ⟨ad, ea, x0, x1, x2, x3, x4, x5, x6⟩ := at_T38 (Kd.R_reads' HV.out).2.2 (k : Int) Z3 Z3
    cases ea
    simp only [Int.toNat_natCast] at x0 x1 x2 x3 x4 x5 x6
    have p1 : (0 ≤ (k : Int)) = True := eq_true Z3
    have q1 : ((k : Int) < (t.length : Int)) = True := eq_true Z3
    have q2 : ((k : Int) < (l.length : Int)) = True := eq_true Z3
    have HKL := Aside0.mk hkl
    clear hkl hlt hk
    go_wp2_with (first | ((with_reducible refine gate_dst (N := 9) rfl ?_); refine box_event ?hg (N := 9) ?hd (cs := #[.string (⟨#[]⟩ : ByteArray), .int .i64 0, .int .i64 0, .int .i64 0, .int .i64 0, .int .i64 0, .string (⟨#[]⟩ : ByteArray)]) (t := 38) ?hr ?_; (case hd => rfl); (case hg => rfl); (case hr => first | (go_simp; done) | (go_simp; rfl)); intro g9 hg w5 hbox hb; have n1_ := Aside0.mk (below_then HB.out HB.out.size hb); have n2_ := Aside0.mk hbox; have n3_ := Aside0.mk ((by rw [hg]; exact HB.out.size) : w.heap.size ≤ g9); have n4_ := Aside0.mk (Kd.R_below (Kd.R_elderB HO.out g9 (Nat.le_of_eq hg.symm)) hb); have n5_ := Aside0.mk (Kd.R_below (Kd.R_elderB HV.out g9 (Nat.le_of_eq hg.symm)) hb); clear HB HO HV; have HB := n1_; have B9 := n2_; have G9 := n3_; have HO := n4_; have HV := n5_; clear n1_ n2_ n3_ n4_ n5_ hb hbox hg) | ((with_reducible refine gate_store (t := 38) rfl ?_); refine store_node' rfl rfl _ _ rfl g9 _ (rdn t k) B9.out rfl rfl rfl ?_; intro w6 hS1 hS2; have n1_ := Aside0.mk (HB.out.grown hS2 HB.out.size (fun q hq => by injection hq with hq; have := G9.out; omega)); have n4_ := Aside0.mk (Kd.R_mono (Kd.R_grown HO.out hS2 (fun k hk e => hk.2 (Option.some.inj e))) (fun _ _ => trivial) : Kd.R k38 38 w6 w.heap.size (fun _ => True) (.slice A l.length c) l); have n5_ := Aside0.mk (Kd.R_mono (Kd.R_grown HV.out hS2 (fun k hk e => hk.2 (Option.some.inj e))) (fun _ _ => trivial) : Kd.R k38 38 w6 w.heap.size (fun _ => True) (.slice (some ad) t.length c1) t); have c0 : w6.cell? ⟨g9, 0, none⟩ = some (.string (rdn t k).f0) := (blk_cell hS1 0).trans rfl; have c1 : w6.cell? ⟨g9, 1, none⟩ = some (.int .i64 (rdn t k).f1.f0) := (blk_cell hS1 1).trans rfl; clear HB HO HV B9 hS1 hS2; have HB := n1_; have HO := n4_; have HV := n5_; clear n1_ n4_ n5_))
    clear x0 x1 x2 x3 x4 x5 x6
    obtain ⟨ad2, ea, y0, y1, _⟩ := at_T38 (Kd.R_reads' HO.out).2.2 (k : Int) Z3 (by have := HKL.out; omega)
    cases ea
    simp only [Int.toNat_natCast] at y0 y1
    by_cases h1 : (rdn t k).f0 = (rdn l k).f0
    rotate_left
    ·
     have z1 : ((rdn t k).f0.toList == (rdn l k).f0.toList) = false := by
      rw [toL, toL]
      simpa using fun e => h1 (pb_inj e)
     have HNo : Aside0 (ofP (pb s) = ([], 5)) := ⟨by rw [HP4.out, if_neg (fun F => h1 (F k HK.out.1).1)]⟩
     clear h1
     go_wp2_with fail
     go_quiet (fail)
     go_wp2_with fail
     go_ret2
     exact of_none (below_then HB.out HB.out.size (pw_below_drewN (Below.refl _ _) _)) HNo.out
    have z1 : ((rdn t k).f0.toList == (rdn l k).f0.toList) = true := by
     rw [toL, toL, h1]
     simp
    by_cases h2 : (rdn t k).f1.f0 = (rdn l k).f1.f0
    rotate_left
    ·
     have z2 : ((rdn t k).f1.f0 != (rdn l k).f1.f0) = true := by simpa using h2
     have HNo : Aside0 (ofP (pb s) = ([], 5)) := ⟨by rw [HP4.out, if_neg (fun F => h2 (F k HK.out.1).2)]⟩
     clear h1 h2
     go_wp2_with fail
     go_quiet (fail)
     go_wp2_with fail
     go_ret2
     exact of_none (below_then HB.out HB.out.size (pw_below_drewN (Below.refl _ _) _)) HNo.out
    have z2 : ((rdn t k).f1.f0 != (rdn l k).f1.f0) = false := by simpa using h2
    have HE := Aside0.mk (And.intro h1 h2)
    clear h1 h2
    go_wp2_with fail
    go_quiet (fail)
    go_wp2_with fail
    go_roundw
    case rel =>
     have := HK.out
     refine ⟨k + 1, Z3, Z38, ⟨fun j hj => ?_⟩, ⟨below_then HB.out HB.out.size (pw_below_drewN (Below.refl _ _) _)⟩, ⟨Kd.R_below HO.out (pw_below_drewN (Below.refl _ _) _)⟩, ⟨Kd.R_below HV.out (pw_below_drewN (Below.refl _ _) _)⟩⟩
     by_cases hjk : j = k
     ·
      rw [hjk]; exact HE.out
     ·
      exact HA.out j Z3
    case measure =>
     have := HK.out
     rw [w64 Z3 Z3]
     simp [intOf]
     omega
   ·
    have hkt : k = t.length := by omega
    subst hkt
    have HYes : Aside0 (ofP (pb s) = (t, 0)) := ⟨by rw [HP4.out, if_pos (show Alike t l from fun i hi => HA.out i hi)]⟩
    have q1 : ((t.length : Int) < (t.length : Int)) = False := eq_false Z3
    clear hlt hk
    go_wp2_with fail
    go_ret2
    rw [HYes.out]
    exact ⟨_, rfl, HV.out, HB.out⟩
end Go.Proofs.YtkhblpmjmkhiiaaGreatDoor.T
