/- archive.Bytes: the walk. -/
import Derived.Test.YtkhblpmjmkhiiaaGreatDoorQH5
import Derived.Lib.Builder
import Derived.Lib.UnsafeStr
import Derived.RegionTactic
import Derived.Test.YtkhblpmjmkhiiaaGreatDoorQH1
import Derived.Test.YtkhblpmjmkhiiaaGreatDoorQK1
import Derived.Test.YtkhblpmjmkhiiaaGreatDoorQH2
import Derived.Test.YtkhblpmjmkhiiaaGreatDoorQH4
namespace Go.Proofs.YtkhblpmjmkhiiaaGreatDoor.T
open Go.RowKit Go.Proofs.YtkhblpmjmkhiiaaGreatDoorW.PrintWords Go.Proofs.YtkhblpmjmkhiiaaGreatDoorW.PrintLast Go.Proofs.YtkhblpmjmkhiiaaGreatDoorW.PrintMore Go.Proofs.YtkhblpmjmkhiiaaGreatDoor.PAll
set_option linter.unusedSimpArgs false
set_option linter.unusedVariables false
def le (n : Nat) (wd : Nat) : List UInt8 := (List.range wd).map fun i => UInt8.ofNat (n / 256 ^ i)
theorem le_length (n wd : Nat) : (le n wd).length = wd := by simp [le]
theorem le_succ (n k : Nat) : le n (k + 1) = le n k ++ [UInt8.ofNat (n / 256 ^ k)] := by simp [le, List.range_succ]
theorem own_ne_blk {W : World} {base e n : Nat} {v : Value} {xs : List Value} {g : Nat} {t : TypeId} {cs : Array Value} (h : W.ownsRow base e 1 v n xs) (hb : W.heap[g]? = some (.cells cs t (0, 0))) (ht : e ≠ t) : some g ≠ v.ownBlock := by
 rcases h.2 with ⟨rfl, _⟩ | ⟨q, cap, cur, rfl, _, hq, _⟩
 ·
  intro h; cases h
 ·
  intro h
  injection h with h
  subst h
  rw [hb] at hq
  injection hq with hq
  injection hq with _ h2
  exact ht h2.symm
theorem own_not {v : Value} {g : Nat} (h : some g ≠ v.ownBlock) : v.ownBlock = none ∨ v.ownBlock ≠ some g := .inr (fun e => h e.symm)
theorem own_slice {W : World} {base e n : Nat} {v : Value} {xs : List Value} (h : W.ownsRow base e 1 v n xs) : ∃ a m c, v = .slice a m c := by
 rcases h.2 with ⟨rfl, _⟩ | ⟨q, cap, cur, rfl, _⟩
 ·
  exact ⟨_, _, _, rfl⟩
 ·
  exact ⟨_, _, _, rfl⟩
def PW (W : World) (base g : Nat) (v : Value) (bad : Bool) (l : List UInt8) : Prop :=
 W.heap[g]? = some (.cells #[v, .bool bad] 101 (0, 0)) ∧ W.ownsRow base 5 1 v l.length (l.map vb)
theorem two_pow8 (k : Nat) : ((2 : Int) ^ (8 * k)) = ((256 ^ k : Nat) : Int) := by
 rw [Int.pow_mul]
 simp
theorem le_byte (N k sh : Nat) (hs : sh = 8 * k) (hk : k ≤ 6) : Value.int .u8 (IntKind.u8.wrap ((N : Int) / 2 ^ min sh 64)) = vb (UInt8.ofNat (N / 256 ^ k)) := by
 unfold vb
 rw [show min sh 64 = 8 * k by omega, UInt8.toNat_ofNat', two_pow8, IntKind.wrap_u8]
 simp
set_option maxHeartbeats 4000000 in
set_option maxRecDepth 100000 in
theorem wput_c (w0 : World) (base g : Nat) (v : Value) (bad : Bool) (l : List UInt8) (N wd : Nat) (w : World) (hp : PW w base g v bad l) (hb : Below base w0 w) (hg : base ≤ g) (hl : l.length < 1000000) (h6 : wd ≤ 6) (hN : N < 9223372036854775808) (hfit : N / 256 ^ wd = 0) :
  Calls Tryz.prog 69 #[.pointer (some ⟨g, 0, none⟩), .int .i64 (N : Int), .int .i64 (wd : Int)] w fun e w' => e = .returned (.tuple #[]) ∧ (∃ v', PW w' base g v' bad (l ++ le N wd)) ∧ Below base w0 w' := by
 have HL := Aside0.mk hl
 have HG := Aside0.mk hg
 have HP := Aside0.mk hp.1
 have HW := Aside0.mk hp.2
 have HB := Aside0.mk hb
 have H6 := Aside0.mk (And.intro h6 hN)
 obtain ⟨sw, hsw⟩ : ∃ sw, sw = 8 * wd := ⟨_, rfl⟩
 have ws : IntKind.i64.wrap (8 * (wd : Int)) = (sw : Int) := (IntWalk.i64_in _ Z3).trans Z3
 have n0 : decide ((N : Int) < 0) = false := by simp
 have z0 : ((N : Int) / 2 ^ min sw 64 != 0) = false := by
  rw [bne_eq_false_iff_eq, show min sw 64 = 8 * wd by omega, two_pow8]
  exact_mod_cast hfit
 clear hl hg hp hb h6 hN hsw hfit
 go_enter Tryz.func69, Tryz.ntmps69
 go_wp2
 clear ws n0 z0
 go_loopw [6, 20] (fun u6 i wr => ∃ (k : Nat) (v : Value), k ≤ wd ∧ i = .int .i64 k ∧ Aside0 (wr.heap[g]? = some (.cells #[v, .bool bad] 101 (0, 0))) ∧ Aside0 (wr.ownsRow base 5 1 v (l ++ le N k).length ((l ++ le N k).map vb)) ∧ Aside0 (Below base w0 wr)) (fun _ i _ => wd - (intOf i).toNat)
 case atStart => exact ⟨0, v, Z3, rfl, HP, ⟨by simpa [le] using HW.out⟩, HB⟩
 case round =>
  clear HP HW HB
  obtain ⟨k, v, hk, rfl, HP, HW, HB⟩ := hrel
  rename_i wr
  by_cases hlt : k < wd
  ·
   obtain ⟨sh, hsh⟩ : ∃ sh, sh = 8 * k := ⟨_, rfl⟩
   have ws : IntKind.i64.wrap (8 * (k : Int)) = (sh : Int) := (IntWalk.i64_in _ (by have := H6.out; omega)).trans Z3
   have HV := Aside0.mk (le_byte N k sh hsh (by have := H6.out; omega))
   clear hsh
   go_wp2
   refine start_ (n := 15) (S := fun w' => w'.cell? ⟨g, 0, none⟩ = some v) (ds := [14]) #[false, false, false, false, false, false, false, false, false, false, false, false, false, false, false] Z13 rfl rfl ((blk_cell HP.out 0).trans rfl) (fun hHeld => ?_)
   replace HP := Aside0.mk (blk_drew HP.out)
   replace HW := Aside0.mk HW.out.drew
   replace HB := Aside0.mk (below_drew1 HB.out)
   generalize wr.drew = wd0 at HP HW HB hHeld ⊢
   refine pk 0 23 (bl 15 1) ?_
   refine pk 1 24 (bl 15 3) ?_
   refine pk 2 25 (bl 15 7) ?_
   refine pk 3 26 (bl 15 15) ?_
   refine pk 5 28 (bl 15 47) ?_
   refine pk 6 29 (bl 15 111) ?_
   refine pk 7 30 (bl 15 239) ?_
   refine pk 8 31 (bl 15 495) ?_
   refine pk 9 32 (bl 15 1007) ?_
   refine take_ (i := 4) (N := some 27) (v := ?_) (a' := ?_) (bl 15 1023) rfl rfl Z13 (fun _ _ _ h => h) (Or.inl ⟨by rfl, ?_⟩) hHeld ?_ ?_
   rotate_left; · rintro w' hh; go_simp; with_reducible rfl
   rotate_left; · simp only [Act.put, List.setIfInBounds_toArray, List.set_cons_zero, List.set_cons_succ, i64_w, i32_w]; rfl
   refine one_ (i := 10) (N := some 33) (bl 15 2047) rfl rfl Z13 Z11 (fun K hK => ?_)
   refine value_ (v := .slice (some ⟨wd0.heap.size, 0, none⟩) 1 1) (w1 := wd0.alloc (.cells #[vb (UInt8.ofNat (N / 256 ^ k))] 5 (0, 0))) (by rfl) rfl (by rw [HV.out]; go_simp; rfl) ?_
   have hHeld1 : (wd0.alloc (.cells #[vb (UInt8.ofNat (N / 256 ^ k))] 5 (0, 0))).cell? ⟨g, 0, none⟩ = some v := (blk_cell (blk_alloc HP.out _) 0).trans rfl
   refine hK.out _ _ hHeld1 (fun hHeld => ?_)
   clear hK K
   refine norm_ (a' := ?_) ?_ ?_
   rotate_left; · show Act.put _ (some 33) _ = _; simp only [Act.put, List.setIfInBounds_toArray, List.set_cons_zero, List.set_cons_succ, i64_w, i32_w]; rfl
   refine one_ (i := 11) (N := some 34) (bl 15 4095) rfl rfl Z13 Z11 (fun K hK => ?_)
   refine step_append_cells base (by rfl) (.tmp 27) (.tmp 33) 31 5 (.int .u8 0) 1 1 rfl Tryz.underlying31 infoU8 rfl Z11 Z11 v (l ++ le N k).length ((l ++ le N k).map vb) [vb (UInt8.ofNat (N / 256 ^ k))] rfl rfl rfl (by intro u hu; simp only [List.mem_cons, List.mem_nil_iff, or_false] at hu; subst hu; rfl) HW.out HB.out (by have := blk_lt HP.out; have := HG.out; omega) (by have := HL.out; have := H6.out; rw [List.length_append, le_length]; omega) ?_
   intro v1 w1 ho hb hg hat
   obtain ⟨a1, n1, c1, rfl⟩ := own_slice ho
   have HP1 := Aside0.mk (blk_grown HP.out hg (own_ne_blk HW.out HP.out Z11))
   have HW1 := Aside0.mk ho
   have HB1 := Aside0.mk hb
   refine hK.out _ _ ((blk_cell HP1.out 0).trans rfl) (fun hHeld => ?_)
   clear hK K ho hb hg hat HP HW HB
   refine norm_ (a' := ?_) ?_ ?_
   rotate_left; · show Act.put _ (some 34) _ = _; simp only [Act.put, List.setIfInBounds_toArray, List.set_cons_zero, List.set_cons_succ, i64_w, i32_w]; rfl
   refine pk 12 35 (bl 15 8191) ?_
   refine pk 13 36 (bl 15 16383) ?_
   refine last_ (i := 14) (N := none) (bl 15 32767) rfl rfl Z13 Z11 (fun K hK => ?_)
   have c0 := (blk_cell HP1.out 0).trans (show (#[v, .bool bad] : Array Value)[0]? = some v from rfl)
   have f0 := blk_frozen HP1.out 0
   refine skip_ (w1 := w1.setCell ⟨g, 0, none⟩ (.slice a1 n1 c1)) (by rfl) rfl (by go_simp) ?_
   refine hK.out _ _ ?_
   have HP2 : Aside0 ((w1.setCell ⟨g, 0, none⟩ (.slice a1 n1 c1)).heap[g]? = some (.cells #[.slice a1 n1 c1, .bool bad] 101 (0, 0))) := ⟨blk_put HP1.out 0 (.slice a1 n1 c1) rfl⟩
   have HW2 := Aside0.mk (HW1.out.kept (Lib.grownBy_setCell w1 g 0 (.slice a1 n1 c1)) (own_not (own_ne_blk HW1.out HP1.out Z11)))
   have HB2 := Aside0.mk (HB1.out.setCell (p := ⟨g, 0, none⟩) HG.out (.slice a1 n1 c1))
   clear hK K c0 f0 HP1 HW1 HB1
   refine done_ Z13 ?_
   have hk6 : k ≤ 5 := by have := H6.out; omega
   go_wp2
   go_roundw
   case rel =>
    refine ⟨k + 1, .slice a1 n1 c1, Z3, rfl, HP2, ⟨?_⟩, HB2⟩
    rw [le_succ, ← List.append_assoc, List.map_append, List.length_append]
    exact HW2.out
   case measure => simp [intOf]; omega
  ·
   obtain rfl : k = wd := by omega
   go_wp2
   go_end0
   exact ⟨rfl, ⟨v, HP.out, HW.out⟩, HB.out⟩
set_option maxHeartbeats 4000000 in
set_option maxRecDepth 100000 in
theorem put_c (N wd : Nat) (x m : Int) (w : World) (hx : x = (N : Int)) (hm : m = (wd : Int)) (h1 : 1 ≤ wd) (h6 : wd ≤ 6) (hN : N < 9223372036854775808) (hfit : N / 256 ^ wd = 0) :
  Calls Tryz.prog 42 #[.int .i64 x, .int .i64 m] w fun e w' => e = .returned (.tuple #[.string ⟨(le N wd).toArray⟩, .int .i64 0]) ∧ Below w.heap.size w w' := by
 subst hx
 subst hm
 have HF := Aside0.mk (And.intro h6 (And.intro hN hfit))
 have b1 : decide ((wd : Int) < 1) = false := decide_eq_false Z3
 have b2 : decide ((6 : Int) < (wd : Int)) = false := decide_eq_false Z3
 clear h1 h6 hN hfit
 go_enter Tryz.func42, Tryz.ntmps42
 go_wp2_with fail
 have HP : Aside0 (PW (w.alloc (.cells #[.slice none 0 0, .bool false] 101 (0, 0))) w.heap.size w.heap.size (.slice none 0 0) false []) := ⟨⟨blk_new w _, World.ownsRow_nil _ _ _ _⟩⟩
 refine (wput_c w w.heap.size w.heap.size (.slice none 0 0) false [] N wd _ HP.out (below_alloc (Below.refl w.heap.size w) _) (Nat.le_refl _) Z11 HF.out.1 HF.out.2.1 HF.out.2.2).mono ?_
 rintro e w1 ⟨rfl, ⟨v, hP⟩, hb⟩
 have HP1 := Aside0.mk hP
 have HB := Aside0.mk hb
 have c0 := (blk_cell hP.1 0).trans (show (#[v, .bool false] : Array Value)[0]? = some v from rfl)
 have c1 := (blk_cell hP.1 1).trans (show (#[v, .bool false] : Array Value)[1]? = some (.bool false) from rfl)
 have hcv : (convert 31 9 v).run Tryz.prog w1 = .ok (.string ⟨(le N wd).toArray⟩) w1 := by
  have h := own_string (P := Tryz.prog) (xs := (le N wd).map fun b => (b.toNat : Int)) Tryz.underlying31 Tryz.underlying5 Tryz.underlying9 (by unfold nums; rw [List.map_map]; exact hP.2)
  rw [h, Lib.Lz.strOfNums_map]
 clear hP hb HP
 go_wp2
 go_ret2
 exact ⟨rfl, HB.out⟩
def BldP (W : World) (base b : Nat) (p v : Value) (l : List UInt8) : Prop :=
 W.heap[b]? = some (.cells #[p, v] 50 (0, 0)) ∧ W.ownsRow base 5 1 v l.length (l.map vb)
def selfP (b : Nat) : Value := .pointer (some ⟨b, 0, none⟩)
def Bld (W : World) (base b : Nat) (l : List UInt8) : Prop := base ≤ b ∧ ∃ p v, (p = .pointer none ∨ p = selfP b) ∧ BldP W base b p v l
def KeepT (w w' : World) : Prop := w.heap.size ≤ w'.heap.size ∧ ∀ (g : Nat) (cs : Array Value) (t : TypeId), w.heap[g]? = some (.cells cs t (0, 0)) → t ≠ 5 → t ≠ 50 → w'.heap[g]? = some (.cells cs t (0, 0))
theorem KeepT.refl (w : World) : KeepT w w := ⟨Nat.le_refl _, fun _ _ _ h _ _ => h⟩
theorem KeepT.trans {a b c : World} (h : KeepT a b) (k : KeepT b c) : KeepT a c := ⟨Nat.le_trans h.1 k.1, fun g cs t e h1 h2 => k.2 g cs t (h.2 g cs t e h1 h2) h1 h2⟩
theorem KeepT.below {w w' : World} (h : Below w.heap.size w w') : KeepT w w' := ⟨h.size, fun _ _ _ e _ _ => blk_below e h⟩
theorem KeepT.grown {w w' : World} {row : Option Nat} (h : w.grownBy w' row) (hr : ∀ q, row = some q → ∃ cs t, w.heap[q]? = some (.cells cs t (0, 0)) ∧ (t = 5 ∨ t = 50)) : KeepT w w' := by
 refine ⟨h.size, fun g cs t e h1 h2 => blk_grown e h ?_⟩
 intro hg
 obtain ⟨cs', t', e', ht⟩ := hr g hg.symm
 rw [e] at e'
 injection e' with e'
 injection e' with _ e2
 rcases ht with rfl | rfl
 ·
  exact h1 e2
 ·
  exact h2 e2
theorem own_row_type {W : World} {base n : Nat} {v : Value} {xs : List Value} (h : W.ownsRow base 5 1 v n xs) : ∀ q, v.ownBlock = some q → ∃ cs t, W.heap[q]? = some (.cells cs t (0, 0)) ∧ (t = 5 ∨ t = 50) := by
 intro q hq
 rcases h.2 with ⟨rfl, _⟩ | ⟨g, cap, cur, rfl, _, hb, _⟩
 ·
  cases hq
 ·
  injection hq with hq
  subst hq
  exact ⟨_, _, hb, .inl rfl⟩
theorem KeepT.own {w w' : World} {base e n : Nat} {v : Value} {xs : List Value} (h : w.ownsRow base e 1 v n xs) (k : KeepT w w') (h1 : e ≠ 5) (h2 : e ≠ 50) : w'.ownsRow base e 1 v n xs := by
 refine ⟨h.1, ?_⟩
 rcases h.2 with h | ⟨g, cap, cur, e1, e2, hb, e3⟩
 ·
  exact .inl h
 ·
  exact .inr ⟨g, cap, cur, e1, e2, k.2 g cur e hb h1 h2, e3⟩
theorem KeepT.grownW {w w' : World} {b : Nat} {cs : Array Value} (h : w.grownBy w' (some b)) (hb : w.heap[b]? = some (.cells cs 50 (0, 0))) : KeepT w w' :=
 KeepT.grown h (fun q hq => by
  injection hq with hq
  subst hq
  exact ⟨_, _, hb, .inr rfl⟩)
theorem bld_size : (Tryz.prog.info? 48).map (·.size) = some 2 := by kernel_rfl
theorem bld_lies : liesAt Tryz.prog Tryz.prog.depth 50 (2 / Tryz.prog.cellsOf 50) 0 48 1 = true := by kernel_rfl
set_option maxHeartbeats 1000000 in
set_option maxRecDepth 100000 in
theorem check_used (b : Nat) (w : World) (h0 : w.cell? ⟨b, 0, none⟩ = some (.pointer (some ⟨b, 0, none⟩))) :
  Calls Tryz.prog 41 #[.pointer (some ⟨b, 0, none⟩)] w fun e w' => e = .returned (.tuple #[]) ∧ w' = w := by
 obtain ⟨j, hj, _⟩ := Option.map_eq_some_iff.1 bld_size
 go_enter Tryz.func41, Tryz.ntmps41
 go_wp2
 rw [Lib.run_neq_ptr_same w _ Tryz.underlying46 hj]
 go_wp2
 go_end0
 exact ⟨rfl, rfl⟩
set_option maxHeartbeats 1000000 in
set_option maxRecDepth 100000 in
theorem check_fresh (b : Nat) (w : World) (h0 : w.cell? ⟨b, 0, none⟩ = some (.pointer none)) (hsh : w.shape? b = some (50, 2)) (hfz : w.frozen? ⟨b, 0, none⟩ = false) :
  Calls Tryz.prog 41 #[.pointer (some ⟨b, 0, none⟩)] w fun e w' => e = .returned (.tuple #[]) ∧ w' = w.setCell ⟨b, 0, none⟩ (.pointer (some ⟨b, 0, none⟩)) := by
 obtain ⟨j, hj, hjs⟩ := Option.map_eq_some_iff.1 bld_size
 go_enter Tryz.func41, Tryz.ntmps41
 go_wp2
 rw [Lib.run_to_unsafe w ⟨b, 0, none⟩ Tryz.underlying46 Tryz.underlying98 hj (by rw [hjs]; decide) hsh (Nat.zero_lt_succ 1)]
 simp only [Result.andThen]
 rw [Oper.upon_value]
 go_wp2
 rw [run_callFunc_extern Tryz.func68 Z13 Z13 Z13 (e := Extern.AbiNoEscape.same) Z13]
 rw [Lib.run_noEscape]
 simp only [Result.andThen]
 rw [Oper.upon_value]
 go_wp2
 rw [Lib.run_from_unsafe w ⟨b, 0, none⟩ Tryz.underlying98 Tryz.underlying46 hj hsh bld_lies]
 simp only [Result.andThen]
 rw [Oper.upon_value]
 go_wp2
 go_end0
 exact ⟨rfl, rfl⟩
theorem check_c (w : World) (base b : Nat) (p v : Value) (l : List UInt8) (hp : p = .pointer none ∨ p = selfP b) (h : BldP w base b p v l) (hb : base ≤ b) :
  Calls Tryz.prog 41 #[.pointer (some ⟨b, 0, none⟩)] w fun e w' => e = .returned (.tuple #[]) ∧ BldP w' base b (selfP b) v l ∧ w.grownBy w' (some b) ∧ ∀ B, B ≤ b → Below B w w' := by
 rcases hp with rfl | rfl
 ·
  refine (check_fresh b w ((blk_cell h.1 0).trans rfl) (by simp [World.shape?, h.1]) (blk_frozen h.1 0)).mono ?_
  rintro e w' ⟨rfl, rfl⟩
  refine ⟨rfl, ⟨blk_put h.1 0 _ rfl, h.2.kept (Lib.grownBy_setCell w b 0 _) (own_not (own_ne_blk h.2 h.1 Z11))⟩, Lib.grownBy_setCell w b 0 _, fun B hB => (Below.refl B w).setCell (p := ⟨b, 0, none⟩) hB _⟩
 ·
  refine (check_used b w ((blk_cell h.1 0).trans rfl)).mono ?_
  rintro e w' ⟨rfl, rfl⟩
  exact ⟨rfl, h, World.grownBy.refl _ _, fun B hB => Below.refl B _⟩
set_option maxHeartbeats 1000000 in
set_option maxRecDepth 100000 in
theorem write_c (w0 : World) (base b : Nat) (l : List UInt8) (s : ByteArray) (w : World) (h : Bld w base b l) (hB : Below base w0 w) (hlen : l.length + s.size ≤ 140737488355328) :
  Calls Tryz.prog 19 #[.pointer (some ⟨b, 0, none⟩), .string s] w fun e w' => e = .returned (.tuple #[.int .i64 s.size, .nilIface]) ∧ Bld w' base b (l ++ s.data.toList) ∧ Below base w0 w' ∧ KeepT w w' := by
 obtain ⟨hbb, p, v, hp, hP⟩ := h
 have HB := Aside0.mk hB
 have HBB := Aside0.mk hbb
 have HL := Aside0.mk hlen
 have HP := Aside0.mk hP
 have HC := Aside0.mk hp
 clear hB hbb hlen hP hp
 go_enter Tryz.func19, Tryz.ntmps19
 go_wp2_with fail
 refine (check_c w base b p v l HC.out HP.out HBB.out).mono ?_
 rintro e w1 ⟨rfl, h1, h3, h2⟩
 have HK1 : Aside0 (KeepT w w1) := ⟨KeepT.grownW h3 HP.out.1⟩
 have HP1 := Aside0.mk h1
 have HB1 : Aside0 (Below base w0 w1) := ⟨HB.out.trans (h2 base HBB.out)⟩
 have c1 := (blk_cell h1.1 1).trans (show (#[selfP b, v] : Array Value)[1]? = some v from rfl)
 clear h1 h2 h3 HP HC HB
 obtain ⟨i0, hi, hz0, hz1, hz2⟩ := info_parts infoU8
 go_wp2_with (at_builtin; go_must (refine Lib.wpList_append_own_string _ rfl _ _ 31 9 rfl base 5 i0 Tryz.underlying31 Tryz.underlying9 hi hz0 hz1 hz2 _ _ _ rfl HP1.out.2 s rfl ?c3 ?c4 ?c5 ?_; (case c3 => have := HL.out; unfold maxLen; omega); (case c4 => have := HL.out; omega); (case c5 => have := blk_lt HP1.out.1; have := HBB.out; omega); intro v2 w2 ho hg _; obtain ⟨a2, n2, d2, rfl⟩ := own_slice ho; have hb2 := blk_grown HP1.out.1 hg (own_ne_blk HP1.out.2 HP1.out.1 Z11); have c2 := (blk_cell hb2 1).trans (show (#[selfP b, v] : Array Value)[1]? = some v from rfl); have f2 := blk_frozen hb2 1; have HP2 := Aside0.mk hb2; have HW2 := Aside0.mk ho; have HB2 := Aside0.mk (HB1.out.grown hg (by have := blk_lt HP1.out.1; have := HBB.out; omega) (fun k hk => (HP1.out.2.lt k hk).1)); have HK2 := Aside0.mk (HK1.out.trans (KeepT.grown hg (own_row_type HP1.out.2))); clear ho hg hb2))
 go_ret2
 refine ⟨rfl, ⟨HBB.out, selfP b, .slice a2 n2 d2, .inr rfl, blk_put HP2.out 1 _ rfl, ?_⟩, HB2.out.setCell (p := ⟨b, 1, none⟩) HBB.out _, HK2.out.trans (KeepT.grownW (Lib.grownBy_setCell w2 b 1 _) HP2.out)⟩
 have h := HW2.out.kept (Lib.grownBy_setCell w2 b 1 (.slice a2 n2 d2)) (own_not (own_ne_blk HW2.out HP2.out Z11))
 have e : (l ++ s.data.toList).map vb = l.map vb ++ Lib.strCells s := by
  rw [List.map_append]
  rfl
 rw [e, List.length_append]
 have e2 : s.data.toList.length = s.size := by simp
 rw [e2]
 exact h
theorem own_slice' {W : World} {base e n : Nat} {v : Value} {xs : List Value} (h : W.ownsRow base e 1 v n xs) : ∃ a c, v = .slice a n c := by
 rcases h.2 with ⟨rfl, rfl⟩ | ⟨q, cap, cur, rfl, _⟩
 ·
  exact ⟨_, _, rfl⟩
 ·
  exact ⟨_, _, rfl⟩
set_option maxHeartbeats 1000000 in
set_option maxRecDepth 100000 in
theorem len_c (base b : Nat) (l : List UInt8) (w : World) (h : Bld w base b l) :
  Calls Tryz.prog 22 #[.pointer (some ⟨b, 0, none⟩)] w fun e w' => e = .returned (.int .i64 l.length) ∧ w = w' := by
 obtain ⟨hbb, p, v, hp, hP⟩ := h
 obtain ⟨a, c, rfl⟩ := own_slice' hP.2
 have c1 := (blk_cell hP.1 1).trans (show (#[p, .slice a l.length c] : Array Value)[1]? = some (.slice a l.length c) from rfl)
 clear hp hP hbb
 go_enter Tryz.func22, Tryz.ntmps22
 go_wp2
 go_ret
 exact ⟨rfl, rfl⟩
theorem cells_u8 : Tryz.prog.cellsOf 5 = 1 := by kernel_rfl
set_option maxHeartbeats 1000000 in
set_option maxRecDepth 100000 in
theorem string_c (w0 : World) (base b : Nat) (l : List UInt8) (w : World) (h : Bld w base b l) (h0 : l ≠ []) (hB : Below base w0 w) :
  Calls Tryz.prog 23 #[.pointer (some ⟨b, 0, none⟩)] w fun e w' => e = .returned (.string ⟨l.toArray⟩) ∧ Below base w0 w' := by
 obtain ⟨hbb, p, v, hp, hbk, hown⟩ := h
 have hl0 : l.length ≠ 0 := by simpa using h0
 obtain ⟨g, cap, cur, rfl, hbg, hg, hnc, hcm, hcs, htake⟩ : ∃ g cap cur, v = .slice (some ⟨g, 0, none⟩) l.length cap ∧ base ≤ g ∧ w.heap[g]? = some (.cells cur 5 (0, 0)) ∧ l.length ≤ cap ∧ cap ≤ maxLen ∧ cur.size = cap * 1 ∧ cur.toList.take (l.length * 1) = l.map vb := by
  rcases hown.2 with ⟨_, hz⟩ | ⟨g, cap, cur, hv, r⟩
  ·
   exact absurd hz hl0
  ·
   exact ⟨g, cap, cur, hv, r⟩
 have c1 : w.drew.cell? ⟨b, 1, none⟩ = some (.slice (some ⟨g, 0, none⟩) l.length cap) := (blk_cell (blk_drew hbk) 1).trans rfl
 have hSD : (Builtin.unsafeSliceData_ #[31] 77 #[.slice (some ⟨g, 0, none⟩) l.length cap]).run Tryz.prog w.drew = .ok (.pointer (some ⟨g, 0, none⟩)) w.drew :=
  Lib.run_unsafeSliceData_row _ _ _ _ _ _ Z3
 have hUS : (Builtin.unsafeString_ #[77, 3] 9 #[.pointer (some ⟨g, 0, none⟩), .int .i64 l.length]).run Tryz.prog w.drew = .ok (.string ⟨l.toArray⟩) (w.drew.freeze ⟨g, 0, none⟩ l.length) := by
  refine Lib.run_unsafeString_row w.drew 77 3 9 5 Tryz.underlying77 cells_u8 g cur.size (by have hg' : w.drew.heap[g]? = some (.cells cur 5 (0, 0)) := hg; simp [World.shape?, hg']) l h0 Z3 (by unfold maxLen at hcm; omega) ?_
  intro j x hx
  exact hown.cells (g := g) rfl j (.int .u8 x.toNat) (by simp [vb, hx])
 have HB := Aside0.mk hB
 have HG := Aside0.mk hbg
 clear hp hown hbk h0 hl0 hg hnc hcm hcs htake hB hbg hbb
 go_enter Tryz.func23, Tryz.ntmps23
 go_wp2
 go_region
 all_goals (go_wp2; go_ret; exact ⟨rfl, Lib.below_freeze (below_drew1 HB.out) (p := ⟨g, 0, none⟩) HG.out _⟩)
def Wrote (w0 w w' : World) (base b : Nat) (l : List UInt8) : Prop := Bld w' base b l ∧ Below base w0 w' ∧ KeepT w w'
theorem Bld.below {w w' : World} {base b : Nat} {l : List UInt8} (h : Bld w base b l) (hb : Below w.heap.size w w') : Bld w' base b l := by
 obtain ⟨h1, p, v, hp, h2, h3⟩ := h
 exact ⟨h1, p, v, hp, blk_below h2 hb, h3.kept (grown_of_below hb none) (by cases hv : v.ownBlock <;> simp)⟩
theorem Bld.size {w : World} {base b : Nat} {l : List UInt8} (h : Bld w base b l) : base ≤ w.heap.size := by
 obtain ⟨h1, p, v, hp, h2, h3⟩ := h
 have := blk_lt h2
 omega
set_option maxHeartbeats 1000000 in
set_option maxRecDepth 100000 in
theorem aput_c (w0 : World) (base b : Nat) (l : List UInt8) (N wd : Nat) (x m : Int) (w : World) (h : Bld w base b l) (hB : Below base w0 w) (hx : x = (N : Int)) (hm : m = (wd : Int)) (h1 : 1 ≤ wd) (h6 : wd ≤ 6) (hN : N < 9223372036854775808) (hfit : N / 256 ^ wd = 0) (hlen : l.length ≤ 1000000000) :
  Calls Tryz.prog 20 #[.pointer (some ⟨b, 0, none⟩), .int .i64 x, .int .i64 m] w fun e w' => e = .returned (.tuple #[]) ∧ Wrote w0 w w' base b (l ++ le N wd) := by
 have H := Aside0.mk h
 have HB := Aside0.mk hB
 have HF := Aside0.mk (And.intro hx (And.intro hm (And.intro h1 (And.intro h6 (And.intro hN (And.intro hfit hlen))))))
 clear h hB hx hm h1 h6 hN hfit hlen
 go_enter Tryz.func20, Tryz.ntmps20
 go_wp2_with fail
 refine (put_c N wd x m w HF.out.1 HF.out.2.1 HF.out.2.2.1 HF.out.2.2.2.1 HF.out.2.2.2.2.1 HF.out.2.2.2.2.2.1).mono ?_
 rintro e w1 ⟨rfl, hb⟩
 have H1 := Aside0.mk (H.out.below hb)
 have HB1 := Aside0.mk (below_then HB.out H.out.size hb)
 have HK1 := Aside0.mk (KeepT.below hb)
 clear hb
 go_wp2_with fail
 refine (write_c w0 base b l ⟨(le N wd).toArray⟩ w1 H1.out HB1.out (by have := HF.out.2.2.2.2.2.2; have h2 : (⟨(le N wd).toArray⟩ : ByteArray).size = wd := (by show (le N wd).toArray.size = wd; rw [List.size_toArray, le_length]); have := HF.out.2.2.2.1; omega)).mono ?_
 rintro e w2 ⟨rfl, h1, h2, h3⟩
 have HW := Aside0.mk (show Wrote w0 w w2 base b (l ++ le N wd) from ⟨h1, h2, HK1.out.trans h3⟩)
 clear h1 h2 h3
 go_wp2
 go_end0
 exact ⟨rfl, HW.out⟩
set_option maxHeartbeats 1000000 in
set_option maxRecDepth 100000 in
theorem text_c (w0 : World) (base b : Nat) (l : List UInt8) (s : ByteArray) (w : World) (h : Bld w base b l) (hB : Below base w0 w) (hs : s.size < 256) (hlen : l.length ≤ 999999999) :
  Calls Tryz.prog 43 #[.pointer (some ⟨b, 0, none⟩), .string s] w fun e w' => e = .returned (.tuple #[]) ∧ Wrote w0 w w' base b (l ++ (le s.size 1 ++ s.data.toList)) := by
 have H := Aside0.mk h
 have HB := Aside0.mk hB
 have HF := Aside0.mk (And.intro hs hlen)
 clear h hB hs hlen
 go_enter Tryz.func43, Tryz.ntmps43
 go_wp2_with fail
 refine (aput_c w0 base b l s.size 1 _ _ w H.out HB.out rfl rfl Z11 Z11 Z25 Z25 Z25).mono ?_
 rintro e w1 ⟨rfl, h1, h2, h3⟩
 have H1 := Aside0.mk h1
 have HB1 := Aside0.mk h2
 have HK1 := Aside0.mk h3
 clear h1 h2 h3
 go_wp2_with fail
 refine (write_c w0 base b (l ++ le s.size 1) s w1 H1.out HB1.out (by have := HF.out; rw [List.length_append, le_length]; omega)).mono ?_
 rintro e w2 ⟨rfl, h1, h2, h3⟩
 rw [List.append_assoc] at h1
 have HW := Aside0.mk (show Wrote w0 w w2 base b (l ++ (le s.size 1 ++ s.data.toList)) from ⟨h1, h2, HK1.out.trans h3⟩)
 clear h1 h2 h3
 go_wp2
 go_end0
 exact ⟨rfl, HW.out⟩
def blankL (p : List UInt8) : Bool := p.all (· == 0)
def piece (s : List UInt8) (i : Nat) : List UInt8 := (s.drop (448 * i)).take 448
def nPieces (n : Nat) : Nat := (n + 447) / 448
def live (s : List UInt8) (n : Nat) : List Nat := (List.range n).filter fun i => !blankL (piece s i)
theorem live_succ (s : List UInt8) (n : Nat) : live s (n + 1) = live s n ++ (if blankL (piece s n) then [] else [n]) := by
 unfold live
 rw [List.range_succ, List.filter_append]
 cases h : blankL (piece s n) <;> simp [h]
theorem live_length (s : List UInt8) (n : Nat) : (live s n).length ≤ n := by
 have := List.length_filter_le (fun i => !blankL (piece s i)) (List.range n)
 rw [List.length_range] at this
 exact this
theorem live_lt {s : List UInt8} {n i : Nat} (h : i ∈ live s n) : i < n := by
 unfold live at h
 exact List.mem_range.1 (List.mem_filter.1 h).1
theorem blank_l0 (s : ByteArray) (hs : s.size < 4294967296) : ∀ (d i : Nat), i + d = s.size → Evs (fun k => archive_blank.l0 k s (s.size : Int) (i : Int)) (blankL ((pb s).drop i)) := by
 intro d
 induction d with
 | zero =>
  intro i hi
  refine evs_step (fun k => by rw [archive_blank.l0, if_neg Z3]) ?_
  rw [List.drop_eq_nil_of_le Z37]
  exact evs_const _
 | succ d ih =>
  intro i hi
  have hi2 : i < s.size := by omega
  have hl : i < (pb s).length := by rw [pb_len]; exact hi2
  have hg : (pb s).getD i 0 = (pb s)[i]'hl := by rw [List.getD_eq_getElem?_getD, List.getElem?_eq_getElem hl]; rfl
  refine evs_step (fun k => by rw [archive_blank.l0, if_pos Z3, if_pos Z3, if_pos Z3, bt_pb hi2, show wrap64 ((i : Int) + 1) = ((i + 1 : Nat) : Int) from by rw [w64 Z3 Z3]; rfl]) ?_
  rw [List.drop_eq_getElem_cons hl, hg]
  by_cases h0 : (pb s)[i]'hl = 0
  ·
   refine evs_pos (by rw [h0]; rfl) ?_
   have e : blankL ((pb s)[i]'hl :: (pb s).drop (i + 1)) = blankL ((pb s).drop (i + 1)) := by
    unfold blankL
    rw [List.all_cons, h0]
    rfl
   rw [e]
   exact ih (i + 1) Z3
  ·
   have hn : ¬ ((((pb s)[i]'hl).toNat : Nat) : Int) = 0 := fun e => h0 (by
    have : ((pb s)[i]'hl).toNat = 0 := by omega
    exact UInt8.toNat_inj.1 this)
   refine evs_neg hn ?_
   have e : blankL ((pb s)[i]'hl :: (pb s).drop (i + 1)) = false := by
    unfold blankL
    rw [List.all_cons, beq_eq_false_iff_ne.2 h0]
    rfl
   rw [e]
   exact evs_const _
theorem blank_c (s : ByteArray) (w : World) (hs : s.size < 4294967296) :
  Calls Tryz.prog 71 #[.string s] w fun e w' => e = .returned (.bool (blankL (pb s))) ∧ Drawn0 w w' := by
 obtain ⟨K, h⟩ := blank_l0 s hs s.size 0 Z3
 exact archive_blank.calls K s _ w (h K (Nat.le_refl _))
theorem pieces_c (s : ByteArray) (w : World) (hs : s.size < 4294967296) :
  Calls Tryz.prog 70 #[.string s] w fun e w' => e = .returned (.int .i64 ((nPieces s.size : Nat) : Int)) ∧ Drawn0 w w' := by
 refine archive_pieces.calls s _ w ?_
 unfold archive_pieces.f nPieces
 rw [w64 (x := (s.size : Int) + 448) Z3 Z3, w64 (x := (s.size : Int) + 448 - 1) Z3 Z3, Int.tdiv_eq_ediv_of_nonneg Z3, w64 Z3 Z3]
 refine congrArg some ?_
 have e : (s.size : Int) + 448 - 1 = ((s.size + 447 : Nat) : Int) := by omega
 rw [e]
 exact (Int.natCast_ediv _ _).symm
theorem piece_c (s : ByteArray) (i : Nat) (w : World) (hs : s.size < 4294967296) (hi : 448 * i ≤ s.size) :
  Calls Tryz.prog 72 #[.string s, .int .i64 (i : Int)] w fun e w' => e = .returned (.string ⟨(piece (pb s) i).toArray⟩) ∧ Below w.heap.size w w' := by
 refine archive_piece.calls s (i : Int) _ w ?_
 unfold archive_piece.f
 rw [w64 (x := (i : Int) * 448) Z3 Z3, w64 (x := (i : Int) + 1) Z3 Z3, w64 (x := ((i : Int) + 1) * 448) Z3 Z3]
 have hm : mn (((i : Int) + 1) * 448) (s.size : Int) = ((min ((i + 1) * 448) s.size : Nat) : Int) := by unfold mn; split <;> omega
 rw [hm, if_pos Z3, if_pos Z3, if_pos Z3]
 refine congrArg some (pb_inj ?_)
 rw [pb_ext, List.extract_eq_take_drop, Int.toNat_natCast, show ((i : Int) * 448).toNat = 448 * i by omega]
 unfold piece
 show _ = (List.take 448 (List.drop (448 * i) (pb s)))
 by_cases h : (i + 1) * 448 ≤ s.size
 ·
  rw [Nat.min_eq_left h, show (i + 1) * 448 - 448 * i = 448 by omega]
 ·
  rw [Nat.min_eq_right Z3, List.take_of_length_le (by rw [List.length_drop, pb_len]; omega), List.take_of_length_le (by rw [List.length_drop, pb_len]; omega)]
def partB (s : List UInt8) (i : Nat) : List UInt8 := le i 4 ++ piece s i
def fileB (s : List UInt8) : List UInt8 := le s.length 6 ++ (le (live s (nPieces s.length)).length 4 ++ (live s (nPieces s.length)).flatMap (partB s))
theorem piece_len (s : List UInt8) (i : Nat) : (piece s i).length ≤ 448 := by
 unfold piece
 rw [List.length_take]
 omega
theorem piece_size (s : ByteArray) (i : Nat) : (⟨(piece (pb s) i).toArray⟩ : ByteArray).size ≤ 448 := by
 show (piece (pb s) i).toArray.size ≤ 448
 rw [List.size_toArray]
 exact piece_len _ _
theorem KeepT.grownNew {w wr w6 : World} {row : Option Nat} (h : KeepT w wr) (hg : wr.grownBy w6 row) (hr : ∀ q, row = some q → w.heap.size ≤ q) : KeepT w w6 := by
 refine ⟨Nat.le_trans h.1 hg.size, fun g cs t e h1 h2 => blk_grown (h.2 g cs t e h1 h2) hg ?_⟩
 intro hq
 have := hr g hq.symm
 have := blk_lt e
 omega
theorem Bld.grownT {w w' : World} {base b : Nat} {l : List UInt8} {row : Option Nat} (h : Bld w base b l) (hg : w.grownBy w' row) (hr : ∀ q, row = some q → ∃ cs t, w.heap[q]? = some (.cells cs t (0, 0)) ∧ t ≠ 5 ∧ t ≠ 50) : Bld w' base b l := by
 obtain ⟨h1, p, v, hp, h2, h3⟩ := h
 refine ⟨h1, p, v, hp, blk_grown h2 hg ?_, h3.kept hg ?_⟩
 ·
  intro hq
  obtain ⟨cs, t, e, _, ht⟩ := hr b hq.symm
  rw [h2] at e
  injection e with e
  injection e with _ e2
  exact ht e2.symm
 ·
  cases hv : v.ownBlock with
  | none => exact .inl rfl
  | some q =>
   refine .inr ?_
   intro hq
   obtain ⟨cs, t, e, ht, _⟩ := hr q hq.symm
   exact own_ne_blk h3 e (Ne.symm ht) hv.symm
theorem own_int_type {W : World} {base n : Nat} {v : Value} {xs : List Value} (h : W.ownsRow base 3 1 v n xs) : ∀ q, v.ownBlock = some q → ∃ cs t, W.heap[q]? = some (.cells cs t (0, 0)) ∧ t ≠ 5 ∧ t ≠ 50 := by
 intro q hq
 rcases h.2 with ⟨rfl, _⟩ | ⟨g, cap, cur, rfl, _, hb, _⟩
 ·
  cases hq
 ·
  injection hq with hq
  subst hq
  exact ⟨_, _, hb, Z11, Z11⟩
theorem below_alloc' {B : Nat} {w w1 : World} (h : Below B w w1) (hB : B ≤ w1.heap.size) (o : Obj) : Below B w (w1.alloc o) := below_then h hB (below_alloc (Below.refl _ _) o)
def ints (l : List Nat) : List Value := l.map fun (i : Nat) => Value.int .i64 (i : Int)
theorem infoInt : (Tryz.prog.info? 3).map (fun i => (i.zero, i.size, i.bytes)) = some (some (.int .i64 0), 1, 8) := by kernel_rfl
theorem pb_mk (l : List UInt8) : pb ⟨l.toArray⟩ = l := rfl
theorem nPieces_lt {n k : Nat} (h : k < nPieces n) : 448 * k ≤ n := by
 unfold nPieces at h
 omega
theorem flat_part_len (s : List UInt8) (l : List Nat) : (l.flatMap (partB s)).length ≤ 452 * l.length := by
 induction l with
 | nil => simp
 | cons a r ih =>
  rw [List.flatMap_cons, List.length_append, List.length_cons]
  have := piece_len s a
  unfold partB at *
  rw [List.length_append, le_length]
  omega
set_option maxHeartbeats 4000000 in
set_option maxRecDepth 100000 in
theorem file_c (w0 : World) (base b : Nat) (l : List UInt8) (s : ByteArray) (w : World) (h : Bld w base b l) (hB : Below base w0 w) (hs : s.size ≤ 100000) (hlen : l.length ≤ 100000000) :
  Calls Tryz.prog 44 #[.pointer (some ⟨b, 0, none⟩), .string s] w fun e w' => e = .returned (.tuple #[]) ∧ Wrote w0 w w' base b (l ++ fileB (pb s)) := by
 have H := Aside0.mk h
 have HB := Aside0.mk hB
 have HF := Aside0.mk hs
 have HL := Aside0.mk hlen
 have H2s : Aside0 (base ≤ w.heap.size) := ⟨h.size⟩
 clear h hB hs hlen
 go_enter Tryz.func44, Tryz.ntmps44
 go_wp2_with fail
 refine (aput_c w0 base b l s.size 6 _ _ w H.out HB.out rfl rfl Z11 Z11 Z25 Z25 Z46).mono ?_
 rintro e w1 ⟨rfl, g1, g2, g3⟩
 have H1 := Aside0.mk g1
 have HB1 := Aside0.mk g2
 have HK1 := Aside0.mk g3
 clear g1 g2 g3 H HB
 go_wp2_with fail
 refine (pieces_c s w1 Z25).mono ?_
 rintro e w2 ⟨rfl, ⟨⟨nd, rfl⟩⟩⟩
 obtain ⟨N, hN⟩ : ∃ N, N = nPieces s.size := ⟨_, rfl⟩
 rw [← hN]
 have HN := Aside0.mk (And.intro hN (show N ≤ 230 by have := HF.out; rw [hN]; unfold nPieces; omega))
 clear hN
 have H2 := Aside0.mk (H1.out.below (pw_below_drewN (Below.refl _ _) nd))
 have HB2 := Aside0.mk (pw_below_drewN HB1.out nd)
 have HK2 := Aside0.mk (HK1.out.trans (KeepT.below (pw_below_drewN (Below.refl _ _) nd)))
 clear H1 HB1 HK1
 generalize w1.drewN nd = w2 at H2 HB2 HK2 ⊢
 go_wp2_with fail
 go_loopw [4, 14] (fun v i wr => ∃ k : Nat, k ≤ N ∧ i = .int .i64 k ∧ Aside0 (Bld wr base b (l ++ le s.size 6)) ∧ Aside0 (wr.ownsRow w.heap.size 3 1 v (live (pb s) k).length (ints (live (pb s) k))) ∧ Aside0 (Below base w0 wr) ∧ Aside0 (KeepT w wr)) (fun _ i _ => N - (intOf i).toNat)
 case atStart => exact ⟨0, Z3, rfl, H2, ⟨World.ownsRow_nil _ _ _ _⟩, HB2, HK2⟩
 case round =>
  clear H2 HB2 HK2
  obtain ⟨k, hk, rfl, H, HW, HB, HK⟩ := hrel
  rename_i wr
  by_cases hlt : k < N
  ·
   have hk229 : k ≤ 229 := by have := HN.out; omega
   have hk448 : 448 * k ≤ s.size := nPieces_lt (by rw [← HN.out.1]; exact hlt)
   have HK448 := Aside0.mk hk448
   clear hk448
   go_wp2_with fail
   refine (piece_c s k wr Z25 HK448.out).mono ?_
   rintro e w3 ⟨rfl, hb3⟩
   have H3 := Aside0.mk (H.out.below hb3)
   have HB3 := Aside0.mk (below_then HB.out H.out.size hb3)
   have HK3 := Aside0.mk (HK.out.trans (KeepT.below hb3))
   have HW3 := Aside0.mk ((KeepT.below hb3).own HW.out Z11 Z11)
   clear hb3 H HB HK HW
   go_wp2_with fail
   refine (blank_c ⟨(piece (pb s) k).toArray⟩ w3 (by have := piece_size s k; omega)).mono ?_
   rintro e w4 ⟨rfl, ⟨⟨nd, rfl⟩⟩⟩
   rw [pb_mk]
   have H4 := Aside0.mk (H3.out.below (pw_below_drewN (Below.refl _ _) nd))
   have HB4 := Aside0.mk (pw_below_drewN HB3.out nd)
   have HK4 := Aside0.mk (HK3.out.trans (KeepT.below (pw_below_drewN (Below.refl _ _) nd)))
   have HW4 := Aside0.mk ((KeepT.below (pw_below_drewN (Below.refl w3.heap.size w3) nd)).own HW3.out Z11 Z11)
   clear H3 HB3 HK3 HW3
   generalize w3.drewN nd = w4 at H4 HB4 HK4 HW4 ⊢
   cases hbl : blankL (piece (pb s) k) with
   | true =>
    have HBL := Aside0.mk hbl
    clear hbl
    go_wp2
    go_roundw
    case rel => exact ⟨k + 1, Z3, rfl, H4, ⟨by rw [live_succ, if_pos HBL.out, List.append_nil]; exact HW4.out⟩, HB4, HK4⟩
    case measure => simp [intOf]; omega
   | false =>
    have HBL := Aside0.mk hbl
    clear hbl
    obtain ⟨i0, hi, hz0, hz1, hz2⟩ := info_parts infoInt
    go_wp2_with ((with_reducible refine gate_builtin (b := .append) (xs := #[.tmp 22, .tmp 24]) rfl ?_); at_builtin; go_must (refine wpList_append_own _ rfl (.tmp 22) (.tmp 24) 80 rfl w.heap.size 3 i0 (.int .i64 0) 1 8 Tryz.underlying80 hi hz0 hz1 hz2 rfl Z11 _ (live (pb s) k).length _ rfl (HW4.out.alloc _) ⟨w4.heap.size, 0, none⟩ 1 1 [.int .i64 (k : Int)] rfl rfl ?c1 ?c2 ?c3 ?c4 ?c5 ?_; (case c1 => intro j u hj; rw [Addr.add_mid, Nat.zero_add]; exact (blk_cell (blk_new w4 _) j).trans (by simpa using hj)); (case c2 => intro u hu; simp only [List.mem_cons, List.mem_nil_iff, or_false] at hu; subst hu; rfl); (case c3 => have := live_length (pb s) k; have := HN.out; unfold maxLen; omega); (case c4 => have := live_length (pb s) k; have := HN.out; omega); (case c5 => rw [alloc_sz]; have := HK4.out.1; omega); intro v6 w6 ho hg _; have HW6 := Aside0.mk ho; have HB6 := Aside0.mk ((below_alloc' HB4.out H4.out.size _).grown hg (by rw [alloc_sz]; have := H4.out.size; omega) (fun q hq => Nat.le_trans H2s.out (HW4.out.lt q hq).1)); have HK6 := Aside0.mk ((HK4.out.trans (KeepT.below (below_alloc (Below.refl w4.heap.size w4) _))).grownNew hg (fun q hq => (HW4.out.lt q hq).1)); have H6 := Aside0.mk ((H4.out.below (below_alloc (Below.refl w4.heap.size w4) _)).grownT hg (own_int_type (HW4.out.alloc _))); clear ho hg))
    go_roundw
    case rel =>
     refine ⟨k + 1, Z3, rfl, H6, ⟨?_⟩, HB6, HK6⟩
     have e : live (pb s) (k + 1) = live (pb s) k ++ [k] := by rw [live_succ, HBL.out]; rfl
     rw [e, List.length_append]
     unfold ints
     rw [List.map_append]
     exact HW6.out
    case measure => simp [intOf]; omega
  ·
   have hkN : k = N := by omega
   subst k
   obtain ⟨L, hL⟩ : ∃ L, L = live (pb s) N := ⟨_, rfl⟩
   rw [← hL] at HW
   have HLL := Aside0.mk hL
   clear hL
   obtain ⟨a, c, rfl⟩ := own_slice' HW.out
   have hl230 : L.length ≤ 230 := by have := HN.out; have := live_length (pb s) N; rw [← HLL.out] at this; omega
   go_wp2_with fail
   refine (aput_c w0 base b (l ++ le s.size 6) L.length 4 _ _ wr H.out HB.out rfl rfl Z11 Z11 Z3 Z3 (by have := HL.out; rw [List.length_append, le_length]; omega)).mono ?_
   rintro e w3 ⟨rfl, g1, g2, g3⟩
   have H3 := Aside0.mk g1
   have HB3 := Aside0.mk g2
   have HK3 := Aside0.mk (HK.out.trans g3)
   have HW3 := Aside0.mk (g3.own HW.out Z11 Z11)
   clear g1 g2 g3 H HB HK HW
   have HLen : Aside0 (∀ j, j < L.length → (l ++ le s.size 6 ++ le L.length 4 ++ (L.take j).flatMap (partB (pb s))).length ≤ 100200000) := ⟨fun j hj => by
    have h1 := flat_part_len (pb s) (L.take j)
    have h2 := HL.out
    rw [List.length_take] at h1
    rw [List.length_append, List.length_append, List.length_append, le_length, le_length]
    omega⟩
   go_wp2_with fail
   go_loopw [33] (fun i wr => ∃ k : Nat, k ≤ L.length ∧ i = .int .i64 k ∧ Aside0 (Bld wr base b (l ++ le s.size 6 ++ le L.length 4 ++ (L.take k).flatMap (partB (pb s)))) ∧ Aside0 (wr.ownsRow w.heap.size 3 1 (.slice a L.length c) L.length (ints L)) ∧ Aside0 (Below base w0 wr) ∧ Aside0 (KeepT w wr)) (fun i _ => L.length - (intOf i).toNat)
   case atStart => exact ⟨0, Z3, rfl, ⟨by simpa using H3.out⟩, HW3, HB3, HK3⟩
   case round =>
    clear H3 HB3 HK3 HW3
    obtain ⟨k, hk, rfl, H, HW, HB, HK⟩ := hrel
    by_cases hlt : k < L.length
    ·
     obtain ⟨x, hx⟩ : ∃ x, x = L[k]'hlt := ⟨_, rfl⟩
     have hcx : wr.cell? ⟨0, 0, none⟩ = wr.cell? ⟨0, 0, none⟩ := rfl
     clear hcx
     obtain ⟨g, cap, cur, ev, _, hgb, hnc, _, _, htake⟩ : ∃ g cap cur, (Value.slice a L.length c) = .slice (some ⟨g, 0, none⟩) L.length cap ∧ w.heap.size ≤ g ∧ wr.heap[g]? = some (.cells cur 3 (0, 0)) ∧ L.length ≤ cap ∧ cap ≤ maxLen ∧ cur.size = cap * 1 ∧ cur.toList.take (L.length * 1) = ints L := by
      rcases HW.out.2 with ⟨_, hz⟩ | ⟨g, cap, cur, hv, r⟩
      ·
       omega
      ·
       exact ⟨g, cap, cur, hv, r⟩
     injection ev with ea _ ec
     subst ea
     clear ec
     have cx := HW.out.cells (g := g) rfl k (.int .i64 (x : Int)) (by rw [hx]; simp [ints, hlt])
     rw [Addr.add_mid, Nat.zero_add] at cx
     have HX := Aside0.mk (And.intro hx (show 448 * x ≤ s.size from nPieces_lt (by
      have h1 : x ∈ L := by rw [hx]; exact List.getElem_mem hlt
      have h2 : x ∈ live (pb s) N := by rw [← HLL.out]; exact h1
      rw [← HN.out.1]
      exact live_lt h2)))
     clear hx hgb hnc htake
     go_wp2_with fail
     refine (aput_c w0 base b _ x 4 _ _ wr H.out HB.out rfl rfl Z11 Z11 (by have := HX.out; have := HF.out; omega) (by have := HX.out; have := HF.out; omega) (by have := HLen.out k hlt; omega)).mono ?_
     rintro e w3 ⟨rfl, g1, g2, g3⟩
     have H3 := Aside0.mk g1
     have HB3 := Aside0.mk g2
     have HK3 := Aside0.mk (HK.out.trans g3)
     have HW3 := Aside0.mk (g3.own HW.out Z11 Z11)
     clear g1 g2 g3 H HB HK HW cx
     go_wp2_with fail
     refine start_ (n := 7) (S := fun _ => True) (ds := []) #[false, false, false, false, false, false, false] Z13 rfl rfl trivial (fun _ => ?_)
     have H4 := Aside0.mk (H3.out.below (below_drew (Below.refl _ _)))
     have HB4 := Aside0.mk (below_drew1 HB3.out)
     have HK4 := Aside0.mk (HK3.out.trans (KeepT.below (below_drew (Below.refl _ _))))
     have HW4 := Aside0.mk (HW3.out.drew)
     clear H3 HB3 HK3 HW3
     generalize w3.drew = w4 at H4 HB4 HK4 HW4 ⊢
     refine pk 0 40 (bl 7 1) ?_
     refine pk 1 41 (bl 7 3) ?_
     refine pk 2 42 (bl 7 7) ?_
     refine pk 3 43 (bl 7 15) ?_
     refine pk 4 44 (bl 7 31) ?_
     refine one_ (i := 5) (N := some 45) (bl 7 63) rfl rfl Z13 Z11 (fun K hK => ?_)
     refine goes_ Tryz.func72 Z13 rfl #[.string s, .int .i64 (x : Int)] (by rfl) rfl rfl Z19 ?_
     refine (piece_c s x _ Z25 HX.out.2).mono ?_
     rintro e w5 ⟨rfl, hb5⟩
     have H5 := Aside0.mk (H4.out.below hb5)
     have HB5 := Aside0.mk (below_then HB4.out H4.out.size hb5)
     have HK5 := Aside0.mk (HK4.out.trans (KeepT.below hb5))
     have HW5 := Aside0.mk ((KeepT.below hb5).own HW4.out Z11 Z11)
     refine ⟨_, rfl, ?_⟩
     refine hK.out _ _ trivial (fun _ => ?_)
     clear hK K hb5 H4 HB4 HK4 HW4
     refine norm_ (a' := ?_) ?_ ?_
     rotate_left; · show Act.put _ (some 45) _ = _; simp only [Act.put, List.setIfInBounds_toArray, List.set_cons_zero, List.set_cons_succ, i64_w, i32_w]; rfl
     refine one_ (i := 6) (N := some 46) (bl 7 127) rfl rfl Z13 Z11 (fun K hK => ?_)
     refine goes_ Tryz.func19 Z13 rfl #[.pointer (some ⟨b, 0, none⟩), .string ⟨(piece (pb s) x).toArray⟩] (by rfl) rfl rfl Z19 ?_
     refine (write_c w0 base b _ ⟨(piece (pb s) x).toArray⟩ w5 H5.out HB5.out (by have h1 := piece_size s x; have h2 := HLen.out k Z3; rw [List.length_append, le_length]; omega)).mono ?_
     rintro e w6 ⟨rfl, g1, g2, g3⟩
     have H6 := Aside0.mk g1
     have HB6 := Aside0.mk g2
     have HK6 := Aside0.mk (HK5.out.trans g3)
     have HW6 := Aside0.mk (g3.own HW5.out Z11 Z11)
     refine ⟨_, rfl, ?_⟩
     refine hK.out _ _ trivial (fun _ => ?_)
     clear hK K g1 g2 g3 H5 HB5 HK5 HW5
     refine norm_ (a' := ?_) ?_ ?_
     rotate_left; · show Act.put _ (some 46) _ = _; simp only [Act.put, List.setIfInBounds_toArray, List.set_cons_zero, List.set_cons_succ, i64_w, i32_w]; rfl
     refine done_ Z13 ?_
     go_wp2
     go_roundw
     case rel =>
      refine ⟨k + 1, Z3, rfl, ⟨?_⟩, HW6, HB6, HK6⟩
      have e : (L.take (k + 1)).flatMap (partB (pb s)) = (L.take k).flatMap (partB (pb s)) ++ (le x 4 ++ piece (pb s) x) := by
       rw [List.take_add_one, List.getElem?_eq_getElem hlt, List.flatMap_append, HX.out.1]
       simp [partB]
      rw [e]
      have h := H6.out
      simp only [List.append_assoc] at h ⊢
      exact h
     case measure => simp [intOf]; omega
    ·
     have hkL : k = L.length := by omega
     subst hkL
     go_wp2
     go_end0
     refine ⟨rfl, ?_, HB.out, HK.out⟩
     have h := H.out
     rw [List.take_length] at h
     unfold fileB
     have e1 : (pb s).length = s.size := pb_len s
     rw [e1, ← HN.out.1, ← HLL.out, ← List.append_assoc, ← List.append_assoc]
     exact h
def textB (s : List UInt8) : List UInt8 := le s.length 1 ++ s
def nodeB (p d : List UInt8) (kd ino at_ : Nat) : List UInt8 :=
 le kd 1 ++ (textB p ++ (if kd = 1 then (if ino = at_ then le 0 4 ++ fileB d else le ino 4) else if kd = 3 then textB d else []))
theorem Wrote.then' {w0 w w1 w2 : World} {base b : Nat} {l l' : List UInt8} (h : Wrote w0 w w1 base b l) (k : Wrote w0 w1 w2 base b l') : Wrote w0 w w2 base b l' := ⟨k.1, k.2.1, h.2.2.trans k.2.2⟩
theorem textB_len (s : ByteArray) : (textB (pb s)).length = s.size + 1 := by
 unfold textB
 rw [List.length_append, le_length, pb_len]
 omega
set_option maxHeartbeats 1000000 in
set_option maxRecDepth 100000 in
theorem node_c (w0 : World) (base b : Nat) (l : List UInt8) (p d : ByteArray) (ino kd at_ : Nat) (xi xk xa x2 x4 x5 : Int) (w : World) (h : Bld w base b l) (hB : Below base w0 w) (hxi : xi = (ino : Int)) (hxk : xk = (kd : Int)) (hxa : xa = (at_ : Int))
  (hp : p.size < 256) (hk : kd = 1 ∧ d.size ≤ 100000 ∨ kd = 2 ∨ kd = 3 ∧ d.size < 256) (hi : ino < 4294967296) (hat : at_ < 4294967296) (hlen : l.length ≤ 90000000) :
  Calls Tryz.prog 21 #[.pointer (some ⟨b, 0, none⟩), .agg #[.string p, .int .i64 xi, .int .i64 x2, .int .i64 xk, .int .i64 x4, .int .i64 x5, .string d], .int .i64 xa] w fun e w' => e = .returned (.tuple #[]) ∧ Wrote w0 w w' base b (l ++ nodeB (pb p) (pb d) kd ino at_) := by
 subst hxi hxk hxa
 have hu46 := Tryz.underlying38
 have hu44 := Tryz.underlying36
 have H := Aside0.mk (show Wrote w0 w w base b l from ⟨h, hB, KeepT.refl w⟩)
 have HF := Aside0.mk (And.intro hp (And.intro hk (And.intro hi (And.intro hat hlen))))
 have HS := Aside0.mk h.size
 clear h hB hp hk hi hat hlen
 go_enter Tryz.func21, Tryz.ntmps21
 go_wp2_with (first | ((with_reducible refine gate_dst (N := 4) rfl ?_); (try (refine gate_guard (by rfl) ?_; dsimp only)); refine box_event ?hg (N := 4) ?hd (cs := #[.string p, .int .i64 (ino : Int), .int .i64 x2, .int .i64 (kd : Int), .int .i64 x4, .int .i64 x5, .string d]) (t := 38) ?hr ?_; (case hd => rfl); (case hg => rfl); (case hr => first | (go_simp; done) | (go_simp; rfl)); intro gb hg w5 hbox hb; have n0_ := Aside0.mk (H.out.then' ⟨H.out.1.below hb, below_then H.out.2.1 HS.out hb, KeepT.below hb⟩); have n1_ := Aside0.mk hbox; clear H HS hb hbox; have H := n0_; have BK := n1_; clear n0_ n1_ hg; have c3 : w5.cell? ⟨gb, 3, none⟩ = some (.int .i64 (kd : Int)) := (blk_cell BK.out 3).trans rfl))
 refine (aput_c w0 base b l kd 1 _ _ w5 H.out.1 H.out.2.1 rfl rfl Z11 Z11 Z25 Z25 Z25).mono ?_
 rintro e w6 ⟨rfl, h6⟩
 have H6 := Aside0.mk (H.out.then' h6)
 have B6 := Aside0.mk (h6.2.2.2 _ _ _ BK.out Z11 Z11)
 clear h6 H BK c3
 have c0 : w6.cell? ⟨gb, 0, none⟩ = some (.string p) := (blk_cell B6.out 0).trans rfl
 go_wp2_with fail
 refine (text_c w0 base b _ p w6 H6.out.1 H6.out.2.1 HF.out.1 (by have := HF.out; rw [List.length_append, le_length]; omega)).mono ?_
 rintro e w7 ⟨rfl, h7⟩
 have H7 := Aside0.mk (show Wrote w0 w w7 base b (l ++ (le kd 1 ++ textB (pb p))) from by
  have := H6.out.then' h7
  rw [List.append_assoc] at this
  unfold textB
  rw [pb_len]
  exact this)
 have B7 := Aside0.mk (h7.2.2.2 _ _ _ B6.out Z11 Z11)
 have HL7 : Aside0 ((l ++ (le kd 1 ++ textB (pb p))).length ≤ 90000300) := ⟨by have := HF.out; rw [List.length_append, List.length_append, le_length, textB_len]; omega⟩
 clear h7 H6 B6 c0
 have c3 : w7.cell? ⟨gb, 3, none⟩ = some (.int .i64 (kd : Int)) := (blk_cell B7.out 3).trans rfl
 have c0 : w7.cell? ⟨gb, 1, none⟩ = some (.int .i64 (ino : Int)) := (blk_cell B7.out 1).trans rfl
 have c6 : w7.cell? ⟨gb, 6, none⟩ = some (.string d) := (blk_cell B7.out 6).trans rfl
 by_cases h1 : kd = 1
 ·
  subst h1
  by_cases h2 : ino = at_
  ·
   subst h2
   have z2 : ((ino : Int) != (ino : Int)) = false := by simp
   go_wp2_with fail
   refine (aput_c w0 base b _ 0 4 _ _ w7 H7.out.1 H7.out.2.1 rfl rfl Z11 Z11 Z11 Z11 (by have := HL7.out; omega)).mono ?_
   rintro e w8 ⟨rfl, h8⟩
   have H8 := Aside0.mk (H7.out.then' h8)
   have B8 := Aside0.mk (h8.2.2.2 _ _ _ B7.out Z11 Z11)
   clear h8 H7 B7 c0 c3 c6
   have c6 : w8.cell? ⟨gb, 6, none⟩ = some (.string d) := (blk_cell B8.out 6).trans rfl
   go_wp2_with fail
   refine (file_c w0 base b _ d w8 H8.out.1 H8.out.2.1 Z25 (by have := HL7.out; rw [List.length_append, le_length]; omega)).mono ?_
   rintro e w9 ⟨rfl, h9⟩
   have H9 := Aside0.mk (H8.out.then' h9)
   clear h9 H8 B8 c6
   go_wp2
   go_end0
   refine ⟨rfl, ?_⟩
   have := H9.out
   simp only [List.append_assoc] at this
   unfold nodeB
   simpa using this
  ·
   have z2 : ((ino : Int) != (at_ : Int)) = true := by simpa using (Z3 : ¬ (ino : Int) = (at_ : Int))
   have h2' := Aside0.mk h2
   clear h2
   go_wp2_with fail
   refine (aput_c w0 base b _ ino 4 _ _ w7 H7.out.1 H7.out.2.1 rfl rfl Z11 Z11 Z25 Z25 (by have := HL7.out; omega)).mono ?_
   rintro e w8 ⟨rfl, h8⟩
   have H8 := Aside0.mk (H7.out.then' h8)
   clear h8 H7 B7 c0 c3 c6
   go_wp2
   (try simp only [Exit.inBlock, Exit.then]); refine bodyPost_ret (results_none rfl _ _ _) rfl ?_
   refine ⟨rfl, ?_⟩
   have := H8.out
   simp only [List.append_assoc] at this
   unfold nodeB
   rw [if_pos rfl, if_neg h2'.out]
   exact this
 ·
  have z1 : ((kd : Int) == 1) = false := by simpa using (Z3 : ¬ (kd : Int) = 1)
  have h1' := Aside0.mk h1
  clear h1
  by_cases h3 : kd = 3
  ·
   subst h3
   go_wp2_with fail
   refine (text_c w0 base b _ d w7 H7.out.1 H7.out.2.1 Z25 (by have := HL7.out; omega)).mono ?_
   rintro e w8 ⟨rfl, h8⟩
   have H8 := Aside0.mk (H7.out.then' h8)
   clear h8 H7 B7 c0 c3 c6
   go_wp2
   go_end0
   refine ⟨rfl, ?_⟩
   have := H8.out
   simp only [List.append_assoc] at this
   unfold nodeB
   rw [if_neg Z11, if_pos rfl]
   unfold textB
   rw [pb_len d]
   unfold textB at this
   exact this
  ·
   have z3 : ((kd : Int) == 3) = false := by simpa using (Z3 : ¬ (kd : Int) = 3)
   have h3' := Aside0.mk h3
   clear h3
   go_wp2
   go_end0
   refine ⟨rfl, ?_⟩
   have := H7.out
   unfold nodeB
   rw [if_neg h1'.out, if_neg h3'.out, List.append_nil]
   exact this
def nodeS (n : S38) (at_ : Nat) : List UInt8 := nodeB (pb n.f0) (pb n.f2) n.f1.f2.toNat n.f1.f0.toNat at_
def nodesB : Nat → List S38 → List UInt8
 | _, [] => []
 | i, n :: r => nodeS n (i + 1) ++ nodesB (i + 1) r
def arcB (l : List S38) : List UInt8 := [65, 82, 67, 72] ++ (le l.length 4 ++ nodesB 0 l)
open Classical in
noncomputable def bytesP (l : List S38) : ByteArray × Int := if normT l = (l, 0) then (⟨(arcB l ++ sha (arcB l)).toArray⟩, 0) else (⟨#[]⟩, 5)
theorem nodesB_append : ∀ (a b : List S38) (i : Nat), nodesB i (a ++ b) = nodesB i a ++ nodesB (i + a.length) b
 | [], b, i => by simp [nodesB]
 | n :: r, b, i => by
  rw [List.cons_append, nodesB, nodesB, nodesB_append r b (i + 1), List.append_assoc, List.length_cons, show i + 1 + r.length = i + (r.length + 1) by omega]
theorem nodesB_take {l : List S38} {k : Nat} (hk : k < l.length) : nodesB 0 (l.take (k + 1)) = nodesB 0 (l.take k) ++ nodeS l[k] (k + 1) := by
 rw [List.take_add_one, List.getElem?_eq_getElem hk, nodesB_append, List.length_take, Nat.min_eq_left Z3, Nat.zero_add]
 simp [nodesB]
def ArcOk (n : S38) : Prop := ∃ kd ino : Nat, n.f1.f2 = (kd : Int) ∧ n.f1.f0 = (ino : Int) ∧ n.f0.size < 256 ∧ (kd = 1 ∧ n.f2.size ≤ 100000 ∨ kd = 2 ∨ kd = 3 ∧ n.f2.size < 256) ∧ ino < 4294967296
theorem tot_mem {l : List S38} {n : S38} (h : n ∈ l) : n.f2.size ≤ tot l := by
 unfold tot
 induction l with
 | nil => cases h
 | cons a r ih =>
  rw [List.map_cons, List.sum_cons]
  rcases List.mem_cons.1 h with rfl | h
  ·
   omega
  ·
   have := ih h
   omega
theorem split_size {s : ByteArray} (h : splitE (pb s) = 0) : s.size < 256 := by
 obtain ⟨_, _, _, e⟩ := splitE_form h
 rw [pb_len] at e
 omega
theorem arc_ok {l : List S38} (h : normT l = (l, 0)) (hl : l.length ≤ 40) (ht : tot l ≤ 60000) : ∀ n ∈ l, ArcOk n := by
 intro n hn
 have hT : Tree l := by
  unfold normT at h
  split at h
  ·
   assumption
  ·
   exact absurd (congrArg Prod.snd h) (by show ¬ (5 : Int) = 0; decide)
 have hm := hT.may n hn
 have hs := split_size (may_split hm)
 have hz := tot_mem hn
 have hi : ∃ ino : Nat, n.f1.f0 = (ino : Int) ∧ ino < 4294967296 := by
  have e : l = canon (sortT l) := by
   have h' := congrArg Prod.fst h
   unfold normT at h'
   rw [if_pos hT] at h'
   exact h'.symm
  have hn' : n ∈ canon (sortT l) := by rw [← e]; exact hn
  unfold canon at hn'
  obtain ⟨m, hm2, rfl⟩ := List.mem_map.1 hn'
  obtain ⟨k, hk, e2⟩ := fst_lt hm2
  rw [(sortT_perm l).length_eq] at hk
  refine ⟨k + 1, ?_, Z3⟩
  show fstI (ino m) 0 (sortT l) + 1 = _
  rw [e2]
  simp
 obtain ⟨i, hi1, hi2⟩ := hi
 unfold mayN at hm
 rw [if_pos (may_split (hT.may n hn))] at hm
 split at hm
 ·
  rename_i e
  exact ⟨2, i, e, hi1, hs, .inr (.inl rfl), hi2⟩
 ·
  split at hm
  ·
   rename_i e
   exact ⟨1, i, e.1, hi1, hs, .inl ⟨rfl, Z3⟩, hi2⟩
  ·
   split at hm
   ·
    rename_i e
    exact ⟨3, i, e, hi1, hs, .inr (.inr ⟨rfl, split_size (of_decide_eq_true hm)⟩), hi2⟩
   ·
    cases hm
theorem fileB_len (s : ByteArray) : (fileB (pb s)).length ≤ 10 + 452 * nPieces s.size := by
 unfold fileB
 rw [List.length_append, List.length_append, le_length, le_length, pb_len]
 have h1 := flat_part_len (pb s) (live (pb s) (nPieces s.size))
 have h2 := live_length (pb s) (nPieces s.size)
 omega
theorem nodeS_len {n : S38} (h : ArcOk n) (i : Nat) : (nodeS n i).length ≤ 102400 := by
 obtain ⟨kd, ino, e1, e2, h1, h2, h3⟩ := h
 unfold nodeS nodeB
 rw [List.length_append, List.length_append, le_length, textB_len]
 have h4 : nPieces n.f2.size ≤ n.f2.size / 448 + 1 := by unfold nPieces; omega
 have h5 := fileB_len n.f2
 split
 ·
  rename_i hk
  split
  ·
   rw [List.length_append, le_length]
   rw [e1] at hk
   omega
  ·
   rw [le_length]
   omega
 ·
  split
  ·
   rename_i hk
   rw [textB_len]
   rw [e1] at hk
   omega
  ·
   rw [List.length_nil]
   omega
theorem nodesB_len : ∀ (l : List S38) (i : Nat), (∀ n ∈ l, ArcOk n) → (nodesB i l).length ≤ 102400 * l.length
 | [], i, _ => by simp [nodesB]
 | n :: r, i, h => by
  rw [nodesB, List.length_append, List.length_cons]
  have h1 := nodeS_len (h n Z23) (i + 1)
  have h2 := nodesB_len r (i + 1) (fun m hm => h m (by simp [hm]))
  omega
theorem take_bound {l : List S38} (h : ∀ n ∈ l, ArcOk n) (hl : l.length ≤ 40) (k : Nat) : ([65, 82, 67, 72] ++ (le l.length 4 ++ nodesB 0 (l.take k))).length ≤ 4100000 := by
 have h1 := nodesB_len (l.take k) 0 (fun n hn => h n (List.mem_of_mem_take hn))
 rw [List.length_take] at h1
 rw [List.length_append, List.length_append, le_length]
 simp only [List.length_cons, List.length_nil]
 omega
theorem same3_ev (a b : List S38) (hb : a.length < 2147483648) (r : Bool) (hr : r = true ↔ a = b) : Evs (fun k => archive_same.f k a b) r := by
 simp only [archive_same.f]
 exact evs_bind (equal_ev a b hb r hr) (evs_const _)
theorem ba_append (a b : List UInt8) : (⟨a.toArray⟩ : ByteArray) ++ ⟨b.toArray⟩ = ⟨(a ++ b).toArray⟩ := by
 refine ByteArray.ext ?_
 rw [ByteArray.data_append]
 simp
theorem below_drawn {w w' : World} (h : Drawn0 w w') : Below w.heap.size w w' := by
 obtain ⟨n, rfl⟩ := h
 exact pw_below_drewN (Below.refl _ _) n
theorem bld_new {w w5 : World} {b : Nat} (hg : b = w.heap.size) (hbox : w5.heap[b]? = some (.cells #[.pointer none, .slice none 0 0] 50 (0, 0))) {base : Nat} (h : base ≤ w.heap.size) : Bld w5 base b [] :=
 ⟨Z3, _, _, .inl rfl, hbox, rfl, .inl ⟨rfl, rfl⟩⟩
set_option maxHeartbeats 4000000 in
set_option maxRecDepth 100000 in
theorem bytes_c (l : List S38) (A : Option Addr) (c : Nat) (w : World) (hr0 : Kd.C k38 w A l.length l) (hc : l.length ≤ c) (hl : l.length ≤ 40) (ht : tot l ≤ 60000) (hwf : Wf l) (hT : Tab w) :
  Calls Tryz.prog 7 #[.slice A l.length c] w fun e w' => e = .returned (.tuple #[.string (bytesP l).1, .int .i64 (bytesP l).2]) ∧ Below w.heap.size w w' := by
 have hu46 := Tryz.underlying38
 have hu44 := Tryz.underlying36
 have HR := Aside0.mk hr0
 have HC := Aside0.mk hc
 have HL := Aside0.mk (And.intro hl ht)
 have HT := Aside0.mk hT
 have HW := Aside0.mk hwf
 clear hr0 hc hl ht hT hwf
 go_enter Tryz.func7, Tryz.ntmps7
 go_wp2_with fail
 refine (normal_c l A c w HR.out HC.out Z46 HW.out HT.out).mono ?_
 rintro e w1 ⟨v, rfl, hv, hb⟩
 have HB := Aside0.mk hb
 have HV := Aside0.mk hv
 clear hb hv
 rcases normT_err l with h0 | hbad
 ·
  obtain ⟨t, ht⟩ : ∃ t, normT l = (t, 0) := ⟨(normT l).1, Prod.ext rfl h0⟩
  have HN := Aside0.mk ht
  rw [ht] at HV ⊢
  have hlt : t.length < 2147483648 := by
   have := normT_len l
   rw [ht] at this
   have := HL.out
   simp only at *
   omega
  have HLT := Aside0.mk hlt
  clear h0 ht hlt
  dsimp only
  obtain ⟨A1, c1, e1⟩ := Kd.R_slice HV.out
  subst e1
  obtain ⟨r, hr⟩ : ∃ r : Bool, r = true ↔ t = l := by
   classical
   exact ⟨decide (t = l), Z23⟩
  obtain ⟨K, hK⟩ := evs_get (same3_ev t l HLT.out r hr)
  have HK := Aside0.mk hK
  have HRR := Aside0.mk hr
  have hC1 := Aside0.mk (Kd.C_below HR.out HB.out)
  clear hK hr
  cases r with
  | false =>
   have HNo : Aside0 (bytesP l = (⟨#[]⟩, 5)) := ⟨by
    unfold bytesP
    rw [if_neg]
    intro F
    have e := HN.out.symm.trans F
    have := HRR.out.2 (congrArg Prod.fst e)
    cases this⟩
   go_wp2_with fail
   refine (archive_same.calls K A1 c1 t A c l false w1 (Kd.R_reads' HV.out).2.2 (Kd.R_reads' HV.out).2.1 hC1.out HC.out HK.out).mono ?_
   rintro e w2 ⟨rfl, hd2⟩
   have HBq := Aside0.mk (below_then HB.out HB.out.size (below_drawn hd2))
   clear hd2
   go_wp2_with fail
   go_ret2
   exact ⟨by rw [HNo.out]; rfl, HBq.out⟩
  | true =>
   have HF : Aside0 (normT l = (l, 0)) := ⟨by rw [HN.out, HRR.out.1 rfl]⟩
   have HP : Aside0 (bytesP l = (⟨(arcB l ++ sha (arcB l)).toArray⟩, 0)) := ⟨by unfold bytesP; rw [if_pos HF.out]⟩
   have HA := Aside0.mk (arc_ok HF.out HL.out.1 HL.out.2)
   go_wp2_with fail
   refine (archive_same.calls K A1 c1 t A c l true w1 (Kd.R_reads' HV.out).2.2 (Kd.R_reads' HV.out).2.1 hC1.out HC.out HK.out).mono ?_
   rintro e w2 ⟨rfl, hd2⟩
   have HBq := Aside0.mk (below_then HB.out HB.out.size (below_drawn hd2))
   clear hd2 HB HV hC1 HK HRR HN HLT
   go_wp2_with ((with_reducible refine gate_dst (N := 25) rfl ?_); (try (refine gate_guard (by rfl) ?_; dsimp only)); refine box_event ?hg (N := 25) ?hd (cs := #[.pointer none, .slice none 0 0]) (t := 50) ?hr ?_; (case hd => rfl); (case hg => rfl); (case hr => first | (go_simp; done) | (go_simp; rfl)); intro b hg w5 hbox hb; have H5 := Aside0.mk (bld_new hg hbox HBq.out.size); have HB5 := Aside0.mk (below_then HBq.out HBq.out.size hb); clear hb hbox hg)
   refine (write_c w w.heap.size b [] ⟨#[65, 82, 67, 72]⟩ w5 H5.out HB5.out Z11).mono ?_
   rintro e w6 ⟨rfl, g1, g2, _⟩
   have H6 := Aside0.mk g1
   have HB6 := Aside0.mk g2
   clear g1 g2 H5 HB5 HBq
   go_wp2_with fail
   refine (aput_c w w.heap.size b _ l.length 4 _ _ w6 H6.out HB6.out rfl rfl Z11 Z11 Z46 Z46 Z11).mono ?_
   rintro e w7 ⟨rfl, g1, g2, _⟩
   have H7 : Aside0 (Bld w7 w.heap.size b ([65, 82, 67, 72] ++ (le l.length 4 ++ nodesB 0 (l.take 0)))) := ⟨by simpa [nodesB] using g1⟩
   have HB7 := Aside0.mk g2
   clear g1 g2 H6 HB6
   go_wp2_with fail
   go_loopw [7, 36] (fun z i wr => ∃ k m : Nat, k ≤ l.length ∧ z = .int .i64 m ∧ i = .int .i64 k ∧ Aside0 (m ≤ 60000 * k) ∧ Aside0 (Bld wr w.heap.size b ([65, 82, 67, 72] ++ (le l.length 4 ++ nodesB 0 (l.take k)))) ∧ Aside0 (Below w.heap.size w wr)) (fun _ i _ => l.length - (intOf i).toNat)
   case atStart => exact ⟨0, 0, Z3, rfl, rfl, ⟨Z3⟩, H7, HB7⟩
   case round =>
    clear H7 HB7
    obtain ⟨k, m, hk, rfl, rfl, HM, H, HB⟩ := hrel
    by_cases hkl : k < l.length
    ·
     have HK := Aside0.mk hkl
     obtain ⟨ad, ea, x0, x1, x2, x3, x4, x5, x6⟩ := at_T38 (Kd.C_below HR.out HB.out) (k : Int) Z3 Z3
     cases ea
     simp only [Int.toNat_natCast] at x0 x1 x2 x3 x4 x5 x6
     have p1 : (0 ≤ (k : Int)) = True := eq_true Z3
     have q1 : ((k : Int) < (l.length : Int)) = True := eq_true Z3
     go_wp2_with (first | ((with_reducible refine gate_dst (N := 9) rfl ?_); refine box_event ?hg (N := 9) ?hd (cs := #[.string (⟨#[]⟩ : ByteArray), .int .i64 0, .int .i64 0, .int .i64 0, .int .i64 0, .int .i64 0, .string (⟨#[]⟩ : ByteArray)]) (t := 38) ?hr ?_; (case hd => rfl); (case hg => rfl); (case hr => first | (go_simp; done) | (go_simp; rfl)); intro gb hg w5 hbox hb; have n0_ := Aside0.mk (H.out.below hb); have n1_ := Aside0.mk (below_then HB.out HB.out.size hb); have n2_ := Aside0.mk hbox; have n3_ := Aside0.mk ((by rw [hg]; exact below_size HB.out) : w.heap.size ≤ gb); clear H HB; have H := n0_; have HB := n1_; have BK := n2_; have GE := n3_; clear n0_ n1_ n2_ n3_ hb hbox hg) | ((with_reducible refine gate_store (t := 38) rfl ?_); refine store_node' rfl rfl _ _ rfl gb _ (rdn l k) BK.out rfl rfl rfl ?_; intro w6 hS1 hS2; have s0_ := Aside0.mk (H.out.grownT hS2 (fun q hq => by injection hq with hq; subst hq; exact ⟨_, _, BK.out, Z11, Z11⟩)); have s1_ := Aside0.mk (HB.out.grown hS2 HB.out.size (fun q hq => by injection hq with hq; rw [← hq]; exact GE.out)); have s2_ := Aside0.mk hS1; clear H HB BK hS1 hS2; have H := s0_; have HB := s1_; have BK := s2_; clear s0_ s1_ s2_; have c0 : w6.cell? ⟨gb, 0, none⟩ = some (.string (rdn l k).f0) := (blk_cell BK.out 0).trans rfl; have c1 : w6.cell? ⟨gb, 1, none⟩ = some (.int .i64 (rdn l k).f1.f0) := (blk_cell BK.out 1).trans rfl; have c2 : w6.cell? ⟨gb, 2, none⟩ = some (.int .i64 (rdn l k).f1.f1) := (blk_cell BK.out 2).trans rfl; have c3 : w6.cell? ⟨gb, 3, none⟩ = some (.int .i64 (rdn l k).f1.f2) := (blk_cell BK.out 3).trans rfl; have c4 : w6.cell? ⟨gb, 4, none⟩ = some (.int .i64 (rdn l k).f1.f3) := (blk_cell BK.out 4).trans rfl; have c5 : w6.cell? ⟨gb, 5, none⟩ = some (.int .i64 (rdn l k).f1.f4) := (blk_cell BK.out 5).trans rfl; have c6 : w6.cell? ⟨gb, 6, none⟩ = some (.string (rdn l k).f2) := (blk_cell BK.out 6).trans rfl))
     clear x0 x1 x2 x3 x4 x5 x6
     have hmem : rdn l k ∈ l := rdn_mem HK.out
     have hok := HA.out _ hmem
     have hsz := tot_mem hmem
     obtain ⟨kd, ino, e1, e2, h1, h2, h3⟩ := hok
     have hlen := take_bound HA.out HL.out.1 k
     have hlen1 := take_bound HA.out HL.out.1 (k + 1)
     have hnod : nodesB 0 (l.take (k + 1)) = nodesB 0 (l.take k) ++ nodeB (pb (rdn l k).f0) (pb (rdn l k).f2) kd ino (k + 1) := by
      rw [nodesB_take HK.out, show l[k] = rdn l k from (rd_at HK.out).symm]
      unfold nodeS
      rw [e1, e2]
      rfl
     have HZ := Aside0.mk (And.intro hlen (And.intro hlen1 (And.intro hnod hsz)))
     clear hlen hlen1 hnod hsz hmem
     refine (node_c w w.heap.size b _ (rdn l k).f0 (rdn l k).f2 ino kd (k + 1) _ _ _ _ _ _ w6 H.out HB.out e2 e1 (by rw [w64 Z46 Z46]; rfl) h1 h2 h3 Z46 (by have := HZ.out.1; omega)).mono ?_
     rintro e w7 ⟨rfl, h7⟩
     have hb7 : Bld w7 w.heap.size b ([65, 82, 67, 72] ++ (le l.length 4 ++ nodesB 0 (l.take (k + 1)))) := by
      have := h7.1
      rw [HZ.out.2.2.1]
      simp only [List.append_assoc] at this ⊢
      exact this
     have H7 := Aside0.mk hb7
     have HB7 := Aside0.mk h7.2.1
     have c6' : w7.cell? ⟨gb, 6, none⟩ = some (.string (rdn l k).f2) := (blk_cell (h7.2.2.2 _ _ _ BK.out Z11 Z11) 6).trans rfl
     clear h7 hb7 H HB BK GE c0 c1 c2 c3 c4 c5 c6 e1 e2 h1 h2 h3
     obtain ⟨z, hz, hzb⟩ : ∃ z : Nat, IntKind.i64.wrap ((m : Int) + ((rdn l k).f2.size : Int)) = (z : Int) ∧ z ≤ 60000 * (k + 1) := ⟨m + (rdn l k).f2.size, by
      have := HM.out; have := HZ.out.2.2.2; have := HL.out; have := HK.out
      rw [i64_w, w64 Z3 Z3]
      omega, by have := HM.out; have := HZ.out.2.2.2; have := HL.out; omega⟩
     have g1 : decide ((8388608 : Int) < (z : Int)) = false := decide_eq_false (by have := HL.out; have := HK.out; omega)
     have HZB := Aside0.mk hzb
     clear hzb
     go_wp2_with fail
     refine (len_c w.heap.size b _ w7 H7.out).mono ?_
     rintro e w8 ⟨rfl, rfl⟩
     obtain ⟨n, hn⟩ : ∃ n : Nat, ([65, 82, 67, 72] ++ (le l.length 4 ++ nodesB 0 (l.take (k + 1)))).length = n := ⟨_, rfl⟩
     have g2 : decide ((8388608 : Int) < (n : Int)) = false := decide_eq_false (by have := HZ.out.2.1; omega)
     rw [hn]
     clear hn HM HZ
     go_wp2_with fail
     go_roundw
     case rel =>
      have := HL.out; have := HK.out
      exact ⟨k + 1, z, Z3, rfl, Z38, HZB, H7, HB7⟩
     case measure =>
      have := HL.out; have := HK.out
      rw [w64 Z3 Z3]
      simp [intOf]
      omega
    ·
     have hkL : k = l.length := by omega
     subst hkL
     have q1 : ((l.length : Int) < (l.length : Int)) = False := eq_false Z3
     have H' : Aside0 (Bld wr w.heap.size b (arcB l)) := ⟨by have := H.out; rw [List.take_length] at this; exact this⟩
     clear H HM hk
     go_wp2_with fail
     refine (string_c w w.heap.size b _ wr H'.out (by unfold arcB; simp) HB.out).mono ?_
     rintro e w8 ⟨rfl, hb8⟩
     have HB8 := Aside0.mk hb8
     clear hb8 HB H'
     go_wp2_with fail
     refine (sum_c _ w8 (by have := take_bound HA.out HL.out.1 l.length; rw [List.take_length] at this; show (arcB l).toArray.size < _; rw [List.size_toArray]; unfold arcB; omega)).mono ?_
     rintro e w9 ⟨rfl, hb9⟩
     have HB9 := Aside0.mk (below_then HB8.out HB8.out.size hb9)
     clear hb9 HB8
     have HSZ : Aside0 (¬ 9223372036854775807 < (arcB l).length + (sha (arcB l)).length) := ⟨by have := take_bound HA.out HL.out.1 l.length; rw [List.take_length] at this; rw [sha_length]; unfold arcB; omega⟩
     go_wp2_with fail
     ·
      rename_i hbig
      exact absurd hbig HSZ.out
     ·
      go_ret2
      refine ⟨?_, HB9.out⟩
      rw [HP.out]
      show Ending.returned (.tuple #[.string ((⟨(arcB l).toArray⟩ : ByteArray) ++ ⟨(sha (arcB l)).toArray⟩), .int .i64 0]) = _
      rw [ba_append]
 ·
  have HNo : Aside0 (bytesP l = (⟨#[]⟩, 5)) := ⟨by
   unfold bytesP
   rw [if_neg]
   intro F
   rw [hbad] at F
   exact absurd (congrArg Prod.snd F) (by show ¬ (5 : Int) = 0; decide)⟩
  rw [hbad] at HV ⊢
  clear hbad
  obtain ⟨A1, c1, e1⟩ := Kd.R_slice HV.out
  subst e1
  dsimp only [bad]
  go_wp2_with fail
  go_ret2
  exact ⟨by rw [HNo.out]; rfl, HB.out⟩
end Go.Proofs.YtkhblpmjmkhiiaaGreatDoor.T
