/- One round of the document's sum, in whole numbers of the machine. -/
import Derived.Test.YtkhblpmjmkhiiaaGreatDoorQH1
import Derived.Test.YtkhblpmjmkhiiaaGreatDoorQH5
import Derived.Test.YtkhblpmjmkhiiaaGreatDoorQK0
import Derived.Deep.AppendSrc
namespace Go.Proofs.YtkhblpmjmkhiiaaGreatDoor.T
open Go.RowKit Go.Proofs.YtkhblpmjmkhiiaaGreatDoorW.PrintWords Go.Proofs.YtkhblpmjmkhiiaaGreatDoorW.PrintLast Go.Proofs.YtkhblpmjmkhiiaaGreatDoorW.PrintMore Go.Proofs.YtkhblpmjmkhiiaaGreatDoor.PAll
set_option linter.unusedSimpArgs false
set_option linter.unusedVariables false
theorem i64_mod32 (a : Nat) (h : a < 9223372036854775808) : bits .and .i64 (a : Int) 4294967295 = ((a % 4294967296 : Nat) : Int) := by
 have e := i64_and a 4294967295 h Z11
 rw [show (((4294967295 : Nat)) : Int) = 4294967295 from rfl] at e
 rw [e, show (4294967295 : Nat) = 2 ^ 32 - 1 by decide, Nat.and_two_pow_sub_one_eq_mod]
theorem low_ev (a : Nat) (h : a < 9223372036854775808) : r2_low.f (a : Int) = some ((a % 4294967296 : Nat) : Int) := by
 unfold r2_low.f
 rw [i64_mod32 a h]
theorem right_ev (x n : Nat) (hx : x < 4294967296) (h1 : 1 ≤ n) (h2 : n ≤ 31) : r2_right.f (x : Int) (n : Int) = some ((rotr x n : Nat) : Int) := by
 unfold r2_right.f
 have e0 : wrap64 (32 - (n : Int)) = ((32 - n : Nat) : Int) := by rw [w64 Z3 Z3]; omega
 rw [if_pos Z3, e0, if_pos Z3]
 have hs : shr .i64 (x : Int) (n : Int) = ((x / 2 ^ n : Nat) : Int) := by
  unfold shr
  rw [Int.toNat_natCast, show min n IntKind.i64.bits = n from by show min n 64 = n; omega]
  simp
 have hp : (2 : Nat) ^ (32 - n) ≤ 2 ^ 31 := Nat.pow_le_pow_right Z11 Z3
 have hm : x * 2 ^ (32 - n) < 9223372036854775808 := by
  exact Nat.lt_of_le_of_lt (Nat.mul_le_mul (show x ≤ 4294967295 by omega) hp) Z11
 have hl : shl .i64 (x : Int) (((32 - n : Nat) : Int)) = ((x * 2 ^ (32 - n) : Nat) : Int) := by
  unfold shl
  rw [Int.toNat_natCast, show min (32 - n) IntKind.i64.bits = 32 - n from by show min (32 - n) 64 = _; omega]
  have e : (x : Int) * 2 ^ (32 - n) = ((x * 2 ^ (32 - n) : Nat) : Int) := by simp
  rw [e]
  exact wraps_i64' _ (Int.natCast_nonneg _) (by exact_mod_cast hm)
 have hd : x / 2 ^ n < 4294967296 := Nat.lt_of_le_of_lt (Nat.div_le_self _ _) hx
 rw [hs, hl, i64_or _ _ Z3 hm, low_ev _ (Nat.or_lt_two_pow (n := 63) Z3 Z3)]
 rfl
theorem rd_nat (w : List Nat) (i : Nat) : rd (w.map Int.ofNat) (i : Int) = ((nt w i : Nat) : Int) := by
 unfold rd nt
 rw [Int.toNat_natCast, List.getD_eq_getElem?_getD, List.getD_eq_getElem?_getD, List.getElem?_map]
 cases w[i]? <;> rfl
def ub (x : UInt8) : Int := (x.toNat : Int)
theorem rd_byte (b : List UInt8) (i : Nat) : rd (b.map ub) (i : Int) = ((b8 b i : Nat) : Int) := by
 unfold rd b8
 rw [Int.toNat_natCast, List.getD_eq_getElem?_getD, List.getD_eq_getElem?_getD, List.getElem?_map]
 cases b[i]? <;> rfl
theorem b8_lt256 (b : List UInt8) (i : Nat) : b8 b i < 256 := (b.getD i 0).toNat_lt
theorem word4 (a b c d : Nat) (ha : a < 256) (hb : b < 256) (hc : c < 256) (hd : d < 256) :
  wrap64 (wrap64 (wrap64 (wrap64 (wrap64 (a : Int) * 16777216) + wrap64 (wrap64 (b : Int) * 65536)) + wrap64 (wrap64 (c : Int) * 256)) + wrap64 (d : Int)) = ((a * 16777216 + b * 65536 + c * 256 + d : Nat) : Int) := by
 rw [w64 (x := (a : Int)) Z3 Z3, w64 (x := (a : Int) * 16777216) Z3 Z3, w64 (x := (b : Int)) Z3 Z3, w64 (x := (b : Int) * 65536) Z3 Z3,
  w64 (x := (c : Int)) Z3 Z3, w64 (x := (c : Int) * 256) Z3 Z3, w64 (x := (d : Int)) Z3 Z3, w64 (x := (a : Int) * 16777216 + (b : Int) * 65536) Z3 Z3,
  w64 (x := (a : Int) * 16777216 + (b : Int) * 65536 + (c : Int) * 256) Z3 Z3, w64 Z3 Z3]
 omega
theorem sum4_lt (a b c d : Nat) (ha : a < 4294967296) (hb : b < 4294967296) (hc : c < 4294967296) (hd : d < 4294967296) : a + b + c + d < 9223372036854775808 := by omega
theorem sum4 (a b c d : Nat) (ha : a < 4294967296) (hb : b < 4294967296) (hc : c < 4294967296) (hd : d < 4294967296) : wrap64 (wrap64 (wrap64 ((a : Int) + (b : Int)) + (c : Int)) + (d : Int)) = ((a + b + c + d : Nat) : Int) := by
 rw [w64 (x := (a : Int) + (b : Int)) Z3 Z3, w64 (x := (a : Int) + (b : Int) + (c : Int)) Z3 Z3, w64 Z3 Z3]
 omega
theorem words_l1 (b : List UInt8) : ∀ (n i : Nat), i + n = 48 → Evs (fun k => r2_words.l1 k ((sched b i).map Int.ofNat) ((16 + i : Nat) : Int)) ((sched b 48).map Int.ofNat) := by
 intro n
 induction n with
 | zero =>
  intro i hi
  obtain rfl : i = 48 := by omega
  refine evs_step (g := fun _ => some ((sched b 48).map Int.ofNat)) (fun k => ?_) (evs_const _)
  rw [r2_words.l1, if_neg Z3]
 | succ n ih =>
  intro i hi
  have hl := sched_length b i
  have hlt := sched_lt b i
  have e15 : wrap64 (((16 + i : Nat) : Int) - 15) = ((i + 1 : Nat) : Int) := by rw [w64 Z3 Z3]; omega
  have e2 : wrap64 (((16 + i : Nat) : Int) - 2) = ((i + 14 : Nat) : Int) := by rw [w64 Z3 Z3]; omega
  have e16 : wrap64 (((16 + i : Nat) : Int) - 16) = ((i : Nat) : Int) := by rw [w64 Z3 Z3]; omega
  have e7 : wrap64 (((16 + i : Nat) : Int) - 7) = ((i + 9 : Nat) : Int) := by rw [w64 Z3 Z3]; omega
  have e1 : wrap64 (((16 + i : Nat) : Int) + 1) = ((16 + (i + 1) : Nat) : Int) := by rw [w64 Z3 Z3]; omega
  have hx := nt_lt hlt (i + 1)
  have hy := nt_lt hlt (i + 14)
  have h0 := nt_lt hlt i
  have h9 := nt_lt hlt (i + 9)
  have r7 := right_ev (nt (sched b i) (i + 1)) 7 hx Z3 Z3
  have r18 := right_ev (nt (sched b i) (i + 1)) 18 hx Z3 Z3
  have r17 := right_ev (nt (sched b i) (i + 14)) 17 hy Z3 Z3
  have r19 := right_ev (nt (sched b i) (i + 14)) 19 hy Z3 Z3
  rw [show (((7 : Nat)) : Int) = 7 from rfl] at r7
  rw [show (((18 : Nat)) : Int) = 18 from rfl] at r18
  rw [show (((17 : Nat)) : Int) = 17 from rfl] at r17
  rw [show (((19 : Nat)) : Int) = 19 from rfl] at r19
  have hs0 : bits .xor .i64 (bits .xor .i64 ((rotr (nt (sched b i) (i + 1)) 7 : Nat) : Int) ((rotr (nt (sched b i) (i + 1)) 18 : Nat) : Int)) (((nt (sched b i) (i + 1) : Nat) : Int) / 8) = ((sg0 (nt (sched b i) (i + 1)) : Nat) : Int) := by
   have l7 := rotr_lt (nt (sched b i) (i + 1)) 7
   have l18 := rotr_lt (nt (sched b i) (i + 1)) 18
   have lx := xor_lt32 l7 l18
   rw [i64_xor _ _ Z3 Z3, show ((nt (sched b i) (i + 1) : Nat) : Int) / 8 = ((nt (sched b i) (i + 1) / 8 : Nat) : Int) from by omega, i64_xor _ _ Z3 Z3]
   rfl
  have hs1 : bits .xor .i64 (bits .xor .i64 ((rotr (nt (sched b i) (i + 14)) 17 : Nat) : Int) ((rotr (nt (sched b i) (i + 14)) 19 : Nat) : Int)) (((nt (sched b i) (i + 14) : Nat) : Int) / 1024) = ((sg1 (nt (sched b i) (i + 14)) : Nat) : Int) := by
   have l7 := rotr_lt (nt (sched b i) (i + 14)) 17
   have l18 := rotr_lt (nt (sched b i) (i + 14)) 19
   have lx := xor_lt32 l7 l18
   rw [i64_xor _ _ Z3 Z3, show ((nt (sched b i) (i + 14) : Nat) : Int) / 1024 = ((nt (sched b i) (i + 14) / 1024 : Nat) : Int) from by omega, i64_xor _ _ Z3 Z3]
   rfl
  have g0 : sg0 (nt (sched b i) (i + 1)) < 4294967296 := xor_lt32 (xor_lt32 (rotr_lt _ _) (rotr_lt _ _)) (Nat.lt_of_le_of_lt (Nat.div_le_self _ _) hx)
  have g1 : sg1 (nt (sched b i) (i + 14)) < 4294967296 := xor_lt32 (xor_lt32 (rotr_lt _ _) (rotr_lt _ _)) (Nat.lt_of_le_of_lt (Nat.div_le_self _ _) hy)
  have hnext : ((nt (sched b i) i + sg0 (nt (sched b i) (i + 1)) + nt (sched b i) (i + 9) + sg1 (nt (sched b i) (i + 14))) % 4294967296) = nextW (sched b i) := by
   unfold nextW
   rw [hl, show 16 + i - 16 = i by omega, show 16 + i - 15 = i + 1 by omega, show 16 + i - 7 = i + 9 by omega, show 16 + i - 2 = i + 14 by omega]
  have hsum : wrap64 (wrap64 (wrap64 (((nt (sched b i) i : Nat) : Int) + ((sg0 (nt (sched b i) (i + 1)) : Nat) : Int)) + ((nt (sched b i) (i + 9) : Nat) : Int)) + ((sg1 (nt (sched b i) (i + 14)) : Nat) : Int)) = ((nt (sched b i) i + sg0 (nt (sched b i) (i + 1)) + nt (sched b i) (i + 9) + sg1 (nt (sched b i) (i + 14)) : Nat) : Int) := by
   exact sum4 _ _ _ _ h0 g0 h9 g1
  have hlow := low_ev (nt (sched b i) i + sg0 (nt (sched b i) (i + 1)) + nt (sched b i) (i + 9) + sg1 (nt (sched b i) (i + 14))) (sum4_lt _ _ _ _ h0 g0 h9 g1)
  refine evs_step (fun k => ?_) (ih (i + 1) Z3)
  rw [r2_words.l1, if_pos Z3, e15, e2, e16, e7, e1, rd_nat, rd_nat, rd_nat, rd_nat, if_pos Z3, if_pos (by rw [List.length_map, hl]; omega), if_pos Z3, if_pos (by rw [List.length_map, hl]; omega), if_pos Z3, if_pos (by rw [List.length_map, hl]; omega), r7, Option.bind_some, r18, Option.bind_some, if_pos Z3, if_pos (by rw [List.length_map, hl]; omega), r17, Option.bind_some, r19, Option.bind_some, hs0, hs1, hsum, hlow, Option.bind_some, if_pos (by rw [List.length_map, hl]; omega), hnext]
  congr 1
  show _ = (sched b i ++ [nextW (sched b i)]).map Int.ofNat
  rw [List.map_append]
  rfl
theorem words_l0 (b : List UInt8) (hb : b.length = 64) : ∀ (n i : Nat), i + n = 16 → Evs (fun k => r2_words.l0 k (b.map ub) (((List.range i).map (word b)).map Int.ofNat) (i : Int)) ((sched b 48).map Int.ofNat) := by
 intro n
 induction n with
 | zero =>
  intro i hi
  obtain rfl : i = 16 := by omega
  refine evs_step (fun k => ?_) (words_l1 b 48 0 Z3)
  rw [r2_words.l0, if_neg Z3]
  rfl
 | succ n ih =>
  intro i hi
  have e0 : wrap64 (4 * (i : Int)) = ((4 * i : Nat) : Int) := by rw [w64 Z3 Z3]; omega
  have e1 : wrap64 (((4 * i : Nat) : Int) + 1) = ((4 * i + 1 : Nat) : Int) := by rw [w64 Z3 Z3]; omega
  have e2 : wrap64 (((4 * i : Nat) : Int) + 2) = ((4 * i + 2 : Nat) : Int) := by rw [w64 Z3 Z3]; omega
  have e3 : wrap64 (((4 * i : Nat) : Int) + 3) = ((4 * i + 3 : Nat) : Int) := by rw [w64 Z3 Z3]; omega
  have en : wrap64 ((i : Int) + 1) = ((i + 1 : Nat) : Int) := by rw [w64 Z3 Z3]; omega
  refine evs_step (fun k => ?_) (ih (i + 1) Z3)
  rw [r2_words.l0, if_pos Z3, e0, e1, e2, e3, en, if_pos Z3, if_pos (by rw [List.length_map, hb]; omega), if_pos Z3, if_pos (by rw [List.length_map, hb]; omega), if_pos Z3, if_pos (by rw [List.length_map, hb]; omega), if_pos Z3, if_pos (by rw [List.length_map, hb]; omega), if_pos Z43, rd_byte, rd_byte, rd_byte, rd_byte, word4 _ _ _ _ (b8_lt256 b _) (b8_lt256 b _) (b8_lt256 b _) (b8_lt256 b _)]
  congr 1
  rw [List.range_succ, List.map_append, List.map_append]
  rfl
theorem words_ev (b : List UInt8) (hb : b.length = 64) : Evs (fun k => r2_words.f k (b.map ub)) ((sched b 48).map Int.ofNat) := words_l0 b hb 16 0 Z3
theorem keys_ev : r2_keys.f = some (KS.map Int.ofNat) := by rfl
theorem infoByte : (Tryz.prog.info? 5).map (fun i => (i.zero, i.size, i.bytes)) = some (some (.int .u8 0), 1, 1) := by kernel_rfl
def FRow (w : World) (base : Nat) (v : Value) (l : List UInt8) : Prop :=
 ∃ g cap cur fr, v = .slice (some ⟨g, 0, none⟩) l.length cap ∧ base ≤ g ∧ w.heap[g]? = some (.cells cur 5 fr) ∧ l.length ≤ cap ∧ cap ≤ maxLen ∧ cur.size = cap ∧ cur.toList.take l.length = l.map vb ∧ (fr = (0, 0) ∨ fr = (cap, cap + 1))
theorem FRow.lt {w : World} {base : Nat} {v : Value} {l : List UInt8} {g cap : Nat} (h : FRow w base v l) (e : v = .slice (some ⟨g, 0, none⟩) l.length cap) : g < w.heap.size := by
 obtain ⟨g', _, _, _, e', _, hh, _⟩ := h
 rw [e] at e'
 injection e' with e1
 injection e1 with e1
 injection e1 with e1
 subst e1
 rcases Nat.lt_or_ge g w.heap.size with q | q
 ·
  exact q
 ·
  rw [Array.getElem?_eq_none q] at hh
  cases hh
theorem FRow.below {w w1 : World} {base : Nat} {v : Value} {l : List UInt8} (h : FRow w base v l) (hb : Below w.heap.size w w1) : FRow w1 base v l := by
 obtain ⟨g, cap, cur, fr, rfl, h1, hh, h2⟩ := h
 have hlt : g < w.heap.size := by
  rcases Nat.lt_or_ge g w.heap.size with q | q
  ·
   exact q
  ·
   rw [Array.getElem?_eq_none q] at hh
   cases hh
 exact ⟨g, cap, cur, fr, rfl, h1, by rw [hb.block g hlt]; exact hh, h2⟩
theorem FRow.cells {w : World} {base : Nat} {v : Value} {l : List UInt8} {g cap : Nat} (h : FRow w base v l) (e : v = .slice (some ⟨g, 0, none⟩) l.length cap) : ∀ j u, (l.map vb)[j]? = some u → w.cell? ⟨g, j, none⟩ = some u := by
 obtain ⟨g', cap', cur, fr, e', _, hh, _, _, _, ht, _⟩ := h
 rw [e] at e'
 injection e' with e1
 injection e1 with e1
 injection e1 with e1
 subst e1
 intro j u hu
 rw [cell_of_row w g j cur 5 fr hh]
 rw [← ht, List.getElem?_take] at hu
 split at hu
 ·
  rwa [Array.getElem?_toList] at hu
 ·
  cases hu
theorem FRow.reads {w : World} {base : Nat} {v : Value} {l : List UInt8} (h : FRow w base v l) (hm : l.length ≤ 9223372036854775807) :
  ∃ A c, v = .slice A l.length c ∧ l.length ≤ c ∧ ReadsInt w .u8 A l.length (l.map ub) := by
 have h0 := h
 obtain ⟨g, cap, cur, fr, rfl, _, _, h2, _⟩ := h0
 refine ⟨_, _, rfl, h2, by rw [List.length_map], hm, fun _ => ⟨_, rfl, fun j hj => ?_⟩⟩
 have := h.cells rfl j (vb (l.getD j 0)) (by rw [List.getElem?_map, List.getElem?_eq_getElem hj, List.getD_eq_getElem?_getD, List.getElem?_eq_getElem hj]; rfl)
 rw [add_plain, this]
 simp [vb, ub, List.getD_eq_getElem?_getD, List.getElem?_map, List.getElem?_eq_getElem hj]
theorem frow_bytes (w : World) (base : Nat) (hb : base ≤ w.heap.size) (s : ByteArray) (hs : s.size ≤ maxLen) : FRow (Lib.bytesWorld w 5 s) base (.slice (some ⟨w.heap.size, 0, none⟩) s.size (grownCap w s.size 0 5)) (pb s) := by
 have hsz : (Lib.bytesCells w 5 s).size = grownCap w s.size 0 5 := by
  have := grownCap_ge w s.size 0 5
  simp only [Lib.bytesCells, Array.size_append, Array.size_map, Array.size_replicate]
  have e : s.data.size = s.size := rfl
  omega
 refine ⟨w.heap.size, _, _, _, by rw [pb_len], hb, Lib.bytesWorld_at_new w _ s, by rw [pb_len]; exact grownCap_ge _ _ _ _, grownCap_le_maxLen _ _ _ _ hs, hsz, ?_, .inr (by rw [hsz])⟩
 simp only [Lib.bytesCells, Array.toList_append, Array.toList_map]
 rw [List.take_append_of_le_length (by rw [List.length_map]; exact Nat.le_refl _), List.take_of_length_le (by rw [List.length_map]; exact Nat.le_refl _)]
 rfl
theorem run_append_f (W : World) (base : Nat) (ty : TypeId) (v : Value) (l : List UInt8) (x : UInt8) (h : FRow W base v l) (hbase : base ≤ W.heap.size) (hl : l.length + 1 ≤ 1099511627776) :
  ∃ v' w', (Builtin.append_ #[31, 31] ty #[v, .slice (some ⟨W.heap.size, 0, none⟩) 1 1]).run Tryz.prog (W.alloc (.cells #[vb x] 5 (0, 0))) = .ok v' w' ∧ FRow w' base v' (l ++ [x]) ∧ Below base W w' := by
 obtain ⟨i0, hi, hz0, hz1, hz2⟩ := info_parts infoByte
 have h0 := h
 have hcell := h
 obtain ⟨g, cap, cur, fr, rfl, hbg, hh, hlc, hcm, hcs, ht, hfr⟩ := h0
 have hglt := h.lt rfl
 have hh1 : (W.alloc (.cells #[vb x] 5 (0, 0))).heap[g]? = some (.cells cur 5 fr) := by rw [Below.heap_alloc W _ g hglt]; exact hh
 have hnew : (W.alloc (.cells #[vb x] 5 (0, 0))).heap[W.heap.size]? = some (.cells #[vb x] 5 (0, 0)) := heap_alloc_new _ _
 have hs : Src Tryz.prog i0.size 31 (.slice (some ⟨W.heap.size, 0, none⟩) 1 1) 1 [vb x] (W.alloc (.cells #[vb x] 5 (0, 0))) :=
  Src.ofSlice (P := Tryz.prog) (size := i0.size) (W.alloc (.cells #[vb x] 5 (0, 0))) Tryz.underlying31 ⟨W.heap.size, 0, none⟩ 1 1 [vb x] (by rw [hz1]; rfl) (fun j u hu => by
   have hj : j = 0 := by
    rcases Nat.eq_zero_or_pos j with q | q
    ·
     exact q
    ·
     rw [List.getElem?_eq_none (by show 1 ≤ j; omega)] at hu
     cases hu
   subst hj
   have hu2 : some (vb x) = some u := hu
   rw [add_plain, ← hu2]
   exact cell_of_row _ _ 0 _ _ _ hnew) (fun u hu => by rw [List.mem_singleton] at hu; subst hu; rfl)
 by_cases hroom : l.length + 1 ≤ cap
 ·
  have hr := run_append_room_src (P := Tryz.prog) (w := W.alloc (.cells #[vb x] 5 (0, 0))) 31 31 ty 5 i0 Tryz.underlying31 hi g 0 l.length cap _ 1 [vb x] hs hroom
   (fun j hj => by
    have : j = 0 := by simpa using hj
    subst this
    rw [cell_of_row _ g _ cur _ fr hh1, hz1]
    have hlt : 0 + l.length * 1 + 0 < cur.size := by omega
    rw [Array.getElem?_eq_getElem hlt]
    rfl)
   (fun j hj => by
    have : j = 0 := by simpa using hj
    subst this
    simp only [World.frozen?, hh1]
    rcases hfr with rfl | rfl
    ·
     simp
    ·
     rw [hz1]
     simp
     omega)
  refine ⟨_, _, hr, ?_, ?_⟩
  ·
   refine ⟨g, cap, cur.setIfInBounds l.length (vb x), fr, by rw [List.length_append]; rfl, hbg, ?_, by rw [List.length_append]; exact hroom, hcm, by rw [Array.size_setIfInBounds]; exact hcs, ?_, hfr⟩
   ·
    rw [hz1]
    show ((W.alloc (.cells #[vb x] 5 (0, 0))).setCell ⟨g, 0 + l.length * 1, none⟩ (vb x)).heap[g]? = _
    have hg2 : g < (W.alloc (.cells #[vb x] 5 (0, 0))).heap.size := by
     rcases Nat.lt_or_ge g (W.alloc (.cells #[vb x] 5 (0, 0))).heap.size with q | q
     ·
      exact q
     ·
      rw [Array.getElem?_eq_none q] at hh1
      cases hh1
    simp only [World.setCell, Array.getElem?_modify, hh1]
    simp
   ·
    have hlt : l.length < cur.toList.length := by have e := Array.length_toList (xs := cur); omega
    rw [List.length_append, List.length_singleton, Array.toList_setIfInBounds, List.map_append, List.take_add_one, List.getElem?_set_self hlt, List.take_set_of_le (Nat.le_refl _), ht]
    rfl
  ·
   exact Below.trans (b := W.alloc (.cells #[vb x] 5 (0, 0))) ⟨rfl, rfl, rfl, Z23, fun k hk => Below.heap_alloc W _ k Z3⟩ ((Below.refl base _).setCell (p := ⟨g, 0 + l.length * i0.size, none⟩) hbg _)
 ·
  have hcl : cap = l.length := by omega
  have hr := run_append_grow_src (P := Tryz.prog) (w := W.alloc (.cells #[vb x] 5 (0, 0))) 31 31 ty 5 i0 (.int .u8 0) Tryz.underlying31 hi hz0 (some ⟨g, 0, none⟩) l.length cap (l.map vb)
   (by
    have hcl2 : ∀ j u, (l.map vb)[j]? = some u → (W.alloc (.cells #[vb x] 5 (0, 0))).drew.cell? ((⟨g, 0, none⟩ : Addr).add j) = some u := fun j u hu => by
     rw [add_plain]
     show (W.alloc (.cells #[vb x] 5 (0, 0))).cell? ⟨g, j, none⟩ = some u
     rw [World.cell?_of_block (a := ⟨g, j, none⟩) (Below.heap_alloc W (.cells #[vb x] 5 (0, 0)) g hglt)]
     exact hcell.cells rfl j u hu
    have := run_loadCells_list (P := Tryz.prog) (W.alloc (.cells #[vb x] 5 (0, 0))).drew ⟨g, 0, none⟩ (l.map vb) hcl2
    simpa [Builtin.firstCells, hz1] using this)
   _ 1 [vb x] hs Z3 Z3 (by
    rw [hz2]
    exact growslice_fits (bytes := 1) Z3 Z3)
  refine ⟨_, _, hr, ?_, ?_⟩
  ·
   have hge := grownCap_ge (W.alloc (.cells #[vb x] 5 (0, 0))) (l.length + 1) cap 5
   refine ⟨_, _, _, _, by rw [List.length_append]; rfl, Z43, heap_alloc_new _ _, by rw [List.length_append]; exact hge, grownCap_le_maxLen _ _ _ _ (by simp only [maxLen]; omega), ?_, ?_, .inl rfl⟩
   ·
    simp only [Array.size_append, List.size_toArray, List.length_append, List.length_map, List.length_singleton, size_zeroCells]
    have : (Value.int IntKind.u8 0).cells.size = 1 := rfl
    rw [this]
    omega
   ·
    rw [Array.toList_append, List.length_append, List.length_singleton]
    rw [List.take_append_of_le_length Z23, List.take_of_length_le Z23]
    simp
  ·
   refine Below.trans (b := W.alloc (.cells #[vb x] 5 (0, 0))) ⟨rfl, rfl, rfl, Z23, fun k hk => Below.heap_alloc W _ k Z3⟩ (Below.trans (b := (W.alloc (.cells #[vb x] 5 (0, 0))).drew) ⟨rfl, rfl, rfl, Nat.le_refl _, fun _ _ => rfl⟩ ⟨rfl, rfl, rfl, ?_, fun k hk => Below.heap_alloc _ _ k ?_⟩)
   ·
    exact (below_alloc (Below.refl _ (W.alloc (.cells #[vb x] 5 (0, 0))).drew) _).size
   ·
    have : W.heap.size ≤ (W.alloc (.cells #[vb x] 5 (0, 0))).drew.heap.size := (below_alloc (Below.refl W.heap.size W) (.cells #[vb x] 5 (0, 0))).size
    omega
theorem wpList_append_f {ops : Array Oper} {rest : List Oper} {o : Oper} {a : Act} {Q : Exit → Act → World → Prop} (hgd : o.guard = none) (s x : Operand)
  (ho : o.op = .call { callee := .builtin .append, args := #[s, x], argTypes := #[31, 31] }) (W : World) (base : Nat) (v : Value) (l : List UInt8) (b : UInt8) (u : Value) (hu : u = vb b)
  (hs : a.eval s = v) (hx : a.eval x = .slice (some ⟨W.heap.size, 0, none⟩) 1 1) (h : FRow W base v l) (hbase : base ≤ W.heap.size) (hl : l.length + 1 ≤ 1099511627776)
  (hK : ∀ v' w', FRow w' base v' (l ++ [b]) → Below base W w' → wpList Tryz.prog ops Q rest (a.put o.dst v') w') : wpList Tryz.prog ops Q (o :: rest) a (W.alloc (.cells #[u] 5 (0, 0))) := by
 subst hu
 refine wpList_plain hgd fun K hK' => ?_
 obtain ⟨v', w', hrun, h1, h2⟩ := run_append_f W base o.type v l b h hbase hl
 unfold Oper.wp
 simp [execOp, ho, resolve, invoke, builtin, hs, hx, hrun, Result.andThen, -World.alloc_eq]
 exact hK' _ _ (hK v' w' h1 h2)
theorem b64_snoc (X k : Nat) (hk : k < 8) : (bytes64 X).take (k + 1) = (bytes64 X).take k ++ [UInt8.ofNat (X / 2 ^ (56 - 8 * k))] := by
 rw [List.take_add_one]
 congr 1
 simp [bytes64, hk]
set_option maxHeartbeats 4000000 in
set_option maxRecDepth 100000 in
theorem filled_c (s : ByteArray) (w : World) (hs : s.size < 4294967296) :
  Calls Tryz.prog 50 #[.string s] w fun e w' => ∃ v, e = .returned v ∧ FRow w' w.heap.size v (pad (pb s)) ∧ Below w.heap.size w w' := by
 have HS := Aside0.mk hs
 obtain ⟨n, hn⟩ : ∃ n, n = s.size := ⟨_, rfl⟩
 have HN := Aside0.mk hn
 have kb := fun W => print_bytes (P := Tryz.prog) 9 31 5 Tryz.underlying9 Tryz.underlying31 Tryz.underlying5 s W
 have HF0 := Aside0.mk (frow_bytes w w.heap.size (Nat.le_refl _) s (by simp only [maxLen]; omega))
 have HB0 := Aside0.mk (bytes_below (Below.refl w.heap.size w) (Nat.le_refl _) 5 s)
 clear hs hn
 go_enter Tryz.func50, Tryz.ntmps50
 go_wp2_with ((with_reducible refine gate_builtin (b := .append) (xs := #[.tmp 7, .tmp 8]) rfl ?_); at_builtin; refine wpList_append_f rfl (.tmp 7) (.tmp 8) rfl (Lib.bytesWorld w 5 s) w.heap.size _ (pb s) 128 _ rfl rfl (by first | rfl | (go_simp; rfl)) HF0.out HB0.out.size (by rw [pb_len]; have := HS.out; omega) ?_; intro v1 w1 hf1 hb1; have HF := Aside0.mk hf1; have HB := Aside0.mk (HB0.out.trans hb1); clear hf1 hb1 HF0 HB0)
 go_loopg [3] (padN n) (fun m u3 wr => ∃ k : Nat, k + m = padN n ∧ Aside0 (FRow wr w.heap.size u3 (pb s ++ [128] ++ List.replicate k 0)) ∧ Aside0 (Below w.heap.size w wr))
 case atStart => exact ⟨0, Z3, ⟨by rw [List.replicate_zero, List.append_nil]; exact HF.out⟩, HB⟩
 case round =>
  clear HF HB
  obtain ⟨k, hk, HF, HB⟩ := hrel
  have hlen : (pb s ++ [128] ++ List.replicate k (0 : UInt8)).length = n + 1 + k := by rw [List.length_append, List.length_append, List.length_replicate, HN.out, pb_len]; rfl
  obtain ⟨A3, c3, e3, hc3, _⟩ := HF.out.reads (by rw [hlen]; have := HS.out; have := HN.out; have : padN n < 64 := Nat.mod_lt _ Z11; omega)
  rw [hlen] at e3 hc3
  subst e3
  obtain ⟨L, hL⟩ : ∃ L, L = n + 1 + k := ⟨_, rfl⟩
  rw [← hL] at HF hc3 ⊢
  have HLL := Aside0.mk (And.intro hL hlen)
  clear hL hlen hc3
  by_cases h56 : L % 64 = 56
  ·
   have HK : Aside0 (k = padN n) := ⟨by have := HLL.out.1; unfold padN at hk ⊢; omega⟩
   have q1 : (Int.tmod (L : Int) 64 == 56) = true := by rw [beq_iff_eq, show Int.tmod (L : Int) 64 = ((L % 64 : Nat) : Int) from rfl]; omega
   have q2 : (Int.tmod (L : Int) 64 != 56) = false := by rw [bne, q1]; rfl
   have q3 : ((L : Int) % 64 == 56) = true := by rw [beq_iff_eq]; omega
   have q4 : ((L : Int) % 64 != 56) = false := by rw [bne, q3]; rfl
   obtain ⟨X, hX⟩ : ∃ X, X = 8 * n := ⟨_, rfl⟩
   have w8 : wrap64 (8 * (s.size : Int)) = (X : Int) := by have h1 := HN.out; have h2 := HS.out; rw [w64 Z3 Z3]; omega
   have HX := Aside0.mk hX
   have HF2 : Aside0 (FRow wr w.heap.size (.slice A3 L c3) (pb s ++ [128] ++ List.replicate (padN n) 0 ++ (bytes64 X).take 0)) := ⟨by rw [← HK.out, List.take_zero, List.append_nil]; exact HF.out⟩
   have hl2 : (pb s ++ [128] ++ List.replicate (padN n) (0 : UInt8)).length = n + 1 + padN n := by rw [← HK.out]; exact HLL.out.2
   have HL2 := Aside0.mk hl2
   clear HF HLL HK hX hl2 hk h56
   go_wp2_with fail
   simp only [w8]
   clear w8
   go_loopw [3, 5] (fun v i wr => ∃ k : Nat, k ≤ 8 ∧ i = .int .i64 (56 - 8 * (k : Int)) ∧ Aside0 (FRow wr w.heap.size v (pb s ++ [128] ++ List.replicate (padN n) 0 ++ (bytes64 X).take k)) ∧ Aside0 (Below w.heap.size w wr)) (fun _ i _ => ((intOf i) + 8).toNat)
   case atStart => exact ⟨0, Z3, rfl, HF2, HB⟩
   case round =>
    clear HF2 HB
    obtain ⟨k, hk, rfl, HF, HB⟩ := hrel
    rename_i wr
    by_cases hlt : k < 8
    ·
     obtain ⟨sh, hsh⟩ : ∃ sh, sh = 56 - 8 * k := ⟨_, rfl⟩
     have hsi : (56 - 8 * (k : Int)) = (sh : Int) := by omega
     rw [hsi]
     have hs2 : ((sh : Int) - 8) = 56 - 8 * ((k + 1 : Nat) : Int) := by omega
     have hm : (min sh 64) = sh := by omega
     have HSH := Aside0.mk hsh
     obtain ⟨L2, hL2⟩ : ∃ L2, L2 = n + 1 + padN n + k := ⟨_, rfl⟩
     have hlen5 : (pb s ++ [128] ++ List.replicate (padN n) 0 ++ (bytes64 X).take k).length = L2 := by rw [List.length_append, HL2.out, List.length_take, bytes64_length]; omega
     have hbound : L2 + 1 ≤ 1099511627776 := by have := HS.out; have := HN.out; have : padN n < 64 := Nat.mod_lt _ Z11; omega
     obtain ⟨A3, c3, e3, hc3, _⟩ := HF.out.reads Z3
     rw [hlen5] at e3
     subst e3
     have hl5 : (pb s ++ [128] ++ List.replicate (padN n) 0 ++ (bytes64 X).take k).length + 1 ≤ 1099511627776 := by omega
     have hu8 : Value.int .u8 ((X : Int) / 2 ^ sh % 256) = vb (UInt8.ofNat (X / 2 ^ sh)) := by
      unfold vb
      rw [UInt8.toNat_ofNat']
      simp
     have HL5 := Aside0.mk hl5
     have HU8 := Aside0.mk hu8
     clear hL2 hlen5 hbound hl5 hu8
     clear hsh hsi hc3
     go_wp2_with ((with_reducible refine gate_builtin (b := .append) (xs := #[.tmp 24, .tmp 29]) rfl ?_); at_builtin; refine wpList_append_f rfl (.tmp 24) (.tmp 29) rfl _ w.heap.size _ (pb s ++ [128] ++ List.replicate (padN n) 0 ++ (bytes64 X).take k) (UInt8.ofNat (X / 2 ^ sh)) _ HU8.out rfl (by first | rfl | (go_simp; rfl)) HF.out HB.out.size HL5.out ?_; intro v4 w4 hf4 hb4; have HF4 := Aside0.mk hf4; have HB4 := Aside0.mk (HB.out.trans hb4); clear hf4 hb4 HF HB)
     have HF5 : Aside0 (FRow w4 w.heap.size v4 (pb s ++ [128] ++ List.replicate (padN n) 0 ++ (bytes64 X).take (k + 1))) := ⟨by rw [b64_snoc X k hlt, ← HSH.out, ← List.append_assoc]; exact HF4.out⟩
     clear HF4
     go_roundw
     case rel => exact ⟨k + 1, Z3, by first | rfl | (rw [hs2]), HF5, HB4⟩
     case measure => simp [intOf]; have := HSH.out; omega
    ·
     obtain rfl : k = 8 := by omega
     go_wp2_with fail
     go_ret
     refine ⟨_, rfl, ?_, HB.out⟩
     have e : pb s ++ [128] ++ List.replicate (padN n) (0 : UInt8) ++ (bytes64 X).take 8 = pad (pb s) := by
      unfold pad padN
      rw [List.take_of_length_le (by rw [bytes64_length]; omega), pb_len, HX.out, HN.out]
      congr 3
      have := HS.out
      omega
     rw [← e]
     exact HF.out
  ·
   have q1 : (Int.tmod (L : Int) 64 == 56) = false := by rw [beq_eq_false_iff_ne, show Int.tmod (L : Int) 64 = ((L % 64 : Nat) : Int) from rfl]; omega
   have q2 : (Int.tmod (L : Int) 64 != 56) = true := by rw [bne, q1]; rfl
   have q3 : ((L : Int) % 64 == 56) = false := by rw [beq_eq_false_iff_ne]; omega
   have q4 : ((L : Int) % 64 != 56) = true := by rw [bne, q3]; rfl
   have hk0 : 0 < gk := by have := HLL.out.1; unfold padN at hk; omega
   obtain ⟨m2, hm2⟩ : ∃ m2, gk = m2 + 1 := ⟨gk - 1, Z3⟩
   subst hm2
   have HBs := HB.out.size
   go_wp2_with ((with_reducible refine gate_builtin (b := .append) (xs := #[.tmp 14, .tmp 15]) rfl ?_); at_builtin; refine wpList_append_f rfl (.tmp 14) (.tmp 15) rfl _ w.heap.size _ (pb s ++ [128] ++ List.replicate k 0) 0 _ rfl rfl (by first | rfl | (go_simp; rfl)) HF.out HB.out.size (by rw [HLL.out.2]; have := HS.out; have := HN.out; have : padN n < 64 := Nat.mod_lt _ Z11; omega) ?_; intro v4 w4 hf4 hb4; have HF4 := Aside0.mk hf4; have HB4 := Aside0.mk (HB.out.trans hb4); clear hf4 hb4 HF HB)
   go_roundg m2
   case measure => omega
   case rel => exact ⟨k + 1, Z3, ⟨by rw [List.replicate_succ', ← List.append_assoc]; exact HF4.out⟩, HB4⟩
def vi (n : Nat) : Value := .int .i64 (n : Int)
def IRow (w : World) (g : Nat) (l : List Nat) : Prop :=
 ∃ cur, w.heap[g]? = some (.cells cur 3 (0, 0)) ∧ l.length ≤ cur.size ∧ cur.toList.take l.length = l.map vi
theorem IRow.lt {w : World} {g : Nat} {l : List Nat} (h : IRow w g l) : g < w.heap.size := by
 obtain ⟨cur, hh, _⟩ := h
 rcases Nat.lt_or_ge g w.heap.size with q | q
 ·
  exact q
 ·
  rw [Array.getElem?_eq_none q] at hh
  cases hh
theorem IRow.below {w w1 : World} {g : Nat} {l : List Nat} (h : IRow w g l) (hb : Below w.heap.size w w1) : IRow w1 g l := by
 have hlt := h.lt
 obtain ⟨cur, hh, h2⟩ := h
 exact ⟨cur, by rw [hb.block g hlt]; exact hh, h2⟩
theorem IRow.far {w : World} {g : Nat} {l : List Nat} (h : IRow w g l) (p : Addr) (hp : p.block ≠ g) (v : Value) : IRow (w.setCell p v) g l := by
 have hlt := h.lt
 obtain ⟨cur, hh, h2⟩ := h
 refine ⟨cur, ?_, h2⟩
 simp only [World.setCell, Array.getElem?_modify, hh]
 rw [if_neg hp]
theorem IRow.cell {w : World} {g : Nat} {l : List Nat} (h : IRow w g l) {j : Nat} (hj : j < l.length) : w.cell? ⟨g, j, none⟩ = some (.int .i64 ((nt l j : Nat) : Int)) := by
 obtain ⟨cur, hh, h1, h2⟩ := h
 rw [blk_cell hh]
 have e : (l.map vi)[j]? = some (vi (nt l j)) := by
  rw [List.getElem?_map, List.getElem?_eq_getElem hj]
  unfold nt
  rw [List.getD_eq_getElem?_getD, List.getElem?_eq_getElem hj]
  rfl
 rw [← h2, List.getElem?_take_of_lt hj, Array.getElem?_toList] at e
 exact e
theorem IRow.frozen {w : World} {g : Nat} {l : List Nat} (h : IRow w g l) (j : Nat) : w.frozen? ⟨g, j, none⟩ = false := by
 obtain ⟨cur, hh, _⟩ := h
 exact blk_frozen hh j
theorem IRow.put {w : World} {g : Nat} {l : List Nat} (h : IRow w g l) {j : Nat} (hj : j < l.length) (n : Nat) : IRow (w.setCell ⟨g, j, none⟩ (.int .i64 (n : Int))) g (l.set j n) := by
 obtain ⟨cur, hh, h1, h2⟩ := h
 refine ⟨cur.setIfInBounds j (.int .i64 (n : Int)), blk_put hh j _ rfl, by rw [List.length_set, Array.size_setIfInBounds]; exact h1, ?_⟩
 rw [List.length_set, Array.toList_setIfInBounds, List.take_set, h2, List.map_set]
 rfl
theorem IRow.reads {w : World} {g : Nat} {l : List Nat} (h : IRow w g l) (hm : l.length ≤ 9223372036854775807) : ReadsInt w .i64 (some ⟨g, 0, none⟩) l.length (l.map Int.ofNat) := by
 refine ⟨List.length_map _, hm, fun _ => ⟨_, rfl, fun j hj => ?_⟩⟩
 rw [add_plain]
 show w.cell? ⟨g, j, none⟩ = _
 rw [h.cell hj]
 unfold nt
 simp [List.getD_eq_getElem?_getD, List.getElem?_map, List.getElem?_eq_getElem hj]
theorem IRow.C {w : World} {g : Nat} {l : List Nat} (h : IRow w g l) (hm : l.length ≤ 9223372036854775807) : Kd.C (Kd.int .i64) w (some ⟨g, 0, none⟩) l.length (l.map Int.ofNat) :=
 Kd.C_of_reads (enc := Value.int .i64) (d := (0 : Int)) (h1 := fun _ => rfl) (h.reads hm)
theorem IRow.of_R {w : World} {base : Nat} {ok : Nat → Prop} {v : Value} {l : List Nat} (h : Kd.R (Kd.int .i64) 3 w base ok v (l.map Int.ofNat)) (h0 : 0 < l.length) :
  ∃ g c, v = .slice (some ⟨g, 0, none⟩) l.length c ∧ l.length ≤ c ∧ base ≤ g ∧ IRow w g l := by
 obtain ⟨inner, hi⟩ := Kd.R_own h
 have hl : (l.map Int.ofNat).length = l.length := List.length_map _
 rw [hl] at hi
 obtain ⟨h1, h2⟩ := hi
 rcases h2 with ⟨e, _⟩ | ⟨g, cap, cur, rfl, hb, hh, hnc, hcm, hcs, ht⟩
 ·
  omega
 ·
  refine ⟨g, cap, rfl, hnc, hb, cur, hh, by rw [hcs]; show l.length ≤ cap * 1; omega, ?_⟩
  have hr := Kd.reads_of_C (enc := Value.int .i64) (d := (0 : Int)) (h1 := fun _ => rfl) (Kd.R_reads' h).2.2
  obtain ⟨_, _, h3⟩ := hr
  obtain ⟨ad, ea, hc⟩ := h3 (by rw [hl]; exact h0)
  injection ea with ea
  subst ea
  have hsz : cur.size = cap := by rw [hcs]; show cap * 1 = cap; omega
  apply List.ext_getElem?
  intro j
  by_cases hj : j < l.length
  ·
   rw [List.getElem?_take_of_lt hj, Array.getElem?_toList, ← blk_cell hh j]
   have := hc j (by rw [hl]; exact hj)
   rw [add_plain] at this
   rw [this]
   simp [List.getD_eq_getElem?_getD, List.getElem?_map, List.getElem?_eq_getElem hj, vi]
  ·
   rw [List.getElem?_eq_none (by rw [List.length_take]; omega), List.getElem?_eq_none (by rw [List.length_map]; omega)]
theorem irow_lit {w : World} {g : Nat} {l : List Nat} {cur : Array Value} (hh : w.heap[g]? = some (.cells cur 3 (0, 0))) (e : cur.toList = l.map vi) : IRow w g l :=
 ⟨cur, hh, by rw [← Array.length_toList, e, List.length_map]; exact Nat.le_refl _, by rw [e, List.take_of_length_le (by rw [List.length_map]; exact Nat.le_refl _)]⟩
theorem add64 (a b : Nat) (h : a + b < 9223372036854775808) : wrap64 ((a : Int) + (b : Int)) = ((a + b : Nat) : Int) := by
 rw [w64 Z3 Z3]
 omega
theorem x64 (a b : Nat) (ha : a < 4294967296) (hb : b < 4294967296) : bits .xor .i64 (a : Int) (b : Int) = ((a ^^^ b : Nat) : Int) := i64_xor a b Z3 Z3
theorem n64 (a b : Nat) (ha : a < 4294967296) (hb : b < 4294967296) : bits .and .i64 (a : Int) (b : Int) = ((a &&& b : Nat) : Int) := i64_and a b Z3 Z3
theorem bg1_lt (x : Nat) : bg1 x < 4294967296 := xor_lt32 (xor_lt32 (rotr_lt _ _) (rotr_lt _ _)) (rotr_lt _ _)
theorem bg0_lt (x : Nat) : bg0 x < 4294967296 := xor_lt32 (xor_lt32 (rotr_lt _ _) (rotr_lt _ _)) (rotr_lt _ _)
theorem chs_lt (x y z : Nat) (hx : x < 4294967296) : chs x y z < 4294967296 := xor_lt32 (and_lt32 hx) (and_lt32 Z3)
theorem maj_lt (x y z : Nat) (hx : x < 4294967296) (hy : y < 4294967296) : maj x y z < 4294967296 := xor_lt32 (xor_lt32 (and_lt32 hx) (and_lt32 hx)) (and_lt32 hy)
theorem sum5_lt (a b c d e : Nat) (ha : a < 4294967296) (hb : b < 4294967296) (hc : c < 4294967296) (hd : d < 4294967296) (he : e < 4294967296) : a + b < 9223372036854775808 ∧ a + b + c < 9223372036854775808 ∧ a + b + c + d < 9223372036854775808 ∧ a + b + c + d + e < 21474836480 := by omega
theorem tstep (s4 s5 s6 s7 kk ww : Nat) (h4 : s4 < 4294967296) (h5 : s5 < 4294967296) (h6 : s6 < 4294967296) (h7 : s7 < 4294967296) (hk : kk < 4294967296) (hw : ww < 4294967296) :
  ∃ q6 q11 q25 a11 a16 a17 a24 a28 a32 a33 a34 a39 T : Nat, r2_right.f (s4 : Int) 6 = some (q6 : Int) ∧ r2_right.f (s4 : Int) 11 = some (q11 : Int) ∧ r2_right.f (s4 : Int) 25 = some (q25 : Int) ∧
   bits .xor .i64 (q6 : Int) (q11 : Int) = (a11 : Int) ∧ bits .xor .i64 (a11 : Int) (q25 : Int) = (a16 : Int) ∧ wrap64 ((s7 : Int) + (a16 : Int)) = (a17 : Int) ∧ bits .and .i64 (s4 : Int) (s5 : Int) = (a24 : Int) ∧
   wrap64 (4294967295 - (s4 : Int)) = (a28 : Int) ∧ bits .and .i64 (a28 : Int) (s6 : Int) = (a32 : Int) ∧ bits .xor .i64 (a24 : Int) (a32 : Int) = (a33 : Int) ∧ wrap64 ((a17 : Int) + (a33 : Int)) = (a34 : Int) ∧
   wrap64 ((a34 : Int) + (kk : Int)) = (a39 : Int) ∧ wrap64 ((a39 : Int) + (ww : Int)) = (T : Int) ∧ T = s7 + bg1 s4 + chs s4 s5 s6 + kk + ww ∧ T < 21474836480 := by
 obtain ⟨l1, l2, l3, l4⟩ := sum5_lt s7 (bg1 s4) (chs s4 s5 s6) kk ww h7 (bg1_lt _) (chs_lt _ _ _ h4) hk hw
 refine ⟨rotr s4 6, rotr s4 11, rotr s4 25, rotr s4 6 ^^^ rotr s4 11, bg1 s4, s7 + bg1 s4, s4 &&& s5, 4294967295 - s4, (4294967295 - s4) &&& s6, chs s4 s5 s6, s7 + bg1 s4 + chs s4 s5 s6, s7 + bg1 s4 + chs s4 s5 s6 + kk, s7 + bg1 s4 + chs s4 s5 s6 + kk + ww,
  right_ev s4 6 h4 Z11 Z11, right_ev s4 11 h4 Z11 Z11, right_ev s4 25 h4 Z11 Z11, x64 _ _ (rotr_lt _ _) (rotr_lt _ _), x64 _ _ (xor_lt32 (rotr_lt _ _) (rotr_lt _ _)) (rotr_lt _ _), add64 _ _ l1, n64 _ _ h4 h5, ?_, n64 _ _ Z3 h6,
  x64 _ _ (and_lt32 h4) (and_lt32 Z3), add64 _ _ l2, add64 _ _ l3, add64 _ _ (Nat.lt_trans l4 Z11), rfl, l4⟩
 rw [w64 Z3 Z3]
 omega
theorem ustep (s0 s1 s2 : Nat) (h0 : s0 < 4294967296) (h1 : s1 < 4294967296) (h2 : s2 < 4294967296) :
  ∃ q2 q13 q22 b11 b16 c1 c2 c3 c4 c5 U : Nat, r2_right.f (s0 : Int) 2 = some (q2 : Int) ∧ r2_right.f (s0 : Int) 13 = some (q13 : Int) ∧ r2_right.f (s0 : Int) 22 = some (q22 : Int) ∧
   bits .xor .i64 (q2 : Int) (q13 : Int) = (b11 : Int) ∧ bits .xor .i64 (b11 : Int) (q22 : Int) = (b16 : Int) ∧ bits .and .i64 (s0 : Int) (s1 : Int) = (c1 : Int) ∧ bits .and .i64 (s0 : Int) (s2 : Int) = (c2 : Int) ∧
   bits .xor .i64 (c1 : Int) (c2 : Int) = (c3 : Int) ∧ bits .and .i64 (s1 : Int) (s2 : Int) = (c4 : Int) ∧ bits .xor .i64 (c3 : Int) (c4 : Int) = (c5 : Int) ∧ wrap64 ((b16 : Int) + (c5 : Int)) = (U : Int) ∧ U = bg0 s0 + maj s0 s1 s2 ∧ U < 8589934592 := by
 have hb := bg0_lt s0
 have hm := maj_lt s0 s1 s2 h0 h1
 have hu : bg0 s0 + maj s0 s1 s2 < 8589934592 := Nat.lt_of_lt_of_le (Nat.add_lt_add hb hm) Z11
 refine ⟨rotr s0 2, rotr s0 13, rotr s0 22, rotr s0 2 ^^^ rotr s0 13, bg0 s0, s0 &&& s1, s0 &&& s2, (s0 &&& s1) ^^^ (s0 &&& s2), s1 &&& s2, maj s0 s1 s2, bg0 s0 + maj s0 s1 s2,
  right_ev s0 2 h0 Z11 Z11, right_ev s0 13 h0 Z11 Z11, right_ev s0 22 h0 Z11 Z11, x64 _ _ (rotr_lt _ _) (rotr_lt _ _), x64 _ _ (xor_lt32 (rotr_lt _ _) (rotr_lt _ _)) (rotr_lt _ _), n64 _ _ h0 h1, n64 _ _ h0 h2,
  x64 _ _ (and_lt32 h0) (and_lt32 h0), n64 _ _ h1 h2, x64 _ _ (xor_lt32 (and_lt32 h0) (and_lt32 h0)) (and_lt32 h1), add64 _ _ (Nat.lt_trans hu Z11), rfl, hu⟩
theorem xstep (T U s3 : Nat) (hT : T < 21474836480) (hU : U < 8589934592) (h3 : s3 < 4294967296) :
  ∃ V n0 V2 n4 : Nat, wrap64 ((T : Int) + (U : Int)) = (V : Int) ∧ r2_low.f (V : Int) = some (n0 : Int) ∧ wrap64 ((s3 : Int) + (T : Int)) = (V2 : Int) ∧ r2_low.f (V2 : Int) = some (n4 : Int) ∧ n0 = (T + U) % 4294967296 ∧ n4 = (s3 + T) % 4294967296 :=
 ⟨T + U, (T + U) % 4294967296, s3 + T, (s3 + T) % 4294967296, add64 _ _ Z3, low_ev _ Z3, add64 _ _ Z3, low_ev _ Z3, rfl, rfl⟩
theorem rnd_is (S : List Nat) (kk ww T U : Nat) (hT : T = nt S 7 + bg1 (nt S 4) + chs (nt S 4) (nt S 5) (nt S 6) + kk + ww) (hU : U = bg0 (nt S 0) + maj (nt S 0) (nt S 1) (nt S 2)) :
  rnd S kk ww = [(T + U) % 4294967296, nt S 0, nt S 1, nt S 2, (nt S 3 + T) % 4294967296, nt S 4, nt S 5, nt S 6] := by
 subst hT
 subst hU
 unfold rnd t1 t2
 rw [← Nat.add_mod, Nat.add_mod_mod]
end Go.Proofs.YtkhblpmjmkhiiaaGreatDoor.T
