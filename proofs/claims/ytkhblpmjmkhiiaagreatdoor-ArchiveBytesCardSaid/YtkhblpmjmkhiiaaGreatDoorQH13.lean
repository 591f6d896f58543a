/- What the document's Bytes answers: what archive.Bytes answers. -/
import Derived.Test.YtkhblpmjmkhiiaaGreatDoorQK5
import Derived.Test.YtkhblpmjmkhiiaaGreatDoorQH6
import Derived.Test.YtkhblpmjmkhiiaaGreatDoorQH4

namespace Go.Proofs.YtkhblpmjmkhiiaaGreatDoor.T
open Go.RowKit Go.Proofs.YtkhblpmjmkhiiaaGreatDoorW.PrintWords Go.Proofs.YtkhblpmjmkhiiaaGreatDoorW.PrintLast Go.Proofs.YtkhblpmjmkhiiaaGreatDoorW.PrintMore Go.Proofs.YtkhblpmjmkhiiaaGreatDoor.PAll
set_option linter.unusedSimpArgs false
set_option linter.unusedVariables false
def mkb (l : List UInt8) : ByteArray := ⟨l.toArray⟩
theorem mkb_size (l : List UInt8) : (mkb l).size = l.length := by
 show l.toArray.size = l.length
 exact List.size_toArray
theorem mkb_app (a b : List UInt8) : mkb a ++ mkb b = mkb (a ++ b) := ba_append a b
theorem mkb_pb (s : ByteArray) : mkb (pb s) = s := pb_inj rfl
theorem put_l0 (n w : Nat) (hw : w ≤ 6) (hn : n < 256 ^ w) (hn64 : n < 9223372036854775808) : ∀ (d i : Nat), i + d = w → Evs (fun k => grapnelref01_Put.l0 k ((n / 256 ^ i : Nat) : Int) (w : Int) ((le n i).map ub) (i : Int)) (mkb (le n w), 0) := by
 intro d
 induction d with
 | zero =>
  intro i hi
  obtain rfl : i = w := by omega
  have h0 : n / 256 ^ i = 0 := Nat.div_eq_of_lt hn
  refine evs_step (g := fun _ => some (mkb (le n i), 0)) (fun k => ?_) (evs_const _)
  rw [grapnelref01_Put.l0, if_neg (by omega), h0, if_neg (by decide)]
  congr 2
  exact Lib.Lz.strOfNums_map (le n i)
 | succ d ih =>
  intro i hi
  have hi6 : i < 140737488355328 := by clear hn ih; omega
  have hiw : (i : Int) < (w : Int) := by clear hn ih; omega
  have hq1 : n / 256 ^ (i + 1) = n / 256 ^ i / 256 := by rw [Nat.div_div_eq_div_mul, Nat.pow_succ]
  have hle : n / 256 ^ i ≤ n := Nat.div_le_self _ _
  have e3 : wrap64 ((i : Int) + 1) = ((i + 1 : Nat) : Int) := by clear hn ih; rw [w64 (by omega) (by omega)]; rfl
  have ih1 := ih (i + 1) (by clear hn ih; omega)
  rw [hq1, le_succ] at ih1
  obtain ⟨q, hq⟩ : ∃ q, q = n / 256 ^ i := ⟨_, rfl⟩
  rw [← hq] at hle ih1 ⊢
  have hq64 : q < 9223372036854775808 := by clear hn ih hq1 hq; omega
  clear ih hq1 hq hle hn hn64
  have e1 : wrap64 (Int.tdiv (q : Int) 256) = ((q / 256 : Nat) : Int) := by
   rw [show Int.tdiv (q : Int) 256 = ((q / 256 : Nat) : Int) from rfl]
   exact w64 (by omega) (by omega)
  have e2 : (Int.tmod (q : Int) 256) % 256 = ub (UInt8.ofNat q) := by
   unfold ub
   rw [show Int.tmod (q : Int) 256 = ((q % 256 : Nat) : Int) from rfl, UInt8.toNat_ofNat']
   omega
  have hll : ((le n i).map ub).length < 140737488355328 := by rw [List.length_map, le_length]; exact hi6
  refine evs_step (fun k => ?_) ih1
  rw [grapnelref01_Put.l0, if_pos hiw, if_pos hll, e1, e2, e3]
  congr 1
  rw [List.map_append]
  rfl
theorem put_ev (n w : Nat) (W : Int) (hW : W = (w : Int)) (h1 : 1 ≤ w) (hw : w ≤ 6) (hn : n < 256 ^ w) (hn64 : n < 9223372036854775808) : Evs (fun k => grapnelref18_put.f k (n : Int) W) (mkb (le n w)) := by
 subst hW
 have h := put_l0 n w hw hn hn64 w 0 (by omega)
 have hP : Evs (fun k => grapnelref01_Put.f k (n : Int) (w : Int)) (mkb (le n w), 0) := by
  unfold grapnelref01_Put.f
  refine evs_neg (by omega) ?_
  refine evs_step (fun k => ?_) h
  rw [grapnelref01_Put.j0, if_neg (by rw [decide_eq_true_iff]; omega), if_neg (by omega)]
  rw [Nat.pow_zero, Nat.div_one]
  rfl
 simp only [grapnelref18_put.f]
 exact evs_bind hP (evs_const _)
theorem blank_zeros : ∀ (p : List UInt8), blankL p = true ↔ p = List.replicate p.length 0
 | [] => by simp [blankL]
 | b :: r => by
  have ih := blank_zeros r
  unfold blankL at ih ⊢
  rw [List.all_cons, Bool.and_eq_true, ih, List.length_cons, List.replicate_succ, List.cons.injEq, beq_iff_eq]
theorem noughts_ev (n : Nat) (h : n ≤ 1000000) : grapnelref01_Noughts.f (n : Int) = some (mkb (List.replicate n 0)) := by
 unfold grapnelref01_Noughts.f
 rw [if_pos (by omega), Int.toNat_natCast, if_pos (by omega)]
 congr 1
 have : (List.replicate n (0 : Int)) = (List.replicate n (0 : UInt8)).map fun b => (b.toNat : Int) := by simp
 rw [this]
 exact Lib.Lz.strOfNums_map _
theorem ext_piece (s : ByteArray) (i e : Nat) (he : e = if s.size < 448 * i + 448 then s.size else 448 * i + 448) (hi : 448 * i ≤ s.size) : pb (s.extract (448 * i) e) = piece (pb s) i := by
 rw [pb_ext, List.extract_eq_take_drop]
 unfold piece
 split at he
 ·
  rw [List.take_of_length_le (by rw [List.length_drop, pb_len]; omega), List.take_of_length_le (by rw [List.length_drop, pb_len]; omega)]
 ·
  rw [he, Nat.add_sub_cancel_left]
theorem file_l0 (s : ByteArray) (hs : s.size ≤ 100000) : ∀ (d i : Nat), i + d = nPieces s.size → Evs (fun k => grapnelref18_file.l0 k s (((live (pb s) i).length : Nat) : Int) (mkb ((live (pb s) i).flatMap (partB (pb s)))) (i : Int)) (mkb (fileB (pb s))) := by
 intro d
 induction d with
 | zero =>
  intro i hi
  obtain rfl : i = nPieces s.size := by omega
  have hN : nPieces s.size ≤ 224 := by unfold nPieces; omega
  have hlive := live_length (pb s) (nPieces s.size)
  have hfl := flat_part_len (pb s) (live (pb s) (nPieces s.size))
  have e0 : wrap64 (448 * ((nPieces s.size : Nat) : Int)) = ((448 * nPieces s.size : Nat) : Int) := by rw [w64 (by omega) (by omega)]; omega
  have hge : ¬ ((448 * nPieces s.size : Nat) : Int) < (s.size : Int) := by unfold nPieces; omega
  have hb := evs_bind (f := fun k => grapnelref18_put.f k (s.size : Int) 6) (g := fun k t199 => ((grapnelref18_put.f k (((live (pb s) (nPieces s.size)).length : Nat) : Int) 4).bind fun t200 => (if t199.size + t200.size ≤ 9223372036854775807 then (if (t199 ++ t200).size + (mkb ((live (pb s) (nPieces s.size)).flatMap (partB (pb s)))).size ≤ 9223372036854775807 then (some ((t199 ++ t200) ++ (mkb ((live (pb s) (nPieces s.size)).flatMap (partB (pb s)))))) else (none)) else (none))))
   (r := mkb (fileB (pb s))) (put_ev s.size 6 6 rfl (by decide) (by decide) (by omega) (by omega)) (evs_bind (put_ev (live (pb s) (nPieces s.size)).length 4 4 rfl (by decide) (by decide) (by omega) (by omega)) (evs_pos (by rw [mkb_size, mkb_size, le_length, le_length]; decide) (evs_pos (by rw [mkb_app, mkb_size, mkb_size, List.length_append, le_length, le_length]; omega) (by
    rw [mkb_app, mkb_app]
    have e : (le s.size 6 ++ le (live (pb s) (nPieces s.size)).length 4) ++ (live (pb s) (nPieces s.size)).flatMap (partB (pb s)) = fileB (pb s) := by
     unfold fileB
     rw [pb_len, List.append_assoc]
    rw [e]
    exact evs_const _))))
  refine evs_step (fun k => ?_) hb
  rw [grapnelref18_file.l0, e0, if_neg hge]
 | succ d ih =>
  intro i hi
  have hN : nPieces s.size ≤ 224 := by unfold nPieces; omega
  have hi2 : 448 * i < s.size := by unfold nPieces at hi; omega
  have hlive := live_length (pb s) i
  have hfl := flat_part_len (pb s) (live (pb s) i)
  have e0 : wrap64 (448 * (i : Int)) = ((448 * i : Nat) : Int) := by rw [w64 (by omega) (by omega)]; omega
  have e1 : wrap64 (((448 * i : Nat) : Int) + 448) = ((448 * i + 448 : Nat) : Int) := by rw [w64 (by omega) (by omega)]; omega
  have en : wrap64 ((i : Int) + 1) = ((i + 1 : Nat) : Int) := by rw [w64 (by omega) (by omega)]; rfl
  have en2 : wrap64 ((((live (pb s) i).length : Nat) : Int) + 1) = (((live (pb s) i).length + 1 : Nat) : Int) := by rw [w64 (by omega) (by omega)]; rfl
  obtain ⟨e, he⟩ : ∃ e, e = if s.size < 448 * i + 448 then s.size else 448 * i + 448 := ⟨_, rfl⟩
  have hes : e ≤ s.size ∧ 448 * i ≤ e := by rw [he]; split <;> omega
  have hp := ext_piece s i e he (by omega)
  have hpl : (s.extract (448 * i) e).size = (piece (pb s) i).length := by rw [← hp, pb_len]
  have hpl2 := piece_len (pb s) i
  have step : Evs (fun k => grapnelref18_file.j1 k s (((live (pb s) i).length : Nat) : Int) (mkb ((live (pb s) i).flatMap (partB (pb s)))) (i : Int) (e : Int)) (mkb (fileB (pb s))) := by
   have hno := noughts_ev (piece (pb s) i).length (by omega)
   by_cases hb : blankL (piece (pb s) i) = true
   ·
    have hl : live (pb s) (i + 1) = live (pb s) i := by rw [live_succ, if_pos hb, List.append_nil]
    have := ih (i + 1) (by omega)
    rw [hl] at this
    refine evs_step (fun k => ?_) this
    rw [grapnelref18_file.j1, e0, if_pos (by omega), if_pos (by omega), if_pos (by omega), Int.toNat_natCast, Int.toNat_natCast, hpl, hno, Option.bind_some, if_pos (by rw [toL, toL, hp]; exact (blank_zeros _).1 hb), en]
   ·
    have hl : live (pb s) (i + 1) = live (pb s) i ++ [i] := by rw [live_succ, if_neg hb]
    have := ih (i + 1) (by omega)
    rw [hl, List.length_append, List.flatMap_append] at this
    have hb2 := evs_bind (f := fun k => grapnelref18_put.f k (i : Int) 4) (g := fun k t202 => (if (mkb ((live (pb s) i).flatMap (partB (pb s)))).size + t202.size ≤ 9223372036854775807 then (if ((mkb ((live (pb s) i).flatMap (partB (pb s)))) ++ t202).size + (s.extract (448 * i) e).size ≤ 9223372036854775807 then (grapnelref18_file.l0 k s (((live (pb s) i).length + 1 : Nat) : Int) (((mkb ((live (pb s) i).flatMap (partB (pb s)))) ++ t202) ++ (s.extract (448 * i) e)) ((i + 1 : Nat) : Int)) else (none)) else (none)))
     (r := mkb (fileB (pb s))) (put_ev i 4 4 rfl (by decide) (by decide) (by omega) (by omega)) (evs_pos (by rw [mkb_size, mkb_size, le_length]; omega) (evs_pos (by rw [mkb_app, mkb_size, List.length_append, le_length, hpl]; omega) (by
      rw [mkb_app, ← mkb_pb (s.extract (448 * i) e), mkb_app, hp, List.append_assoc]
      have e3 : [i].flatMap (partB (pb s)) = le i 4 ++ piece (pb s) i := by simp [partB]
      rw [e3] at this
      exact this)))
    refine evs_step (fun k => ?_) hb2
    rw [grapnelref18_file.j1, e0, if_pos (by omega), if_pos (by omega), if_pos (by omega), Int.toNat_natCast, Int.toNat_natCast, hpl, hno, Option.bind_some, if_neg (by rw [toL, toL, hp]; exact fun q => hb ((blank_zeros _).2 q)), en, en2]
  refine evs_step (fun k => ?_) step
  rw [grapnelref18_file.l0, e0, if_pos (by omega), e1]
  by_cases hc : s.size < 448 * i + 448
  ·
   rw [if_pos (by omega), he, if_pos hc]
  ·
   rw [if_neg (by omega), he, if_neg hc]
theorem file_ev (s : ByteArray) (hs : s.size ≤ 100000) : Evs (fun k => grapnelref18_file.f k s) (mkb (fileB (pb s))) := file_l0 s hs (nPieces s.size) 0 (by omega)
end Go.Proofs.YtkhblpmjmkhiiaaGreatDoor.T
namespace Go.Proofs.YtkhblpmjmkhiiaaGreatDoor.T
open Go.RowKit Go.Proofs.YtkhblpmjmkhiiaaGreatDoorW.PrintWords Go.Proofs.YtkhblpmjmkhiiaaGreatDoorW.PrintLast Go.Proofs.YtkhblpmjmkhiiaaGreatDoorW.PrintMore Go.Proofs.YtkhblpmjmkhiiaaGreatDoor.PAll
set_option linter.unusedSimpArgs false
set_option linter.unusedVariables false
section
variable (l : List S38) (n : S38) (R : ByteArray × Int)
theorem wi (i : Nat) (h : i ≤ 1000000) : wrap64 ((i : Int) + 1) = ((i + 1 : Nat) : Int) := by rw [w64 (by omega) (by omega)]; rfl
theorem j5_ev (x7 i : Nat) (X : List UInt8) (b : Bool) (hb : b = true → n.f2.size ≤ 100000) (hi : i ≤ 1000) (hs : x7 + n.f2.size ≤ 8388608) (hl : (X ++ (if b = true then le 0 4 ++ fileB (pb n.f2) else [])).length ≤ 8388608)
  (h : Evs (fun k => grapnelref18_Bytes.l0 k l (mkb (X ++ (if b = true then le 0 4 ++ fileB (pb n.f2) else []))) ((x7 + n.f2.size : Nat) : Int) ((i + 1 : Nat) : Int)) R) :
  Evs (fun k => grapnelref18_Bytes.j5 k l (mkb X) (x7 : Int) (i : Int) b n.f0 n.f1.f0 n.f1.f1 n.f1.f2 n.f1.f3 n.f1.f4 n.f2) R := by
 have e7 : wrap64 ((x7 : Int) + (n.f2.size : Int)) = ((x7 + n.f2.size : Nat) : Int) := by rw [w64 (by omega) (by omega)]; omega
 have e8 := wi i (by omega)
 have g7 : ¬ ((x7 + n.f2.size : Nat) : Int) > 8388608 := by omega
 cases b with
 | false =>
  simp only [if_neg (show ¬ (false = true) by decide), List.append_nil] at h hl
  refine evs_step (fun k => ?_) h
  rw [grapnelref18_Bytes.j5, if_neg (by decide), e7, e8, if_neg g7, if_neg (by rw [mkb_size]; omega)]
 | true =>
  simp only [if_true] at h hl
  rw [List.length_append, List.length_append, le_length] at hl
  have hp := put_ev 0 4 4 rfl (by decide) (by decide) (by decide) (by decide)
  have hf := file_ev n.f2 (hb rfl)
  have hh : Evs (fun k => (grapnelref18_put.f k 0 4).bind fun t243 => (if (mkb X).size + t243.size ≤ 9223372036854775807 then ((grapnelref18_file.f k n.f2).bind fun t244 => (if (mkb X ++ t243).size + t244.size ≤ 9223372036854775807 then (if (wrap64 ((x7 : Int) + (n.f2.size : Int))) > 8388608 then (some ((⟨#[]⟩ : ByteArray), (4 : Int))) else (if (((mkb X ++ t243) ++ t244).size : Int) > 8388608 then (some ((⟨#[]⟩ : ByteArray), (4 : Int))) else (grapnelref18_Bytes.l0 k l ((mkb X ++ t243) ++ t244) (wrap64 ((x7 : Int) + (n.f2.size : Int))) (wrap64 ((i : Int) + 1))))) else (none))) else (none))) R := by
   refine evs_bind hp (evs_pos (by rw [mkb_size, mkb_size, le_length]; omega) (evs_bind hf (evs_pos (by rw [mkb_app, mkb_size, mkb_size, List.length_append, le_length]; omega) ?_)))
   rw [e7, e8]
   refine evs_neg g7 (evs_neg (by rw [mkb_app, mkb_app, mkb_size, List.length_append, List.length_append, le_length]; omega) ?_)
   rw [mkb_app, mkb_app, List.append_assoc]
   exact h
  refine evs_step (fun k => ?_) hh
  rw [grapnelref18_Bytes.j5, if_pos rfl]
theorem j4_ev (x7 i kd ino : Nat) (X : List UInt8) (hk : n.f1.f2 = (kd : Int)) (hn : n.f1.f0 = (ino : Int)) (hb : kd = 1 → n.f2.size ≤ 100000) (hi : i ≤ 1000) (hs : x7 + n.f2.size ≤ 8388608)
  (hl : (X ++ (if kd = 1 ∧ ino = i + 1 then le 0 4 ++ fileB (pb n.f2) else [])).length ≤ 8388608)
  (h : Evs (fun k => grapnelref18_Bytes.l0 k l (mkb (X ++ (if kd = 1 ∧ ino = i + 1 then le 0 4 ++ fileB (pb n.f2) else []))) ((x7 + n.f2.size : Nat) : Int) ((i + 1 : Nat) : Int)) R) :
  Evs (fun k => grapnelref18_Bytes.j4 k l (mkb X) (x7 : Int) (i : Int) n.f0 n.f1.f0 n.f1.f1 n.f1.f2 n.f1.f3 n.f1.f4 n.f2) R := by
 have e8 := wi i (by omega)
 by_cases h1 : kd = 1
 ·
  by_cases h2 : ino = i + 1
  ·
   have hd : (n.f1.f0 == wrap64 ((i : Int) + 1)) = true := by rw [e8, hn, beq_iff_eq]; omega
   rw [if_pos ⟨h1, h2⟩] at h hl
   have := j5_ev l n R x7 i X true (fun _ => hb h1) hi hs (by simpa using hl) (by simpa using h)
   refine evs_step (fun k => ?_) this
   rw [grapnelref18_Bytes.j4, if_pos (by omega), hd]
  ·
   have hd : (n.f1.f0 == wrap64 ((i : Int) + 1)) = false := by rw [e8, hn, beq_eq_false_iff_ne]; omega
   rw [if_neg (fun q => h2 q.2)] at h hl
   have := j5_ev l n R x7 i X false (fun q => by cases q) hi hs (by simpa using hl) (by simpa using h)
   refine evs_step (fun k => ?_) this
   rw [grapnelref18_Bytes.j4, if_pos (by omega), hd]
 ·
  rw [if_neg (fun q => h1 q.1)] at h hl
  have := j5_ev l n R x7 i X false (fun q => by cases q) hi hs (by simpa using hl) (by simpa using h)
  refine evs_step (fun k => ?_) this
  rw [grapnelref18_Bytes.j4, if_neg (by omega)]
theorem j2_ev (x7 i kd ino : Nat) (X : List UInt8) (hk : n.f1.f2 = (kd : Int)) (hn : n.f1.f0 = (ino : Int)) (hino : ino < 4294967296) (hb : kd = 1 → n.f2.size ≤ 100000) (hi : i ≤ 1000) (hs : x7 + n.f2.size ≤ 8388608)
  (hl : (X ++ (if kd = 1 then (if ino = i + 1 then le 0 4 ++ fileB (pb n.f2) else le ino 4) else [])).length ≤ 8388608)
  (h : Evs (fun k => grapnelref18_Bytes.l0 k l (mkb (X ++ (if kd = 1 then (if ino = i + 1 then le 0 4 ++ fileB (pb n.f2) else le ino 4) else []))) ((x7 + n.f2.size : Nat) : Int) ((i + 1 : Nat) : Int)) R) :
  Evs (fun k => grapnelref18_Bytes.j2 k l (mkb X) (x7 : Int) (i : Int) n.f0 n.f1.f0 n.f1.f1 n.f1.f2 n.f1.f3 n.f1.f4 n.f2) R := by
 have e8 := wi i (by omega)
 by_cases h1 : kd = 1
 ·
  by_cases h2 : ino = i + 1
  ·
   have hd : (n.f1.f0 != wrap64 ((i : Int) + 1)) = false := by rw [bne_eq_false_iff_eq, e8, hn]; omega
   rw [if_pos h1, if_pos h2] at h hl
   have := j4_ev l n R x7 i kd ino X hk hn hb hi hs (by rw [if_pos ⟨h1, h2⟩]; exact hl) (by rw [if_pos ⟨h1, h2⟩]; exact h)
   have h3 : Evs (fun k => grapnelref18_Bytes.j3 k l (mkb X) (x7 : Int) (i : Int) false n.f0 n.f1.f0 n.f1.f1 n.f1.f2 n.f1.f3 n.f1.f4 n.f2) R := evs_step (fun k => by rw [grapnelref18_Bytes.j3, if_neg (by decide)]) this
   refine evs_step (fun k => ?_) h3
   rw [grapnelref18_Bytes.j2, if_pos (by omega), hd]
  ·
   have hd : (n.f1.f0 != wrap64 ((i : Int) + 1)) = true := by rw [bne_iff_ne, e8, hn]; omega
   rw [if_pos h1, if_neg h2] at h hl
   have := j4_ev l n R x7 i kd ino (X ++ le ino 4) hk hn hb hi hs (by rw [if_neg (fun q => h2 q.2), List.append_nil]; exact hl) (by rw [if_neg (fun q => h2 q.2), List.append_nil]; exact h)
   have hp := put_ev ino 4 4 rfl (by decide) (by decide) (by omega) (by omega)
   rw [List.length_append, le_length] at hl
   have hh : Evs (fun k => (grapnelref18_put.f k n.f1.f0 4).bind fun t242 => (if (mkb X).size + t242.size ≤ 9223372036854775807 then (grapnelref18_Bytes.j4 k l (mkb X ++ t242) (x7 : Int) (i : Int) n.f0 n.f1.f0 n.f1.f1 n.f1.f2 n.f1.f3 n.f1.f4 n.f2) else (none))) R := by
    rw [hn] at this ⊢
    refine evs_bind hp (evs_pos (by rw [mkb_size, mkb_size, le_length]; omega) ?_)
    rw [mkb_app]
    exact this
   have h3 : Evs (fun k => grapnelref18_Bytes.j3 k l (mkb X) (x7 : Int) (i : Int) true n.f0 n.f1.f0 n.f1.f1 n.f1.f2 n.f1.f3 n.f1.f4 n.f2) R := evs_step (fun k => by rw [grapnelref18_Bytes.j3, if_pos rfl]) hh
   refine evs_step (fun k => ?_) h3
   rw [grapnelref18_Bytes.j2, if_pos (by omega), hd]
 ·
  rw [if_neg h1] at h hl
  have := j4_ev l n R x7 i kd ino X hk hn hb hi hs (by rw [if_neg (fun q => h1 q.1)]; exact hl) (by rw [if_neg (fun q => h1 q.1)]; exact h)
  have h3 : Evs (fun k => grapnelref18_Bytes.j3 k l (mkb X) (x7 : Int) (i : Int) false n.f0 n.f1.f0 n.f1.f1 n.f1.f2 n.f1.f3 n.f1.f4 n.f2) R := evs_step (fun k => by rw [grapnelref18_Bytes.j3, if_neg (by decide)]) this
  refine evs_step (fun k => ?_) h3
  rw [grapnelref18_Bytes.j2, if_neg (by omega)]
end
theorem tot_take {l : List S38} {k : Nat} (hk : k < l.length) : tot (l.take (k + 1)) = tot (l.take k) + l[k].f2.size := by
 rw [List.take_add_one, List.getElem?_eq_getElem hk]
 exact tot_snoc _ _
theorem tot_take_le (l : List S38) (k : Nat) : tot (l.take k) ≤ tot l := by
 have e := congrArg tot (List.take_append_drop k l)
 unfold tot at e ⊢
 rw [List.map_append, List.sum_append] at e
 omega
theorem bytes_l0 (l : List S38) (hok : ∀ n ∈ l, ArcOk n) (hl40 : l.length ≤ 40) (ht : tot l ≤ 60000) : ∀ (d i : Nat), i + d = l.length →
  Evs (fun k => grapnelref18_Bytes.l0 k l (mkb ([65, 82, 67, 72] ++ (le l.length 4 ++ nodesB 0 (l.take i)))) ((tot (l.take i) : Nat) : Int) (i : Int)) (mkb (arcB l ++ sha (arcB l)), 0) := by
 intro d
 induction d with
 | zero =>
  intro i hi
  obtain rfl : i = l.length := by omega
  have hb := take_bound hok hl40 l.length
  rw [List.take_length] at hb ⊢
  have hS : ∀ k, grapnelref02_Sum.f k (mkb (arcB l)) = some (mkb (sha (arcB l))) := fun k => by
   unfold grapnelref02_Sum.f
   rw [if_pos (by rw [mkb_size]; unfold arcB; omega)]
   rfl
  refine evs_step (g := fun _ => some (mkb (arcB l ++ sha (arcB l)), 0)) (fun k => ?_) (evs_const _)
  rw [grapnelref18_Bytes.l0, if_neg (by omega)]
  show (grapnelref02_Sum.f k (mkb (arcB l))).bind _ = _
  rw [hS, Option.bind_some]
  show (if (mkb (arcB l)).size + (mkb (sha (arcB l))).size ≤ 9223372036854775807 then some (mkb (arcB l) ++ mkb (sha (arcB l)), (0 : Int)) else none) = _
  rw [if_pos (by rw [mkb_size, mkb_size, sha_length]; unfold arcB; omega), mkb_app]
 | succ d ih =>
  intro i hi
  have hil : i < l.length := by omega
  have hi' : rd_T38 l (i : Int) = l[i] := rd_at hil
  have hmem : l[i] ∈ l := List.getElem_mem hil
  obtain ⟨n, hn⟩ : ∃ n, n = l[i] := ⟨_, rfl⟩
  obtain ⟨kd, ino, ek, ei, hp, hkd, hino⟩ := hok n (by rw [hn]; exact hmem)
  have hnext := ih (i + 1) (by omega)
  have hb1 := take_bound hok hl40 (i + 1)
  rw [nodesB_take hil, tot_take hil, ← hn] at hnext
  rw [nodesB_take hil, ← hn] at hb1
  have htt : tot (l.take i) + n.f2.size ≤ 60000 := by
   have h1 := tot_take_le l (i + 1)
   rw [tot_take hil, ← hn] at h1
   omega
  rw [← hn] at hi'
  obtain ⟨P, hP⟩ : ∃ P, P = [65, 82, 67, 72] ++ (le l.length 4 ++ nodesB 0 (l.take i)) := ⟨_, rfl⟩
  have hassoc : ([65, 82, 67, 72] : List UInt8) ++ (le l.length 4 ++ (nodesB 0 (l.take i) ++ nodeS n (i + 1))) = P ++ nodeS n (i + 1) := by rw [hP]; simp only [List.append_assoc]
  rw [hassoc] at hnext hb1
  rw [← hP]
  obtain ⟨x7, hx7⟩ : ∃ x, x = tot (l.take i) := ⟨_, rfl⟩
  rw [← hx7] at hnext htt ⊢
  clear hassoc hP hx7 ih hmem hn
  have hns : nodeS n (i + 1) = le kd 1 ++ (le n.f0.size 1 ++ (pb n.f0 ++ ((if kd = 3 then le n.f2.size 1 ++ pb n.f2 else []) ++ (if kd = 1 then (if ino = i + 1 then le 0 4 ++ fileB (pb n.f2) else le ino 4) else [])))) := by
   unfold nodeS nodeB textB
   rw [ek, ei, Int.toNat_natCast, Int.toNat_natCast, pb_len, pb_len]
   rcases hkd with h | h | h
   ·
    simp only [if_pos h.1, if_neg (show ¬ kd = 3 by omega), List.append_assoc, List.nil_append, List.append_nil]
   ·
    simp only [if_neg (show ¬ kd = 1 by omega), if_neg (show ¬ kd = 3 by omega), List.append_assoc, List.nil_append, List.append_nil]
   ·
    simp only [if_neg (show ¬ kd = 1 by omega), if_pos h.1, List.append_assoc, List.nil_append, List.append_nil]
  rw [hns] at hnext hb1
  have hlen : P.length + 1 + 1 + n.f0.size + (if kd = 3 then le n.f2.size 1 ++ pb n.f2 else []).length + (if kd = 1 then (if ino = i + 1 then le 0 4 ++ fileB (pb n.f2) else le ino 4) else []).length ≤ 4100000 := by
   simp only [List.length_append, le_length, pb_len] at hb1 ⊢
   omega
  have p1 := put_ev kd 1 1 rfl (by decide) (by decide) (by omega) (by omega)
  have p2 := put_ev n.f0.size 1 1 rfl (by decide) (by decide) (by omega) (by omega)
  have h2 : Evs (fun k => grapnelref18_Bytes.j2 k l (mkb (((P ++ le kd 1) ++ le n.f0.size 1) ++ pb n.f0 ++ (if kd = 3 then le n.f2.size 1 ++ pb n.f2 else []))) (x7 : Int) (i : Int) n.f0 n.f1.f0 n.f1.f1 n.f1.f2 n.f1.f3 n.f1.f4 n.f2) (mkb (arcB l ++ sha (arcB l)), 0) := by
   refine j2_ev l n _ x7 i kd ino _ ek ei hino (fun q => by omega) (by omega) (by omega) ?_ ?_
   ·
    simp only [List.length_append, le_length, pb_len] at hlen ⊢
    omega
   ·
    simp only [List.append_assoc] at hnext ⊢
    exact hnext
  have hh : Evs (fun k => ((grapnelref18_put.f k n.f1.f2 1).bind fun t239 => (if (mkb P).size + t239.size ≤ 9223372036854775807 then ((grapnelref18_put.f k (n.f0.size : Int) 1).bind fun t240 => (if (mkb P ++ t239).size + t240.size ≤ 9223372036854775807 then (if ((mkb P ++ t239) ++ t240).size + (n.f0).size ≤ 9223372036854775807 then (if n.f1.f2 = 3 then ((grapnelref18_put.f k (n.f2.size : Int) 1).bind fun t241 => (if (((mkb P ++ t239) ++ t240) ++ n.f0).size + t241.size ≤ 9223372036854775807 then (if ((((mkb P ++ t239) ++ t240) ++ n.f0) ++ t241).size + n.f2.size ≤ 9223372036854775807 then (grapnelref18_Bytes.j2 k l (((((mkb P ++ t239) ++ t240) ++ n.f0) ++ t241) ++ n.f2) (x7 : Int) (i : Int) n.f0 n.f1.f0 n.f1.f1 n.f1.f2 n.f1.f3 n.f1.f4 n.f2) else (none)) else (none))) else (grapnelref18_Bytes.j2 k l (((mkb P ++ t239) ++ t240) ++ n.f0) (x7 : Int) (i : Int) n.f0 n.f1.f0 n.f1.f1 n.f1.f2 n.f1.f3 n.f1.f4 n.f2)) else (none)) else (none))) else (none)))) (mkb (arcB l ++ sha (arcB l)), 0) := by
   have hp1 : Evs (fun k => grapnelref18_put.f k n.f1.f2 1) (mkb (le kd 1)) := by rw [ek]; exact p1
   refine evs_bind hp1 (evs_pos (by rw [mkb_size, mkb_size, le_length]; omega) (evs_bind p2 (evs_pos (by rw [mkb_app, mkb_size, mkb_size, List.length_append, le_length, le_length]; omega) (evs_pos (by rw [mkb_app, mkb_app, mkb_size, List.length_append, List.length_append, le_length, le_length]; omega) ?_))))
   have e0 : mkb P ++ mkb (le kd 1) ++ mkb (le n.f0.size 1) ++ n.f0 = mkb (((P ++ le kd 1) ++ le n.f0.size 1) ++ pb n.f0) := by rw [mkb_app, mkb_app, ← mkb_app _ (pb n.f0), mkb_pb]
   by_cases h3 : kd = 3
   ·
    rw [if_pos h3] at h2 hlen
    have hd : n.f2.size < 256 := by omega
    have p3 := put_ev n.f2.size 1 1 rfl (by decide) (by decide) (by omega) (by omega)
    refine evs_pos (by omega) ?_
    simp only [List.length_append, le_length, pb_len] at hlen
    refine evs_bind p3 (evs_pos (by rw [e0, mkb_size, mkb_size]; simp only [List.length_append, le_length, pb_len]; omega) (evs_pos (by rw [e0, mkb_app, mkb_size]; simp only [List.length_append, le_length, pb_len]; omega) ?_))
    have e1 : mkb P ++ mkb (le kd 1) ++ mkb (le n.f0.size 1) ++ n.f0 ++ mkb (le n.f2.size 1) ++ n.f2 = mkb (((P ++ le kd 1) ++ le n.f0.size 1) ++ pb n.f0 ++ (le n.f2.size 1 ++ pb n.f2)) := by
     rw [e0, mkb_app, ← List.append_assoc, ← mkb_app _ (pb n.f2), mkb_pb]
    rw [e1]
    exact h2
   ·
    rw [if_neg h3, List.append_nil] at h2
    refine evs_neg (by omega) ?_
    rw [e0]
    exact h2
  refine evs_step (fun k => ?_) hh
  rw [grapnelref18_Bytes.l0, if_pos (by omega), if_pos (by omega), hi']
theorem bytesR_ev (l : List S38) (hl : l.length ≤ 40) (ht : tot l ≤ 60000) : Evs (fun k => grapnelref18_Bytes.f k l) (bytesP l) := by
 have hN := normT_ev l (by omega)
 obtain ⟨r, hr⟩ : ∃ r : Bool, r = true ↔ (normT l).1 = l := by
  classical
  exact ⟨decide ((normT l).1 = l), by simp⟩
 have hlen := normT_len l
 have hS := same_ev (normT l).1 l (by omega) r hr
 have hbad : bytesP l = (⟨#[]⟩, 5) → Evs (fun k => grapnelref18_Bytes.j0 k l true) (bytesP l) := fun e => by
  rw [e]
  exact evs_step (g := fun _ => some (⟨#[]⟩, 5)) (fun k => by rw [grapnelref18_Bytes.j0, if_pos rfl]) (evs_const _)
 simp only [grapnelref18_Bytes.f]
 refine evs_bind hN ?_
 by_cases h0 : (normT l).2 = 0
 ·
  refine evs_pos h0 (evs_bind hS ?_)
  cases r with
  | false =>
   refine hbad ?_
   unfold bytesP
   rw [if_neg]
   intro q
   have := hr.2 (congrArg Prod.fst q)
   cases this
  | true =>
   have hn : normT l = (l, 0) := Prod.ext (hr.1 rfl) h0
   have hok := arc_ok hn hl ht
   have e : bytesP l = (mkb (arcB l ++ sha (arcB l)), 0) := by unfold bytesP; rw [if_pos hn]; rfl
   rw [e]
   have hp := put_ev l.length 4 4 rfl (by decide) (by decide) (by omega) (by omega)
   have hb := bytes_l0 l hok hl ht l.length 0 (by omega)
   have hh : Evs (fun k => ((grapnelref18_put.f k (l.length : Int) 4).bind fun t235 => (if 4 + t235.size ≤ 9223372036854775807 then (grapnelref18_Bytes.l0 k l ((⟨#[65, 82, 67, 72]⟩ : ByteArray) ++ t235) 0 0) else (none)))) (mkb (arcB l ++ sha (arcB l)), 0) := by
    refine evs_bind hp (evs_pos (by rw [mkb_size, le_length]; decide) ?_)
    have e2 : (⟨#[65, 82, 67, 72]⟩ : ByteArray) ++ mkb (le l.length 4) = mkb ([65, 82, 67, 72] ++ (le l.length 4 ++ nodesB 0 (l.take 0))) := by
     rw [show (⟨#[65, 82, 67, 72]⟩ : ByteArray) = mkb [65, 82, 67, 72] from rfl, mkb_app, List.take_zero]
     simp [nodesB]
    rw [e2]
    exact hb
   refine evs_step (fun k => ?_) hh
   rw [grapnelref18_Bytes.j0, if_neg (by decide)]
 ·
  refine evs_neg h0 (hbad ?_)
  unfold bytesP
  rw [if_neg (fun q => h0 (congrArg Prod.snd q))]
end Go.Proofs.YtkhblpmjmkhiiaaGreatDoor.T
