/- What the end of the document's Of answers. -/
import Derived.Test.YtkhblpmjmkhiiaaGreatDoorQK6
import Derived.Test.YtkhblpmjmkhiiaaGreatDoorQH7
import Derived.Test.YtkhblpmjmkhiiaaGreatDoorQH1
import Derived.Test.YtkhblpmjmkhiiaaGreatDoorQH13
namespace Go.Proofs.YtkhblpmjmkhiiaaGreatDoor.T
open Go.RowKit Go.Proofs.YtkhblpmjmkhiiaaGreatDoorW.PrintWords Go.Proofs.YtkhblpmjmkhiiaaGreatDoorW.PrintLast Go.Proofs.YtkhblpmjmkhiiaaGreatDoorW.PrintMore Go.Proofs.YtkhblpmjmkhiiaaGreatDoor.PAll
set_option linter.unusedSimpArgs false
set_option linter.unusedVariables false
theorem get_l0 (s : ByteArray) (at_ wd : Nat) (h6 : wd ≤ 6) (hs : s.size < 1099511627776) (hat : at_ + wd ≤ s.size) : ∀ (j : Nat), j ≤ wd →
  Evs (fun k => r1_Get.l0 k s (at_ : Int) ((num (((pb s).drop (at_ + j)).take (wd - j)) : Nat) : Int) ((j : Int) - 1)) (((num (((pb s).drop at_).take wd) : Nat) : Int), 0) := by
 intro j
 induction j with
 | zero =>
  intro _
  refine evs_step (g := fun _ => some (((num (((pb s).drop at_).take wd) : Nat) : Int), 0)) (fun k => ?_) (evs_const _)
  rw [r1_Get.l0, if_neg Z3, Nat.add_zero, Nat.sub_zero]
 | succ j ih =>
  intro hj
  have hlt : at_ + j < (pb s).length := by rw [pb_len]; omega
  have hd : ((pb s).drop (at_ + j)).take (wd - j) = (pb s).getD (at_ + j) 0 :: ((pb s).drop (at_ + (j + 1))).take (wd - (j + 1)) := by
   rw [drop_cons hlt, show wd - j = (wd - (j + 1)) + 1 by omega, List.take_succ_cons, Nat.add_assoc]
  have h := ih Z3
  rw [hd, num] at h
  obtain ⟨x, hx⟩ : ∃ x, x = num (((pb s).drop (at_ + (j + 1))).take (wd - (j + 1))) := ⟨_, rfl⟩
  have hxl : x < 1099511627776 := by
   rw [hx]
   refine Nat.lt_of_lt_of_le (num_lt _) ?_
   have : (((pb s).drop (at_ + (j + 1))).take (wd - (j + 1))).length ≤ 5 := by rw [List.length_take]; omega
   exact Nat.le_trans (Nat.pow_le_pow_right Z11 this) Z11
  rw [← hx] at h ⊢
  have hb := ((pb s).getD (at_ + j) 0).toNat_lt
  have e3 : bt s ((at_ + j : Nat) : Int) = (((pb s).getD (at_ + j) 0).toNat : Int) := bt_pb Z3
  obtain ⟨y, hy⟩ : ∃ y, y = ((pb s).getD (at_ + j) 0).toNat := ⟨_, rfl⟩
  rw [← hy] at h hb e3
  have hlt2 : at_ + j < s.size := by omega
  clear hx hy ih hd hlt
  have e0 : ((j + 1 : Nat) : Int) - 1 = (j : Int) := by omega
  have e1 : wrap64 ((at_ : Int) + (j : Int)) = ((at_ + j : Nat) : Int) := by rw [w64 Z3 Z3]; omega
  have e2 : wrap64 ((x : Int) * 256) = ((x * 256 : Nat) : Int) := by rw [w64 Z3 Z3]; omega
  have e4 : wrap64 (y : Int) = (y : Int) := w64 Z3 Z3
  have e5 : wrap64 (((x * 256 : Nat) : Int) + (y : Int)) = ((y + 256 * x : Nat) : Int) := by rw [w64 Z3 Z3]; omega
  have e6 : wrap64 ((j : Int) - 1) = (j : Int) - 1 := w64 Z3 Z3
  have q0 : (j : Int) ≥ 0 := by omega
  have q1 : 0 ≤ ((at_ + j : Nat) : Int) := by omega
  have q2 : ((at_ + j : Nat) : Int) < (s.size : Int) := by omega
  refine evs_step (fun k => ?_) h
  rw [r1_Get.l0, e0, if_pos q0, e1, if_pos q1, if_pos q2, e2, e3, e4, e5, e6]
theorem Get_ev (s : ByteArray) (at_ wd : Nat) (W : Int) (hW : W = (wd : Int)) (h1 : 1 ≤ wd) (h6 : wd ≤ 6) (hs : s.size < 1099511627776) (hat : at_ ≤ s.size) :
  Evs (fun k => r1_Get.f k s (at_ : Int) W) (if at_ + wd ≤ s.size then (((num (((pb s).drop at_).take wd) : Nat) : Int), 0) else (0, 3)) := by
 subst hW
 unfold r1_Get.f
 refine evs_neg Z3 ?_
 have e1 : wrap64 ((s.size : Int) - (at_ : Int)) = ((s.size - at_ : Nat) : Int) := by rw [w64 Z3 Z3]; omega
 have e2 : wrap64 ((wd : Int) - 1) = (wd : Int) - 1 := w64 Z3 Z3
 have hj : Evs (fun k => r1_Get.j1 k s (at_ : Int) (wd : Int) (decide ((wd : Int) > ((s.size - at_ : Nat) : Int)))) (if at_ + wd ≤ s.size then (((num (((pb s).drop at_).take wd) : Nat) : Int), 0) else (0, 3)) := by
  by_cases h : at_ + wd ≤ s.size
  ·
   rw [if_pos h]
   have hd : decide ((wd : Int) > ((s.size - at_ : Nat) : Int)) = false := decide_eq_false Z3
   have := get_l0 s at_ wd h6 hs h wd (Nat.le_refl _)
   rw [Nat.sub_self, List.take_zero] at this
   refine evs_step (fun k => ?_) this
   rw [r1_Get.j1, hd, if_neg Z11, e2]
   rfl
  ·
   rw [if_neg h]
   have hd : decide ((wd : Int) > ((s.size - at_ : Nat) : Int)) = true := decide_eq_true Z3
   refine evs_step (g := fun _ => some (0, 3)) (fun k => ?_) (evs_const _)
   rw [r1_Get.j1, hd, if_pos rfl]
 refine evs_step (fun k => ?_) hj
 rw [r1_Get.j0, if_neg (by rw [decide_eq_true_iff]; omega), if_neg Z3, if_neg Z3, e1]
theorem pget_ok (s : ByteArray) (at_ wd n a : Nat) (W : Int) (hW : W = (wd : Int)) (h1 : 1 ≤ wd) (h6 : wd ≤ 6) (hs : s.size < 1099511627776) (hat : at_ ≤ s.size) (h : getR (pb s) at_ wd = .ok (n, a)) :
  Evs (fun k => r8_Part_get.f k s (at_ : Int) 0 W) ((n : Int), s, (a : Int), 0) := by
 have hg := Get_ev s at_ wd W hW h1 h6 hs hat
 unfold getR at h
 rw [pb_len] at h
 split at h
 ·
  rename_i hc
  injection h with h
  injection h with h2 h3
  rw [if_pos hc, h2] at hg
  simp only [r8_Part_get.f]
  refine evs_pos trivial (evs_bind hg ?_)
  have e : wrap64 ((at_ : Int) + W) = (a : Int) := by rw [hW, w64 Z3 Z3]; omega
  show Evs (fun _ => some ((n : Int), s, wrap64 ((at_ : Int) + W), (0 : Int))) _
  rw [e]
  exact evs_const _
 ·
  cases h
theorem pget_err (s : ByteArray) (at_ wd : Nat) (x : Int) (W : Int) (hW : W = (wd : Int)) (h1 : 1 ≤ wd) (h6 : wd ≤ 6) (hs : s.size < 1099511627776) (hat : at_ ≤ s.size) (h : getR (pb s) at_ wd = .error x) :
  x = 3 ∧ Evs (fun k => r8_Part_get.f k s (at_ : Int) 0 W) (0, s, ((at_ + wd : Nat) : Int), 3) := by
 have hg := Get_ev s at_ wd W hW h1 h6 hs hat
 unfold getR at h
 rw [pb_len] at h
 split at h
 ·
  cases h
 ·
  rename_i hc
  injection h with h
  refine ⟨h.symm, ?_⟩
  rw [if_neg hc] at hg
  simp only [r8_Part_get.f]
  refine evs_pos trivial (evs_bind hg ?_)
  have e : wrap64 ((at_ : Int) + W) = ((at_ + wd : Nat) : Int) := by rw [hW, w64 Z3 Z3]; omega
  show Evs (fun _ => some ((0 : Int), s, wrap64 ((at_ : Int) + W), (3 : Int))) _
  rw [e]
  exact evs_const _
theorem pget_dead (k : Nat) (s : ByteArray) (a E W : Int) (h : E ≠ 0) : r8_Part_get.f k s a E W = some (0, s, a, E) := by
 unfold r8_Part_get.f
 rw [if_neg h]
theorem ptext_ok (s : ByteArray) (at_ n a : Nat) (p : List UInt8) (hs : s.size < 1099511627776) (hat : at_ ≤ s.size) (h : bytesR (pb s) at_ n = .ok (p, a)) :
  ∃ t, pb t = p ∧ r8_Part_text.f s (at_ : Int) 0 (n : Int) = some (t, s, (a : Int), 0) := by
 unfold bytesR at h
 rw [pb_len] at h
 split at h
 ·
  rename_i hc
  injection h with h
  injection h with h2 h3
  refine ⟨s.extract at_ (at_ + n), by rw [pb_ext, List.extract_eq_take_drop, Nat.add_sub_cancel_left]; exact h2, ?_⟩
  have e1 : wrap64 ((s.size : Int) - (at_ : Int)) = ((s.size - at_ : Nat) : Int) := by rw [w64 Z3 Z3]; omega
  have e2 : wrap64 ((at_ : Int) + (n : Int)) = ((at_ + n : Nat) : Int) := by rw [w64 Z3 Z3]; omega
  have e3 : wrap64 (((at_ + n : Nat) : Int) - (n : Int)) = (at_ : Int) := by rw [w64 Z3 Z3]; omega
  unfold r8_Part_text.f
  rw [if_pos rfl, e1, if_neg Z3, e2, e3, if_pos Z3, if_pos Z3, if_pos Z3, Int.toNat_natCast, Int.toNat_natCast, ← h3]
 ·
  cases h
theorem ptext_err (s : ByteArray) (at_ n : Nat) (x : Int) (hs : s.size < 1099511627776) (hat : at_ ≤ s.size) (hn : n < 1099511627776) (h : bytesR (pb s) at_ n = .error x) :
  x = 3 ∧ r8_Part_text.f s (at_ : Int) 0 (n : Int) = some (⟨#[]⟩, s, (at_ : Int), 3) := by
 unfold bytesR at h
 rw [pb_len] at h
 split at h
 ·
  cases h
 ·
  rename_i hc
  injection h with h
  refine ⟨h.symm, ?_⟩
  have e1 : wrap64 ((s.size : Int) - (at_ : Int)) = ((s.size - at_ : Nat) : Int) := by rw [w64 Z3 Z3]; omega
  unfold r8_Part_text.f
  rw [if_pos rfl, e1, if_pos Z3]
theorem ptext_dead (s : ByteArray) (a E n : Int) (h : E ≠ 0) : r8_Part_text.f s a E n = some (⟨#[]⟩, s, a, E) := by
 unfold r8_Part_text.f
 rw [if_neg h]
theorem pask_dead (s : ByteArray) (a E : Int) (b : Bool) (h : E ≠ 0) : r8_Part_ask.f s a E b = some (s, a, E) := by
 unfold r8_Part_ask.f
 rw [if_neg h]
theorem pask_yes (s : ByteArray) (a : Int) : r8_Part_ask.f s a 0 true = some (s, a, 0) := rfl
theorem pask_no (s : ByteArray) (a : Int) : r8_Part_ask.f s a 0 false = some (s, a, 5) := rfl
def FOut (s : ByteArray) (B : Nat) (res : Except Int (List UInt8 × Nat)) (out : ByteArray × ByteArray × Int × Int) : Prop :=
 (∀ d a, res = .ok (d, a) → out = (mkb d, s, (a : Int), 0)) ∧ (∀ x, res = .error x → ∃ t a', out = (t, s, a', x) ∧ x ≠ 0 ∧ t.size ≤ B)
theorem FOut.err {s t : ByteArray} {B : Nat} {x a' : Int} (hx : x ≠ 0) (ht : t.size ≤ B) : FOut s B (.error x) (t, s, a', x) :=
 ⟨fun _ _ h => (by cases h), fun y h => by injection h with h; subst h; exact ⟨t, a', rfl, hx, ht⟩⟩
theorem laid_len {b p : List UInt8} {at_ : Nat} (h : at_ + p.length ≤ b.length) : (laidB b at_ p).length = b.length := by
 unfold laidB
 rw [List.length_append, List.length_append, List.length_take, List.length_drop]
 omega
theorem laid_step {b p : List UInt8} {at_ j : Nat} (hj : j < p.length) (h : at_ + p.length ≤ b.length) : (laidB b at_ (p.take j)).set (at_ + j) (p.getD j 0) = laidB b at_ (p.take (j + 1)) := by
 unfold laidB
 have hl : (b.take at_ ++ p.take j).length = at_ + j := by rw [List.length_append, List.length_take, List.length_take]; omega
 rw [List.set_append_right _ _ Z3, hl, Nat.sub_self, List.length_take, Nat.min_eq_left Z3, List.drop_eq_getElem_cons (Z3 : at_ + j < b.length), List.set_cons_zero, List.length_take, Nat.min_eq_left Z3, List.take_add_one, List.getElem?_eq_getElem hj, List.getD_eq_getElem?_getD, List.getElem?_eq_getElem hj]
 simp only [List.append_assoc, Option.toList_some, Option.getD_some, List.singleton_append]
 rfl
theorem file_l1 (s t : ByteArray) (size n i q : Nat) (b : List UInt8) (a E : Int) (P : ByteArray × ByteArray × Int × Int → Prop) (hb : b.length = size) (hsz : size ≤ 5675264) (ht : 448 * q + t.size ≤ size) (hi : i < 4294967296)
  (h : EvP (fun k => r8_Part_file.l0 k (size : Int) (n : Int) ((laidB b (448 * q) (pb t)).map ub) (q : Int) ((i + 1 : Nat) : Int) s a E) P) : ∀ (d j : Nat), j + d = t.size →
  EvP (fun k => r8_Part_file.l1 k (size : Int) (n : Int) ((laidB b (448 * q) ((pb t).take j)).map ub) (i : Int) (q : Int) t (j : Int) s a E) P := by
 intro d
 induction d with
 | zero =>
  intro j hj
  obtain rfl : j = t.size := by omega
  rw [List.take_of_length_le (by rw [pb_len]; exact Nat.le_refl _)]
  have e : wrap64 ((i : Int) + 1) = ((i + 1 : Nat) : Int) := by rw [w64 Z3 Z3]; rfl
  refine evp_step (fun k => ?_) h
  rw [r8_Part_file.l1, if_neg Z3, e]
 | succ d ih =>
  intro j hj
  have hl : ((laidB b (448 * q) ((pb t).take j)).map ub).length = size := by rw [List.length_map, laid_len (by rw [List.length_take, pb_len, hb]; omega), hb]
  have q0 : (j : Int) < (t.size : Int) := by omega
  have q1 : (0 : Int) ≤ (j : Int) := by omega
  have q2 : (0 : Int) ≤ ((448 * q + j : Nat) : Int) := by omega
  have q3 : ((448 * q + j : Nat) : Int) < ((((laidB b (448 * q) ((pb t).take j)).map ub).length : Nat) : Int) := by rw [hl]; omega
  have e0 : wrap64 (448 * (q : Int)) = ((448 * q : Nat) : Int) := by rw [w64 Z3 Z3]; omega
  have e1 : wrap64 (((448 * q : Nat) : Int) + (j : Int)) = ((448 * q + j : Nat) : Int) := by rw [w64 Z3 Z3]; omega
  have e2 : wrap64 ((j : Int) + 1) = ((j + 1 : Nat) : Int) := by rw [w64 Z3 Z3]; rfl
  have e3 : bt t (j : Int) = ub ((pb t).getD j 0) := bt_pb Z3
  have e4 : ((laidB b (448 * q) ((pb t).take j)).map ub).set (448 * q + j) (ub ((pb t).getD j 0)) = (laidB b (448 * q) ((pb t).take (j + 1))).map ub := by
   rw [← List.map_set, laid_step Z37 (by rw [pb_len, hb]; omega)]
  refine evp_step (fun k => ?_) (ih (j + 1) Z3)
  rw [r8_Part_file.l1, if_pos q0, if_pos q1, e0, e1, if_pos q2, if_pos q3, Int.toNat_natCast, e2, e3, e4]
theorem laid_none (b : List UInt8) (at_ : Nat) : laidB b at_ (([] : List UInt8)) = b := by
 unfold laidB
 rw [List.append_nil, List.length_nil, Nat.add_zero, List.take_append_drop]
theorem file_end (s : ByteArray) (size n : Nat) (b : List UInt8) (last i a E : Int) (hi : ¬ i < (n : Int) ∨ E ≠ 0) : Evs (fun k => r8_Part_file.l0 k (size : Int) (n : Int) (b.map ub) last i s a E) (mkb b, s, a, E) := by
 have hs : strOfNums (b.map ub) = mkb b := Lib.Lz.strOfNums_map b
 have h1 : Evs (fun k => r8_Part_file.j1 k (size : Int) (n : Int) (b.map ub) last i false s a E) (mkb b, s, a, E) :=
  evs_step (g := fun _ => some (mkb b, s, a, E)) (fun k => by rw [r8_Part_file.j1, if_neg Z11, hs]) (evs_const _)
 refine evs_step (fun k => ?_) h1
 rw [r8_Part_file.l0]
 by_cases h : i < (n : Int)
 ·
  rw [if_pos h]
  have hE : E ≠ 0 := hi.resolve_left (fun q => q h)
  rw [beq_eq_false_iff_ne.2 hE]
 ·
  rw [if_neg h]
theorem evp_of {α : Type} {f : Nat → Option α} {r : α} {P : α → Prop} (h : Evs f r) (hp : P r) : EvP f P := ⟨r, hp, h⟩
theorem file_loop (s : ByteArray) (hs : s.size < 1099511627776) (size n : Nat) (hsz : size ≤ 5675264) (hn : n < 4294967296) : ∀ (m i lo a : Nat) (b : List UInt8), i + m = n → b.length = size → a ≤ s.size →
  EvP (fun k => r8_Part_file.l0 k (size : Int) (n : Int) (b.map ub) ((lo : Int) - 1) (i : Int) s (a : Int) 0) (FOut s 5675264 (loopF (pb s) size m lo b a)) := by
 intro m
 induction m with
 | zero =>
  intro i lo a b hi hb ha
  refine evp_of (file_end s size n b _ _ _ _ (.inl Z3)) ?_
  rw [loopF]
  exact ⟨fun d a' h => (by injection h with h; injection h with h1 h2; subst h1 h2; rfl), fun x h => (by cases h)⟩
 | succ m ih =>
  intro i lo a b hi hb ha
  have head : ∀ P, EvP (fun k => (r8_Part_get.f k s (a : Int) 0 4).bind fun bt262 => (if bt262.1 > ((lo : Int) - 1) then ((r8_Part_ask.f bt262.2.1 bt262.2.2.1 bt262.2.2.2 (decide ((wrap64 (448 * bt262.1)) < (size : Int)))).bind fun bt266 => (r8_Part_file.j2 k (size : Int) (n : Int) (b.map ub) (i : Int) bt262.1 bt266.1 bt266.2.1 bt266.2.2)) else ((r8_Part_ask.f bt262.2.1 bt262.2.2.1 bt262.2.2.2 false).bind fun bt269 => (r8_Part_file.j2 k (size : Int) (n : Int) (b.map ub) (i : Int) bt262.1 bt269.1 bt269.2.1 bt269.2.2)))) P →
    EvP (fun k => r8_Part_file.l0 k (size : Int) (n : Int) (b.map ub) ((lo : Int) - 1) (i : Int) s (a : Int) 0) P := fun P h => by
   refine evp_step (fun k => ?_) (evp_step (f := fun k => r8_Part_file.j1 k (size : Int) (n : Int) (b.map ub) ((lo : Int) - 1) (i : Int) true s (a : Int) 0) (fun k => ?_) h)
   ·
    rw [r8_Part_file.l0, if_pos Z3]
    rfl
   ·
    rw [r8_Part_file.j1, if_pos rfl]
  have dead : ∀ (q a' E : Int), E ≠ 0 → Evs (fun k => r8_Part_file.j2 k (size : Int) (n : Int) (b.map ub) (i : Int) q s a' E) (⟨#[]⟩, s, a', E) := fun q a' E hE =>
   evs_step (g := fun _ => some (⟨#[]⟩, s, a', E)) (fun k => by rw [r8_Part_file.j2, if_neg hE]) (evs_const _)
  refine head _ ?_
  cases hg : getR (pb s) a 4 with
  | error x =>
   obtain ⟨rfl, h1⟩ := pget_err s a 4 x 4 rfl Z11 Z11 hs ha hg
   have hl : loopF (pb s) size (m + 1) lo b a = .error 3 := by rw [loopF, hg]; rfl
   rw [hl]
   refine evp_bind h1 ?_
   by_cases hc : (0 : Int) > (lo : Int) - 1
   ·
    refine evp_pos hc ?_
    simp only [pask_dead s _ 3 _ Z11, Option.bind_some]
    exact evp_of (dead _ _ 3 Z11) (FOut.err Z11 Z11)
   ·
    refine evp_neg hc ?_
    simp only [pask_dead s _ 3 _ Z11, Option.bind_some]
    exact evp_of (dead _ _ 3 Z11) (FOut.err Z11 Z11)
  | ok r =>
   obtain ⟨q, a1⟩ := r
   have h1 := pget_ok s a 4 q a1 4 rfl Z11 Z11 hs ha hg
   obtain ⟨hq, ea, hal⟩ := getR_ok hg
   rw [pb_len] at hal
   have e0 : wrap64 (448 * (q : Int)) = ((448 * q : Nat) : Int) := by rw [w64 Z3 Z3]; omega
   refine evp_bind h1 ?_
   by_cases hc : q < lo ∨ size ≤ 448 * q
   ·
    have hl : loopF (pb s) size (m + 1) lo b a = .error 5 := by
     rw [loopF, hg]
     show (if q < lo ∨ size ≤ 448 * q then _ else _) = _
     rw [if_pos hc]
    rw [hl]
    by_cases hlo : (q : Int) > (lo : Int) - 1
    ·
     refine evp_pos hlo ?_
     have hd : decide (wrap64 (448 * (q : Int)) < (size : Int)) = false := decide_eq_false (by rw [e0]; omega)
     simp only [hd, pask_no, Option.bind_some]
     exact evp_of (dead _ _ 5 Z11) (FOut.err Z11 Z11)
    ·
     refine evp_neg hlo ?_
     simp only [pask_no, Option.bind_some]
     exact evp_of (dead _ _ 5 Z11) (FOut.err Z11 Z11)
   ·
    have hd : decide (wrap64 (448 * (q : Int)) < (size : Int)) = true := decide_eq_true (by rw [e0]; omega)
    refine evp_pos Z3 ?_
    simp only [hd, pask_yes, Option.bind_some]
    obtain ⟨e, he⟩ : ∃ e, e = if size < 448 * q + 448 then size else 448 * q + 448 := ⟨_, rfl⟩
    have hw : e - 448 * q = min 448 (size - 448 * q) ∧ 448 * q ≤ e ∧ e ≤ size := by rw [he]; split <;> omega
    have e1 : wrap64 (((448 * q : Nat) : Int) + 448) = ((448 * q + 448 : Nat) : Int) := by rw [w64 Z3 Z3]; omega
    have e2 : wrap64 ((e : Int) - ((448 * q : Nat) : Int)) = ((e - 448 * q : Nat) : Int) := by rw [w64 Z3 Z3]; omega
    have hl : loopF (pb s) size (m + 1) lo b a = (bytesR (pb s) a1 (e - 448 * q) >>= fun pa => if blankL pa.1 then .error 5 else loopF (pb s) size m (q + 1) (laidB b (448 * q) pa.1) pa.2) := by
     rw [loopF, hg, hw.1]
     show (if q < lo ∨ size ≤ 448 * q then _ else _) = _
     rw [if_neg hc]
    rw [hl]
    have j3 : EvP (fun k => r8_Part_file.j3 k (size : Int) (n : Int) (b.map ub) (i : Int) (q : Int) (e : Int) s (a1 : Int) 0) (FOut s 5675264 (bytesR (pb s) a1 (e - 448 * q) >>= fun pa => if blankL pa.1 then .error 5 else loopF (pb s) size m (q + 1) (laidB b (448 * q) pa.1) pa.2)) := by
     cases ht : bytesR (pb s) a1 (e - 448 * q) with
     | error x =>
      obtain ⟨rfl, h2⟩ := ptext_err s a1 (e - 448 * q) x hs hal Z3 ht
      have hz := noughts_ev 0 Z11
      have hend := file_end s size n b (q : Int) ((i + 1 : Nat) : Int) (a1 : Int) 3 (.inr Z11)
      have hl1 := file_l1 s ⟨#[]⟩ size n i q b (a1 : Int) 3 (FOut s 5675264 (.error 3)) hb hsz (by show 448 * q + 0 ≤ size; omega) Z3 (by
       rw [show pb ⟨#[]⟩ = ([] : List UInt8) from rfl, laid_none]
       exact evp_of hend (FOut.err Z11 (by rw [mkb_size]; omega))) 0 0 rfl
      rw [show (pb ⟨#[]⟩).take 0 = ([] : List UInt8) from rfl, laid_none] at hl1
      refine evp_step (fun k => ?_) hl1
      rw [r8_Part_file.j3, e0, e2, h2, Option.bind_some]
      show (r1_Noughts.f ((0 : Nat) : Int)).bind _ = _
      rw [hz, Option.bind_some, pask_dead s _ 3 _ Z11, Option.bind_some]
      rfl
     | ok r =>
      obtain ⟨p, a2⟩ := r
      obtain ⟨t, htp, h2⟩ := ptext_ok s a1 (e - 448 * q) a2 p hs hal ht
      have hbr : p.length = e - 448 * q ∧ a2 ≤ s.size := by
       unfold bytesR at ht
       rw [pb_len] at ht
       split at ht
       ·
        rename_i hcc
        injection ht with ht
        injection ht with h3 h4
        refine ⟨by rw [← h3, List.length_take, List.length_drop, pb_len]; omega, Z3⟩
       ·
        cases ht
      have htl : t.size = p.length := by rw [← htp, pb_len]
      have hz := noughts_ev t.size Z3
      show EvP _ (FOut s 5675264 (if blankL p then .error 5 else loopF (pb s) size m (q + 1) (laidB b (448 * q) p) a2))
      have hlen : (laidB b (448 * q) p).length = size := by rw [laid_len Z3, hb]
      by_cases hbl : blankL p = true
      ·
       rw [if_pos hbl]
       have hne : (t.toList != (mkb (List.replicate t.size 0)).toList) = false := by
        rw [bne_eq_false_iff_eq, toL, toL, htp, htl]
        exact (blank_zeros p).1 hbl
       have hend := file_end s size n (laidB b (448 * q) p) (q : Int) ((i + 1 : Nat) : Int) (a2 : Int) 5 (.inr Z11)
       have hl1 := file_l1 s t size n i q b (a2 : Int) 5 (FOut s 5675264 (.error 5)) hb hsz Z3 Z3 (by
        rw [htp]
        exact evp_of hend (FOut.err Z11 (by rw [mkb_size, hlen]; omega))) t.size 0 Z3
       rw [List.take_zero, laid_none] at hl1
       refine evp_step (fun k => ?_) hl1
       rw [r8_Part_file.j3, e0, e2, h2, Option.bind_some]
       show (r1_Noughts.f (t.size : Int)).bind _ = _
       rw [hz, Option.bind_some, hne, pask_no, Option.bind_some]
       rfl
      ·
       rw [if_neg hbl]
       have hne : (t.toList != (mkb (List.replicate t.size 0)).toList) = true := by
        rw [bne_iff_ne, toL, toL, htp, htl]
        exact fun hh => hbl ((blank_zeros p).2 hh)
       have hnext := ih (i + 1) (q + 1) a2 (laidB b (448 * q) p) Z3 hlen hbr.2
       rw [show ((q + 1 : Nat) : Int) - 1 = (q : Int) by omega] at hnext
       have hl1 := file_l1 s t size n i q b (a2 : Int) 0 _ hb hsz Z3 Z3 (by rw [htp]; exact hnext) t.size 0 Z3
       rw [List.take_zero, laid_none] at hl1
       refine evp_step (fun k => ?_) hl1
       rw [r8_Part_file.j3, e0, e2, h2, Option.bind_some]
       show (r1_Noughts.f (t.size : Int)).bind _ = _
       rw [hz, Option.bind_some, hne, pask_yes, Option.bind_some]
       rfl
    refine evp_step (fun k => ?_) j3
    rw [r8_Part_file.j2, if_pos rfl, e0, e1]
    by_cases hc2 : size < 448 * q + 448
    ·
     rw [if_pos Z3, he, if_pos hc2]
    ·
     rw [if_neg Z3, he, if_neg hc2]
theorem pfile_ev (s : ByteArray) (hs : s.size < 1099511627776) (a : Nat) (ha : a ≤ s.size) : EvP (fun k => r8_Part_file.f k s (a : Int) 0) (FOut s 5675264 (fileR (pb s) a)) := by
 simp only [r8_Part_file.f]
 cases h1 : getR (pb s) a 6 with
 | error x =>
  obtain ⟨rfl, e1⟩ := pget_err s a 6 x 6 rfl Z11 Z11 hs ha h1
  have hf : fileR (pb s) a = .error 3 := by unfold fileR; rw [h1]; rfl
  rw [hf]
  refine evp_bind e1 ?_
  simp only [pget_dead _ s _ 3 4 Z11, Option.bind_some, pask_dead s _ 3 _ Z11]
  exact evp_neg Z11 (evp_const (FOut.err Z11 Z11))
 | ok r =>
  obtain ⟨size, a1⟩ := r
  have e1 := pget_ok s a 6 size a1 6 rfl Z11 Z11 hs ha h1
  obtain ⟨hsz, ea1, hal⟩ := getR_ok h1
  rw [pb_len] at hal
  refine evp_bind e1 ?_
  cases h2 : getR (pb s) a1 4 with
  | error x =>
   obtain ⟨rfl, e2⟩ := pget_err s a1 4 x 4 rfl Z11 Z11 hs hal h2
   have hf : fileR (pb s) a = .error 3 := by
    unfold fileR
    rw [h1]
    show (getR (pb s) a1 4 >>= _) = _
    rw [h2]
    rfl
   rw [hf]
   refine evp_bind e2 ?_
   simp only [Option.bind_some, pask_dead s _ 3 _ Z11]
   exact evp_neg Z11 (evp_const (FOut.err Z11 Z11))
  | ok r =>
   obtain ⟨n, a2⟩ := r
   have e2 := pget_ok s a1 4 n a2 4 rfl Z11 Z11 hs hal h2
   obtain ⟨hn, ea2, hal2⟩ := getR_ok h2
   rw [pb_len] at hal2
   have hf : fileR (pb s) a = if 5675264 < size then .error 5 else loopF (pb s) size n 0 (List.replicate size 0) a2 := by
    unfold fileR
    rw [h1]
    show (getR (pb s) a1 4 >>= _) = _
    rw [h2]
    rfl
   rw [hf]
   refine evp_bind e2 ?_
   by_cases hc : 5675264 < size
   ·
    rw [if_pos hc]
    have hd : decide ((size : Int) ≤ 5675264) = false := decide_eq_false Z3
    simp only [hd, pask_no, Option.bind_some]
    exact evp_neg Z11 (evp_const (FOut.err Z11 Z11))
   ·
    rw [if_neg hc]
    have hd : decide ((size : Int) ≤ 5675264) = true := decide_eq_true Z3
    simp only [hd, pask_yes, Option.bind_some]
    have hl := file_loop s hs size n Z3 Z3 n 0 0 a2 (List.replicate size 0) Z3 (List.length_replicate ..) hal2
    have hm : (List.replicate size (0 : UInt8)).map ub = List.replicate size (0 : Int) := by simp [ub]
    rw [hm] at hl
    refine evp_pos trivial (evp_pos Z3 (evp_pos (by rw [Int.toNat_natCast]; omega) ?_))
    rw [Int.toNat_natCast]
    exact hl
def strip (n : S38) : S38 := ⟨n.f0, ⟨n.f1.f0, 0, n.f1.f2, 0, 0⟩, n.f2⟩
theorem tree_strip {l : List S38} (h : Tree l) : Tree (l.map strip) := by
 refine ⟨?_, ?_, ?_, ?_, ?_⟩
 ·
  intro n hn
  obtain ⟨m, hm, rfl⟩ := List.mem_map.1 hn
  exact h.may m hm
 ·
  rw [List.map_map]
  exact h.nodup
 ·
  obtain ⟨n, hn, e⟩ := h.root
  exact ⟨strip n, List.mem_map.2 ⟨n, hn, rfl⟩, e⟩
 ·
  intro n hn hr
  obtain ⟨m, hm, rfl⟩ := List.mem_map.1 hn
  obtain ⟨d, hd, e⟩ := h.up m hm hr
  exact ⟨strip d, List.mem_map.2 ⟨d, hd, rfl⟩, e⟩
 ·
  intro n hn n' hn' e
  obtain ⟨m, hm, rfl⟩ := List.mem_map.1 hn
  obtain ⟨m', hm', rfl⟩ := List.mem_map.1 hn'
  exact h.twins m hm m' hm' e
theorem strip_tree {l : List S38} (h : Tree (l.map strip)) : Tree l := by
 have mm : ∀ n ∈ l, strip n ∈ l.map strip := fun n hn => List.mem_map.2 ⟨n, hn, rfl⟩
 refine ⟨fun n hn => (h.may (strip n) (mm n hn) : mayN (strip n) = true), ?_, ?_, ?_, fun n hn m hm e => h.twins (strip n) (mm n hn) (strip m) (mm m hm) e⟩
 ·
  have := h.nodup
  rw [List.map_map] at this
  exact this
 ·
  obtain ⟨n, hn, e⟩ := h.root
  obtain ⟨m, hm, rfl⟩ := List.mem_map.1 hn
  exact ⟨m, hm, e⟩
 ·
  intro n hn hr
  obtain ⟨d, hd, e⟩ := h.up _ (mm n hn) hr
  obtain ⟨m, hm, rfl⟩ := List.mem_map.1 hd
  exact ⟨m, hm, e⟩
theorem fst_strip (a : Int) : ∀ (l : List S38) (j : Nat), fstI a j (l.map strip) = fstI a j l
 | [], j => rfl
 | n :: r, j => by
  rw [List.map_cons, fstI, fstI, fst_strip a r (j + 1)]
  rfl
theorem cnt_strip (a : Int) : ∀ (l : List S38), cnt a (l.map strip) = cnt a l
 | [] => rfl
 | n :: r => by
  rw [List.map_cons, cnt, cnt, cnt_strip a r]
  rfl
theorem canon_strip (s : List S38) : canon (s.map strip) = canon s := by
 unfold canon
 rw [List.map_map]
 refine List.map_congr_left fun n _ => ?_
 show (⟨n.f0, ⟨fstI (ino n) 0 (s.map strip) + 1, 0, knd n, cnt (ino n) (s.map strip), ((dat n).length : Int)⟩, n.f2⟩ : S38) = ⟨n.f0, statOf s n, n.f2⟩
 rw [fst_strip, cnt_strip]
 rfl
theorem sort_strip {l : List S38} (h : Tree l) : sortT (l.map strip) = (sortT l).map strip := by
 have h2 := tree_strip h
 refine ss_uniq _ _ (sortT_ss (fun n hn => may_clean (h2.may n hn)) h2.nodup) ?_ fun x => ?_
 ·
  unfold SS
  rw [List.pairwise_map]
  exact sortT_ss (fun n hn => may_clean (h.may n hn)) h.nodup
 ·
  rw [(sortT_perm (l.map strip)).mem_iff, ((sortT_perm l).map strip).mem_iff]
theorem normT_strip (l : List S38) : normT (l.map strip) = normT l := by
 unfold normT
 by_cases h : Tree l
 ·
  rw [if_pos h, if_pos (tree_strip h), sort_strip h, canon_strip]
 ·
  rw [if_neg h, if_neg (fun q => h (strip_tree q))]
theorem normT_like {l l' : List S38} (h : l.map strip = l'.map strip) : normT l = normT l' := by
 rw [← normT_strip l, h, normT_strip l']
abbrev PS := ByteArray × Int × Int
def nodeK (k : Nat) (l : List S38) (r7 : Int × PS) (d : ByteArray) : Option (Int × ByteArray × PS) :=
 if r7.2.2.2 = 0 then
  (if r7.1 = 0 then (r8_Part_file.f k r7.2.1 r7.2.2.1 r7.2.2.2).bind fun q => some ((l.length : Int) + 1, q.1, q.2)
   else if 0 < r7.1 then (r8_Part_ask.f r7.2.1 r7.2.2.1 r7.2.2.2 (decide (r7.1 ≤ (l.length : Int)))).bind fun q1 =>
    (if q1.2.2 = 0 then (r8_Part_ask.f q1.1 q1.2.1 q1.2.2 (decide ((rdn l (r7.1.toNat - 1)).f1.f2 = 1 ∧ (rdn l (r7.1.toNat - 1)).f1.f0 = r7.1))).bind fun q2 =>
     (if q2.2.2 = 0 then some (r7.1, (rdn l (r7.1.toNat - 1)).f2, q2) else some ((l.length : Int) + 1, d, q2))
    else some ((l.length : Int) + 1, d, q1)) else none)
 else some ((l.length : Int) + 1, d, r7.2)
def nodeF (k : Nat) (s : ByteArray) (a E : Int) (l : List S38) : Option (S38 × PS) :=
 (r8_Part_get.f k s a E 1).bind fun r1 => (r8_Part_get.f k r1.2.1 r1.2.2.1 r1.2.2.2 1).bind fun r2 => (r8_Part_text.f r2.2.1 r2.2.2.1 r2.2.2.2 r2.1).bind fun r3 =>
 (if r1.1 = 3 then (r8_Part_get.f k r3.2.1 r3.2.2.1 r3.2.2.2 1).bind fun r4 => r8_Part_text.f r4.2.1 r4.2.2.1 r4.2.2.2 r4.1 else some ((⟨#[]⟩ : ByteArray), r3.2)).bind fun r6 =>
 (if r1.1 = 1 then (r8_Part_get.f k r6.2.1 r6.2.2.1 r6.2.2.2 4).bind fun r7 => nodeK k l r7 r6.1 else some ((l.length : Int) + 1, r6.1, r6.2)).bind fun r8 =>
 (r8_Part_ask.f r8.2.2.1 r8.2.2.2.1 r8.2.2.2.2 (decide (1 ≤ r1.1 ∧ r1.1 ≤ 3))).bind fun r9 => some (⟨r3.1, ⟨r8.1, 0, r1.1, 0, 0⟩, r8.2.1⟩, r9)
def NOut (s : ByteArray) (B : Nat) (res : Except Int (S38 × Nat)) (out : S38 × PS) : Prop :=
 (∀ x a, res = .ok (x, a) → strip out.1 = strip x ∧ out.2 = (s, (a : Int), 0)) ∧ (∀ x, res = .error x → ∃ a', out.2 = (s, a', x) ∧ x ≠ 0 ∧ out.1.f2.size ≤ B)
theorem NOut.err {s : ByteArray} {B : Nat} {x a' : Int} {n : S38} (hx : x ≠ 0) (ht : n.f2.size ≤ B) : NOut s B (.error x) (n, s, a', x) :=
 ⟨fun _ _ h => (by cases h), fun y h => by injection h with h; subst h; exact ⟨a', rfl, hx, ht⟩⟩
theorem NOut.ok {s : ByteArray} {B a : Nat} {n x : S38} (h : strip n = strip x) : NOut s B (.ok (x, a)) (n, s, (a : Int), 0) :=
 ⟨fun y b e => by injection e with e; injection e with e1 e2; subst e1 e2; exact ⟨h, rfl⟩, fun _ e => by cases e⟩
theorem node_dead (k : Nat) (s : ByteArray) (a : Int) (E : Int) (hE : E ≠ 0) (l : List S38) (kd : Int) (p d : ByteArray) :
  ((if kd = 1 then (r8_Part_get.f k s a E 4).bind fun r7 => nodeK k l r7 d else some ((l.length : Int) + 1, d, (s, a, E))).bind fun r8 =>
   (r8_Part_ask.f r8.2.2.1 r8.2.2.2.1 r8.2.2.2.2 (decide (1 ≤ kd ∧ kd ≤ 3))).bind fun r9 => some ((⟨p, ⟨r8.1, 0, kd, 0, 0⟩, r8.2.1⟩ : S38), r9)) = some (⟨p, ⟨(l.length : Int) + 1, 0, kd, 0, 0⟩, d⟩, s, a, E) := by
 by_cases h : kd = 1
 ·
  rw [if_pos h, pget_dead k s a E 4 hE, Option.bind_some]
  unfold nodeK
  rw [if_neg hE, Option.bind_some, pask_dead s a E _ hE, Option.bind_some]
 ·
  rw [if_neg h, Option.bind_some, pask_dead s a E _ hE, Option.bind_some]
def tailF (k : Nat) (l : List S38) (kd : Int) (r3 : ByteArray × PS) : Option (S38 × PS) :=
 (if kd = 3 then (r8_Part_get.f k r3.2.1 r3.2.2.1 r3.2.2.2 1).bind fun r4 => r8_Part_text.f r4.2.1 r4.2.2.1 r4.2.2.2 r4.1 else some ((⟨#[]⟩ : ByteArray), r3.2)).bind fun r6 =>
 (if kd = 1 then (r8_Part_get.f k r6.2.1 r6.2.2.1 r6.2.2.2 4).bind fun r7 => nodeK k l r7 r6.1 else some ((l.length : Int) + 1, r6.1, r6.2)).bind fun r8 =>
 (r8_Part_ask.f r8.2.2.1 r8.2.2.2.1 r8.2.2.2.2 (decide (1 ≤ kd ∧ kd ≤ 3))).bind fun r9 => some (⟨r3.1, ⟨r8.1, 0, kd, 0, 0⟩, r8.2.1⟩, r9)
theorem tail_dead (k : Nat) (s t : ByteArray) (a E : Int) (hE : E ≠ 0) (l : List S38) (kd : Int) : tailF k l kd (t, s, a, E) = some (⟨t, ⟨(l.length : Int) + 1, 0, kd, 0, 0⟩, ⟨#[]⟩⟩, s, a, E) := by
 unfold tailF
 by_cases h : kd = 3
 ·
  rw [if_pos h, pget_dead k s a E 1 hE, Option.bind_some, ptext_dead s a E _ hE, Option.bind_some]
  exact node_dead k s a E hE l kd t ⟨#[]⟩
 ·
  rw [if_neg h, Option.bind_some]
  exact node_dead k s a E hE l kd t ⟨#[]⟩
theorem mkN_strip (t d : ByteArray) (p q : List UInt8) (ino kd : Nat) (x : Int) (hx : x = (ino : Int)) (ht : pb t = p) (hd : pb d = q) : strip (⟨t, ⟨x, 0, (kd : Int), 0, 0⟩, d⟩ : S38) = strip (mkN p q ino kd) := by
 subst hx ht hd
 rfl
def tailR (s : List UInt8) (l : List S38) (kd : Nat) (p : List UInt8) (a2 : Nat) : Except Int (S38 × Nat) :=
 if kd = 2 then .ok (mkN p [] (l.length + 1) 2, a2)
 else if kd = 3 then do
  let (d, a3) ← textR s a2
  .ok (mkN p d (l.length + 1) 3, a3)
 else if kd = 1 then do
  let (k, a3) ← getR s a2 4
  if k ≠ 0 then
   if l.length < k ∨ (rdn l (k - 1)).f1.f2 ≠ 1 ∨ (rdn l (k - 1)).f1.f0 ≠ (k : Int) then .error 5
   else .ok (mkN p (pb (rdn l (k - 1)).f2) k 1, a3)
  else do
   let (d, a4) ← fileR s a3
   .ok (mkN p d (l.length + 1) 1, a4)
 else .error 5
theorem nodeR_tail (s : List UInt8) (l : List S38) (a : Nat) : nodeR s l a = (getR s a 1 >>= fun q => textR s q.2 >>= fun r => tailR s l q.1 r.1 r.2) := rfl
theorem tail_ev (s : ByteArray) (hs : s.size < 1099511627776) (l : List S38) (kd : Nat) (t : ByteArray) (a : Nat) (ha : a ≤ s.size) : EvP (fun k => tailF k l (kd : Int) (t, s, (a : Int), 0)) (NOut s 8388608 (tailR (pb s) l kd (pb t) a)) := by
 simp only [tailF]
 have ask_ok : ∀ (x : Nat), (decide (1 ≤ (kd : Int) ∧ (kd : Int) ≤ 3) = true) → r8_Part_ask.f s (x : Int) 0 (decide (1 ≤ (kd : Int) ∧ (kd : Int) ≤ 3)) = some (s, (x : Int), 0) := fun x h => by rw [h, pask_yes]
 unfold tailR
 by_cases h2 : kd = 2
 ·
  subst h2
  rw [if_pos rfl]
  simp only [if_neg (show ¬ ((2 : Nat) : Int) = 3 by decide), if_neg (show ¬ ((2 : Nat) : Int) = 1 by decide), Option.bind_some, ask_ok a Z11]
  exact evp_const (NOut.ok (mkN_strip t ⟨#[]⟩ (pb t) [] (l.length + 1) 2 _ Z3 rfl rfl))
 ·
  rw [if_neg h2]
  by_cases h3 : kd = 3
  ·
   subst h3
   rw [if_pos rfl]
   unfold textR
   simp only [if_pos (show ((3 : Nat) : Int) = 3 from rfl), if_neg (show ¬ ((3 : Nat) : Int) = 1 by decide)]
   cases hg : getR (pb s) a 1 with
   | error x =>
    obtain ⟨rfl, e1⟩ := pget_err s a 1 x 1 rfl Z11 Z11 hs ha hg
    have e2 : Evs (fun k => (r8_Part_get.f k s (a : Int) 0 1).bind fun r4 => r8_Part_text.f r4.2.1 r4.2.2.1 r4.2.2.2 r4.1) ((⟨#[]⟩ : ByteArray), s, ((a + 1 : Nat) : Int), 3) := evs_bind e1 (by simp only [ptext_dead s _ 3 _ Z11]; exact evs_const _)
    refine evp_bind e2 ?_
    simp only [Option.bind_some, pask_dead s _ 3 _ Z11]
    exact evp_const (NOut.err Z11 (show (0 : Nat) ≤ 8388608 by decide))
   | ok r =>
    obtain ⟨m, a1⟩ := r
    have e1 := pget_ok s a 1 m a1 1 rfl Z11 Z11 hs ha hg
    obtain ⟨hm, ea1, hal⟩ := getR_ok hg
    rw [pb_len] at hal
    show EvP _ (NOut s 8388608 (bytesR (pb s) a1 m >>= fun q => .ok (mkN (pb t) q.1 (l.length + 1) 3, q.2)))
    cases ht : bytesR (pb s) a1 m with
    | error x =>
     obtain ⟨rfl, h4⟩ := ptext_err s a1 m x hs hal Z3 ht
     have e2 : Evs (fun k => (r8_Part_get.f k s (a : Int) 0 1).bind fun r4 => r8_Part_text.f r4.2.1 r4.2.2.1 r4.2.2.2 r4.1) ((⟨#[]⟩ : ByteArray), s, (a1 : Int), 3) := evs_bind e1 (by simp only [h4]; exact evs_const _)
     refine evp_bind e2 ?_
     simp only [Option.bind_some, pask_dead s _ 3 _ Z11]
     exact evp_const (NOut.err Z11 (show (0 : Nat) ≤ 8388608 by decide))
    | ok r =>
     obtain ⟨d, a2⟩ := r
     obtain ⟨td, htd, h4⟩ := ptext_ok s a1 m a2 d hs hal ht
     have e2 : Evs (fun k => (r8_Part_get.f k s (a : Int) 0 1).bind fun r4 => r8_Part_text.f r4.2.1 r4.2.2.1 r4.2.2.2 r4.1) (td, s, (a2 : Int), 0) := evs_bind e1 (by simp only [h4]; exact evs_const _)
     refine evp_bind e2 ?_
     simp only [Option.bind_some, ask_ok a2 Z11]
     exact evp_const (NOut.ok (mkN_strip t td (pb t) d (l.length + 1) 3 _ Z3 rfl htd))
  ·
   rw [if_neg h3]
   have n3 : ¬ (kd : Int) = 3 := by omega
   simp only [if_neg n3, Option.bind_some]
   by_cases h1 : kd = 1
   ·
    subst h1
    rw [if_pos rfl]
    simp only [if_pos (show ((1 : Nat) : Int) = 1 from rfl)]
    cases hg : getR (pb s) a 4 with
    | error x =>
     obtain ⟨rfl, e1⟩ := pget_err s a 4 x 4 rfl Z11 Z11 hs ha hg
     have e2 : Evs (fun k => (r8_Part_get.f k s (a : Int) 0 4).bind fun r7 => nodeK k l r7 ⟨#[]⟩) ((l.length : Int) + 1, (⟨#[]⟩ : ByteArray), s, ((a + 4 : Nat) : Int), 3) := evs_bind e1 (by simp only [nodeK]; exact evs_neg Z11 (evs_const _))
     refine evp_bind e2 ?_
     simp only [pask_dead s _ 3 _ Z11, Option.bind_some]
     exact evp_const (NOut.err Z11 (show (0 : Nat) ≤ 8388608 by decide))
    | ok r =>
     obtain ⟨q, a1⟩ := r
     have e1 := pget_ok s a 4 q a1 4 rfl Z11 Z11 hs ha hg
     obtain ⟨hq, ea1, hal⟩ := getR_ok hg
     rw [pb_len] at hal
     show EvP _ (NOut s 8388608 (if q ≠ 0 then (if l.length < q ∨ (rdn l (q - 1)).f1.f2 ≠ 1 ∨ (rdn l (q - 1)).f1.f0 ≠ (q : Int) then .error 5 else .ok (mkN (pb t) (pb (rdn l (q - 1)).f2) q 1, a1)) else (fileR (pb s) a1 >>= fun r => .ok (mkN (pb t) r.1 (l.length + 1) 1, r.2))))
     by_cases hz : q = 0
     ·
      subst hz
      rw [if_neg Z23]
      obtain ⟨⟨fd, fs, fa, fE⟩, ⟨f1, f2⟩, fe⟩ := pfile_ev s hs a1 hal
      have e2 : Evs (fun k => (r8_Part_get.f k s (a : Int) 0 4).bind fun r7 => nodeK k l r7 ⟨#[]⟩) ((l.length : Int) + 1, fd, fs, fa, fE) := evs_bind e1 (by simp only [nodeK]; exact evs_pos trivial (evs_pos (by rfl) (evs_bind fe (evs_const _))))
      refine evp_bind e2 ?_
      cases hf : fileR (pb s) a1 with
      | error x =>
       obtain ⟨t', a', e, hx, hB⟩ := f2 x hf
       injection e with q1 e
       injection e with q2 e
       injection e with q3 q4
       subst q1 q2 q3 q4
       simp only [pask_dead fs _ fE _ hx, Option.bind_some]
       exact evp_const (NOut.err hx (by show fd.size ≤ _; omega))
      | ok r =>
       obtain ⟨d, a2⟩ := r
       have e := f1 d a2 hf
       injection e with q1 e
       injection e with q2 e
       injection e with q3 q4
       subst q1 q2 q3 q4
       simp only [ask_ok a2 Z11, Option.bind_some]
       exact evp_const (NOut.ok (mkN_strip t (mkb d) (pb t) d (l.length + 1) 1 _ Z3 rfl rfl))
     ·
      rw [if_pos hz]
      have hqn : ((q : Int)).toNat = q := Int.toNat_natCast q
      by_cases hc : l.length < q ∨ (rdn l (q - 1)).f1.f2 ≠ 1 ∨ (rdn l (q - 1)).f1.f0 ≠ (q : Int)
      ·
       rw [if_pos hc]
       have e2 : Evs (fun k => (r8_Part_get.f k s (a : Int) 0 4).bind fun r7 => nodeK k l r7 ⟨#[]⟩) ((l.length : Int) + 1, (⟨#[]⟩ : ByteArray), s, (a1 : Int), 5) := evs_bind e1 (by
        simp only [nodeK]
        refine evs_pos trivial (evs_neg Z3 (evs_pos (by show 0 < (q : Int); omega) ?_))
        by_cases hlen : q ≤ l.length
        ·
         have hd : decide ((q : Int) ≤ (l.length : Int)) = true := decide_eq_true Z3
         have hd2 : decide ((rdn l (((q : Int)).toNat - 1)).f1.f2 = 1 ∧ (rdn l (((q : Int)).toNat - 1)).f1.f0 = (q : Int)) = false := decide_eq_false (by
          rw [hqn]
          rintro ⟨u1, u2⟩
          rcases hc with hc | hc | hc
          ·
           omega
          ·
           exact hc u1
          ·
           exact hc u2)
         simp only [hd, pask_yes, Option.bind_some, hd2, pask_no]
         exact evs_pos trivial (evs_neg Z11 (evs_const _))
        ·
         have hd : decide ((q : Int) ≤ (l.length : Int)) = false := decide_eq_false Z3
         simp only [hd, pask_no, Option.bind_some]
         exact evs_neg Z11 (evs_const _))
       refine evp_bind e2 ?_
       simp only [pask_dead s _ 5 _ Z11, Option.bind_some]
       exact evp_const (NOut.err Z11 (show (0 : Nat) ≤ 8388608 by decide))
      ·
       rw [if_neg hc]
       have hlen : q ≤ l.length := by
        rcases Nat.lt_or_ge l.length q with u | u
        ·
         exact absurd (.inl u) hc
        ·
         exact u
       have hk1 : (rdn l (q - 1)).f1.f2 = 1 := Decidable.byContradiction fun u => hc (.inr (.inl u))
       have hk2 : (rdn l (q - 1)).f1.f0 = (q : Int) := Decidable.byContradiction fun u => hc (.inr (.inr u))
       have e2 : Evs (fun k => (r8_Part_get.f k s (a : Int) 0 4).bind fun r7 => nodeK k l r7 ⟨#[]⟩) ((q : Int), (rdn l (q - 1)).f2, s, (a1 : Int), 0) := evs_bind e1 (by
        simp only [nodeK]
        refine evs_pos trivial (evs_neg Z3 (evs_pos (by show 0 < (q : Int); omega) ?_))
        have hd : decide ((q : Int) ≤ (l.length : Int)) = true := decide_eq_true Z3
        have hd2 : decide ((rdn l (((q : Int)).toNat - 1)).f1.f2 = 1 ∧ (rdn l (((q : Int)).toNat - 1)).f1.f0 = (q : Int)) = true := decide_eq_true (by rw [hqn]; exact ⟨hk1, hk2⟩)
        simp only [hd, pask_yes, Option.bind_some, hd2]
        rw [hqn]
        exact evs_pos trivial (evs_pos trivial (evs_const _)))
       refine evp_bind e2 ?_
       simp only [ask_ok a1 Z11, Option.bind_some]
       exact evp_const (NOut.ok (mkN_strip t _ (pb t) _ q 1 _ rfl rfl rfl))
   ·
    rw [if_neg h1]
    have n1 : ¬ (kd : Int) = 1 := by omega
    have hd : decide (1 ≤ (kd : Int) ∧ (kd : Int) ≤ 3) = false := decide_eq_false Z3
    simp only [if_neg n1, Option.bind_some, hd, pask_no]
    exact evp_const (NOut.err Z11 (show (0 : Nat) ≤ 8388608 by decide))
theorem nodeF_tail (k : Nat) (s : ByteArray) (a E : Int) (l : List S38) : nodeF k s a E l = (r8_Part_get.f k s a E 1).bind fun r1 => (r8_Part_get.f k r1.2.1 r1.2.2.1 r1.2.2.2 1).bind fun r2 => (r8_Part_text.f r2.2.1 r2.2.2.1 r2.2.2.2 r2.1).bind fun r3 => tailF k l r1.1 r3 := rfl
theorem node_ev (s : ByteArray) (hs : s.size < 1099511627776) (l : List S38) (a : Nat) (ha : a ≤ s.size) : EvP (fun k => nodeF k s (a : Int) 0 l) (NOut s 8388608 (nodeR (pb s) l a)) := by
 simp only [nodeF_tail]
 rw [nodeR_tail]
 cases h1 : getR (pb s) a 1 with
 | error x =>
  obtain ⟨rfl, e1⟩ := pget_err s a 1 x 1 rfl Z11 Z11 hs ha h1
  refine evp_bind e1 ?_
  simp only [pget_dead _ s _ 3 1 Z11, Option.bind_some, ptext_dead s _ 3 _ Z11, tail_dead _ s _ _ 3 Z11]
  exact evp_const (NOut.err Z11 (show (0 : Nat) ≤ 8388608 by decide))
 | ok r =>
  obtain ⟨kd, a1⟩ := r
  have e1 := pget_ok s a 1 kd a1 1 rfl Z11 Z11 hs ha h1
  obtain ⟨hkd, ea1, hal⟩ := getR_ok h1
  rw [pb_len] at hal
  refine evp_bind e1 ?_
  show EvP _ (NOut s 8388608 (textR (pb s) a1 >>= fun r => tailR (pb s) l kd r.1 r.2))
  unfold textR
  cases h2 : getR (pb s) a1 1 with
  | error x =>
   obtain ⟨rfl, e2⟩ := pget_err s a1 1 x 1 rfl Z11 Z11 hs hal h2
   refine evp_bind e2 ?_
   simp only [ptext_dead s _ 3 _ Z11, Option.bind_some, tail_dead _ s _ _ 3 Z11]
   exact evp_const (NOut.err Z11 (show (0 : Nat) ≤ 8388608 by decide))
  | ok r =>
   obtain ⟨n, a2⟩ := r
   have e2 := pget_ok s a1 1 n a2 1 rfl Z11 Z11 hs hal h2
   obtain ⟨hn, ea2, hal2⟩ := getR_ok h2
   rw [pb_len] at hal2
   refine evp_bind e2 ?_
   show EvP _ (NOut s 8388608 (bytesR (pb s) a2 n >>= fun r => tailR (pb s) l kd r.1 r.2))
   cases h3 : bytesR (pb s) a2 n with
   | error x =>
    obtain ⟨rfl, e3⟩ := ptext_err s a2 n x hs hal2 Z3 h3
    simp only [e3, Option.bind_some, tail_dead _ s _ _ 3 Z11]
    exact evp_const (NOut.err Z11 (show (0 : Nat) ≤ 8388608 by decide))
   | ok r =>
    obtain ⟨p, a3⟩ := r
    obtain ⟨t, htp, e3⟩ := ptext_ok s a2 n a3 p hs hal2 h3
    have ha3 : a3 ≤ s.size := by
     unfold bytesR at h3
     rw [pb_len] at h3
     split at h3
     ·
      injection h3 with h3
      injection h3 with h4 h5
      omega
     ·
      cases h3
    simp only [e3, Option.bind_some]
    have := tail_ev s hs l kd t a3 ha3
    rw [htp] at this
    exact this
theorem rdn_strip (l : List S38) (i : Nat) : rdn (l.map strip) i = strip (rdn l i) := by
 show (l.map strip).getD ((i : Int)).toNat _ = strip (l.getD ((i : Int)).toNat _)
 rw [Int.toNat_natCast, List.getD_eq_getElem?_getD, List.getD_eq_getElem?_getD, List.getElem?_map]
 cases l[i]? <;> rfl
theorem nodeR_strip (s : List UInt8) (l : List S38) (a : Nat) : nodeR s (l.map strip) a = nodeR s l a := by
 have e : ∀ i, (rdn (l.map strip) i).f1.f2 = (rdn l i).f1.f2 ∧ (rdn (l.map strip) i).f1.f0 = (rdn l i).f1.f0 ∧ (rdn (l.map strip) i).f2 = (rdn l i).f2 := fun i => by rw [rdn_strip]; exact ⟨rfl, rfl, rfl⟩
 rw [nodeR_tail, nodeR_tail]
 have ht : ∀ kd p a2, tailR s (l.map strip) kd p a2 = tailR s l kd p a2 := fun kd p a2 => by
  unfold tailR
  simp only [List.length_map, (e _).1, (e _).2.1, (e _).2.2]
 simp only [ht]
theorem nodeR_alike {s : List UInt8} {l l' : List S38} (h : l'.map strip = l.map strip) (a : Nat) : nodeR s l' a = nodeR s l a := by
 rw [← nodeR_strip s l' a, h, nodeR_strip s l a]
theorem getR_le {s : List UInt8} {a w n b : Nat} (h : getR s a w = .ok (n, b)) : b ≤ s.length := (getR_ok h).2.2
theorem bytesR_le {s p : List UInt8} {a n b : Nat} (h : bytesR s a n = .ok (p, b)) : b ≤ s.length := by
 unfold bytesR at h
 split at h
 ·
  injection h with h
  injection h with h1 h2
  omega
 ·
  cases h
theorem textR_le {s p : List UInt8} {a b : Nat} (h : textR s a = .ok (p, b)) : b ≤ s.length := by
 unfold textR at h
 cases hg : getR s a 1 with
 | error x => rw [hg] at h; cases h
 | ok q => rw [hg] at h; exact bytesR_le h
theorem loopF_le {s : List UInt8} {size : Nat} : ∀ (m lo : Nat) (b p : List UInt8) (a a' : Nat), a ≤ s.length → loopF s size m lo b a = .ok (p, a') → a' ≤ s.length
 | 0, lo, b, p, a, a', ha, h => by
  rw [loopF] at h
  injection h with h
  injection h with h1 h2
  omega
 | m + 1, lo, b, p, a, a', ha, h => by
  rw [loopF] at h
  cases hg : getR s a 4 with
  | error x => rw [hg] at h; cases h
  | ok q =>
   rw [hg] at h
   have h2 : (if q.1 < lo ∨ size ≤ 448 * q.1 then .error 5 else (bytesR s q.2 (min 448 (size - 448 * q.1)) >>= fun r => if blankL r.1 then .error 5 else loopF s size m (q.1 + 1) (laidB b (448 * q.1) r.1) r.2)) = (.ok (p, a') : Except Int (List UInt8 × Nat)) := h
   split at h2
   ·
    cases h2
   ·
    cases hb : bytesR s q.2 (min 448 (size - 448 * q.1)) with
    | error x => rw [hb] at h2; cases h2
    | ok r =>
     rw [hb] at h2
     have h3 : (if blankL r.1 then .error 5 else loopF s size m (q.1 + 1) (laidB b (448 * q.1) r.1) r.2) = (.ok (p, a') : Except Int (List UInt8 × Nat)) := h2
     split at h3
     ·
      cases h3
     ·
      exact loopF_le m _ _ p r.2 a' (bytesR_le (p := r.1) hb) h3
theorem fileR_le {s p : List UInt8} {a b : Nat} (h : fileR s a = .ok (p, b)) : b ≤ s.length := by
 unfold fileR at h
 cases h1 : getR s a 6 with
 | error x => rw [h1] at h; cases h
 | ok q =>
  rw [h1] at h
  have h' : (getR s q.2 4 >>= fun r => if 5675264 < q.1 then .error 5 else loopF s q.1 r.1 0 (List.replicate q.1 0) r.2) = (.ok (p, b) : Except Int (List UInt8 × Nat)) := h
  cases h2 : getR s q.2 4 with
  | error x => rw [h2] at h'; cases h'
  | ok r =>
   rw [h2] at h'
   have h3 : (if 5675264 < q.1 then .error 5 else loopF s q.1 r.1 0 (List.replicate q.1 0) r.2) = (.ok (p, b) : Except Int (List UInt8 × Nat)) := h'
   split at h3
   ·
    cases h3
   ·
    exact loopF_le _ _ _ _ _ _ (getR_le (n := r.1) h2) h3
theorem nodeR_le {s : List UInt8} {l : List S38} {a b : Nat} {x : S38} (h : nodeR s l a = .ok (x, b)) : b ≤ s.length := by
 rw [nodeR_tail] at h
 cases h1 : getR s a 1 with
 | error y => rw [h1] at h; cases h
 | ok q =>
  rw [h1] at h
  have h' : (textR s q.2 >>= fun r => tailR s l q.1 r.1 r.2) = (.ok (x, b) : Except Int _) := h
  cases h2 : textR s q.2 with
  | error y => rw [h2] at h'; cases h'
  | ok r =>
   rw [h2] at h'
   have h3 : tailR s l q.1 r.1 r.2 = .ok (x, b) := h'
   have hr := textR_le (p := r.1) h2
   unfold tailR at h3
   split at h3
   ·
    injection h3 with h3
    injection h3 with h4 h5
    omega
   ·
    split at h3
    ·
     cases h4 : textR s r.2 with
     | error y => rw [h4] at h3; cases h3
     | ok d =>
      rw [h4] at h3
      injection h3 with h3
      injection h3 with h5 h6
      have := textR_le (p := d.1) h4
      omega
    ·
     split at h3
     ·
      cases h4 : getR s r.2 4 with
      | error y => rw [h4] at h3; cases h3
      | ok d =>
       rw [h4] at h3
       have h5 : (if d.1 ≠ 0 then (if l.length < d.1 ∨ (rdn l (d.1 - 1)).f1.f2 ≠ 1 ∨ (rdn l (d.1 - 1)).f1.f0 ≠ (d.1 : Int) then .error 5 else .ok (mkN r.1 (pb (rdn l (d.1 - 1)).f2) d.1 1, d.2)) else (fileR s d.2 >>= fun f => .ok (mkN r.1 f.1 (l.length + 1) 1, f.2))) = (.ok (x, b) : Except Int _) := h3
       split at h5
       ·
        split at h5
        ·
         cases h5
        ·
         injection h5 with h5
         injection h5 with h6 h7
         have := getR_le (n := d.1) h4
         omega
       ·
        cases hf : fileR s d.2 with
        | error y => rw [hf] at h5; cases h5
        | ok f =>
         rw [hf] at h5
         injection h5 with h5
         injection h5 with h6 h7
         have := fileR_le (p := f.1) hf
         omega
     ·
      cases h3
def LInv (s : ByteArray) (n : Nat) (R0 : Except Int (List S38 × Nat)) (i : Nat) (l' : List S38) (z : Int) (a E : Int) : Prop :=
 l'.length = i ∧ i ≤ n ∧ 0 ≤ z ∧ z ≤ 20000000 ∧
 ((E = 0 ∧ ∃ (l : List S38) (zn an : Nat), l'.map strip = l.map strip ∧ z = (zn : Int) ∧ a = (an : Int) ∧ an ≤ s.size ∧ zn ≤ 8388608 ∧ loopN (pb s) (n - i) l zn an = R0) ∨ (E ≠ 0 ∧ R0 = .error E))
theorem linv_step {s : ByteArray} {n i : Nat} {R0 : Except Int (List S38 × Nat)} {l' : List S38} {z a : Int} (h : LInv s n R0 i l' z a 0) (hi : i < n) {x' : S38} {st : PS}
  (hx : ∀ an : Nat, a = (an : Int) → NOut s 8388608 (nodeR (pb s) l' an) (x', st)) (hxs : x'.f2.size ≤ 8388640) :
  st.1 = s ∧ ((st.2.2 ≠ 0 ∧ LInv s n R0 (i + 1) (l' ++ [x']) (z + (x'.f2.size : Int)) st.2.1 st.2.2) ∨
   (st.2.2 = 0 ∧ z + (x'.f2.size : Int) > 8388608 ∧ LInv s n R0 (i + 1) (l' ++ [x']) (z + (x'.f2.size : Int)) st.2.1 4) ∨
   (st.2.2 = 0 ∧ ¬ z + (x'.f2.size : Int) > 8388608 ∧ LInv s n R0 (i + 1) (l' ++ [x']) (z + (x'.f2.size : Int)) st.2.1 0)) := by
 obtain ⟨h1, h2, h3, h4, h5⟩ := h
 rcases h5 with ⟨_, l, zn, an, hl, hz, ha, han, hzn, hR⟩ | ⟨h5, _⟩
 ·
  obtain ⟨ok, er⟩ := hx an ha
  rw [nodeR_alike hl] at ok er
  have hni : n - i = (n - (i + 1)) + 1 := by omega
  rw [hni, loopN] at hR
  have hlen : (l' ++ [x']).length = i + 1 := by rw [List.length_append, h1]; rfl
  cases hn : nodeR (pb s) l an with
  | error y =>
   obtain ⟨a', e, hy, hB⟩ := er y hn
   rw [hn] at hR
   have e1 : st = (s, a', y) := e
   subst e1
   refine ⟨rfl, .inl ⟨hy, hlen, Z3, Z3, Z3, .inr ⟨hy, hR.symm⟩⟩⟩
  | ok r =>
   obtain ⟨x, a1⟩ := r
   obtain ⟨hs, e⟩ := ok x a1 hn
   have e1 : st = (s, (a1 : Int), 0) := e
   subst e1
   rw [hn] at hR
   have hR2 : (if 8388608 < zn + x.f2.size then .error 4 else loopN (pb s) (n - (i + 1)) (l ++ [x]) (zn + x.f2.size) a1) = R0 := hR
   have hf2 : x'.f2 = x.f2 := by
    have q := congrArg (fun n : S38 => n.f2) hs
    exact q
   refine ⟨rfl, .inr ?_⟩
   by_cases hc : 8388608 < zn + x.f2.size
   ·
    rw [if_pos hc] at hR2
    exact .inl ⟨rfl, by rw [hf2]; omega, hlen, Z3, Z3, Z3, .inr ⟨Z11, hR2.symm⟩⟩
   ·
    rw [if_neg hc] at hR2
    have ha1 : a1 ≤ s.size := by rw [← pb_len]; exact nodeR_le hn
    exact .inr ⟨rfl, by rw [hf2]; omega, hlen, Z3, Z3, by rw [hf2]; omega, .inl ⟨rfl, l ++ [x], zn + x.f2.size, a1, by rw [List.map_append, List.map_append, hl]; show _ ++ [strip x'] = _ ++ [strip x]; rw [hs], by rw [hf2]; omega, rfl, ha1, Z3, hR2⟩⟩
 ·
  exact absurd rfl h5
theorem rdn_like {l l' : List S38} (h : l'.map strip = l.map strip) (i : Nat) : (rdn l' i).f0 = (rdn l i).f0 ∧ (rdn l' i).f1.f0 = (rdn l i).f1.f0 := by
 have e : strip (rdn l' i) = strip (rdn l i) := by rw [← rdn_strip, h, rdn_strip]
 have q1 := congrArg (fun n : S38 => n.f0) e
 have q2 := congrArg (fun n : S38 => n.f1.f0) e
 exact ⟨q1, q2⟩
theorem alike_like {l l' t : List S38} (h : l'.map strip = l.map strip) : Alike t l' ↔ Alike t l := by
 unfold Alike
 constructor
 ·
  intro q i hi
  obtain ⟨e1, e2⟩ := rdn_like h i
  rw [← e1, ← e2]
  exact q i hi
 ·
  intro q i hi
  obtain ⟨e1, e2⟩ := rdn_like h i
  rw [e1, e2]
  exact q i hi
theorem ofL_like {l l' : List S38} (h : l'.map strip = l.map strip) : ofL l' = ofL l := by
 unfold ofL
 rw [normT_like h]
 by_cases h0 : (normT l).2 ≠ 0
 ·
  rw [if_pos h0, if_pos h0]
 ·
  rw [if_neg h0, if_neg h0]
  by_cases ha : Alike (normT l).1 l
  ·
   rw [if_pos ha, if_pos ((alike_like h).2 ha)]
  ·
   rw [if_neg ha, if_neg (fun q => ha ((alike_like h).1 q))]
def headF (k : Nat) (s : ByteArray) : Option (Int × PS) :=
 (r8_Part_text.f s 0 0 4).bind fun r1 => (r8_Part_ask.f r1.2.1 r1.2.2.1 r1.2.2.2 (r1.1.toList == [65, 82, 67, 72])).bind fun r2 => r8_Part_get.f k r2.1 r2.2.1 r2.2.2 4
def RdOf (s : List UInt8) (R0 : Except Int (List S38 × Nat)) : Prop := readR s = (R0 >>= fun q => if q.2 ≠ s.length then .error 5 else .ok q.1)
def HeadP (s : ByteArray) (out : Int × PS) : Prop := ∃ (n : Nat) (a E : Int) (R0 : Except Int (List S38 × Nat)), out = ((n : Int), s, a, E) ∧ n < 4294967296 ∧ LInv s n R0 0 [] 0 a E ∧ RdOf (pb s) R0
theorem head_err {s : ByteArray} {a x : Int} (hx : x ≠ 0) (h : readR (pb s) = .error x) : HeadP s (0, s, a, x) :=
 ⟨0, a, x, .error x, rfl, Z3, ⟨rfl, Z3, Z3, Z3, .inr ⟨hx, rfl⟩⟩, h⟩
theorem head_ev (s : ByteArray) (hs : s.size < 1099511627776) : EvP (fun k => headF k s) (HeadP s) := by
 unfold headF
 cases h0 : bytesR (pb s) 0 4 with
 | error x =>
  obtain ⟨rfl, e1⟩ := ptext_err s 0 4 x hs (Nat.zero_le _) Z3 h0
  have e1' : r8_Part_text.f s 0 0 4 = some (⟨#[]⟩, s, 0, 3) := e1
  simp only [e1', Option.bind_some, pask_dead s 0 3 _ Z11, pget_dead _ s 0 3 4 Z11]
  refine evp_const (head_err Z11 ?_)
  unfold readR
  rw [h0]
  rfl
 | ok q =>
  obtain ⟨hd, a0⟩ := q
  obtain ⟨t, ht, e1⟩ := ptext_ok s 0 4 a0 hd hs (Nat.zero_le _) h0
  have e1' : r8_Part_text.f s 0 0 4 = some (t, s, (a0 : Int), 0) := e1
  have ht' : t.toList = hd := by rw [toL, ht]
  have hr : readR (pb s) = if hd ≠ [65, 82, 67, 72] then .error 5 else (getR (pb s) a0 4 >>= fun q => loopN (pb s) q.1 [] 0 q.2 >>= fun r => if r.2 ≠ (pb s).length then .error 5 else .ok r.1) := by
   unfold readR
   rw [h0]
   rfl
  simp only [e1', Option.bind_some, ht']
  by_cases hh : hd = [65, 82, 67, 72]
  ·
   subst hh
   rw [if_neg Z23] at hr
   have hb : (([65, 82, 67, 72] : List UInt8) == [65, 82, 67, 72]) = true := by decide
   simp only [hb, pask_yes, Option.bind_some]
   cases h1 : getR (pb s) a0 4 with
   | error x =>
    have ha0 : a0 ≤ s.size := by rw [← pb_len]; exact (bytesR_ok h0).2.2
    obtain ⟨rfl, e2⟩ := pget_err s a0 4 x 4 rfl Z11 Z11 hs ha0 h1
    refine evp_of e2 (head_err Z11 ?_)
    rw [hr, h1]
    rfl
   | ok q =>
    obtain ⟨n, a1⟩ := q
    have ha0 : a0 ≤ s.size := by rw [← pb_len]; exact (bytesR_ok h0).2.2
    have e2 := pget_ok s a0 4 n a1 4 rfl Z11 Z11 hs ha0 h1
    refine evp_of e2 ⟨n, a1, 0, loopN (pb s) n [] 0 a1, rfl, (getR_ok h1).1, ⟨rfl, Z3, Z3, Z3, .inl ⟨rfl, [], 0, a1, rfl, rfl, rfl, by rw [← pb_len]; exact (getR_ok h1).2.2, Z3, rfl⟩⟩, ?_⟩
    unfold RdOf
    rw [hr, h1]
    rfl
  ·
   have hb : (hd == [65, 82, 67, 72]) = false := by simpa using hh
   simp only [hb, pask_no, Option.bind_some, pget_dead _ s (a0 : Int) 5 4 Z11]
   refine evp_const (head_err Z11 ?_)
   rw [hr, if_pos hh]
theorem linv_end {s : ByteArray} {n : Nat} {R0 : Except Int (List S38 × Nat)} (hr : RdOf (pb s) R0) {i : Nat} {l' : List S38} {z a E : Int}
  (h : LInv s n R0 i l' z a E) (hd2 : i = n ∨ E ≠ 0) :
  (E ≠ 0 → readR (pb s) = .error E) ∧ (E = 0 → a ≠ (s.size : Int) → readR (pb s) = .error 5) ∧ (E = 0 → a = (s.size : Int) → ∃ l, readR (pb s) = .ok l ∧ l'.map strip = l.map strip) := by
 unfold RdOf at hr
 obtain ⟨e1, e2, e3, e4, e5⟩ := h
 rcases e5 with ⟨hE, l, zn, an, hl, hz, ha, han, hzn, hR⟩ | ⟨hE, hR⟩
 ·
  have hin : i = n := hd2.resolve_right (fun q => q hE)
  rw [hin, Nat.sub_self, loopN] at hR
  rw [← hR] at hr
  have hr2 : readR (pb s) = if an ≠ (pb s).length then .error 5 else .ok l := hr
  refine ⟨fun q => absurd hE q, fun _ q => ?_, fun _ q => ⟨l, ?_, hl⟩⟩
  ·
   rw [hr2, if_pos Z37]
  ·
   rw [hr2, if_neg Z37]
 ·
  rw [hR] at hr
  exact ⟨fun _ => hr, fun q => absurd q hE, fun q => absurd q hE⟩
theorem linv_fin {s : ByteArray} {n : Nat} {R0 : Except Int (List S38 × Nat)} (hr : RdOf (pb s) R0) {i : Nat} {l' : List S38} {z a E : Int}
  (h : LInv s n R0 i l' z a E) (hd2 : i = n ∨ E ≠ 0) :
  ∃ E', r8_Part_ask.f s a E (a == (s.size : Int)) = some (s, a, E') ∧ ((E' ≠ 0 ∧ readR (pb s) = .error E') ∨ (E' = 0 ∧ ∃ l, readR (pb s) = .ok l ∧ l'.map strip = l.map strip)) := by
 obtain ⟨h1, h2, h3⟩ := linv_end hr h hd2
 by_cases hE : E = 0
 ·
  subst hE
  by_cases ha : a = (s.size : Int)
  ·
   exact ⟨0, by rw [beq_iff_eq.mpr ha]; exact pask_yes s a, .inr ⟨rfl, h3 rfl ha⟩⟩
  ·
   exact ⟨5, by rw [beq_eq_false_iff_ne.mpr ha]; exact pask_no s a, .inl ⟨Z11, h2 rfl ha⟩⟩
 ·
  exact ⟨E, pask_dead s a E _ hE, .inl ⟨hE, h1 hE⟩⟩
end Go.Proofs.YtkhblpmjmkhiiaaGreatDoor.T
