/- A tree's one form is its own one form; the order in which nodes come changes nothing. -/
import Derived.Test.YtkhblpmjmkhiiaaGreatDoorQK0
import Derived.Lib.Strings
namespace Go.Proofs.YtkhblpmjmkhiiaaGreatDoor.T
set_option linter.unusedSimpArgs false
set_option linter.unusedVariables false
def kb (b : UInt8) : Nat := if b = 47 then 0 else b.toNat
def key (l : List UInt8) : List Nat := l.map kb
def Clean (l : List UInt8) : Prop := ∀ b ∈ l, b ≠ 0
theorem kb_inj {x y : UInt8} (hx : x ≠ 0) (hy : y ≠ 0) (h : kb x = kb y) : x = y := by
 unfold kb at h
 have h0 : ∀ z : UInt8, z ≠ 0 → z.toNat ≠ 0 := fun z hz e => hz (UInt8.toNat_inj.1 (by rw [e]; rfl))
 by_cases h1 : x = 47 <;> by_cases h2 : y = 47
 ·
  rw [h1, h2]
 ·
  rw [if_pos h1, if_neg h2] at h
  exact absurd h.symm (h0 y hy)
 ·
  rw [if_neg h1, if_pos h2] at h
  exact absurd h (h0 x hx)
 ·
  rw [if_neg h1, if_neg h2] at h
  exact UInt8.toNat_inj.1 h
theorem key_inj : ∀ {a b : List UInt8}, Clean a → Clean b → key a = key b → a = b
 | [], [], _, _, _ => rfl
 | [], y :: b, _, _, h => by simp [key] at h
 | x :: a, [], _, _, h => by simp [key] at h
 | x :: a, y :: b, ha, hb, h => by
  simp only [key, List.map_cons, List.cons.injEq] at h
  rw [kb_inj (ha x (List.mem_cons_self ..)) (hb y (List.mem_cons_self ..)) h.1, key_inj (fun z hz => ha z (List.mem_cons_of_mem _ hz)) (fun z hz => hb z (List.mem_cons_of_mem _ hz)) h.2]
def ordL : List UInt8 → List UInt8 → Int
 | x :: a, y :: b => if x = y then ordL a b else (kb x : Int) - kb y
 | a, b => (a.length : Int) - b.length
def lessL : List UInt8 → List UInt8 → Bool
 | x :: a, y :: b => if x = y then lessL a b else if x = 47 ∨ y = 47 then decide (x = 47) else decide (x < y)
 | a, b => decide (a.length < b.length)
theorem key_cons_lt {x y : UInt8} {a b : List UInt8} : key (x :: a) < key (y :: b) ↔ kb x < kb y ∨ kb x = kb y ∧ key a < key b := by
 simp only [key, List.map_cons]
 exact List.cons_lt_cons_iff
theorem ordL_lt : ∀ {a b : List UInt8}, Clean a → Clean b → (ordL a b < 0 ↔ key a < key b)
 | [], [], _, _ => by simp [ordL, key]
 | [], y :: b, _, _ => by simp [ordL, key] <;> omega
 | x :: a, [], _, _ => by simp [ordL, key] <;> omega
 | x :: a, y :: b, ha, hb => by
  rw [key_cons_lt]
  unfold ordL
  by_cases h : x = y
  ·
   rw [if_pos h, ordL_lt (fun z hz => ha z (List.mem_cons_of_mem _ hz)) (fun z hz => hb z (List.mem_cons_of_mem _ hz)), h]
   simp
  ·
   have hk : kb x ≠ kb y := fun e => h (kb_inj (ha x (List.mem_cons_self ..)) (hb y (List.mem_cons_self ..)) e)
   rw [if_neg h]
   omega
theorem lessL_lt : ∀ {a b : List UInt8}, Clean a → Clean b → (lessL a b = true ↔ key a < key b)
 | [], [], _, _ => by simp [lessL, key]
 | [], y :: b, _, _ => by simp [lessL, key]
 | x :: a, [], _, _ => by simp [lessL, key]
 | x :: a, y :: b, ha, hb => by
  rw [key_cons_lt]
  unfold lessL
  by_cases h : x = y
  ·
   rw [if_pos h, lessL_lt (fun z hz => ha z (List.mem_cons_of_mem _ hz)) (fun z hz => hb z (List.mem_cons_of_mem _ hz)), h]
   simp
  ·
   have hk : kb x ≠ kb y := fun e => h (kb_inj (ha x (List.mem_cons_self ..)) (hb y (List.mem_cons_self ..)) e)
   have hx0 : x.toNat ≠ 0 := fun e => ha x (List.mem_cons_self ..) (UInt8.toNat_inj.1 (by rw [e]; rfl))
   have hy0 : y.toNat ≠ 0 := fun e => hb y (List.mem_cons_self ..) (UInt8.toNat_inj.1 (by rw [e]; rfl))
   rw [if_neg h]
   unfold kb at hk ⊢
   by_cases h1 : x = 47
   ·
    rw [if_pos (.inl h1)]
    have h2 : ¬ y = 47 := fun e => h (by rw [h1, e])
    simp [h1, h2]
    omega
   ·
    by_cases h2 : y = 47
    ·
     rw [if_pos (.inr h2)]
     simp [h1, h2]
     intro e
     exact absurd e hx0
    ·
     rw [if_neg (by rintro (e | e); exact h1 e; exact h2 e)]
     simp only [h1, h2, if_false, UInt8.lt_iff_toNat_lt, decide_eq_true_eq]
     rw [if_neg h1, if_neg h2] at hk
     omega
theorem key_trans {a b c : List Nat} (h : a < b) (k : b < c) : a < c := List.lt_trans h k
theorem key_irrefl (a : List Nat) : ¬ a < a := List.lt_irrefl a
theorem key_tri (a b : List Nat) : a < b ∨ a = b ∨ b < a := by
 rcases Decidable.em (a < b) with h | h
 ·
  exact .inl h
 ·
  rcases Decidable.em (b < a) with k | k
  ·
   exact .inr (.inr k)
  ·
   exact .inr (.inl (List.le_antisymm (List.not_lt.1 k) (List.not_lt.1 h)))
open Go.RowKit Go.Proofs.YtkhblpmjmkhiiaaGreatDoorW.PrintWords Go.Proofs.YtkhblpmjmkhiiaaGreatDoorW.PrintLast Go.Proofs.YtkhblpmjmkhiiaaGreatDoorW.PrintMore Go.Proofs.YtkhblpmjmkhiiaaGreatDoor.PAll
def Evs {α : Type} (f : Nat → Option α) (r : α) : Prop := ∃ K, ∀ k, K ≤ k → f k = some r
theorem evs_const {α : Type} (r : α) : Evs (fun _ => some r) r := ⟨0, fun _ _ => rfl⟩
theorem evs_step {α : Type} {f g : Nat → Option α} {r : α} (h : ∀ k, f (k + 1) = g k) (e : Evs g r) : Evs f r := by
 obtain ⟨K, hK⟩ := e
 refine ⟨K + 1, fun k hk => ?_⟩
 obtain ⟨j, rfl⟩ : ∃ j, k = j + 1 := ⟨k - 1, Z3⟩
 rw [h]
 exact hK j Z3
theorem evs_bind {α β : Type} {f : Nat → Option α} {g : Nat → α → Option β} {a : α} {r : β} (e : Evs f a) (e2 : Evs (fun k => g k a) r) : Evs (fun k => (f k).bind (g k)) r := by
 obtain ⟨K, hK⟩ := e
 obtain ⟨L, hL⟩ := e2
 refine ⟨max K L, fun k hk => ?_⟩
 show (f k).bind (g k) = some r
 rw [hK k Z3]
 exact hL k Z3
theorem evs_pos {α : Type} {c : Prop} [Decidable c] {f g : Nat → Option α} {r : α} (h : c) (e : Evs f r) : Evs (fun k => if c then f k else g k) r := by
 simp only [if_pos h]
 exact e
theorem evs_neg {α : Type} {c : Prop} [Decidable c] {f g : Nat → Option α} {r : α} (h : ¬ c) (e : Evs g r) : Evs (fun k => if c then f k else g k) r := by
 simp only [if_neg h]
 exact e
theorem evs_get {α : Type} {f : Nat → Option α} {r : α} (e : Evs f r) : ∃ k, f k = some r := by
 obtain ⟨K, hK⟩ := e
 exact ⟨K, hK K (Nat.le_refl K)⟩
def pb (s : ByteArray) : List UInt8 := s.data.toList
theorem pb_len (s : ByteArray) : (pb s).length = s.size := by
 rw [pb, Array.length_toList]
 rfl
theorem toL (s : ByteArray) : s.toList = pb s := Go.Lib.toList_data s
theorem pb_ext (s : ByteArray) (i j : Nat) : pb (s.extract i j) = (pb s).extract i j := by
 simp [pb, List.extract_eq_take_drop]
theorem bt_pb {s : ByteArray} {i : Nat} (h : i < s.size) : bt s (i : Int) = (((pb s).getD i 0).toNat : Int) := by
 have h2 : i < (pb s).length := by rw [pb_len]; exact h
 unfold bt
 rw [dif_pos (by simpa using h)]
 have h3 : i < s.data.size := h
 simp [pb, List.getD_eq_getElem?_getD, h2, ByteArray.getElem_eq_getElem_data]
 rw [Array.getElem?_eq_getElem h3]
 rfl
theorem pb_inj {s t : ByteArray} (h : pb s = pb t) : s = t := by
 cases s; cases t
 simp only [pb, Array.toList_inj] at h
 simpa using h
theorem w64 {x : Int} (h0 : -9223372036854775808 ≤ x) (h1 : x ≤ 9223372036854775807) : wrap64 x = x := by unfold wrap64; omega
def okB (b : UInt8) : Bool := decide (33 ≤ b.toNat) && decide (b.toNat ≤ 126) && decide (b ≠ 47)
def nameE (s : List UInt8) : Int := if s.length > 19 then 4 else if s = [] ∨ s = [46] ∨ s = [46, 46] then 40 else if s.all okB then 0 else 40
theorem name_l0 (s : ByteArray) (hs : s.size ≤ 19) : ∀ (n i : Nat), i + n = s.size → Evs (fun k => r10_Name.l0 k s (i : Int)) (if ((pb s).drop i).all okB then 0 else 40) := by
 intro n
 induction n with
 | zero =>
  intro i hi
  refine evs_step (g := fun _ => some 0) (fun k => by rw [r10_Name.l0, if_neg Z3]) ?_
  rw [List.drop_eq_nil_of_le Z37]
  exact evs_const _
 | succ n ih =>
  intro i hi
  have hi2 : i < s.size := by omega
  have hl : i < (pb s).length := by rw [pb_len]; exact hi2
  have hd : (pb s).drop i = (pb s).getD i 0 :: (pb s).drop (i + 1) := by
   rw [List.drop_eq_getElem_cons hl, List.getD_eq_getElem?_getD, List.getElem?_eq_getElem hl]; rfl
  have ih1 := ih (i + 1) Z3
  refine evs_step (fun k => by rw [r10_Name.l0, if_pos Z3, if_pos Z3, bt_pb hi2, show wrap64 ((i : Int) + 1) = ((i + 1 : Nat) : Int) from by rw [w64 Z3 Z3]; rfl]) ?_
  rw [hd]
  generalize hb : (pb s).getD i 0 = b
  have e47 : ((b.toNat : Int) = 47) ↔ b = 47 := by
   constructor
   ·
    intro e; exact UInt8.toNat_inj.1 Z47
   ·
    intro e; rw [e]; rfl
  by_cases h1 : (b.toNat : Int) < 33
  ·
   refine evs_pos h1 ?_
   rw [if_neg (by simp [okB]; omega)]
   exact evs_const _
  ·
   refine evs_neg h1 ?_
   by_cases h2 : (b.toNat : Int) > 126
   ·
    refine evs_pos h2 ?_
    rw [if_neg (by simp [okB]; omega)]
    exact evs_const _
   ·
    refine evs_neg h2 ?_
    by_cases h3 : (b.toNat : Int) = 47
    ·
     refine evs_pos h3 ?_
     rw [if_neg (by simp [okB, e47.1 h3])]
     exact evs_const _
    ·
     refine evs_neg h3 ?_
     have hk : okB b = true := by
      simp only [okB, Bool.and_eq_true, decide_eq_true_eq]
      exact ⟨⟨Z3, Z3⟩, fun e => h3 (e47.2 e)⟩
     rw [List.all_cons, hk, Bool.true_and]
     exact ih1
theorem name_ev (s : ByteArray) : Evs (fun k => r10_Name.f k s) (nameE (pb s)) := by
 simp only [r10_Name.f, toL]
 unfold nameE
 by_cases h : (pb s).length > 19
 ·
  refine evs_pos (by rw [pb_len] at h; omega) ?_
  rw [if_pos h]
  exact evs_const _
 ·
  refine evs_neg (by rw [pb_len] at h; omega) ?_
  rw [if_neg h]
  have jt : Evs (fun k => r10_Name.j0 k s true) 40 := evs_step (fun k => by rw [r10_Name.j0, if_pos rfl]) (evs_const _)
  by_cases h1 : pb s = []
  ·
   refine evs_pos h1 ?_
   rw [if_pos (.inl h1)]
   exact jt
  ·
   refine evs_neg h1 ?_
   by_cases h2 : pb s = [46]
   ·
    refine evs_pos h2 ?_
    rw [if_pos (.inr (.inl h2))]
    exact jt
   ·
    refine evs_neg h2 ?_
    by_cases h3 : pb s = [46, 46]
    ·
     rw [if_pos (.inr (.inr h3))]
     simpa only [h3, beq_self_eq_true] using jt
    ·
     rw [if_neg (by rintro (e | e | e); exact h1 e; exact h2 e; exact h3 e), show (pb s == ([46, 46] : List UInt8)) = false from by simpa using h3]
     refine evs_step (fun k => by rw [r10_Name.j0, if_neg Z11]) ?_
     have := name_l0 s (by rw [pb_len] at h; omega) s.size 0 Z3
     simpa using this
def cutW : List UInt8 → List UInt8 → List (List UInt8)
 | cur, [] => [cur]
 | cur, b :: r => if b = 47 then cur :: cutW [] r else cutW (cur ++ [b]) r
def namesE : List (List UInt8) → Int
 | [] => 0
 | x :: l => if nameE x = 0 then namesE l else nameE x
def splitE (s : List UInt8) : Int :=
 if s.length > 255 then 4 else match s with
  | [] => 40
  | b :: t => if b ≠ 47 then 40 else if t = [] then 0 else namesE (cutW [] t)
def EvP {α : Type} (f : Nat → Option α) (P : α → Prop) : Prop := ∃ r, P r ∧ Evs f r
theorem evp_const {α : Type} {P : α → Prop} {r : α} (h : P r) : EvP (fun _ => some r) P := ⟨r, h, evs_const r⟩
theorem evp_step {α : Type} {f g : Nat → Option α} {P : α → Prop} (h : ∀ k, f (k + 1) = g k) (e : EvP g P) : EvP f P := by
 obtain ⟨r, h1, h2⟩ := e
 exact ⟨r, h1, evs_step h h2⟩
theorem evp_bind {α β : Type} {f : Nat → Option α} {g : Nat → α → Option β} {a : α} {P : β → Prop} (e : Evs f a) (e2 : EvP (fun k => g k a) P) : EvP (fun k => (f k).bind (g k)) P := by
 obtain ⟨r, h1, h2⟩ := e2
 exact ⟨r, h1, evs_bind e h2⟩
theorem evp_pos {α : Type} {c : Prop} [Decidable c] {f g : Nat → Option α} {P : α → Prop} (h : c) (e : EvP f P) : EvP (fun k => if c then f k else g k) P := by
 obtain ⟨r, h1, h2⟩ := e
 exact ⟨r, h1, evs_pos h h2⟩
theorem evp_neg {α : Type} {c : Prop} [Decidable c] {f g : Nat → Option α} {P : α → Prop} (h : ¬ c) (e : EvP g P) : EvP (fun k => if c then f k else g k) P := by
 obtain ⟨r, h1, h2⟩ := e
 exact ⟨r, h1, evs_neg h h2⟩
theorem drop_cons {l : List UInt8} {i : Nat} (h : i < l.length) : l.drop i = l.getD i 0 :: l.drop (i + 1) := by
 rw [List.drop_eq_getElem_cons h, List.getD_eq_getElem?_getD, List.getElem?_eq_getElem h]
 rfl
theorem ext_snoc {l : List UInt8} {a i : Nat} (ha : a ≤ i) (h : i < l.length) : l.extract a (i + 1) = l.extract a i ++ [l.getD i 0] := by
 rw [List.extract_eq_take_drop, List.extract_eq_take_drop, show i + 1 - a = (i - a) + 1 by omega, List.take_add_one]
 congr 1
 rw [List.getElem?_drop, show a + (i - a) = i by omega, List.getElem?_eq_getElem h, List.getD_eq_getElem?_getD, List.getElem?_eq_getElem h]
 rfl
theorem split_l0 (s : ByteArray) (hs : s.size ≤ 255) : ∀ (n i a : Nat) (l : List ByteArray), i + n = s.size → a ≤ i → l.length ≤ i →
  EvP (fun k => r10_Split.l0 k s l (a : Int) (i : Int)) (fun r => r.2 = namesE (cutW ((pb s).extract a i) ((pb s).drop i))) := by
 intro n
 induction n with
 | zero =>
  intro i a l hi ha hl
  rw [List.drop_eq_nil_of_le Z37, cutW]
  have hN := name_ev (s.extract a i)
  rw [pb_ext] at hN
  refine evp_step (fun k => by rw [r10_Split.l0, if_pos Z3, if_neg Z3]) ?_
  refine evp_step (fun k => by rw [r10_Split.j2, if_neg Z11, if_pos Z3, if_pos Z3, if_pos Z3, Int.toNat_natCast, Int.toNat_natCast]) ?_
  refine evp_bind hN ?_
  by_cases h : nameE ((pb s).extract a i) = 0
  ·
   rw [namesE, if_pos h, namesE]
   refine evp_pos h (evp_pos Z3 ?_)
   refine evp_step (fun k => by rw [r10_Split.l0, if_neg (by rw [w64 Z3 Z3]; omega)]) ?_
   exact evp_const rfl
  ·
   rw [namesE, if_neg h]
   exact evp_neg h (evp_const rfl)
 | succ n ih =>
  intro i a l hi ha hl
  have hi2 : i < s.size := by omega
  have hl2 : i < (pb s).length := by rw [pb_len]; exact hi2
  rw [drop_cons hl2, cutW]
  have hw : wrap64 ((i : Int) + 1) = ((i + 1 : Nat) : Int) := by rw [w64 Z3 Z3]; rfl
  by_cases h47 : (pb s).getD i 0 = 47
  ·
   rw [if_pos h47]
   have hN := name_ev (s.extract a i)
   rw [pb_ext] at hN
   have e0 : ∀ k, r10_Split.l0 (k + 1) s l (a : Int) (i : Int) = r10_Split.j2 k s l (a : Int) (i : Int) false := fun k => by
    rw [r10_Split.l0, if_pos Z3, if_pos Z3, if_pos Z3, bt_pb hi2, h47]
    rfl
   refine evp_step e0 ?_
   refine evp_step (fun k => by rw [r10_Split.j2, if_neg Z11, if_pos Z3, if_pos Z3, if_pos Z3, Int.toNat_natCast, Int.toNat_natCast]) ?_
   refine evp_bind hN ?_
   by_cases h : nameE ((pb s).extract a i) = 0
   ·
    rw [namesE, if_pos h]
    refine evp_pos h (evp_pos Z3 ?_)
    have hx := ih (i + 1) (i + 1) (l ++ [s.extract a i]) Z3 Z3 Z43
    rw [show (pb s).extract (i + 1) (i + 1) = [] by simp [List.extract_eq_take_drop]] at hx
    rw [hw]
    exact hx
   ·
    rw [namesE, if_neg h]
    exact evp_neg h (evp_const rfl)
  ·
   rw [if_neg h47]
   have e0 : ∀ k, r10_Split.l0 (k + 1) s l (a : Int) (i : Int) = r10_Split.j2 k s l (a : Int) (i : Int) true := fun k => by
    rw [r10_Split.l0, if_pos Z3, if_pos Z3, if_pos Z3, bt_pb hi2]
    congr 1
    have : ¬ ((((pb s).getD i 0).toNat : Int) = 47) := fun e => h47 (UInt8.toNat_inj.1 Z47)
    simpa using this
   have hx := ih (i + 1) a l Z3 Z3 Z3
   rw [ext_snoc ha hl2] at hx
   refine evp_step e0 ?_
   exact evp_step (fun k => by rw [r10_Split.j2, if_pos rfl, hw]) hx
theorem split_ev (s : ByteArray) : EvP (fun k => r10_Split.f k s) (fun r => r.2 = splitE (pb s)) := by
 simp only [r10_Split.f, toL]
 unfold splitE
 by_cases h : (pb s).length > 255
 ·
  rw [if_pos h]
  exact evp_pos (by rw [pb_len] at h; omega) (evp_const rfl)
 ·
  rw [if_neg h]
  have hn : ¬ ((s.size : Int) > 255) := by rw [pb_len] at h; omega
  have jt : EvP (fun k => r10_Split.j0 k s true) (fun r => r.2 = 40) := evp_step (fun k => by rw [r10_Split.j0, if_pos rfl]) (evp_const rfl)
  refine evp_neg hn ?_
  cases hp : pb s with
  | nil => exact evp_pos rfl jt
  | cons b t =>
   have hsz : s.size = t.length + 1 := by rw [← pb_len, hp]; rfl
   have hb0 : bt s 0 = (b.toNat : Int) := by
    have := bt_pb (s := s) (i := 0) Z3
    rw [hp] at this
    exact this
   simp only [hb0]
   refine evp_neg Z23 (evp_pos Z3 ?_)
   by_cases h47 : b = 47
   ·
    subst h47
    have e0 : ∀ k, r10_Split.j0 (k + 1) s (((47 : UInt8).toNat : Int) != 47) = if (s.size : Int) = 1 then (some (([] : List ByteArray), 0)) else (r10_Split.l0 k s ([] : List ByteArray) 1 1) := fun k => by
     rw [r10_Split.j0, if_neg Z11]
    refine evp_step e0 ?_
    by_cases ht : t = []
    ·
     subst ht
     exact evp_pos (by rw [hsz]; rfl) (evp_const rfl)
    ·
     have hl : 1 ≤ t.length := by cases t with | nil => exact absurd rfl ht | cons _ _ => simp
     have hx := split_l0 s (by rw [pb_len] at h; omega) (s.size - 1) 1 1 [] Z3 (Nat.le_refl _) Z23
     rw [hp] at hx
     simp only [List.extract_eq_take_drop, Nat.sub_self, List.take_zero, List.drop_succ_cons, List.drop_zero] at hx
     refine evp_neg Z3 ?_
     simp only [ne_eq, not_true_eq_false, if_false, ht]
     exact hx
   ·
    have e : ((b.toNat : Int) != 47) = true := by
     have : ¬ ((b.toNat : Int) = 47) := fun e => h47 (UInt8.toNat_inj.1 Z47)
     simpa using this
    rw [e]
    simp only [ne_eq, h47, not_false_eq_true, if_true]
    exact jt
theorem evs_val {α : Type} {f : Nat → Option α} {r r' : α} (h : r = r') (e : Evs f r') : Evs f r := h ▸ e
def pth (n : S38) : List UInt8 := pb n.f0
def dat (n : S38) : List UInt8 := pb n.f2
def knd (n : S38) : Int := n.f1.f2
def ino (n : S38) : Int := n.f1.f0
def mayN (n : S38) : Bool :=
 if splitE (pth n) = 0 then
  if knd n = 2 then decide (dat n = [])
  else if knd n = 1 ∧ (dat n).length ≤ 5675264 then true
  else if knd n = 3 then decide (splitE (dat n) = 0) else false
 else false
theorem may_ev (n : S38) : Evs (fun k => r8_may.f k n.f0 n.f1.f0 n.f1.f1 n.f1.f2 n.f1.f3 n.f1.f4 n.f2) (mayN n) := by
 obtain ⟨r, hr, hR⟩ := split_ev n.f0
 obtain ⟨q, hq, hQ⟩ := split_ev n.f2
 unfold mayN
 simp only [r8_may.f]
 refine evs_bind hR (evs_bind hQ ?_)
 have jt : Evs (fun k => r8_may.j0 k q.2 true n.f0 n.f1.f0 n.f1.f1 n.f1.f2 n.f1.f3 n.f1.f4 n.f2) false := evs_step (fun k => by rw [r8_may.j0, if_pos rfl]) (evs_const _)
 have hsz : (dat n).length = n.f2.size := pb_len _
 by_cases h : splitE (pth n) = 0
 ·
  refine evs_val (if_pos h) ?_
  refine evs_pos (by rw [hr]; exact h) ?_
  have jf (h1 : ¬ n.f1.f2 < 1) (h3 : ¬ n.f1.f2 > 3) : Evs (fun k => r8_may.j0 k q.2 false n.f0 n.f1.f0 n.f1.f1 n.f1.f2 n.f1.f3 n.f1.f4 n.f2) (if knd n = 2 then decide (dat n = []) else if knd n = 1 ∧ (dat n).length ≤ 5675264 then true else if knd n = 3 then decide (splitE (dat n) = 0) else false) := by
   refine evs_step (fun k => by rw [r8_may.j0, if_neg Z11, toL]) ?_
   have eq : (q.2 == 0) = decide (splitE (dat n) = 0) := by rw [hq]; rfl
   by_cases h2 : n.f1.f2 = 2
   ·
    refine evs_val (if_pos (show knd n = 2 from h2)) ?_
    refine evs_pos h2 ?_
    have : (pb n.f2 == ([] : List UInt8)) = decide (dat n = []) := by
     by_cases e : pb n.f2 = []
     ·
      rw [decide_eq_true (show dat n = [] from e), e]; rfl
     ·
      rw [decide_eq_false (show ¬ dat n = [] from e)]; simpa using e
    rw [this]
    exact evs_const _
   ·
    refine evs_val (if_neg (show ¬ knd n = 2 from h2)) ?_
    refine evs_neg h2 ?_
    by_cases h11 : n.f1.f2 = 1
    ·
     refine evs_pos h11 ?_
     by_cases hs : (n.f2.size : Int) ≤ 5675264
     ·
      refine evs_val (if_pos ⟨h11, Z3⟩) ?_
      exact evs_pos hs (evs_const _)
     ·
      have : ¬ knd n = 3 := by unfold knd; omega
      refine evs_val (if_neg (fun e => hs Z3)) (evs_val (if_neg this) ?_)
      exact evs_neg hs (evs_neg Z3 (evs_const _))
    ·
     refine evs_val (if_neg (fun e => h11 e.1)) ?_
     refine evs_neg h11 ?_
     have h33 : n.f1.f2 = 3 := by omega
     refine evs_val (if_pos (show knd n = 3 from h33)) ?_
     rw [eq.symm]
     exact evs_pos h33 (evs_const _)
  by_cases h1 : n.f1.f2 < 1
  ·
   have : ¬ knd n = 2 ∧ ¬ knd n = 1 ∧ ¬ knd n = 3 := by unfold knd; omega
   refine evs_val (if_neg this.1) (evs_val (if_neg (fun e => this.2.1 e.1)) (evs_val (if_neg this.2.2) ?_))
   exact evs_pos h1 jt
  ·
   refine evs_neg h1 ?_
   by_cases h3 : n.f1.f2 > 3
   ·
    have : ¬ knd n = 2 ∧ ¬ knd n = 1 ∧ ¬ knd n = 3 := by unfold knd; omega
    refine evs_val (if_neg this.1) (evs_val (if_neg (fun e => this.2.1 e.1)) (evs_val (if_neg this.2.2) ?_))
    rw [decide_eq_true h3]
    exact jt
   ·
    rw [decide_eq_false h3]
    exact jf h1 h3
 ·
  refine evs_val (if_neg h) ?_
  exact evs_neg (by rw [hr]; exact h) jt
theorem less_l0 (s t : ByteArray) : ∀ (n i : Nat), i + n = s.size → i ≤ t.size → s.size < 4294967296 → Evs (fun k => r8_Less.l0 k s t (i : Int)) (lessL ((pb s).drop i) ((pb t).drop i)) := by
 intro n
 induction n with
 | zero =>
  intro i hi ht hs
  refine evs_step (fun k => by rw [r8_Less.l0, if_neg Z3]) ?_
  refine evs_step (fun k => by rw [r8_Less.j1, if_neg Z11]) ?_
  rw [List.drop_eq_nil_of_le Z37]
  have : lessL [] ((pb t).drop i) = decide ((s.size : Int) < (t.size : Int)) := by
   unfold lessL
   simp only [List.length_nil, List.length_drop, pb_len]
   exact decide_eq_decide.2 Z3
  rw [this]
  exact evs_const _
 | succ n ih =>
  intro i hi ht hs
  have hi2 : i < s.size := by omega
  have hl2 : i < (pb s).length := by rw [pb_len]; exact hi2
  refine evs_step (fun k => by rw [r8_Less.l0, if_pos Z3]) ?_
  by_cases h : i < t.size
  ·
   have hlt : i < (pb t).length := by rw [pb_len]; exact h
   rw [decide_eq_true Z3]
   refine evs_step (fun k => by rw [r8_Less.j1, if_pos rfl, if_pos Z3, if_pos Z3, if_pos Z3, bt_pb hi2, bt_pb h, show wrap64 ((i : Int) + 1) = ((i + 1 : Nat) : Int) from by rw [w64 Z3 Z3]; rfl]) ?_
   rw [drop_cons hl2, drop_cons hlt]
   have ih1 := ih (i + 1) Z3 Z3 hs
   generalize (pb s).getD i 0 = x
   generalize (pb t).getD i 0 = y
   have e (z : UInt8) : ((z.toNat : Int) = 47) ↔ z = 47 := by
    constructor
    ·
     intro e; exact UInt8.toNat_inj.1 Z47
    ·
     intro e; rw [e]; rfl
   unfold lessL
   by_cases hxy : x = y
   ·
    refine evs_val (if_pos hxy) ?_
    exact evs_pos (by rw [hxy]) ih1
   ·
    refine evs_val (if_neg hxy) ?_
    refine evs_neg (fun e => hxy (UInt8.toNat_inj.1 Z3)) ?_
    have e2 : ((x.toNat : Int) == 47) = decide (x = 47) := by
     by_cases hx : x = 47
     ·
      rw [decide_eq_true hx, hx]; rfl
     ·
      rw [decide_eq_false hx]; simpa using (fun q => hx ((e x).1 q))
    rw [e2]
    by_cases hx : x = 47
    ·
     refine evs_val (if_pos (.inl hx)) ?_
     exact evs_pos ((e x).2 hx) (evs_const _)
    ·
     refine evs_neg (fun q => hx ((e x).1 q)) ?_
     by_cases hy : y = 47
     ·
      refine evs_val (if_pos (.inr hy)) ?_
      exact evs_pos ((e y).2 hy) (evs_const _)
     ·
      refine evs_val (if_neg (by rintro (q | q); exact hx q; exact hy q)) ?_
      refine evs_neg (fun q => hy ((e y).1 q)) ?_
      have : decide (x < y) = decide ((x.toNat : Int) < (y.toNat : Int)) := decide_eq_decide.2 (by rw [UInt8.lt_iff_toNat_lt]; omega)
      rw [this]
      exact evs_const _
  ·
   rw [decide_eq_false Z3]
   refine evs_step (fun k => by rw [r8_Less.j1, if_neg Z11]) ?_
   rw [show (pb t).drop i = [] from List.drop_eq_nil_of_le Z37, drop_cons hl2]
   have : lessL ((pb s).getD i 0 :: (pb s).drop (i + 1)) [] = decide ((s.size : Int) < (t.size : Int)) := by
    unfold lessL
    simp only [List.length_cons, List.length_nil]
    exact decide_eq_decide.2 Z3
   rw [this]
   exact evs_const _
theorem less_ev (s t : ByteArray) (hs : s.size < 4294967296) : Evs (fun k => r8_Less.f k s t) (lessL (pb s) (pb t)) := by
 have := less_l0 s t s.size 0 Z3 Z3 hs
 simpa [r8_Less.f] using this
def abvN (l : List UInt8) : Nat → List UInt8
 | 0 => [47]
 | i + 1 => if l.getD (i + 1) 0 = 47 then l.take (i + 1) else abvN l i
def abv (l : List UInt8) : List UInt8 := abvN l (l.length - 1)
theorem above_l0 (s : ByteArray) (hs : s.size < 4294967296) : ∀ (i : Nat), i < s.size → EvP (fun k => r8_Above.l0 k s (i : Int)) (fun r => pb r = abvN (pb s) i) := by
 intro i
 induction i with
 | zero =>
  intro _
  exact evp_step (fun k => by rw [r8_Above.l0, if_neg Z3]) (evp_const rfl)
 | succ i ih =>
  intro hi
  refine evp_step (fun k => by rw [r8_Above.l0, if_pos Z3, if_pos Z3, if_pos Z3, if_pos (show ((i + 1 : Nat) : Int) ≤ (s.size : Int) by omega), bt_pb hi, Int.toNat_natCast, show wrap64 (((i + 1 : Nat) : Int) - 1) = (i : Int) from by rw [w64 Z3 Z3]; omega]) ?_
  unfold abvN
  by_cases h : (pb s).getD (i + 1) 0 = 47
  ·
   rw [if_pos h]
   refine evp_pos (by rw [h]; rfl) (evp_const ?_)
   rw [pb_ext, List.extract_eq_take_drop]
   simp
  ·
   rw [if_neg h]
   refine evp_neg (fun e => h (UInt8.toNat_inj.1 Z47)) (ih Z3)
theorem above_ev (s : ByteArray) (hs : s.size < 4294967296) : EvP (fun k => r8_Above.f k s) (fun r => pb r = abv (pb s)) := by
 simp only [r8_Above.f]
 unfold abv
 rw [pb_len]
 by_cases h : s.size = 0
 ·
  rw [h]
  exact evp_step (fun k => by rw [r8_Above.l0, if_neg (by rw [w64 Z3 Z3]; omega)]) (evp_const rfl)
 ·
  rw [show wrap64 ((s.size : Int) - 1) = ((s.size - 1 : Nat) : Int) from by rw [w64 Z3 Z3]; omega]
  exact above_l0 s hs (s.size - 1) Z3
theorem rd_at {l : List S38} {i : Nat} (h : i < l.length) : rd_T38 l (i : Int) = l[i] := by
 simp [rd_T38, List.getD_eq_getElem?_getD, h]
theorem dropN {l : List S38} {i : Nat} (h : i < l.length) : l.drop i = rd_T38 l (i : Int) :: l.drop (i + 1) := by
 rw [rd_at h, List.drop_eq_getElem_cons h]
def findI (p : List UInt8) : Nat → List S38 → Int
 | _, [] => -1
 | i, n :: r => if pth n = p then (i : Int) else findI p (i + 1) r
theorem find_l0 (l : List S38) (s : ByteArray) (hl : l.length < 4294967296) : ∀ (n i : Nat), i + n = l.length → Evs (fun k => r8_Find.l0 k l s (i : Int)) (findI (pb s) i (l.drop i)) := by
 intro n
 induction n with
 | zero =>
  intro i hi
  rw [List.drop_eq_nil_of_le Z3, findI]
  exact evs_step (fun k => by rw [r8_Find.l0, if_neg Z3]) (evs_const _)
 | succ n ih =>
  intro i hi
  rw [dropN Z3]
  refine evs_step (fun k => by rw [r8_Find.l0, if_pos Z3, if_pos Z3, toL, toL, show wrap64 ((i : Int) + 1) = ((i + 1 : Nat) : Int) from by rw [w64 Z3 Z3]; rfl]) ?_
  unfold findI
  by_cases h : pth (rd_T38 l (i : Int)) = pb s
  ·
   rw [if_pos h]
   exact evs_pos h (evs_const _)
  ·
   rw [if_neg h]
   exact evs_neg h (ih (i + 1) Z3)
theorem find_ev (l : List S38) (s : ByteArray) (hl : l.length < 4294967296) : Evs (fun k => r8_Find.f k l s) (findI (pb s) 0 l) := by
 have := find_l0 l s hl l.length 0 Z3
 simpa [r8_Find.f] using this
def ins (n : S38) : List S38 → List S38
 | [] => [n]
 | m :: r => if lessL (pth n) (pth m) then n :: m :: r else m :: ins n r
theorem ins_len (n : S38) : ∀ l, (ins n l).length = l.length + 1
 | [] => rfl
 | m :: r => by
  unfold ins
  split
  ·
   rfl
  ·
   simp [ins_len n r]
theorem findI_ge (p : List UInt8) : ∀ (l : List S38) (i : Nat), findI p i l ≥ 0 ↔ ∃ n ∈ l, pth n = p
 | [], i => by simp [findI]
 | n :: r, i => by
  unfold findI
  by_cases h : pth n = p
  ·
   rw [if_pos h]
   exact ⟨fun _ => ⟨n, List.mem_cons_self .., h⟩, fun _ => by omega⟩
  ·
   rw [if_neg h, findI_ge p r (i + 1)]
   constructor
   ·
    rintro ⟨m, hm, e⟩
    exact ⟨m, List.mem_cons_of_mem _ hm, e⟩
   ·
    rintro ⟨m, hm, e⟩
    rcases List.mem_cons.1 hm with rfl | hm
    ·
     exact absurd e h
    ·
     exact ⟨m, hm, e⟩
def ph1 : List S38 → List S38 → Option (List S38)
 | [], out => some out
 | n :: r, out => if mayN n = true ∧ ¬ ∃ m ∈ out, pth m = pth n then ph1 r (ins n out) else none
abbrev bad : List S38 × Int := ([], 5)
def pairs (s : List S38) (n : S38) (i : Nat) : Nat → Int → Int → List S38 → Option (Int × Int)
 | _, f, c, [] => some (f, c)
 | j, f, c, m :: r =>
  if ino m = ino n then
   if j = i ∨ (knd m = 1 ∧ knd n = 1 ∧ dat m = dat n) then pairs s n i (j + 1) (if f < 0 then (j : Int) else f) (c + 1) r else none
  else pairs s n i (j + 1) f c r
def dirAt (s : List S38) (p : List UInt8) : Prop := 0 ≤ findI p 0 s ∧ knd (rd_T38 s (findI p 0 s)) = 2
instance (s : List S38) (p : List UInt8) : Decidable (dirAt s p) := inferInstanceAs (Decidable (_ ∧ _))
def ph2 (s : List S38) : Nat → List S36 → List S38 → Option (List S36)
 | _, st, [] => some st
 | i, st, n :: r =>
  if i = 0 ∨ dirAt s (abv (pth n)) then
   match pairs s n i 0 (-1) 0 s with
   | some (f, c) => ph2 s (i + 1) (st.set i ⟨f + 1, 0, knd n, c, ((dat n).length : Int)⟩) r
   | none => none
  else none
def ph3 (st : List S36) : Nat → List S38 → List S38
 | _, [] => []
 | i, n :: r => ⟨n.f0, rd_T36 st (i : Int), n.f2⟩ :: ph3 st (i + 1) r
def rootOk : List S38 → Bool
 | [] => false
 | n :: _ => decide (pth n = [47]) && decide (knd n = 2)
def normR (l : List S38) : List S38 × Int :=
 match ph1 l [] with
 | none => bad
 | some s => if rootOk s = true then match ph2 s 0 (List.replicate s.length z36) s with
  | none => bad
  | some st => (ph3 st 0 s, 0)
  else bad
theorem l4_ev (st : List S36) : ∀ (n i : Nat) (pre : List S38) (l : List S38), pre.length = i → l.length = n → pre.length + l.length < 4294967296 → pre.length + l.length ≤ st.length →
  Evs (fun k => r8_Normal.l4 k (pre ++ l) st (i : Int)) (pre ++ ph3 st i l, 0) := by
 intro n
 induction n with
 | zero =>
  intro i pre l hp hl hs hst
  obtain rfl : l = [] := List.eq_nil_of_length_eq_zero hl
  refine evs_step (fun k => by rw [r8_Normal.l4, if_neg Z43]) ?_
  exact evs_const _
 | succ n ih =>
  intro i pre l hp hl hs hst
  cases l with
  | nil => simp at hl
  | cons m r =>
   simp only [List.length_cons] at hl hs hst
   have e : rd_T38 (pre ++ m :: r) (i : Int) = m := by
    rw [rd_at Z43]
    simp [← hp]
   refine evs_step (fun k => by rw [r8_Normal.l4, if_pos Z43, if_pos Z3, if_pos Z3, e, Int.toNat_natCast, show wrap64 ((i : Int) + 1) = ((i + 1 : Nat) : Int) from by rw [w64 Z3 Z3]; rfl]) ?_
   have h2 := ih (i + 1) (pre ++ [⟨m.f0, rd_T36 st (i : Int), m.f2⟩]) r Z43 Z3 Z43 Z43
   rw [ph3]
   simp only [List.append_assoc, List.cons_append, List.nil_append] at h2
   have e3 : (pre ++ m :: r).set i ⟨m.f0, rd_T36 st (i : Int), m.f2⟩ = pre ++ ⟨m.f0, rd_T36 st (i : Int), m.f2⟩ :: r := by
    rw [← hp, List.set_append_right _ _ (Nat.le_refl _)]
    simp
   show Evs (fun k => r8_Normal.l4 k ((pre ++ m :: r).set i ⟨m.f0, rd_T36 st (i : Int), m.f2⟩) st ((i + 1 : Nat) : Int)) _
   rw [e3]
   exact h2
theorem l3_ev (s : List S38) (st : List S36) (i : Nat) (hs : s.length < 4294967296) (hi : i < s.length) (hst : st.length = s.length) (R : List S38 × Int) :
  ∀ (n j : Nat) (f c : Int), j + n = s.length → -1 ≤ f → f ≤ j → 0 ≤ c → c ≤ j →
  (match pairs s (rd_T38 s i) i j f c (s.drop j) with
   | some (f', c') => Evs (fun k => r8_Normal.l2 k s (st.set i ⟨f' + 1, 0, knd (rd_T38 s i), c', ((dat (rd_T38 s i)).length : Int)⟩) ((i + 1 : Nat) : Int)) R
   | none => R = bad) →
  Evs (fun k => r8_Normal.l3 k s st (i : Int) f c (j : Int)) R := by
 intro n
 induction n with
 | zero =>
  intro j f c hj hf1 hf2 hc1 hc2 h
  rw [List.drop_eq_nil_of_le Z3] at h
  simp only [pairs] at h
  refine evs_step (fun k => by rw [r8_Normal.l3, if_neg Z3, if_pos Z3, if_pos Z3, if_pos Z3, Int.toNat_natCast, show wrap64 ((i : Int) + 1) = ((i + 1 : Nat) : Int) from by rw [w64 Z3 Z3]; rfl, show wrap64 (f + 1) = f + 1 from w64 Z3 Z3]) ?_
  have e : ((dat (rd_T38 s i)).length : Int) = ((rd_T38 s i).f2.size : Int) := by rw [dat, pb_len]
  rw [e] at h
  exact h
 | succ n ih =>
  intro j f c hj hf1 hf2 hc1 hc2 h
  rw [dropN Z3] at h
  have w1 : wrap64 ((j : Int) + 1) = ((j + 1 : Nat) : Int) := by rw [w64 Z3 Z3]; rfl
  have w2 : wrap64 (c + 1) = c + 1 := w64 Z3 Z3
  refine evs_step (fun k => by rw [r8_Normal.l3, if_pos Z3, if_pos Z3, if_pos Z3, if_pos Z3, w1]) ?_
  unfold pairs at h
  by_cases hn : (rd_T38 s (j : Int)).f1.f0 = (rd_T38 s (i : Int)).f1.f0
  ·
   rw [if_pos (show ino _ = ino _ from hn)] at h
   refine evs_pos hn ?_
   have j7f (h2 : j = i ∨ (knd (rd_T38 s (j : Int)) = 1 ∧ knd (rd_T38 s (i : Int)) = 1 ∧ dat (rd_T38 s (j : Int)) = dat (rd_T38 s (i : Int)))) : Evs (fun k => r8_Normal.j7 k s st (i : Int) f c (j : Int) false) R := by
    rw [if_pos h2] at h
    refine evs_step (fun k => by rw [r8_Normal.j7, if_neg Z11, w1, w2]) ?_
    by_cases hf : f < 0
    ·
     rw [if_pos hf] at h
     exact evs_pos hf (ih (j + 1) j (c + 1) Z3 Z3 Z3 Z3 Z3 h)
    ·
     rw [if_neg hf] at h
     exact evs_neg hf (ih (j + 1) f (c + 1) Z3 Z3 Z3 Z3 Z3 h)
   have j7t (h2 : ¬ (j = i ∨ (knd (rd_T38 s (j : Int)) = 1 ∧ knd (rd_T38 s (i : Int)) = 1 ∧ dat (rd_T38 s (j : Int)) = dat (rd_T38 s (i : Int))))) : Evs (fun k => r8_Normal.j7 k s st (i : Int) f c (j : Int) true) R := by
    rw [if_neg h2] at h
    have hR : R = bad := h
    rw [hR]
    exact evs_step (fun k => by rw [r8_Normal.j7, if_pos rfl]) (evs_const _)
   by_cases hji : j = i
   ·
    exact evs_pos (by rw [hji]) (j7f (.inl hji))
   ·
    refine evs_neg Z3 ?_
    by_cases h1 : (rd_T38 s (j : Int)).f1.f2 = 1
    ·
     refine evs_pos h1 ?_
     by_cases h2 : (rd_T38 s (i : Int)).f1.f2 = 1
     ·
      refine evs_pos h2 ?_
      rw [toL, toL]
      by_cases h3 : pb (rd_T38 s (j : Int)).f2 = pb (rd_T38 s (i : Int)).f2
      ·
       rw [show (pb (rd_T38 s (j : Int)).f2 != pb (rd_T38 s (i : Int)).f2) = false from by rw [h3]; simp]
       exact j7f (.inr ⟨h1, h2, h3⟩)
      ·
       rw [show (pb (rd_T38 s (j : Int)).f2 != pb (rd_T38 s (i : Int)).f2) = true from by simpa using h3]
       exact j7t (by rintro (e | e); exact hji e; exact h3 e.2.2)
     ·
      exact evs_neg h2 (j7t (by rintro (e | e); exact hji e; exact h2 e.2.1))
    ·
     exact evs_neg h1 (j7t (by rintro (e | e); exact hji e; exact h1 e.1))
  ·
   rw [if_neg (show ¬ ino _ = ino _ from hn)] at h
   exact evs_neg hn (ih (j + 1) f c Z3 Z3 Z3 Z3 Z3 h)
theorem l2_ev (s : List S38) (hs : s.length < 4294967296) (hb : ∀ n ∈ s, n.f0.size < 4294967296) : ∀ (n i : Nat) (st : List S36), i + n = s.length → st.length = s.length →
  Evs (fun k => r8_Normal.l2 k s st (i : Int)) (match ph2 s i st (s.drop i) with | none => bad | some st' => (ph3 st' 0 s, 0)) := by
 intro n
 induction n with
 | zero =>
  intro i st hi hst
  rw [List.drop_eq_nil_of_le Z3, ph2]
  refine evs_step (fun k => by rw [r8_Normal.l2, if_neg Z3]) ?_
  have := l4_ev st s.length 0 [] s rfl rfl (by simpa using hs) Z43
  simpa using this
 | succ n ih =>
  intro i st hi hst
  have hil : i < s.length := by omega
  rw [dropN hil]
  have j5 (hd : i = 0 ∨ dirAt s (abv (pth (rd_T38 s (i : Int))))) : Evs (fun k => r8_Normal.j5 k s st (i : Int)) (match ph2 s i st (rd_T38 s (i : Int) :: s.drop (i + 1)) with | none => bad | some st' => (ph3 st' 0 s, 0)) := by
   refine evs_step (fun k => by rw [r8_Normal.j5]) ?_
   have := l3_ev s st i hs hil hst (match ph2 s i st (rd_T38 s (i : Int) :: s.drop (i + 1)) with | none => bad | some st' => (ph3 st' 0 s, 0)) s.length 0 (-1) 0 Z3 Z3 Z3 Z3 Z3 ?_
   ·
    exact this
   ·
    rw [List.drop_zero]
    rw [ph2, if_pos hd]
    cases hp : pairs s (rd_T38 s (i : Int)) i 0 (-1) 0 s with
    | none => rfl
    | some p =>
     obtain ⟨f', c'⟩ := p
     exact ih (i + 1) _ Z3 (by simpa using hst)
  have w0 : Int := 0
  by_cases h0 : i = 0
  ·
   refine evs_step (fun k => by rw [r8_Normal.l2, if_pos Z3, if_neg Z3]) ?_
   exact j5 (.inl h0)
  ·
   refine evs_step (fun k => by rw [r8_Normal.l2, if_pos Z3, if_pos Z3, if_pos Z3]) ?_
   obtain ⟨a, ha, hA⟩ := above_ev (rd_T38 s (i : Int)).f0 (hb _ (by rw [rd_at hil]; exact List.getElem_mem hil))
   refine evs_bind hA (evs_bind (find_ev s a hs) ?_)
   rw [ha]
   have hfl : findI (abv (pth (rd_T38 s (i : Int)))) 0 s < s.length := by
    have aux : ∀ (p : List UInt8) (l : List S38) (i : Nat), findI p i l < (i + l.length : Nat) := by
     intro p l
     induction l with
     | nil => intro i; rw [findI]; omega
     | cons m r ihr =>
      intro i
      unfold findI
      split
      ·
       simp
       omega
      ·
       have := ihr (i + 1)
       simp only [List.length_cons]
       omega
    have := aux (abv (pth (rd_T38 s (i : Int)))) s 0
    omega
   have hbad (hd : ¬ dirAt s (abv (pth (rd_T38 s (i : Int))))) : (match ph2 s i st (rd_T38 s (i : Int) :: s.drop (i + 1)) with | none => bad | some st' => (ph3 st' 0 s, 0)) = bad := by
    rw [ph2, if_neg (by rintro (e | e); exact h0 e; exact hd e)]
   show Evs (fun k => if findI (abv (pth (rd_T38 s (i : Int)))) 0 s < 0 then _ else _) _
   by_cases hneg : findI (abv (pth (rd_T38 s (i : Int)))) 0 s < 0
   ·
    rw [hbad (fun e => absurd e.1 (Int.not_le.2 hneg))]
    exact evs_pos hneg (evs_const _)
   ·
    refine evs_neg hneg (evs_pos (Int.not_lt.1 hneg) (evs_pos hfl ?_))
    by_cases hk : (rd_T38 s (findI (abv (pth (rd_T38 s (i : Int)))) 0 s)).f1.f2 = 2
    ·
     exact evs_pos hk (j5 (.inr ⟨Int.not_lt.1 hneg, hk⟩))
    ·
     rw [hbad (fun e => hk e.2)]
     exact evs_neg hk (evs_const _)
def rest (s : List S38) : List S38 × Int :=
 if rootOk s = true then match ph2 s 0 (List.replicate s.length z36) s with
  | none => bad
  | some st => (ph3 st 0 s, 0)
 else bad
theorem j3_ev (s : List S38) (hs : s.length < 4294967296) (hb : ∀ n ∈ s, n.f0.size < 4294967296) : Evs (fun k => r8_Normal.j3 k s (!rootOk s)) (rest s) := by
 unfold rest
 by_cases h : rootOk s = true
 ·
  rw [if_pos h, h]
  refine evs_step (fun k => by rw [r8_Normal.j3, if_neg Z11, if_pos Z3, if_pos Z3, Int.toNat_natCast]) ?_
  exact l2_ev s hs hb s.length 0 _ Z3 Z23
 ·
  rw [if_neg h, Bool.eq_false_iff.2 h]
  exact evs_step (fun k => by rw [r8_Normal.j3, if_pos Z11]) (evs_const _)
theorem ins_mem {n m : S38} : ∀ {l : List S38}, m ∈ ins n l ↔ m = n ∨ m ∈ l
 | [] => by simp [ins]
 | a :: r => by
  unfold ins
  split
  ·
   simp
  ·
   rw [List.mem_cons, ins_mem (l := r), List.mem_cons]
   constructor
   ·
    rintro (e | e | e)
    ·
     exact .inr (.inl e)
    ·
     exact .inl e
    ·
     exact .inr (.inr e)
   ·
    rintro (e | e | e)
    ·
     exact .inr (.inl e)
    ·
     exact .inl e
    ·
     exact .inr (.inr e)
structure Tree (l : List S38) : Prop where
 may : ∀ n ∈ l, mayN n = true
 nodup : (l.map pth).Nodup
 root : ∃ n ∈ l, pth n = [47] ∧ knd n = 2
 up : ∀ n ∈ l, pth n ≠ [47] → ∃ d ∈ l, pth d = abv (pth n) ∧ knd d = 2
 twins : ∀ n ∈ l, ∀ m ∈ l, ino n = ino m → pth n = pth m ∨ (knd n = 1 ∧ knd m = 1 ∧ dat n = dat m)
theorem Tree.perm {l l' : List S38} (h : Tree l) (p : l.Perm l') : Tree l' :=
 ⟨fun n hn => h.may n (p.mem_iff.2 hn), (p.map pth).nodup_iff.1 h.nodup,
  by obtain ⟨n, hn, e⟩ := h.root; exact ⟨n, p.mem_iff.1 hn, e⟩,
  fun n hn hr => by obtain ⟨d, hd, e⟩ := h.up n (p.mem_iff.2 hn) hr; exact ⟨d, p.mem_iff.1 hd, e⟩,
  fun n hn m hm => h.twins n (p.mem_iff.2 hn) m (p.mem_iff.2 hm)⟩
theorem okB_ne {b : UInt8} (h : okB b = true) : b ≠ 0 := by
 rintro rfl
 exact absurd h Z11
theorem nameE_clean {s : List UInt8} (h : nameE s = 0) : ∀ b ∈ s, okB b = true := by
 unfold nameE at h
 split at h
 ·
  cases h
 ·
  split at h
  ·
   cases h
  ·
   split at h
   ·
    rename_i h3
    exact List.all_eq_true.1 h3
   ·
    cases h
theorem cutW_clean : ∀ (r cur : List UInt8), namesE (cutW cur r) = 0 → ∀ b ∈ cur ++ r, b = 47 ∨ okB b = true
 | [], cur, h, b, hb => by
  simp only [cutW, namesE] at h
  split at h
  ·
   rename_i h1
   rw [List.append_nil] at hb
   exact .inr (nameE_clean h1 b hb)
  ·
   rename_i h1
   exact absurd h h1
 | c :: r, cur, h, b, hb => by
  unfold cutW at h
  split at h
  ·
   rename_i hc
   unfold namesE at h
   split at h
   ·
    rename_i h1
    rcases List.mem_append.1 hb with hb | hb
    ·
     exact .inr (nameE_clean h1 b hb)
    ·
     rcases List.mem_cons.1 hb with rfl | hb
     ·
      exact .inl hc
     ·
      exact cutW_clean r [] h b hb
   ·
    rename_i h1
    exact absurd h h1
  ·
   exact cutW_clean r (cur ++ [c]) h b (by simpa using hb)
theorem splitE_form {s : List UInt8} (h : splitE s = 0) : ∃ t, s = 47 :: t ∧ (∀ b ∈ t, b = 47 ∨ okB b = true) ∧ s.length ≤ 255 := by
 unfold splitE at h
 split at h
 ·
  cases h
 ·
  rename_i hl
  cases s with
  | nil => cases h
  | cons b t =>
   simp only at h
   split at h
   ·
    cases h
   ·
    rename_i hb
    have hb : b = 47 := Decidable.not_not.1 hb
    subst hb
    split at h
    ·
     rename_i ht
     subst ht
     exact ⟨[], rfl, (fun _ h => by cases h), Z3⟩
    ·
     exact ⟨t, rfl, fun b hb => cutW_clean t [] h b hb, Z3⟩
theorem may_split {n : S38} (h : mayN n = true) : splitE (pth n) = 0 := by
 unfold mayN at h
 split at h
 ·
  rename_i h1
  exact h1
 ·
  cases h
theorem may_clean {n : S38} (h : mayN n = true) : Clean (pth n) := by
 obtain ⟨t, e, ht, _⟩ := splitE_form (may_split h)
 intro b hb
 rw [e] at hb
 rcases List.mem_cons.1 hb with rfl | hb
 ·
  decide
 ·
  rcases ht b hb with rfl | hb
  ·
   decide
  ·
   exact okB_ne hb
theorem may_size {n : S38} (h : mayN n = true) : n.f0.size ≤ 255 := by
 obtain ⟨t, e, ht, hl⟩ := splitE_form (may_split h)
 rw [← pb_len]
 exact hl
theorem root_lt {n : S38} (h : mayN n = true) (hr : pth n ≠ [47]) : key [47] < key (pth n) := by
 obtain ⟨t, e, ht, hl⟩ := splitE_form (may_split h)
 rw [e] at hr ⊢
 cases t with
 | nil => exact absurd rfl hr
 | cons b t =>
  rw [key_cons_lt]
  exact .inr ⟨rfl, by simp [key]⟩
theorem key_take_lt : ∀ (l : List UInt8) (i : Nat), i < l.length → key (l.take i) < key l
 | [], i, h => by simp at h
 | b :: l, 0, _ => by simp [key]
 | b :: l, i + 1, h => by
  rw [List.take_succ_cons, key_cons_lt]
  exact .inr ⟨rfl, key_take_lt l i (by simpa using h)⟩
theorem abvN_form : ∀ (i : Nat) (l : List UInt8), abvN l i = [47] ∨ ∃ j, 0 < j ∧ j ≤ i ∧ abvN l i = l.take j
 | 0, l => .inl rfl
 | i + 1, l => by
  unfold abvN
  split
  ·
   exact .inr ⟨i + 1, Z3, Z3, rfl⟩
  ·
   rcases abvN_form i l with e | ⟨j, h0, h1, e⟩
   ·
    exact .inl e
   ·
    exact .inr ⟨j, h0, Z3, e⟩
theorem abv_lt {n : S38} (h : mayN n = true) (hr : pth n ≠ [47]) : key (abv (pth n)) < key (pth n) := by
 unfold abv
 rcases abvN_form ((pth n).length - 1) (pth n) with e | ⟨j, h0, h1, e⟩
 ·
  rw [e]
  exact root_lt h hr
 ·
  rw [e]
  exact key_take_lt _ _ Z3
def SS (s : List S38) : Prop := s.Pairwise (fun a b => key (pth a) < key (pth b))
theorem ins_perm (n : S38) : ∀ l, (ins n l).Perm (n :: l)
 | [] => List.Perm.refl _
 | m :: r => by
  unfold ins
  split
  ·
   exact List.Perm.refl _
  ·
   exact (List.Perm.cons m (ins_perm n r)).trans (List.Perm.swap n m r)
theorem ins_ss (n : S38) (hn : Clean (pth n)) : ∀ l, SS l → (∀ m ∈ l, Clean (pth m)) → (∀ m ∈ l, pth m ≠ pth n) → SS (ins n l)
 | [], _, _, _ => by simp [ins, SS]
 | m :: r, hs, hc, hd => by
  have hs0 := hs
  unfold SS at hs
  rw [List.pairwise_cons] at hs
  unfold ins
  split
  ·
   rename_i hL
   have hlt := (lessL_lt hn (hc m (List.mem_cons_self ..))).1 hL
   refine List.pairwise_cons.2 ⟨fun x hx => ?_, hs0⟩
   rcases List.mem_cons.1 hx with rfl | hx
   ·
    exact hlt
   ·
    exact key_trans hlt (hs.1 x hx)
  ·
   rename_i hL
   have hge : key (pth m) < key (pth n) := by
    rcases key_tri (key (pth n)) (key (pth m)) with e | e | e
    ·
     exact absurd ((lessL_lt hn (hc m (List.mem_cons_self ..))).2 e) hL
    ·
     exact absurd (key_inj hn (hc m (List.mem_cons_self ..)) e).symm (hd m (List.mem_cons_self ..))
    ·
     exact e
   refine List.pairwise_cons.2 ⟨fun x hx => ?_, ins_ss n hn r hs.2 (fun x hx => hc x (List.mem_cons_of_mem _ hx)) (fun x hx => hd x (List.mem_cons_of_mem _ hx))⟩
   rcases ins_mem.1 hx with rfl | hx
   ·
    exact hge
   ·
    exact hs.1 x hx
theorem ss_uniq : ∀ (a b : List S38), SS a → SS b → (∀ x, x ∈ a ↔ x ∈ b) → a = b
 | [], [], _, _, _ => rfl
 | [], y :: b, _, _, h => absurd ((h y).2 (List.mem_cons_self ..)) Z23
 | x :: a, [], _, _, h => absurd ((h x).1 (List.mem_cons_self ..)) Z23
 | x :: a, y :: b, ha, hb, h => by
  have ha1 := List.pairwise_cons.1 ha
  have hb1 := List.pairwise_cons.1 hb
  have hxy : x = y := by
   rcases List.mem_cons.1 ((h x).1 (List.mem_cons_self ..)) with e | e
   ·
    exact e
   ·
    rcases List.mem_cons.1 ((h y).2 (List.mem_cons_self ..)) with e2 | e2
    ·
     exact e2.symm
    ·
     exact absurd (key_trans (hb1.1 x e) (ha1.1 y e2)) (key_irrefl _)
  subst hxy
  congr 1
  refine ss_uniq a b ha1.2 hb1.2 (fun z => ?_)
  constructor
  ·
   intro hz
   rcases List.mem_cons.1 ((h z).1 (List.mem_cons_of_mem _ hz)) with e | e
   ·
    subst e
    exact absurd (ha1.1 z hz) (key_irrefl _)
   ·
    exact e
  ·
   intro hz
   rcases List.mem_cons.1 ((h z).2 (List.mem_cons_of_mem _ hz)) with e | e
   ·
    subst e
    exact absurd (hb1.1 z hz) (key_irrefl _)
   ·
    exact e
theorem ss_nodup {s : List S38} (h : SS s) : (s.map pth).Nodup := by
 unfold List.Nodup
 rw [List.pairwise_map]
 refine List.Pairwise.imp (fun {a b} hab => ?_) h
 intro e
 rw [e] at hab
 exact key_irrefl _ hab
def sortT (l : List S38) : List S38 := l.foldl (fun out n => ins n out) []
theorem fold_perm : ∀ (l out : List S38), (l.foldl (fun out n => ins n out) out).Perm (l ++ out)
 | [], out => List.Perm.refl _
 | n :: r, out => by
  refine (fold_perm r (ins n out)).trans ?_
  refine (List.Perm.append_left r (ins_perm n out)).trans ?_
  exact List.perm_middle
theorem sortT_perm (l : List S38) : (sortT l).Perm l := by
 have := fold_perm l []
 rwa [List.append_nil] at this
theorem fold_ss : ∀ (l out : List S38), SS out → (∀ n ∈ l ++ out, Clean (pth n)) → ((l ++ out).map pth).Nodup → SS (l.foldl (fun out n => ins n out) out)
 | [], out, h, _, _ => h
 | n :: r, out, h, hc, hd => by
  have hd1 : pth n ∉ (r ++ out).map pth ∧ ((r ++ out).map pth).Nodup := by
   simpa using hd
  refine fold_ss r (ins n out) (ins_ss n (hc n Z23) out h (fun m hm => hc m (by simp [hm])) (fun m hm e => hd1.1 (List.mem_map.2 ⟨m, by simp [hm], e⟩))) (fun m hm => ?_) ?_
  ·
   rcases List.mem_append.1 hm with hm | hm
   ·
    exact hc m (by simp [hm])
   ·
    rcases ins_mem.1 hm with rfl | hm
    ·
     exact hc _ Z23
    ·
     exact hc m (by simp [hm])
  ·
   have p : (r ++ ins n out).Perm ((n :: r) ++ out) := (List.Perm.append_left r (ins_perm n out)).trans List.perm_middle
   exact (p.map pth).nodup_iff.2 hd
theorem sortT_ss {l : List S38} (hc : ∀ n ∈ l, Clean (pth n)) (hd : (l.map pth).Nodup) : SS (sortT l) :=
 fold_ss l [] List.Pairwise.nil (by simpa using hc) (by simpa using hd)
def fstI (a : Int) : Nat → List S38 → Int
 | _, [] => -1
 | j, m :: r => if ino m = a then (j : Int) else fstI a (j + 1) r
def cnt (a : Int) : List S38 → Int
 | [] => 0
 | m :: r => if ino m = a then cnt a r + 1 else cnt a r
def statOf (s : List S38) (n : S38) : S36 := ⟨fstI (ino n) 0 s + 1, 0, knd n, cnt (ino n) s, ((dat n).length : Int)⟩
def canon (s : List S38) : List S38 := s.map fun n => ⟨n.f0, statOf s n, n.f2⟩
open Classical in
noncomputable def normT (l : List S38) : List S38 × Int := if Tree l then (canon (sortT l), 0) else bad
theorem ph1_some : ∀ (l out : List S38), (∀ n ∈ l, mayN n = true) → ((l ++ out).map pth).Nodup → ph1 l out = some (l.foldl (fun out n => ins n out) out)
 | [], out, _, _ => rfl
 | n :: r, out, hm, hd => by
  have hd1 : pth n ∉ (r ++ out).map pth ∧ ((r ++ out).map pth).Nodup := by simpa using hd
  rw [ph1, if_pos ⟨hm n (List.mem_cons_self ..), by
   rintro ⟨m, hmo, e⟩
   exact hd1.1 (List.mem_map.2 ⟨m, by simp [hmo], e⟩)⟩]
  refine ph1_some r (ins n out) (fun m h => hm m (List.mem_cons_of_mem _ h)) ?_
  have p : (r ++ ins n out).Perm ((n :: r) ++ out) := (List.Perm.append_left r (ins_perm n out)).trans List.perm_middle
  exact (p.map pth).nodup_iff.2 hd
theorem ph1_only : ∀ (l out s : List S38), ph1 l out = some s → (∀ n ∈ l, mayN n = true) ∧ ((out.map pth).Nodup → ((l ++ out).map pth).Nodup)
 | [], out, s, h => ⟨(fun _ h => by cases h), fun h => h⟩
 | n :: r, out, s, h => by
  unfold ph1 at h
  split at h
  ·
   rename_i hc
   obtain ⟨h1, h2⟩ := ph1_only r (ins n out) s h
   refine ⟨fun m hm => ?_, fun ho => ?_⟩
   ·
    rcases List.mem_cons.1 hm with rfl | hm
    ·
     exact hc.1
    ·
     exact h1 m hm
   ·
    have p : (r ++ ins n out).Perm ((n :: r) ++ out) := (List.Perm.append_left r (ins_perm n out)).trans List.perm_middle
    refine (p.map pth).nodup_iff.1 (h2 ?_)
    refine ((ins_perm n out).map pth).nodup_iff.2 ?_
    rw [List.map_cons, List.nodup_cons]
    refine ⟨fun hx => ?_, ho⟩
    obtain ⟨m, hm, e⟩ := List.mem_map.1 hx
    exact hc.2 ⟨m, hm, e⟩
  ·
   cases h
def okP (n : S38) (i j : Nat) (m : S38) : Prop := ino m = ino n → j = i ∨ (knd m = 1 ∧ knd n = 1 ∧ dat m = dat n)
theorem pairs_some (s : List S38) (n : S38) (i : Nat) : ∀ (l : List S38) (j : Nat) (f c : Int), -1 ≤ f → (∀ k (h : k < l.length), okP n i (j + k) l[k]) →
  pairs s n i j f c l = some (if f < 0 then fstI (ino n) j l else f, c + cnt (ino n) l)
 | [], j, f, c, hf, h => by
  simp only [pairs, fstI, cnt, Int.add_zero]
  split
  ·
   rw [show f = -1 by omega]
  ·
   rfl
 | m :: r, j, f, c, hf, h => by
  have h0 : okP n i j m := h 0 Z23
  have hr : ∀ k (hk : k < r.length), okP n i (j + 1 + k) r[k] := fun k hk => by
   have := h (k + 1) (by simpa using hk)
   rw [show j + 1 + k = j + (k + 1) by omega]
   simpa using this
  unfold pairs fstI cnt
  by_cases hn : ino m = ino n
  ·
   rw [if_pos hn, if_pos (h0 hn), pairs_some s n i r (j + 1) _ _ (by split <;> omega) hr]
   simp only [if_pos hn]
   congr 1
   refine Prod.ext ?_ ?_
   ·
    by_cases hf0 : f < 0
    ·
     simp only [if_pos hf0]
     rw [if_neg Z3]
    ·
     simp only [if_neg hf0]
   ·
    simp only []
    omega
  ·
   rw [if_neg hn, pairs_some s n i r (j + 1) f c hf hr]
   simp only [if_neg hn]
theorem pairs_only (s : List S38) (n : S38) (i : Nat) : ∀ (l : List S38) (j : Nat) (f c : Int) (p : Int × Int), pairs s n i j f c l = some p → ∀ k (h : k < l.length), okP n i (j + k) l[k]
 | [], j, f, c, p, h, k, hk => by simp at hk
 | m :: r, j, f, c, p, h, k, hk => by
  unfold pairs at h
  by_cases hn : ino m = ino n
  ·
   rw [if_pos hn] at h
   split at h
   ·
    rename_i h1
    cases k with
    | zero => exact fun _ => h1
    | succ k =>
     have := pairs_only s n i r _ _ _ p h k (by simpa using hk)
     rw [show j + (k + 1) = j + 1 + k by omega]
     simpa using this
   ·
    cases h
  ·
   rw [if_neg hn] at h
   cases k with
   | zero => exact fun e => absurd e hn
   | succ k =>
    have := pairs_only s n i r _ _ _ p h k (by simpa using hk)
    rw [show j + (k + 1) = j + 1 + k by omega]
    simpa using this
def okI (s : List S38) (i : Nat) (n : S38) : Prop := (i = 0 ∨ dirAt s (abv (pth n))) ∧ ∀ j (h : j < s.length), okP n i j s[j]
theorem ph2_some (s : List S38) : ∀ (l : List S38) (pre z : List S36), z.length = l.length → (∀ k (h : k < l.length), okI s (pre.length + k) l[k]) → ph2 s pre.length (pre ++ z) l = some (pre ++ l.map (statOf s))
 | [], pre, z, hz, h => by
  obtain rfl : z = [] := List.eq_nil_of_length_eq_zero (by simpa using hz)
  rfl
 | n :: r, pre, [], hz, h => by simp at hz
 | n :: r, pre, y :: z, hz, h => by
  have h0 := h 0 Z23
  simp only [List.getElem_cons_zero, Nat.add_zero] at h0
  unfold ph2
  rw [if_pos h0.1, pairs_some s n pre.length s 0 (-1) 0 Z3 (fun k hk => by rw [Nat.zero_add]; exact h0.2 k hk)]
  simp only [if_pos (show (-1 : Int) < 0 by decide), Int.zero_add]
  have e : (pre ++ y :: z).set pre.length ⟨fstI (ino n) 0 s + 1, 0, knd n, cnt (ino n) s, ((dat n).length : Int)⟩ = (pre ++ [statOf s n]) ++ z := by
   rw [List.set_append_right _ _ (Nat.le_refl _)]
   simp [statOf]
  rw [e]
  have := ph2_some s r (pre ++ [statOf s n]) z (by simpa using hz) (fun k hk => by
   have := h (k + 1) (by simpa using hk)
   simp only [List.length_append, List.length_cons, List.length_nil, Nat.zero_add]
   rw [show pre.length + 1 + k = pre.length + (k + 1) by omega]
   simpa using this)
  simpa using this
theorem ph2_only (s : List S38) : ∀ (l : List S38) (i : Nat) (st st' : List S36), ph2 s i st l = some st' → ∀ k (h : k < l.length), okI s (i + k) l[k]
 | [], i, st, st', h, k, hk => by simp at hk
 | n :: r, i, st, st', h, k, hk => by
  unfold ph2 at h
  split at h
  ·
   rename_i h1
   split at h
   ·
    rename_i f c hp
    cases k with
    | zero =>
     refine ⟨h1, fun j hj => ?_⟩
     have := pairs_only s n i s 0 _ _ _ hp j hj
     rwa [Nat.zero_add] at this
    | succ k =>
     have := ph2_only s r (i + 1) _ st' h k (by simpa using hk)
     rw [show i + (k + 1) = i + 1 + k by omega]
     simpa using this
   ·
    cases h
  ·
   cases h
theorem ph3_map (s0 : List S38) : ∀ (l : List S38) (i : Nat) (st : List S36), (∀ k (h : k < l.length), rd_T36 st ((i + k : Nat) : Int) = statOf s0 l[k]) → ph3 st i l = l.map fun n => ⟨n.f0, statOf s0 n, n.f2⟩
 | [], i, st, h => rfl
 | n :: r, i, st, h => by
  rw [ph3, List.map_cons, ph3_map s0 r (i + 1) st (fun k hk => by
   have := h (k + 1) (by simpa using hk)
   rw [show i + 1 + k = i + (k + 1) by omega]
   simpa using this)]
  have := h 0 Z23
  simp only [Nat.add_zero, List.getElem_cons_zero] at this
  rw [this]
theorem findI_at (p : List UInt8) : ∀ (l : List S38) (i : Nat), 0 ≤ findI p i l → ∃ k, ∃ h : k < l.length, findI p i l = ((i + k : Nat) : Int) ∧ pth l[k] = p
 | [], i, h => by simp [findI] at h
 | n :: r, i, h => by
  unfold findI at h ⊢
  by_cases hp : pth n = p
  ·
   rw [if_pos hp]
   exact ⟨0, Z23, Z23, hp⟩
  ·
   rw [if_neg hp] at h ⊢
   obtain ⟨k, hk, e, e2⟩ := findI_at p r (i + 1) h
   exact ⟨k + 1, by simpa using hk, by rw [e]; congr 1; omega, by simpa using e2⟩
theorem nodup_at {s : List S38} (hd : (s.map pth).Nodup) {i j : Nat} (hi : i < s.length) (hj : j < s.length) (e : pth s[i] = pth s[j]) : i = j := by
 have := (List.getElem_inj (xs := s.map pth) (i := i) (j := j) (h₀ := by simpa using hi) (h₁ := by simpa using hj) hd).1 (by simpa using e)
 exact this
theorem dirAt_iff {s : List S38} (hd : (s.map pth).Nodup) (p : List UInt8) : dirAt s p ↔ ∃ d ∈ s, pth d = p ∧ knd d = 2 := by
 constructor
 ·
  rintro ⟨h0, h2⟩
  obtain ⟨k, hk, e, e2⟩ := findI_at p s 0 h0
  rw [Nat.zero_add] at e
  rw [e, rd_at hk] at h2
  exact ⟨_, List.getElem_mem hk, e2, h2⟩
 ·
  rintro ⟨d, hm, e, h2⟩
  have h0 : 0 ≤ findI p 0 s := (findI_ge p s 0).2 ⟨d, hm, e⟩
  refine ⟨h0, ?_⟩
  obtain ⟨k, hk, e1, e2⟩ := findI_at p s 0 h0
  rw [Nat.zero_add] at e1
  rw [e1, rd_at hk]
  obtain ⟨i, hi, rfl⟩ := List.mem_iff_getElem.1 hm
  obtain rfl := nodup_at hd hk hi (by rw [e2, e])
  exact h2
theorem head_root {s : List S38} (hs : SS s) (hm : ∀ n ∈ s, mayN n = true) {r : S38} (hr : r ∈ s) (hp : pth r = [47]) : ∃ t, s = r :: t := by
 cases s with
 | nil => cases hr
 | cons a t =>
  rcases List.mem_cons.1 hr with rfl | hr
  ·
   exact ⟨t, rfl⟩
  ·
   have h1 := (List.pairwise_cons.1 hs).1 r hr
   rw [hp] at h1
   by_cases ha : pth a = [47]
   ·
    rw [ha] at h1
    exact absurd h1 (key_irrefl _)
   ·
    exact absurd (key_trans h1 (root_lt (hm a (List.mem_cons_self ..)) ha)) (key_irrefl _)
theorem tree_ok {s : List S38} (hs : SS s) : Tree s ↔ (∀ n ∈ s, mayN n = true) ∧ rootOk s = true ∧ ∀ k (h : k < s.length), okI s k s[k] := by
 have hd := ss_nodup hs
 constructor
 ·
  intro T
  obtain ⟨r, hr, hp, h2⟩ := T.root
  obtain ⟨t, rfl⟩ := head_root hs T.may hr hp
  refine ⟨T.may, by simp [rootOk, hp, h2], fun k hk => ⟨?_, fun j hj => ?_⟩⟩
  ·
   by_cases h0 : k = 0
   ·
    exact .inl h0
   ·
    refine .inr ((dirAt_iff hd _).2 (T.up _ (List.getElem_mem hk) (fun e => h0 ?_)))
    exact nodup_at hd hk Z23 (by rw [e]; exact hp.symm)
  ·
   intro e
   rcases T.twins _ (List.getElem_mem hj) _ (List.getElem_mem hk) e with e1 | e1
   ·
    exact .inl (nodup_at hd hj hk e1)
   ·
    exact .inr e1
 ·
  rintro ⟨hm, hr, hk⟩
  cases s with
  | nil => simp [rootOk] at hr
  | cons a t =>
   simp only [rootOk, Bool.and_eq_true, decide_eq_true_eq] at hr
   refine ⟨hm, hd, ⟨a, List.mem_cons_self .., hr⟩, fun n hn hp => ?_, fun n hn m hmm e => ?_⟩
   ·
    obtain ⟨i, hi, rfl⟩ := List.mem_iff_getElem.1 hn
    rcases (hk i hi).1 with rfl | h1
    ·
     exact absurd hr.1 hp
    ·
     exact (dirAt_iff hd _).1 h1
   ·
    obtain ⟨i, hi, rfl⟩ := List.mem_iff_getElem.1 hn
    obtain ⟨j, hj, rfl⟩ := List.mem_iff_getElem.1 hmm
    rcases (hk j hj).2 i hi e with rfl | h1
    ·
     exact .inl rfl
    ·
     exact .inr h1
theorem canon_len (s : List S38) : (canon s).length = s.length := by simp [canon]
theorem normR_T (l : List S38) : normR l = normT l := by
 classical
 unfold normR normT
 by_cases hb : (∀ n ∈ l, mayN n = true) ∧ (l.map pth).Nodup
 ·
  have h1 := ph1_some l [] hb.1 (by simpa using hb.2)
  have e : l.foldl (fun out n => ins n out) [] = sortT l := rfl
  rw [h1, e]
  have hs : SS (sortT l) := sortT_ss (fun n hn => may_clean (hb.1 n hn)) hb.2
  have hp := sortT_perm l
  have hT : Tree l ↔ Tree (sortT l) := ⟨fun h => h.perm hp.symm, fun h => h.perm hp⟩
  have hm : ∀ n ∈ sortT l, mayN n = true := fun n hn => hb.1 n (hp.mem_iff.1 hn)
  generalize sortT l = s at hs hT hm
  simp only
  by_cases T : Tree l
  ·
   rw [if_pos T]
   obtain ⟨_, hr, hk⟩ := (tree_ok hs).1 (hT.1 T)
   rw [if_pos hr]
   have := ph2_some s s [] (List.replicate s.length z36) Z23 (fun k hk' => by simpa using hk k hk')
   simp only [List.length_nil, List.nil_append] at this
   rw [this]
   simp only
   congr 1
   refine ph3_map s s 0 _ (fun k hk' => ?_)
   rw [Nat.zero_add]
   simp [rd_T36, List.getD_eq_getElem?_getD, hk']
  ·
   rw [if_neg T]
   by_cases hr : rootOk s = true
   ·
    rw [if_pos hr]
    cases h2 : ph2 s 0 (List.replicate s.length z36) s with
    | none => rfl
    | some st =>
     have h3 := ph2_only s s 0 _ st h2
     exact absurd (hT.2 ((tree_ok hs).2 ⟨hm, hr, fun k hk => by have := h3 k hk; rwa [Nat.zero_add] at this⟩)) T
   ·
    rw [if_neg hr]
 ·
  rw [if_neg (fun T => hb ⟨T.may, T.nodup⟩)]
  cases h1 : ph1 l [] with
  | none => rfl
  | some s =>
   obtain ⟨h2, h3⟩ := ph1_only l [] s h1
   exact absurd ⟨h2, by simpa using h3 Z23⟩ hb
def lastI (l : List UInt8) : Nat → Int
 | 0 => if l.getD 0 0 = 47 then 0 else -1
 | i + 1 => if l.getD (i + 1) 0 = 47 then ((i + 1 : Nat) : Int) else lastI l i
theorem lastI_abv (l : List UInt8) : ∀ i, abvN l i = (if lastI l i ≤ 0 then [47] else l.take (lastI l i).toNat) ∧ -1 ≤ lastI l i ∧ lastI l i ≤ i
 | 0 => by
  unfold lastI abvN
  split <;> simp
 | i + 1 => by
  obtain ⟨h1, h2, h3⟩ := lastI_abv l i
  unfold lastI abvN
  by_cases h : l.getD (i + 1) 0 = 47
  ·
   rw [if_pos h, if_pos h, if_neg Z3, Int.toNat_natCast]
   exact ⟨rfl, Z3, Z3⟩
  ·
   rw [if_neg h, if_neg h]
   exact ⟨h1, h2, Z3⟩
theorem lastI_root {l : List UInt8} (h : l.getD 0 0 = 47) : ∀ i, 0 ≤ lastI l i
 | 0 => by unfold lastI; rw [if_pos h]; omega
 | i + 1 => by
  unfold lastI
  split
  ·
   omega
  ·
   exact lastI_root h i
theorem b47 (b : UInt8) : ((b.toNat : Int) = 47) ↔ b = 47 := by
 constructor
 ·
  intro e; exact UInt8.toNat_inj.1 Z47
 ·
  intro e; rw [e]; rfl
theorem last_l0 (s : ByteArray) (hs : s.size < 4294967296) : ∀ (i : Nat), i < s.size → Evs (fun k => bytealg_LastIndexByteString.l0 k s 47 (i : Int)) (lastI (pb s) i) := by
 intro i
 induction i with
 | zero =>
  intro h0
  refine evs_step (fun k => by rw [bytealg_LastIndexByteString.l0, if_pos Z3, if_pos Z3, if_pos Z3, bt_pb h0]) ?_
  unfold lastI
  by_cases h : (pb s).getD 0 0 = 47
  ·
   refine evs_val (if_pos h) ?_
   exact evs_pos ((b47 _).2 h) (evs_const _)
  ·
   refine evs_val (if_neg h) ?_
   refine evs_neg (fun e => h ((b47 _).1 e)) ?_
   exact evs_step (fun k => by rw [bytealg_LastIndexByteString.l0, if_neg (by rw [w64 Z3 Z3]; omega)]) (evs_const _)
 | succ i ih =>
  intro h1
  refine evs_step (fun k => by rw [bytealg_LastIndexByteString.l0, if_pos Z3, if_pos Z3, if_pos Z3, bt_pb h1, show wrap64 (((i + 1 : Nat) : Int) - 1) = (i : Int) from by rw [w64 Z3 Z3]; omega]) ?_
  unfold lastI
  by_cases h : (pb s).getD (i + 1) 0 = 47
  ·
   refine evs_val (if_pos h) ?_
   exact evs_pos ((b47 _).2 h) (evs_const _)
  ·
   refine evs_val (if_neg h) ?_
   exact evs_neg (fun e => h ((b47 _).1 e)) (ih Z3)
theorem last_ev (s : ByteArray) (hs : s.size < 4294967296) (h0 : 0 < s.size) : Evs (fun k => strings_LastIndexByte.f k s 47) (lastI (pb s) (s.size - 1)) := by
 simp only [strings_LastIndexByte.f, bytealg_LastIndexByteString.f]
 rw [show wrap64 ((s.size : Int) - 1) = ((s.size - 1 : Nat) : Int) from by rw [w64 Z3 Z3]; omega]
 exact evs_bind (last_l0 s hs (s.size - 1) Z3) (evs_const _)
theorem aabove_ev (s : ByteArray) (hs : s.size < 4294967296) {t : List UInt8} (h : pb s = 47 :: t) : EvP (fun k => archive_above.f k s) (fun r => pb r = abv (pb s)) := by
 have hsz : 0 < s.size := by rw [← pb_len, h]; simp
 have hr := lastI_root (l := pb s) (by rw [h]; rfl) (s.size - 1)
 obtain ⟨h1, h2, h3⟩ := lastI_abv (pb s) (s.size - 1)
 simp only [archive_above.f]
 refine evp_bind (last_ev s hs hsz) ?_
 unfold abv
 rw [pb_len]
 rw [h1]
 by_cases hz : lastI (pb s) (s.size - 1) = 0
 ·
  refine evp_pos hz (evp_const ?_)
  rw [if_pos Z3]
  rfl
 ·
  refine evp_neg hz (evp_pos hr (evp_pos Z3 (evp_const ?_)))
  rw [if_neg Z3, pb_ext, List.extract_eq_take_drop]
  simp
def IR (l : List S38) : Prop := ∀ n ∈ l, ∃ k : Nat, k < l.length ∧ ino n = (k : Int) + 1
theorem fst_lt {s : List S38} {n : S38} (h : n ∈ s) : ∃ k : Nat, k < s.length ∧ fstI (ino n) 0 s = (k : Int) := by
 suffices H : ∀ (l : List S38) (j : Nat), n ∈ l → ∃ k : Nat, k < l.length ∧ fstI (ino n) j l = ((j + k : Nat) : Int) by
  obtain ⟨k, h1, h2⟩ := H s 0 h
  exact ⟨k, h1, by rw [h2, Nat.zero_add]⟩
 intro l
 induction l with
 | nil => intro j h; cases h
 | cons m r ih =>
  intro j h
  unfold fstI
  by_cases e : ino m = ino n
  ·
   rw [if_pos e]
   exact ⟨0, Z23, rfl⟩
  ·
   rw [if_neg e]
   rcases List.mem_cons.1 h with rfl | h
   ·
    exact absurd rfl e
   ·
    obtain ⟨k, h1, h2⟩ := ih (j + 1) h
    exact ⟨k + 1, by simpa using h1, by rw [h2]; congr 1; omega⟩
theorem IR.at {l : List S38} (h : IR l) {k : Nat} (hk : k < l.length) : ∃ j : Nat, j < l.length ∧ ino (rd_T38 l (k : Int)) = (j : Int) + 1 := by
 refine h _ ?_
 rw [show rd_T38 l (k : Int) = l[k] from rd_at hk]
 exact List.getElem_mem hk
def neN (x y : S38) : Bool := (!(x.f0.toList == y.f0.toList) || ((!(x.f1.f0 == y.f1.f0) || (!(x.f1.f1 == y.f1.f1) || (!(x.f1.f2 == y.f1.f2) || (!(x.f1.f3 == y.f1.f3) || (!(x.f1.f4 == y.f1.f4)))))) || (!(x.f2.toList == y.f2.toList))))
theorem neN_false (x y : S38) : neN x y = false ↔ x = y := by
 obtain ⟨p, ⟨i, g, k, l, s⟩, d⟩ := x
 obtain ⟨p', ⟨i', g', k', l', s'⟩, d'⟩ := y
 constructor
 ·
  intro h
  simp only [neN, Bool.or_eq_false_iff, Bool.not_eq_false', beq_iff_eq, toL] at h
  obtain ⟨h1, ⟨h2, h3, h4, h5, h6⟩, h7⟩ := h
  rw [pb_inj h1, pb_inj h7, h2, h3, h4, h5, h6]
 ·
  intro h
  injection h with h1 h2 h3
  injection h2 with h4 h5 h6 h7 h8
  subst h1 h3 h4 h5 h6 h7 h8
  simp [neN]
theorem rd_ext {a b : List S38} (hl : a.length = b.length) (h : ∀ j : Nat, j < a.length → rd_T38 a (j : Int) = rd_T38 b (j : Int)) : a = b := by
 refine List.ext_getElem hl (fun j h1 h2 => ?_)
 have := h j h1
 rwa [show rd_T38 a (j : Int) = a[j] from rd_at h1, show rd_T38 b (j : Int) = b[j] from rd_at h2] at this
theorem equal_l0 (a b : List S38) (hl : a.length = b.length) (hb : a.length < 2147483648) (r : Bool) (hr : r = true ↔ a = b) : ∀ (n i : Nat), i + n = a.length → (∀ j : Nat, j < i → rd_T38 a (j : Int) = rd_T38 b (j : Int)) →
  Evs (fun k => api_Node_40.l0 k a b (a.length : Int) (i : Int)) r := by
 intro n
 induction n with
 | zero =>
  intro i hi he
  rw [hr.2 (rd_ext hl (fun j hj => he j Z3))]
  exact evs_step (g := fun _ => some true) (fun k => by rw [api_Node_40.l0, if_neg Z3]) (evs_const _)
 | succ n ih =>
  intro i hi he
  have e0 : ∀ k, api_Node_40.l0 (k + 1) a b (a.length : Int) (i : Int) = if neN (rd_T38 a (i : Int)) (rd_T38 b (i : Int)) = true then some false else api_Node_40.l0 k a b (a.length : Int) ((i + 1 : Nat) : Int) := fun k => by
   rw [api_Node_40.l0, if_pos Z3, if_pos Z3, if_pos Z3, if_pos Z3, show wrap64 ((i : Int) + 1) = ((i + 1 : Nat) : Int) from by rw [w64 Z3 Z3]; rfl]
   rfl
  refine evs_step e0 ?_
  by_cases h : neN (rd_T38 a (i : Int)) (rd_T38 b (i : Int)) = true
  ·
   refine evs_pos h ?_
   have : r = false := by
    cases r with
    | false => rfl
    | true =>
     have e := hr.1 rfl
     rw [e, (neN_false _ _).2 rfl] at h
     cases h
   rw [this]
   exact evs_const _
  ·
   refine evs_neg h (ih (i + 1) Z3 (fun j hj => ?_))
   by_cases hji : j = i
   ·
    rw [hji]
    exact (neN_false _ _).1 (by simpa using h)
   ·
    exact he j Z3
theorem equal_ev (a b : List S38) (hb : a.length < 2147483648) (r : Bool) (hr : r = true ↔ a = b) : Evs (fun k => api_Node_40.f k a b) r := by
 simp only [api_Node_40.f]
 by_cases h : (a.length : Int) = (b.length : Int)
 ·
  exact evs_pos h (equal_l0 a b Z3 hb r hr a.length 0 Z3 (fun j hj => absurd hj Z3))
 ·
  have : r = false := by
   cases r with
   | false => rfl
   | true => exact absurd (congrArg (fun l => (l.length : Int)) (hr.1 rfl)) h
  rw [this]
  exact evs_neg h (evs_const _)
theorem normT_len (l : List S38) : (normT l).1.length ≤ l.length := by
 unfold normT
 split
 ·
  rw [canon_len, (sortT_perm l).length_eq]
  exact Nat.le_refl _
 ·
  exact Nat.zero_le _
theorem normT_err (l : List S38) : (normT l).2 = 0 ∨ normT l = bad := by
 unfold normT
 split
 ·
  exact .inl rfl
 ·
  exact .inr rfl
theorem fst_at (x : Int) : ∀ (s : List S38) (j i : Nat) (hi : i < s.length), ino s[i] = x → ∃ k, k ≤ i ∧ fstI x j s = ((j + k : Nat) : Int) ∧ ∃ hk : k < s.length, ino s[k] = x
 | [], j, i, hi, _ => by simp at hi
 | n :: r, j, i, hi, h => by
  unfold fstI
  by_cases e : ino n = x
  ·
   rw [if_pos e]
   exact ⟨0, Nat.zero_le _, rfl, Z23, e⟩
  ·
   rw [if_neg e]
   cases i with
   | zero => exact absurd h e
   | succ i =>
    obtain ⟨k, h1, h2, h3, h4⟩ := fst_at x r (j + 1) i (by simpa using hi) (by simpa using h)
    exact ⟨k + 1, Z3, by rw [h2]; congr 1; omega, by simpa using h3, by simpa using h4⟩
theorem fst_inj {s : List S38} {n m : S38} (hn : n ∈ s) (hm : m ∈ s) (h : fstI (ino n) 0 s + 1 = fstI (ino m) 0 s + 1) : ino n = ino m := by
 obtain ⟨i, hi, rfl⟩ := List.mem_iff_getElem.1 hn
 obtain ⟨j, hj, rfl⟩ := List.mem_iff_getElem.1 hm
 obtain ⟨k, _, e1, hk, e2⟩ := fst_at _ s 0 i hi rfl
 obtain ⟨k', _, e3, hk', e4⟩ := fst_at _ s 0 j hj rfl
 rw [e1, e3] at h
 have : k = k' := by omega
 subst this
 exact e2.symm.trans e4
theorem fst_alike (x y : Int) : ∀ (s a : List S38) (j : Nat), s.length = a.length → (∀ (i : Nat) (h1 : i < s.length) (h2 : i < a.length), ino s[i] = x ↔ ino a[i] = y) → fstI x j s = fstI y j a ∧ cnt x s = cnt y a
 | [], [], j, _, _ => ⟨rfl, rfl⟩
 | [], m :: r, j, h, _ => by simp at h
 | n :: r, [], j, h, _ => by simp at h
 | n :: s, m :: a, j, h, hi => by
  obtain ⟨h1, h2⟩ := fst_alike x y s a (j + 1) (by simpa using h) (fun i q1 q2 => by
   have := hi (i + 1) (by simpa using q1) (by simpa using q2)
   simpa using this)
  have h0 : ino n = x ↔ ino m = y := by
   have := hi 0 Z23 Z23
   simpa using this
  unfold fstI cnt
  by_cases e : ino n = x
  ·
   rw [if_pos e, if_pos (h0.1 e), if_pos e, if_pos (h0.1 e), h2]
   exact ⟨rfl, rfl⟩
  ·
   rw [if_neg e, if_neg (fun q => e (h0.2 q)), if_neg e, if_neg (fun q => e (h0.2 q)), h1, h2]
   exact ⟨rfl, rfl⟩
def cno (s : List S38) (n : S38) : S38 := ⟨n.f0, statOf s n, n.f2⟩
theorem canon_eq (s : List S38) : canon s = s.map (cno s) := rfl
theorem cno_may (s : List S38) (n : S38) : mayN (cno s n) = mayN n := rfl
theorem canon_canon (s : List S38) : canon (canon s) = canon s := by
 rw [canon_eq (canon s), canon_eq s, List.map_map]
 refine List.map_congr_left fun n hn => ?_
 have h := fst_alike (ino (cno s n)) (ino n) (canon s) s 0 (canon_len s) (fun i h1 h2 => by
  rw [show (canon s)[i] = cno s s[i] from by simp only [canon_eq, List.getElem_map]]
  exact ⟨fun q => fst_inj (List.getElem_mem h2) hn q, fun q => by show fstI (ino s[i]) 0 s + 1 = fstI (ino n) 0 s + 1; rw [q]⟩)
 show (⟨n.f0, ⟨fstI (ino (cno s n)) 0 (canon s) + 1, 0, knd n, cnt (ino (cno s n)) (canon s), ((dat n).length : Int)⟩, n.f2⟩ : S38) = ⟨n.f0, ⟨fstI (ino n) 0 s + 1, 0, knd n, cnt (ino n) s, ((dat n).length : Int)⟩, n.f2⟩
 rw [h.1, h.2]
theorem canon_ss {s : List S38} (h : SS s) : SS (canon s) := by
 unfold SS canon
 rw [List.pairwise_map]
 exact h
theorem canon_tree {s : List S38} (h : Tree s) : Tree (canon s) := by
 rw [canon_eq]
 refine ⟨?_, ?_, ?_, ?_, ?_⟩
 ·
  intro n hn
  obtain ⟨m, hm, rfl⟩ := List.mem_map.1 hn
  rw [cno_may]
  exact h.may m hm
 ·
  rw [List.map_map]
  exact h.nodup
 ·
  obtain ⟨n, hn, e⟩ := h.root
  exact ⟨cno s n, List.mem_map.2 ⟨n, hn, rfl⟩, e⟩
 ·
  intro n hn hr
  obtain ⟨m, hm, rfl⟩ := List.mem_map.1 hn
  obtain ⟨d, hd, e⟩ := h.up m hm hr
  exact ⟨cno s d, List.mem_map.2 ⟨d, hd, rfl⟩, e⟩
 ·
  intro n hn n' hn' e
  obtain ⟨m, hm, rfl⟩ := List.mem_map.1 hn
  obtain ⟨m', hm', rfl⟩ := List.mem_map.1 hn'
  exact h.twins m hm m' hm' (fst_inj hm hm' e)
theorem normT_idem {l : List S38} (h : (normT l).2 = 0) : normT (normT l).1 = normT l := by
 by_cases T : Tree l
 ·
  have e : normT l = (canon (sortT l), 0) := by
   unfold normT
   rw [if_pos T]
  have TS := T.perm (sortT_perm l).symm
  have ss := sortT_ss (fun n hn => may_clean (T.may n hn)) T.nodup
  have TC := canon_tree TS
  have ec : sortT (canon (sortT l)) = canon (sortT l) :=
   ss_uniq _ _ (sortT_ss (fun n hn => may_clean (TC.may n hn)) TC.nodup) (canon_ss ss) fun x => (sortT_perm _).mem_iff
  rw [e]
  show normT (canon (sortT l)) = _
  unfold normT
  rw [if_pos TC, ec, canon_canon]
 ·
  exfalso
  unfold normT at h
  rw [if_neg T] at h
  exact absurd h Z11
end Go.Proofs.YtkhblpmjmkhiiaaGreatDoor.T
