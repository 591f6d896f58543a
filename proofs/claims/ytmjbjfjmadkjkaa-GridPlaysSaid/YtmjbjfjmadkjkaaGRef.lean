/- The document's functions over lists of yes and no: what they come to. -/
import Derived.Test.YtmjbjfjmadkjkaaGOf
import Derived.Test.YtmjbjfjmadkjkaaPGridPlaysx1
namespace Go.Proofs.Ytmjbjfjmadkjkaa.G
open Go.RowKit Go.Proofs.YtmjbjfjmadkjkaaW.PrintWords Go.Proofs.YtmjbjfjmadkjkaaW.PrintLast Go.Proofs.YtmjbjfjmadkjkaaW.PrintMore Go.Proofs.Ytmjbjfjmadkjkaa.PGridPlays
set_option linter.unusedSimpArgs false
set_option linter.unusedVariables false

/-- The document's grid of n. -/
def hs (f : Nat → Bool) (n : Nat) : List Bool := (List.range n).map f
theorem hs_len (f : Nat → Bool) (n : Nat) : (hs f n).length = n := by simp [hs]
theorem hs_rd (f : Nat → Bool) (n : Nat) (i : Nat) (h : i < n) : rdOf false (hs f n) (i : Int) = f i := by
  simp [rdOf, hs, List.getD_eq_getElem?_getD, h]
theorem hs_nothing (n : Nat) : List.replicate n false = hs (fun _ => false) n := by
  apply List.ext_getElem?
  intro j
  by_cases hj : j < n
  · simp [hs, hj]
  · rw [List.getElem?_eq_none (by simp; omega), List.getElem?_eq_none (by rw [hs_len]; omega)]
theorem hs_set (f : Nat → Bool) (n i : Nat) (u : Bool) : (hs f n).set i u = hs (upd f i u) n := by
  apply List.ext_getElem?
  intro j
  by_cases hj : j < n
  · by_cases he : i = j
    · subst he
      rw [List.getElem?_set_self (by rw [hs_len]; exact hj)]
      simp [hs, hj, upd]
    · rw [List.getElem?_set_ne he]
      simp only [hs, List.getElem?_map, List.getElem?_range hj, Option.map_some]
      rw [upd_ne f u (fun e => he e.symm)]
  · rw [List.getElem?_eq_none (by rw [List.length_set, hs_len]; omega), List.getElem?_eq_none (by rw [hs_len]; omega)]
theorem hs_congr {f g : Nat → Bool} {n : Nat} (h : ∀ i, i < n → f i = g i) : hs f n = hs g n := by
  unfold hs
  exact List.map_congr_left (fun i hi => h i (List.mem_range.1 hi))

theorem w64 {x : Int} (h0 : -9223372036854775808 ≤ x) (h1 : x ≤ 9223372036854775807) : wrap64 x = x := by unfold wrap64; omega

theorem new_f (n : Int) (h0 : 0 ≤ n) (h1 : n ≤ 3584) : grapnelref08_New.f n = some (hs (fun _ => false) n.toNat, true) := by
  unfold grapnelref08_New.f
  rw [if_neg (by omega), if_neg (by omega), if_pos h0, if_pos (by omega), hs_nothing]
theorem new_f_bad (n : Int) (h : n < 0 ∨ 3584 < n) : grapnelref08_New.f n = some ([], false) := by
  unfold grapnelref08_New.f
  rcases h with h | h
  · rw [if_pos h]
  · rw [if_neg (by omega), if_pos (by omega)]

theorem count_l (f : Nat → Bool) (n : Nat) (hn : n ≤ 3584) : ∀ (d k i : Nat), i ≤ n → n - i = d → d < k → grapnelref08_Count.l0 k (hs f n) (cnt f i) i = some (cnt f n : Int) := by
  intro d
  induction d with
  | zero =>
    intro k i hi hd hk
    obtain ⟨k, rfl⟩ : ∃ m, k = m + 1 := ⟨k - 1, by omega⟩
    have : i = n := by omega
    subst this
    simp only [grapnelref08_Count.l0]
    rw [if_neg (by rw [hs_len]; omega)]
  | succ d ih =>
    intro k i hi hd hk
    obtain ⟨k, rfl⟩ : ∃ m, k = m + 1 := ⟨k - 1, by omega⟩
    have hc := cnt_le f i
    have := ih k (i + 1) (by omega) (by omega) (by omega)
    simp only [grapnelref08_Count.l0]
    rw [if_pos (by rw [hs_len]; omega), if_pos (by omega), hs_rd f n i (by omega)]
    rw [w64 (x := (cnt f i : Int) + 1) (by omega) (by omega), w64 (x := (i : Int) + 1) (by omega) (by omega)]
    cases hf : f i with
    | true =>
      rw [if_pos rfl]
      rw [← this]
      simp [cnt, hf]
    | false =>
      rw [if_neg (by simp)]
      rw [← this]
      simp [cnt, hf]
theorem count_f (f : Nat → Bool) (n : Nat) (hn : n ≤ 3584) : grapnelref08_Count.f (n + 1) (hs f n) = some (cnt f n : Int) := count_l f n hn n (n + 1) 0 (by omega) (by omega) (by omega)

def lim (f : Nat → Bool) (m : Nat) (i : Nat) : Bool := decide (i < m) && f i
theorem lim_step (f : Nat → Bool) (i : Nat) (h : f i = true) : lim f (i + 1) = upd (lim f i) i true := by
  funext j
  unfold lim upd
  by_cases hj : j = i
  · rw [if_pos hj, hj, h]; simp
  · rw [if_neg hj]
    congr 1
    exact decide_eq_decide.2 (by omega)
theorem lim_skip (f : Nat → Bool) (i : Nat) (h : f i = false) : lim f (i + 1) = lim f i := by
  funext j
  unfold lim
  by_cases hj : j = i
  · rw [hj, h]; simp
  · congr 1
    exact decide_eq_decide.2 (by omega)
theorem add_val (f : Nat → Bool) (i : Nat) (hi : i < 3584) (h : f i = false) :
    (byts f).set (wrap64 (Int.tdiv (i : Int) 8)).toNat ((rd (byts f) (wrap64 (Int.tdiv (i : Int) 8)) + shl .u8 1 (Int.tmod (i : Int) 8)) % 256) = byts (upd f i true) := by
  have e1 : Int.tdiv (i : Int) 8 = ((i / 8 : Nat) : Int) := rfl
  have e2 : Int.tmod (i : Int) 8 = ((i % 8 : Nat) : Int) := rfl
  rw [e1, e2, w64 (by omega) (by omega), rd_byts f _ (by omega) (by omega), Int.toNat_natCast]
  have hsh : shl .u8 1 ((i % 8 : Nat) : Int) = ((2 ^ (i % 8) : Nat) : Int) := by
    have hp : 2 ^ (i % 8) < 256 := by
      have := Nat.pow_lt_pow_right (a := 2) (by omega) (show i % 8 < 8 by omega)
      omega
    unfold shl
    rw [Int.toNat_natCast, Nat.min_eq_left (by have : i % 8 < 8 := Nat.mod_lt _ (by omega); show i % 8 ≤ 8; omega), IntKind.wrap_u8, Int.one_mul, show (2 : Int) ^ (i % 8) = ((2 ^ (i % 8) : Nat) : Int) from (Int.natCast_pow 2 _).symm]
    generalize 2 ^ (i % 8) = q at hp
    omega
  rw [hsh]
  have hb := B8_add (fun k => f (8 * (i / 8) + k)) (i % 8) (Nat.mod_lt _ (by omega)) (by show f (8 * (i / 8) + i % 8) = false; rw [show 8 * (i / 8) + i % 8 = i by omega]; exact h)
  have hlt := B8_lt (upd (fun k => f (8 * (i / 8) + k)) (i % 8) true)
  rw [show (((B8 fun k => f (8 * (i / 8) + k) : Nat) : Int) + ((2 ^ (i % 8) : Nat) : Int)) % 256 = ((B8 (upd (fun k => f (8 * (i / 8) + k)) (i % 8) true) : Nat) : Int) by
    rw [← hb] at hlt ⊢
    generalize 2 ^ (i % 8) = q at hlt ⊢
    omega]
  exact byts_set f i true hi
theorem body_l (f : Nat → Bool) (n : Nat) (hn : n ≤ 3584) : ∀ (d k i : Nat), i ≤ n → n - i = d → d < k → grapnelref08_Body.l0 k (hs f n) (byts (lim f i)) i = some (strOfNums (byts (lim f n))) := by
  intro d
  induction d with
  | zero =>
    intro k i hi hd hk
    obtain ⟨k, rfl⟩ : ∃ m, k = m + 1 := ⟨k - 1, by omega⟩
    have : i = n := by omega
    subst this
    simp only [grapnelref08_Body.l0]
    rw [if_neg (by rw [hs_len]; omega)]
  | succ d ih =>
    intro k i hi hd hk
    obtain ⟨k, rfl⟩ : ∃ m, k = m + 1 := ⟨k - 1, by omega⟩
    have := ih k (i + 1) (by omega) (by omega) (by omega)
    simp only [grapnelref08_Body.l0]
    rw [if_pos (by rw [hs_len]; omega), if_pos (by omega), hs_rd f n i (by omega)]
    rw [w64 (x := (i : Int) + 1) (by omega) (by omega)]
    have e1 : Int.tdiv (i : Int) 8 = ((i / 8 : Nat) : Int) := rfl
    have e2 : Int.tmod (i : Int) 8 = ((i % 8 : Nat) : Int) := rfl
    cases hf : f i with
    | true =>
      rw [if_pos rfl, add_val (lim f i) i (by omega) (by simp [lim]), ← lim_step f i hf]
      rw [e1, e2, w64 (x := ((i / 8 : Nat) : Int)) (by omega) (by omega), if_pos (by omega), if_pos (by rw [byts_length]; omega), if_pos (by omega)]
      exact this
    | false =>
      rw [if_neg (by simp), ← lim_skip f i hf]
      exact this
theorem body_f (f : Nat → Bool) (n : Nat) (hn : n ≤ 3584) : grapnelref08_Body.f (n + 1) (hs f n) = some (strOfNums (byts (lim f n))) := by
  unfold grapnelref08_Body.f
  rw [if_pos (by omega)]
  have : List.replicate 448 (0 : Int) = byts (lim f 0) := by
    rw [← byts_nothing]
    exact byts_congr (fun i _ => by simp [lim])
  rw [this]
  exact body_l f n hn n (n + 1) 0 (by omega) (by omega) (by omega)

theorem free_l (f : Nat → Bool) (n : Nat) (a q : Int) (hn : n ≤ 3584) : ∀ (d k i : Nat) (out : List Int), i ≤ n → n - i = d → d < k → (out.length : Int) + d ≤ 3584 →
    grapnelref08_Free.l0 k (hs f n) a q out i = some (out ++ (ints (fr f n (max i a.toNat))).take (q.toNat - out.length)) := by
  intro d
  induction d with
  | zero =>
    intro k i out hi hd hk ho
    obtain ⟨k, rfl⟩ : ∃ m, k = m + 1 := ⟨k - 1, by omega⟩
    simp only [grapnelref08_Free.l0]
    rw [if_neg (by rw [hs_len]; omega), fr_end f (by omega)]
    simp [ints]
  | succ d ih =>
    intro k i out hi hd hk ho
    obtain ⟨k, rfl⟩ : ∃ m, k = m + 1 := ⟨k - 1, by omega⟩
    simp only [grapnelref08_Free.l0]
    rw [if_pos (by rw [hs_len]; omega), if_pos (by omega), hs_rd f n i (by omega), w64 (x := (i : Int) + 1) (by omega) (by omega)]
    have key := fun out h => ih k (i + 1) out (by omega) (by omega) (by omega) h
    have hcast : ((i + 1 : Nat) : Int) = (i : Int) + 1 := by omega
    rw [hcast] at key
    cases hf : f i with
    | true =>
      rw [if_pos rfl, key out (by omega)]
      by_cases ha : (a.toNat) ≤ i
      · rw [Nat.max_eq_left ha, Nat.max_eq_left (by omega), fr_used f n i hf]
      · rw [Nat.max_eq_right (by omega), Nat.max_eq_right (by omega)]
    | false =>
      rw [if_neg (by simp)]
      by_cases ha : a ≤ (i : Int)
      · rw [if_pos ha, Nat.max_eq_left (by omega), fr_free f (by omega) hf]
        by_cases hl : (out.length : Int) < q
        · rw [if_pos hl, if_pos (by omega), key (out ++ [(i : Int)]) (by simp; omega)]
          rw [Nat.max_eq_left (by omega)]
          have e3 : q.toNat - out.length = (q.toNat - (out ++ [(i : Int)]).length) + 1 := by simp; omega
          rw [e3]
          simp [ints]
        · rw [if_neg hl, key out (by omega)]
          have e3 : q.toNat - out.length = 0 := by omega
          rw [e3]
          simp
      · rw [if_neg ha, key out (by omega)]
        rw [Nat.max_eq_right (by omega), Nat.max_eq_right (by omega)]
theorem free_f (f : Nat → Bool) (n : Nat) (a q : Int) (hn : n ≤ 3584) : grapnelref08_Free.f (n + 1) (hs f n) a q = some (ints ((fr f n a.toNat).take q.toNat)) := by
  have := free_l f n a q hn n (n + 1) 0 [] (by omega) (by omega) (by omega) (by simp; omega)
  unfold grapnelref08_Free.f
  rw [show (0 : Int) = ((0 : Nat) : Int) from rfl, this]
  simp [ints, List.map_take]

theorem same_l (l r : List Int) (hl : l.length = r.length) (hb : l.length ≤ 4611686018427387904) : ∀ (d k i : Nat), i ≤ l.length → l.length - i = d → d < k → l.take i = r.take i → grapnellaw08_same.l0 k l r i = some (decide (l = r)) := by
  intro d
  induction d with
  | zero =>
    intro k i hi hd hk he
    obtain ⟨k, rfl⟩ : ∃ m, k = m + 1 := ⟨k - 1, by omega⟩
    simp only [grapnellaw08_same.l0]
    rw [if_neg (by omega)]
    rw [List.take_of_length_le (by omega), List.take_of_length_le (by omega)] at he
    simp [he]
  | succ d ih =>
    intro k i hi hd hk he
    obtain ⟨k, rfl⟩ : ∃ m, k = m + 1 := ⟨k - 1, by omega⟩
    simp only [grapnellaw08_same.l0]
    have h1 : i < l.length := by omega
    have h2 : i < r.length := by omega
    rw [if_pos (by omega), if_pos (by omega), if_pos (by omega), w64 (x := (i : Int) + 1) (by omega) (by omega)]
    have e1 : rd l (i : Int) = l[i] := by simp [rd, List.getD_eq_getElem?_getD, h1]
    have e2 : rd r (i : Int) = r[i] := by simp [rd, List.getD_eq_getElem?_getD, h2]
    rw [e1, e2]
    by_cases hx : l[i] = r[i]
    · rw [if_pos hx]
      have := ih k (i + 1) (by omega) (by omega) (by omega) (by rw [List.take_succ_eq_append_getElem h1, List.take_succ_eq_append_getElem h2, he, hx])
      rw [show ((i : Int) + 1) = ((i + 1 : Nat) : Int) by omega]
      exact this
    · rw [if_neg hx]
      have : l ≠ r := by
        intro e
        subst e
        exact hx rfl
      simp [this]
theorem same_f (l r : List Int) (hb : l.length ≤ 4611686018427387904) : grapnellaw08_same.f (l.length + 1) l r = some (decide (l = r)) := by
  unfold grapnellaw08_same.f
  by_cases hl : l.length = r.length
  · rw [if_pos (by omega)]
    exact same_l l r hl hb l.length (l.length + 1) 0 (by omega) (by omega) (by omega) rfl
  · rw [if_neg (by omega)]
    have : l ≠ r := by
      intro e
      subst e
      exact hl rfl
    simp [this]
end Go.Proofs.Ytmjbjfjmadkjkaa.G
