/- Bytes and their bits: a grid's body as a function from places to yes and no. -/
import Derived.Test.YtmjbjfjmadkjkaaWMore
import Derived.Laws.BitsLemmas
namespace Go.Proofs.Ytmjbjfjmadkjkaa.G
open Go.RowKit Go.Proofs.YtmjbjfjmadkjkaaW.PrintWords Go.Proofs.YtmjbjfjmadkjkaaW.PrintLast Go.Proofs.YtmjbjfjmadkjkaaW.PrintMore
set_option linter.unusedSimpArgs false
set_option linter.unusedVariables false

def b8 (c0 c1 c2 c3 c4 c5 c6 c7 : Bool) : Nat :=
  c0.toNat + 2 * c1.toNat + 4 * c2.toNat + 8 * c3.toNat + 16 * c4.toNat + 32 * c5.toNat + 64 * c6.toNat + 128 * c7.toNat
def pick8 (c0 c1 c2 c3 c4 c5 c6 c7 : Bool) (k : Nat) : Bool :=
  match k with | 0 => c0 | 1 => c1 | 2 => c2 | 3 => c3 | 4 => c4 | 5 => c5 | 6 => c6 | _ => c7
/-- The byte whose bits are c's first eight. -/
def B8 (c : Nat → Bool) : Nat := b8 (c 0) (c 1) (c 2) (c 3) (c 4) (c 5) (c 6) (c 7)
def upd (f : Nat → Bool) (i : Nat) (u : Bool) : Nat → Bool := fun j => if j = i then u else f j
theorem upd_self (f : Nat → Bool) (i : Nat) (u : Bool) : upd f i u i = u := by simp [upd]
theorem upd_ne (f : Nat → Bool) {i j : Nat} (u : Bool) (h : j ≠ i) : upd f i u j = f j := by simp [upd, h]

theorem b8_lt : ∀ c0 c1 c2 c3 c4 c5 c6 c7, b8 c0 c1 c2 c3 c4 c5 c6 c7 < 256 := by decide +kernel
theorem b8_bit : ∀ c0 c1 c2 c3 c4 c5 c6 c7, ∀ k : Fin 8, b8 c0 c1 c2 c3 c4 c5 c6 c7 / 2 ^ k.val % 2 = (pick8 c0 c1 c2 c3 c4 c5 c6 c7 k.val).toNat := by decide +kernel
theorem b8_or : ∀ c0 c1 c2 c3 c4 c5 c6 c7, ∀ k : Fin 8, b8 c0 c1 c2 c3 c4 c5 c6 c7 ||| 2 ^ k.val =
    b8 (k.val == 0 || c0) (k.val == 1 || c1) (k.val == 2 || c2) (k.val == 3 || c3) (k.val == 4 || c4) (k.val == 5 || c5) (k.val == 6 || c6) (k.val == 7 || c7) := by decide +kernel
theorem b8_not : ∀ c0 c1 c2 c3 c4 c5 c6 c7, ∀ k : Fin 8, b8 c0 c1 c2 c3 c4 c5 c6 c7 &&& (255 - 2 ^ k.val) =
    b8 (k.val != 0 && c0) (k.val != 1 && c1) (k.val != 2 && c2) (k.val != 3 && c3) (k.val != 4 && c4) (k.val != 5 && c5) (k.val != 6 && c6) (k.val != 7 && c7) := by decide +kernel
theorem b8_add : ∀ c0 c1 c2 c3 c4 c5 c6 c7, ∀ k : Fin 8, pick8 c0 c1 c2 c3 c4 c5 c6 c7 k.val = false → b8 c0 c1 c2 c3 c4 c5 c6 c7 + 2 ^ k.val =
    b8 (k.val == 0 || c0) (k.val == 1 || c1) (k.val == 2 || c2) (k.val == 3 || c3) (k.val == 4 || c4) (k.val == 5 || c5) (k.val == 6 || c6) (k.val == 7 || c7) := by decide +kernel
theorem b8_full : ∀ c0 c1 c2 c3 c4 c5 c6 c7, b8 c0 c1 c2 c3 c4 c5 c6 c7 = 255 → (c0 && c1 && c2 && c3 && c4 && c5 && c6 && c7) = true := by decide +kernel
theorem b8_of : ∀ x : Fin 256, x.val = b8 (x.val / 1 % 2 == 1) (x.val / 2 % 2 == 1) (x.val / 4 % 2 == 1) (x.val / 8 % 2 == 1) (x.val / 16 % 2 == 1) (x.val / 32 % 2 == 1) (x.val / 64 % 2 == 1) (x.val / 128 % 2 == 1) := by decide +kernel

theorem pick8_fn (c : Nat → Bool) (k : Nat) (hk : k < 8) : pick8 (c 0) (c 1) (c 2) (c 3) (c 4) (c 5) (c 6) (c 7) k = c k := by
  match k, hk with
  | 0, _ => rfl
  | 1, _ => rfl
  | 2, _ => rfl
  | 3, _ => rfl
  | 4, _ => rfl
  | 5, _ => rfl
  | 6, _ => rfl
  | 7, _ => rfl
theorem B8_lt (c : Nat → Bool) : B8 c < 256 := b8_lt ..
theorem B8_bit (c : Nat → Bool) (k : Nat) (hk : k < 8) : B8 c / 2 ^ k % 2 = (c k).toNat := by
  have := b8_bit (c 0) (c 1) (c 2) (c 3) (c 4) (c 5) (c 6) (c 7) ⟨k, hk⟩
  rw [pick8_fn c k hk] at this
  exact this
theorem upd_or (c : Nat → Bool) (k j : Nat) : upd c k true j = (k == j || c j) := by
  unfold upd
  by_cases h : j = k
  · simp [h]
  · have : ¬ k = j := fun e => h e.symm
    simp [h, this]
theorem upd_and (c : Nat → Bool) (k j : Nat) : upd c k false j = (k != j && c j) := by
  unfold upd
  by_cases h : j = k
  · simp [h]
  · have : ¬ k = j := fun e => h e.symm
    simp [h, this]
theorem B8_or (c : Nat → Bool) (k : Nat) (hk : k < 8) : B8 c ||| 2 ^ k = B8 (upd c k true) := by
  have := b8_or (c 0) (c 1) (c 2) (c 3) (c 4) (c 5) (c 6) (c 7) ⟨k, hk⟩
  unfold B8
  simp only [upd_or]
  exact this
theorem B8_not (c : Nat → Bool) (k : Nat) (hk : k < 8) : B8 c &&& (255 - 2 ^ k) = B8 (upd c k false) := by
  have := b8_not (c 0) (c 1) (c 2) (c 3) (c 4) (c 5) (c 6) (c 7) ⟨k, hk⟩
  unfold B8
  simp only [upd_and]
  exact this
theorem B8_add (c : Nat → Bool) (k : Nat) (hk : k < 8) (h0 : c k = false) : B8 c + 2 ^ k = B8 (upd c k true) := by
  have := b8_add (c 0) (c 1) (c 2) (c 3) (c 4) (c 5) (c 6) (c 7) ⟨k, hk⟩ (by rw [pick8_fn c k hk]; exact h0)
  unfold B8
  simp only [upd_or]
  exact this
theorem B8_full (c : Nat → Bool) (h : B8 c = 255) (k : Nat) (hk : k < 8) : c k = true := by
  have := b8_full _ _ _ _ _ _ _ _ h
  simp only [Bool.and_eq_true] at this
  obtain ⟨⟨⟨⟨⟨⟨⟨h0, h1⟩, h2⟩, h3⟩, h4⟩, h5⟩, h6⟩, h7⟩ := this
  match k, hk with
  | 0, _ => exact h0
  | 1, _ => exact h1
  | 2, _ => exact h2
  | 3, _ => exact h3
  | 4, _ => exact h4
  | 5, _ => exact h5
  | 6, _ => exact h6
  | 7, _ => exact h7
theorem B8_of (x : Nat) (h : x < 256) : x = B8 (fun k => x / 2 ^ k % 2 == 1) := b8_of ⟨x, h⟩
theorem B8_congr {c d : Nat → Bool} (h : ∀ k, k < 8 → c k = d k) : B8 c = B8 d := by
  unfold B8
  rw [h 0 (by omega), h 1 (by omega), h 2 (by omega), h 3 (by omega), h 4 (by omega), h 5 (by omega), h 6 (by omega), h 7 (by omega)]

/-- The body whose bits are f's first 3584. -/
def byts (f : Nat → Bool) : List Int := (List.range 448).map fun j => ((B8 fun k => f (8 * j + k) : Nat) : Int)
theorem byts_length (f : Nat → Bool) : (byts f).length = 448 := by simp [byts]
theorem rd_byts (f : Nat → Bool) (i : Int) (h0 : 0 ≤ i) (h1 : i < 448) : rd (byts f) i = ((B8 fun k => f (8 * i.toNat + k) : Nat) : Int) := by
  have : i.toNat < 448 := by omega
  simp [rd, byts, List.getD_eq_getElem?_getD, this]
theorem byts_congr {f g : Nat → Bool} (h : ∀ i, i < 3584 → f i = g i) : byts f = byts g := by
  unfold byts
  apply List.map_congr_left
  intro j hj
  have := List.mem_range.1 hj
  rw [B8_congr (fun k hk => h (8 * j + k) (by omega))]
theorem byts_set (f : Nat → Bool) (i : Nat) (u : Bool) (hi : i < 3584) :
    (byts f).set (i / 8) ((B8 (upd (fun k => f (8 * (i / 8) + k)) (i % 8) u) : Nat) : Int) = byts (upd f i u) := by
  apply List.ext_getElem?
  intro j
  by_cases hj : j < 448
  · by_cases he : i / 8 = j
    · subst he
      rw [List.getElem?_set_self (by rw [byts_length]; exact hj)]
      simp only [byts, List.getElem?_map, List.getElem?_range hj, Option.map_some]
      congr 3
      funext k
      unfold upd
      by_cases h2 : k = i % 8
      · rw [if_pos h2, if_pos (by omega)]
      · rw [if_neg h2, if_neg (by omega)]
    · rw [List.getElem?_set_ne he]
      simp only [byts, List.getElem?_map, List.getElem?_range hj, Option.map_some]
      congr 2
      refine B8_congr fun k hk => ?_
      rw [upd_ne f u (by omega)]
  · rw [List.getElem?_eq_none (by rw [List.length_set, byts_length]; omega), List.getElem?_eq_none (by rw [byts_length]; omega)]

/-- A bit, as the walk spells it. -/
theorem and_one (c : Nat → Bool) (k : Nat) (hk : k < 8) : (Go.bits .and .u8 (((B8 c : Nat) : Int) / 2 ^ k) 1 == 1) = c k := by
  have hl := B8_lt c
  have h1 : ((B8 c : Nat) : Int) / 2 ^ k = ((B8 c / 2 ^ k : Nat) : Int) := by rw [Int.natCast_ediv]; congr 1
  have h2 : B8 c / 2 ^ k < 256 := Nat.lt_of_le_of_lt (Nat.div_le_self _ _) hl
  have h5 := B8_bit c k hk
  rw [h1]
  generalize B8 c / 2 ^ k = m at *
  have h3 : Go.bits .and .u8 (m : Int) 1 = (m : Int) % 2 := bits_mask .u8 8 (by decide) wraps_u8 1 (by decide) _ (by omega) (by omega)
  rw [h3]
  have h4 : (m : Int) % 2 = ((m % 2 : Nat) : Int) := by omega
  rw [h4, h5]
  cases c k <;> rfl
theorem or_bit (c : Nat → Bool) (k : Nat) (hk : k < 8) : Go.bits .or .u8 ((B8 c : Nat) : Int) (2 ^ k) = ((B8 (upd c k true) : Nat) : Int) := by
  have h : (2 : Int) ^ k = ((2 ^ k : Nat) : Int) := (Int.natCast_pow 2 k).symm
  have hp : 2 ^ k < 256 := by
    have := Nat.pow_lt_pow_right (a := 2) (by omega) (show k < 8 from hk)
    omega
  rw [h, (bits_nat .u8 8 (by decide) wraps_u8 _ _ (B8_lt c) hp).2, B8_or c k hk]
theorem andNot_all : ∀ a : Fin 256, ∀ k : Fin 8, Go.bits .andNot .u8 (a.val : Int) (2 ^ k.val) = ((a.val &&& (255 - 2 ^ k.val) : Nat) : Int) := by decide +kernel
theorem not_bit (c : Nat → Bool) (k : Nat) (hk : k < 8) : Go.bits .andNot .u8 ((B8 c : Nat) : Int) (2 ^ k) = ((B8 (upd c k false) : Nat) : Int) := by
  rw [← B8_not c k hk]
  exact andNot_all ⟨B8 c, B8_lt c⟩ ⟨k, hk⟩
theorem at_val (f : Nat → Bool) (i : Int) (h0 : 0 ≤ i) (h1 : i < 3584) : (Go.bits .and .u8 (rd (byts f) (i / 8) / 2 ^ (i % 8).toNat) 1 == 1) = f i.toNat := by
  rw [rd_byts f _ (by omega) (by omega), and_one _ _ (by omega)]
  congr 1
  omega
theorem pow_mod (i : Int) (h0 : 0 ≤ i) : (2 : Int) ^ (i % 8).toNat % 256 = 2 ^ (i % 8).toNat := by
  have h : (2 : Int) ^ (i % 8).toNat = ((2 ^ (i % 8).toNat : Nat) : Int) := (Int.natCast_pow 2 _).symm
  have hp : 2 ^ (i % 8).toNat < 256 := by
    have := Nat.pow_lt_pow_right (a := 2) (by omega) (show (i % 8).toNat < 8 by omega)
    omega
  rw [h]
  generalize 2 ^ (i % 8).toNat = m at hp
  omega
theorem set_val (f : Nat → Bool) (i : Int) (h0 : 0 ≤ i) (h1 : i < 3584) : (byts f).set (i / 8).toNat (Go.bits .or .u8 (rd (byts f) (i / 8)) (2 ^ (i % 8).toNat % 256)) = byts (upd f i.toNat true) := by
  rw [pow_mod i h0, rd_byts f _ (by omega) (by omega), or_bit _ _ (by omega)]
  have := byts_set f i.toNat true (by omega)
  rw [← this, show (i / 8).toNat = i.toNat / 8 by omega, show (i % 8).toNat = i.toNat % 8 by omega]
theorem clr_val (f : Nat → Bool) (i : Int) (h0 : 0 ≤ i) (h1 : i < 3584) : (byts f).set (i / 8).toNat (Go.bits .andNot .u8 (rd (byts f) (i / 8)) (2 ^ (i % 8).toNat % 256)) = byts (upd f i.toNat false) := by
  rw [pow_mod i h0, rd_byts f _ (by omega) (by omega), not_bit _ _ (by omega)]
  have := byts_set f i.toNat false (by omega)
  rw [← this, show (i / 8).toNat = i.toNat / 8 by omega, show (i % 8).toNat = i.toNat % 8 by omega]
end Go.Proofs.Ytmjbjfjmadkjkaa.G
