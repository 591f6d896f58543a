/- Take: the first k that are not used are used then; or nothing is changed. -/
import Derived.Test.YtmjbjfjmadkjkaaGNext
namespace Go.Proofs.Ytmjbjfjmadkjkaa.G
open Go.RowKit Go.Proofs.YtmjbjfjmadkjkaaW.PrintWords Go.Proofs.YtmjbjfjmadkjkaaW.PrintLast Go.Proofs.YtmjbjfjmadkjkaaW.PrintMore
attribute [local go_sem] max2_int min2_int max_two min_two max_three min_three max_four min_four
set_option linter.unusedSimpArgs false
set_option linter.unusedVariables false

def ints (l : List Nat) : List Int := l.map fun i : Nat => (i : Int)
/-- f, and all of l besides. -/
def updL (f : Nat → Bool) : List Nat → (Nat → Bool)
  | [] => f
  | i :: r => updL (upd f i true) r
theorem updL_append (f : Nat → Bool) (l r : List Nat) : updL f (l ++ r) = updL (updL f l) r := by
  induction l generalizing f with
  | nil => rfl
  | cons i l ih => exact ih _
theorem fr_mem {f : Nat → Bool} {n a i : Nat} (h : i ∈ fr f n a) : a ≤ i ∧ i < n ∧ f i = false := by
  unfold fr at h
  rw [List.mem_filter, List.mem_range'_1] at h
  refine ⟨by omega, by omega, ?_⟩
  simpa using h.2
theorem fr_cons {f : Nat → Bool} {n i : Nat} {r : List Nat} : ∀ (d a : Nat), n - a = d → fr f n a = i :: r → a ≤ i ∧ i < n ∧ fr f n (i + 1) = r := by
  intro d
  induction d with
  | zero => intro a hd h; rw [fr_end f (by omega)] at h; cases h
  | succ d ih =>
    intro a hd h
    by_cases hu : f a = true
    · rw [fr_used f n a hu] at h
      have := ih (a + 1) (by omega) h
      exact ⟨by omega, this.2⟩
    · rw [fr_free f (by omega) (by simpa using hu)] at h
      injection h with h1 h2
      subst h1
      exact ⟨Nat.le_refl _, by omega, h2⟩
theorem fr_len (f : Nat → Bool) (n a : Nat) : (fr f n a).length ≤ n := by
  unfold fr
  have := List.length_filter_le (fun i => !f i) (List.range' a (n - a))
  rw [List.length_range'] at this
  omega
theorem info3 : (Try.prog.info? 3).map (fun i => (i.zero, i.size, i.bytes)) = some (some (.int .i64 0), 1, 8) := by kernel_rfl

theorem take_nil (w : World) (k a : Int) :
    Calls Try.prog 28 #[.pointer none, .int .i64 k, .int .i64 a] w fun e w' => e = .returned (.tuple #[.slice none 0 0, .int .i64 1]) ∧ w = w' := by
  go_enter Try.func28, Try.ntmps28
  go_wp2
  go_ret2
  exact ⟨rfl, rfl⟩

theorem take_neg (w : World) (g : Nat) (k a : Int) (hk : k < 0) :
    Calls Try.prog 28 #[.pointer (some ⟨g, 0, none⟩), .int .i64 k, .int .i64 a] w fun e w' => e = .returned (.tuple #[.slice none 0 0, .int .i64 1]) ∧ w = w' := by
  go_enter Try.func28, Try.ntmps28
  go_wp2
  go_ret2
  exact ⟨rfl, rfl⟩

theorem ints_len (l : List Nat) : (ints l).length = l.length := by simp [ints]
theorem ints_snoc (l : List Nat) (i : Nat) : ints l ++ [(i : Int)] = ints (l ++ [i]) := by simp [ints]
theorem take_snoc' {l r : List Nat} {j i : Nat} (h : i :: r = l.drop j) : l.take j ++ [i] = l.take (j + 1) ∧ l.drop (j + 1) = r ∧ j < l.length := by
  have hl : j < l.length := by
    rcases Nat.lt_or_ge j l.length with h1 | h1
    · exact h1
    · rw [List.drop_eq_nil_of_le h1] at h
      cases h
  rw [List.drop_eq_getElem_cons hl] at h
  injection h with h1 h2
  refine ⟨?_, h2.symm, hl⟩
  rw [List.take_succ_eq_append_getElem hl, h1]

theorem below_grown_trans {w w1 w2 : World} {row : Option Nat} (h : Below w.heap.size w w1) (k : w1.grownBy w2 row) : w.grownBy w2 row :=
  ⟨k.os.trans h.os, k.tape.trans h.tape, k.output.trans h.output, Nat.le_trans h.size k.size, fun i hi hr => (k.block i (Nat.lt_of_lt_of_le hi h.size) hr).trans (h.block i hi)⟩
theorem grown_refl (w : World) (row : Option Nat) : w.grownBy w row := ⟨rfl, rfl, rfl, Nat.le_refl _, fun _ _ _ => rfl⟩
theorem grown_trans {w w1 w2 : World} {row : Option Nat} (h : w.grownBy w1 row) (k : w1.grownBy w2 row) : w.grownBy w2 row :=
  ⟨k.os.trans h.os, k.tape.trans h.tape, k.output.trans h.output, Nat.le_trans h.size k.size, fun i hi hr => (k.block i (Nat.lt_of_lt_of_le hi h.size) hr).trans (h.block i hi hr)⟩
/-- A row of another type lives on where the grid's bytes are written. -/
theorem Gr.keeps {w w1 : World} {base g b : Nat} {n : Int} {bs : List Int} (h : Gr w base g b n bs) (hg : w.grownBy w1 (some b)) {α : Type} {d : Kd α} {e base' : Nat} {ok : Nat → Prop} {u : Value} {xs : List α} (hu : d.R e w base' ok u xs) (ht : ∀ q, q ∈ e :: d.E → q ≠ 5) : d.R e w1 base' ok u xs := by
  obtain ⟨cap, e1, e2, e3⟩ := h
  exact Kd.R_over' hu (Kd.R_typed e3) ht hg
theorem rd_ints (l : List Nat) (t : Nat) (h : t < l.length) : rd (ints l) (t : Int) = (l[t] : Int) := by
  simp [rd, ints, List.getD_eq_getElem?_getD, h]

/-- What Take leaves. -/
def TakeR (w : World) (base g b : Nat) (n k a : Int) (f : Nat → Bool) (e : Ending) (w' : World) : Prop :=
  (k.toNat ≤ (fr f n.toNat a.toNat).length ∧ ∃ v, e = .returned (.tuple #[v, .int .i64 0]) ∧ (Kd.int .i64).R 3 w' w.heap.size (fun _ => True) v (ints ((fr f n.toNat a.toNat).take k.toNat)) ∧
    Gr w' base g b n (byts (updL f ((fr f n.toNat a.toNat).take k.toNat))) ∧ w.grownBy w' (some b)) ∨
  ((fr f n.toNat a.toNat).length < k.toNat ∧ e = .returned (.tuple #[.slice none 0 0, .int .i64 6]) ∧ Below w.heap.size w w')

set_option maxRecDepth 100000 in
set_option maxHeartbeats 4000000 in
theorem take_calls (w : World) (base g b : Nat) (n k a : Int) (f : Nat → Bool) (h : Gr w base g b n (byts f)) (h0 : 0 ≤ n) (h1 : n ≤ 3584) (hk : 0 ≤ k) (hk2 : k ≤ 9223372036854775807) (ham : a ≤ 9223372036854775807) :
    Calls Try.prog 28 #[.pointer (some ⟨g, 0, none⟩), .int .i64 k, .int .i64 a] w (TakeR w base g b n k a f) := by
  have HG := Aside0.mk h
  clear h
  obtain ⟨m, rfl⟩ := Int.eq_ofNat_of_zero_le h0
  obtain ⟨q, rfl⟩ := Int.eq_ofNat_of_zero_le hk
  unfold TakeR
  rw [Int.toNat_natCast, Int.toNat_natCast]
  have HT : Aside0 (∀ e w', (TakeR w base g b m q a f e w') → TakeR w base g b m q a f e w') := ⟨fun _ _ h => h⟩
  go_enter Try.func28, Try.ntmps28
  by_cases ha : a < 0
  all_goals
    go_wp2
    go_loopw [8, 9] (fun v p wr => ∃ (j x : Nat), j ≤ q ∧ j ≤ (fr f m a.toNat).length ∧ p = .int .i64 x ∧ (x : Int) ≤ 9223372036854775807 ∧ Aside0 (fr f m x = (fr f m a.toNat).drop j) ∧ Aside0 ((Kd.int .i64).R 3 wr w.heap.size (fun _ => True) v (ints ((fr f m a.toNat).take j))) ∧ Aside0 (Below w.heap.size w wr)) (fun _ p _ => m - (intOf p).toNat)
    case atStart => exact ⟨0, a.toNat, by omega, by omega, by congr 1; omega, by omega, ⟨rfl⟩, ⟨Kd.R_nil _ _ _ _ _⟩, ⟨Below.refl _ _⟩⟩
    case round =>
      obtain ⟨j, x, hj1, hj2, rfl, hx, HF, HO, HB⟩ := hrel
      have hlen := fr_len f m a.toNat
      have hl : (ints ((fr f m a.toNat).take j)).length = j := by rw [ints_len, List.length_take]; omega
      obtain ⟨Ao, co, ev⟩ := Kd.R_slice HO.out
      rw [hl] at ev
      subst ev
      by_cases hc : j < q
      · have HN := next_calls wr base g b m x f (HG.out.below HB.out) (by omega) h1 hx
        rw [Int.toNat_natCast, Int.toNat_natCast] at HN
        have HFo := HF.out
        cases hL : fr f m x with
        | nil =>
          rw [hL] at HN HFo
          have HN' : Aside0 (Calls Try.prog 15 #[.pointer (some ⟨g, 0, none⟩), .int .i64 x] wr fun e w' => e = .returned (.tuple #[.int .i64 0, .bool false]) ∧ wr = w') := ⟨HN⟩
          have hz : (fr f m a.toNat).length ≤ j := List.drop_eq_nil_iff.1 HFo.symm
          have HZ := Aside0.mk (show (fr f m a.toNat).length < q by omega)
          clear HN HFo hL hl hz
          go_wp2_with (go_at_call 15; refine HN'.out.mono ?_; rintro e w' ⟨rfl, rfl⟩)
          go_ret2
          exact .inr ⟨HZ.out, rfl, HB.out⟩
        | cons i r =>
          rw [hL] at HN HFo
          have HN' : Aside0 (Calls Try.prog 15 #[.pointer (some ⟨g, 0, none⟩), .int .i64 x] wr fun e w' => e = .returned (.tuple #[.int .i64 i, .bool true]) ∧ wr = w') := ⟨HN⟩
          have hT := take_snoc' HFo
          have hT1 := Aside0.mk hT.1
          have hT2 := Aside0.mk hT.2.1
          have hT3 := hT.2.2
          have hcons := fr_cons _ x rfl hL
          have hxi := hcons.1
          have him := hcons.2.1
          have hnx := Aside0.mk hcons.2.2
          have HL := Aside0.mk hl
          clear HN HFo hL hl hT hcons
          go_wp2_with (first | (go_at_call 15; refine HN'.out.mono ?_; rintro e w' ⟨rfl, rfl⟩) | ((with_reducible refine gate_builtin (b := .append) (xs := #[.tmp 34, .tmp 36]) rfl ?_); at_builtin; refine Kd.R_append (Kd.int .i64) (w0 := w) w.heap.size rfl (.tmp 34) (.tmp 36) 22 3 (.int .i64 0) 8 rfl Try.underlying22 info3 rfl (by decide) (by omega) (.slice Ao j co) (ints ((fr f m a.toNat).take j)) (i : Int) [.int .i64 i] (fun _ => True) (fun _ => False) rfl rfl ?aP (fun _ hk => hk.elim) ?aF ?aO ?aB ?aS ?aL ?_; (case aP => exact rfl); (case aB => exact HB.out); (case aF => exact (fun _ _ => trivial)); (case aO => exact HO.out); (case aS => exact HB.out.size); (case aL => rw [HL.out]; omega); intro v1 w1 ho hb hg hat; rw [ints_snoc, hT1.out] at ho; have HO1 := Aside0.mk ho; have HB1 := Aside0.mk hb; clear ho hb hg hat))
          go_roundw
          case rel => exact ⟨j + 1, i + 1, by omega, by omega, by go_num, by omega, ⟨by rw [hnx.out, hT2.out]⟩, HO1, HB1⟩
          case measure => simp [intOf]; omega
      · have hjq : j = q := by omega
        subst hjq
        have HL := Aside0.mk hl
        have HGo := Aside0.mk (HG.out.below HB.out)
        clear hl
        obtain ⟨wo, rfl⟩ : ∃ wo : World, wo = wr := ⟨_, rfl⟩
        go_wp2
        go_loopw [42] (fun i wq => ∃ t : Nat, t ≤ j ∧ i = .int .i64 t ∧ Aside0 (Gr wq base g b m (byts (updL f ((fr f m a.toNat).take t)))) ∧ Aside0 (wo.grownBy wq (some b))) (fun i _ => j - (intOf i).toNat)
        case atStart => exact ⟨0, by omega, rfl, HGo, ⟨grown_refl _ _⟩⟩
        case round =>
          obtain ⟨t, ht, rfl, HGq, HW⟩ := hrel
          have HOq := Aside0.mk (HGo.out.keeps HW.out HO.out (by decide))
          by_cases hlt : t < j
          · have htl : t < ((fr f m a.toNat).take j).length := by rw [List.length_take]; omega
            obtain ⟨y, hy⟩ : ∃ y, y = ((fr f m a.toNat).take j)[t] := ⟨_, rfl⟩
            have hmem := fr_mem (f := f) (n := m) (a := a.toNat) (i := y) (by rw [hy]; exact List.mem_of_mem_take (List.getElem_mem htl))
            have hym := hmem.2.1
            have hrd := (rd_ints _ t htl).trans (by rw [← hy])
            obtain ⟨hq1, hq2, hcc⟩ := Kd.R_reads' HOq.out
            obtain ⟨ad, ead, hcell⟩ := Kd.at_int hcc (t : Int) (by omega) (by rw [ints_len]; omega)
            cases ead
            rw [hrd, Int.toNat_natCast] at hcell
            have hsn : updL f ((fr f m a.toNat).take (t + 1)) = upd (updL f ((fr f m a.toNat).take t)) y true := by
              have e1 : (fr f m a.toNat).take (t + 1) = (fr f m a.toNat).take t ++ [y] := by
                rw [List.take_succ_eq_append_getElem (by omega), hy, List.getElem_take]
              rw [e1, updL_append]
              rfl
            have HSN := Aside0.mk hsn
            have HPt := Aside0.mk (put_set _ base g b m (y : Int) _ HGq.out (by omega) (by omega) (by omega))
            clear hy hrd hcc htl hmem hsn hq1 hq2
            go_wp2_with (go_at_call 14; refine HPt.out.mono ?_; rintro e w1 ⟨rfl, hg1, hg2⟩; rw [Int.toNat_natCast, ← HSN.out] at hg1; have HG1 := Aside0.mk hg1; have HG2 := Aside0.mk hg2; clear hg1 hg2)
            go_roundw
            case rel => exact ⟨t + 1, by omega, by go_num, HG1, ⟨grown_trans HW.out HG2.out⟩⟩
            case measure => simp [intOf]; omega
          · have htj : t = j := by omega
            subst htj
            go_wp2
            go_ret2
            exact .inl ⟨by omega, _, rfl, HOq.out, HGq.out, below_grown_trans HB.out HW.out⟩
end Go.Proofs.Ytmjbjfjmadkjkaa.G
