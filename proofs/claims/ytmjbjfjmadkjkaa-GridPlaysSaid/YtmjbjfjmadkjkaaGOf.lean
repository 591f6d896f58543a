/- Of: the grid that a block's body is. -/
import Derived.Test.YtmjbjfjmadkjkaaGCopy
import Derived.Lib.LazyBuf
namespace Go.Proofs.Ytmjbjfjmadkjkaa.G
open Go.RowKit Go.Proofs.YtmjbjfjmadkjkaaW.PrintWords Go.Proofs.YtmjbjfjmadkjkaaW.PrintLast Go.Proofs.YtmjbjfjmadkjkaaW.PrintMore
attribute [local go_sem] max2_int min2_int max_two min_two max_three min_three max_four min_four
set_option linter.unusedSimpArgs false
set_option linter.unusedVariables false

/-- Bit i of a text. -/
def bitsOf (s : ByteArray) (i : Nat) : Bool := (s.data.toList.getD (i / 8) 0).toNat / 2 ^ (i % 8) % 2 == 1
theorem bytesOf_len (s : ByteArray) : (bytesOf s).length = s.size := by
  simp [bytesOf]
theorem byts_bitsOf (s : ByteArray) (h : s.size = 448) : bytesOf s = byts (bitsOf s) := by
  apply List.ext_getElem?
  intro j
  by_cases hj : j < 448
  · simp only [byts, List.getElem?_map, List.getElem?_range hj, Option.map_some, bytesOf]
    have hl : j < s.data.toList.length := by
      have : s.data.toList.length = s.size := by simp
      omega
    rw [List.getElem?_eq_getElem hl, Option.map_some]
    congr 1
    have hx := B8_of (s.data.toList[j]).toNat (s.data.toList[j]).toNat_lt
    rw [hx]
    congr 1
    refine B8_congr fun k hk => ?_
    unfold bitsOf
    rw [show (8 * j + k) / 8 = j by omega, show (8 * j + k) % 8 = k by omega]
    simp [List.getD_eq_getElem?_getD, List.getElem?_eq_getElem hl]
  · rw [List.getElem?_eq_none (by rw [bytesOf_len]; omega), List.getElem?_eq_none (by rw [byts_length]; omega)]

theorem setCells_grown {w : World} {b : Nat} {vs : List Value} {o : Nat} : w.grownBy (w.setCells b o vs) (some b) := by
  obtain ⟨h1, h2, h3, h4⟩ := setCells_same b vs o w
  exact ⟨h1, h2, h3, by omega, fun k _ hk => setCells_far vs o k (fun e => hk (by rw [e]))⟩

/-- All of a grid's bytes are written. -/
theorem Gr.fill {w : World} {base g b : Nat} {n : Int} {bs : List Int} (h : Gr w base g b n bs) (s : ByteArray) (hs : s.size = 448) :
    Gr (w.setCells b 0 (s.data.toList.map fun x => Value.int .u8 (x.toNat : Int))) base g b n (bytesOf s) := by
  have hne := h.ne
  have hl := h.len
  obtain ⟨cap, e1, e2, e3⟩ := h
  refine ⟨cap, (setCells_far _ _ _ hne).trans e1, e2, ?_⟩
  have ho := Kd.own_of_R e3
  rw [hl] at ho
  obtain ⟨p1, p2⟩ := ho
  rcases p2 with ⟨hz, _⟩ | ⟨g', cap', cur, hv, hb, hh, hnc, hcm, hcs, ht⟩
  · cases hz
  injection hv with ha hn' hc
  injection ha with ha
  injection ha with hg'
  subst hg' hc
  have hvl : (s.data.toList.map fun x => Value.int .u8 (x.toNat : Int)).length = 448 := by
    rw [List.length_map]
    have : s.data.toList.length = s.size := by simp
    omega
  obtain ⟨cur', q1, q2, q3⟩ := setCells_row (s.data.toList.map fun x => Value.int .u8 (x.toNat : Int)) 0 w cur hh (by rw [hvl]; omega)
  refine Kd.R_of_own (h1 := fun _ => rfl) (enc := Value.int .u8) ?_ (fun _ _ => trivial)
  have hbl : (bytesOf s).length = 448 := (bytesOf_len s).trans hs
  rw [hbl]
  refine ⟨by simp [encs, hbl], .inr ⟨b, cap, cur', rfl, hb, q1, hnc, hcm, by rw [q2, hcs], ?_⟩⟩
  rw [q3, List.take_zero, List.nil_append]
  have : List.take (448 * 1) ((s.data.toList.map fun x => Value.int .u8 (x.toNat : Int)) ++ cur.toList.drop (0 + (s.data.toList.map fun x => Value.int .u8 (x.toNat : Int)).length)) = s.data.toList.map fun x => Value.int .u8 (x.toNat : Int) := by
    have h448 : 448 * 1 = (s.data.toList.map fun x => Value.int .u8 (x.toNat : Int)).length := by rw [hvl]
    rw [h448, List.take_left]
  rw [this]
  simp [encs, bytesOf, Function.comp_def]

theorem Gr.bge {w : World} {base g b : Nat} {n : Int} {bs : List Int} (h : Gr w base g b n bs) : base ≤ b := by
  obtain ⟨cap, e1, e2, e3⟩ := h
  exact Kd.R_base e3 b rfl
theorem sizeOf5 : ∀ w, (Go.sizeOf 5).run Try.prog w = .ok 1 w := fun w => by kernel_rfl

/-- Why Of refuses; 0: it doesn't. -/
theorem of_new_bad (w : World) (s : ByteArray) (n : Int) (h : n < 0 ∨ 3584 < n) :
    Calls Try.prog 24 #[.string s, .int .i64 n] w fun e w' => e = .returned (.tuple #[.pointer none, .int .i64 1]) ∧ w = w' := by
  have HN := Aside0.mk (new_no w n h)
  clear h
  go_enter Try.func24, Try.ntmps24
  go_wp2_with (go_at_call 18; refine HN.out.mono ?_; rintro e w' ⟨rfl, rfl⟩)
  go_ret2
  exact ⟨rfl, rfl⟩

theorem of_size_bad (w : World) (s : ByteArray) (n : Int) (h0 : 0 ≤ n) (h1 : n ≤ 3584) (hs : s.size ≠ 448) :
    Calls Try.prog 24 #[.string s, .int .i64 n] w fun e w' => e = .returned (.tuple #[.pointer none, .int .i64 1]) ∧ Below w.heap.size w w' := by
  have HN := Aside0.mk (new_yes w n h0 h1)
  have hsb : ((s.size : Int) != 448) = true := by simp; omega
  clear hs
  go_enter Try.func24, Try.ntmps24
  go_wp2_with (go_at_call 18; refine HN.out.mono ?_; rintro e w1 ⟨g, b, rfl, hg, hb⟩; have HB := Aside0.mk hb; clear hg hb)
  go_ret2
  exact ⟨rfl, HB.out⟩

theorem copy_run (w : World) {ops : Array Oper} {rest : List Oper} {o : Oper} {a : Act} {Q : Exit → Act → World → Prop} (hgd : o.guard = none) (d x : Operand) (t t' : TypeId)
    (ho : o.op = .call { callee := .builtin .copy, args := #[d, x], argTypes := #[t, t'] }) (v u : Value) (hd : a.eval d = v) (hs : a.eval x = u) {v' : Value} {w' : World}
    (hr : (Builtin.copy_ #[t, t'] o.type #[v, u]).run Try.prog w = .ok v' w') (h : wpList Try.prog ops Q rest (a.put o.dst v') w') : wpList Try.prog ops Q (o :: rest) a w :=
  wpList_plain hgd fun K hK => by
    unfold Oper.wp execOp
    simp only [ho, resolve, invoke, builtin, Sem.run_bind, Sem.run_pure, Result.andThen_ok, List.map_toArray, List.map_cons, List.map_nil, hd, hs, hr]
    exact hK _ _ h
/-- 'copy(g.bits, s)' over a grid. -/
theorem Gr.copy {w : World} {base g b cap : Nat} {n : Int} {bs : List Int} (h : Gr w base g b n bs) (s : ByteArray) (hs : s.size = 448) :
    (Builtin.copy_ #[58, 9] 3 #[.slice (some ⟨b, 0, none⟩) 448 cap, .string s]).run Try.prog w = .ok (goInt s.size) (w.setCells b 0 (s.data.toList.map fun x => Value.int .u8 (x.toNat : Int))) := by
  obtain ⟨cap', c0, c1, c2⟩ := h.cells
  refine run_copy_string w 58 9 3 5 b 0 448 cap s Try.underlying58 sizeOf5 (by omega) (fun j hj => ?_) (fun j hj => ?_)
  · have := (c2 (j : Int) (by omega) (by omega)).1
    rw [Int.toNat_natCast] at this
    rw [Nat.zero_add, this]
    rfl
  · have := (c2 (j : Int) (by omega) (by omega)).2
    rw [Int.toNat_natCast] at this
    rw [Nat.zero_add, this]

def OfR (w : World) (s : ByteArray) (n : Int) (e : Ending) (w' : World) : Prop :=
  Below w.heap.size w w' ∧ ((∃ i, n.toNat ≤ i ∧ i < 3584 ∧ bitsOf s i = true) ∧ e = .returned (.tuple #[.pointer none, .int .i64 5]) ∨
    (∀ i, n.toNat ≤ i → i < 3584 → bitsOf s i = false) ∧ ∃ g b, e = .returned (.tuple #[.pointer (some ⟨g, 0, none⟩), .int .i64 0]) ∧ Gr w' w.heap.size g b n (byts (bitsOf s)))

set_option maxRecDepth 100000 in
set_option maxHeartbeats 4000000 in
theorem of_ok (w : World) (s : ByteArray) (n : Int) (h0 : 0 ≤ n) (h1 : n ≤ 3584) (hs : s.size = 448) :
    Calls Try.prog 24 #[.string s, .int .i64 n] w (OfR w s n) := by
  have HN := Aside0.mk (new_yes w n h0 h1)
  have HSZ := Aside0.mk hs
  have hsb : ((s.size : Int) != 448) = false := by simp; omega
  clear hs
  obtain ⟨m, rfl⟩ := Int.eq_ofNat_of_zero_le h0
  go_enter Try.func24, Try.ntmps24
  go_wp2_with (first | (go_at_call 18; refine HN.out.mono ?_; rintro e w1 ⟨g, b, rfl, hg, hb⟩; have HB := Aside0.mk hb; have HG := Aside0.mk hg; have hcl := hg.cells; obtain ⟨cap, c0, c1, c2⟩ := hcl; clear hg hb c2) | ((with_reducible refine gate_builtin (b := .copy) (xs := #[.tmp 24, .tmp 25]) rfl ?_); refine copy_run _ rfl (.tmp 24) (.tmp 25) 58 9 rfl (.slice (some ⟨b, 0, none⟩) 448 cap) (.string s) rfl rfl (HG.out.copy s HSZ.out) ?_; have HG2 := Aside0.mk (HG.out.fill s HSZ.out); have HW := Aside0.mk (setCells_grown (w := w1) (b := b) (o := 0) (vs := s.data.toList.map fun x => Value.int .u8 (x.toNat : Int))); generalize w1.setCells b 0 (s.data.toList.map fun x => Value.int .u8 (x.toNat : Int)) = w2 at HG2 HW ⊢; clear c0 c1))
  have HBe := Aside0.mk (HB.out.grown HW.out HB.out.size (fun k hk => by injection hk with hk; rw [← hk]; exact HG.out.bge))
  have hg2 := HG2.out
  rw [byts_bitsOf s HSZ.out] at hg2
  have HG3 := Aside0.mk hg2
  clear hg2 HG2
  go_loop [8] (fun i => ∃ k : Nat, m ≤ k ∧ k ≤ 3584 ∧ i = .int .i64 k ∧ Aside0 (∀ j, m ≤ j → j < k → bitsOf s j = false)) (fun i => 3584 - (intOf i).toNat)
  case atStart => exact ⟨m, Nat.le_refl _, by omega, rfl, ⟨fun j hj hjk => by omega⟩⟩
  case round =>
    obtain ⟨k, hmk, hk, rfl, HN2⟩ := hrel
    by_cases hlt : k < 3584
    · have hat := at_calls w2 _ g b m (k : Int) _ HG3.out (by omega) (by omega)
      rw [Int.toNat_natCast] at hat
      cases hf : bitsOf s k with
      | true =>
        rw [hf] at hat
        have HA := Aside0.mk hat
        have HF := Aside0.mk hf
        clear hat hf
        go_wp2_with (go_at_call 31; refine HA.out.mono ?_; rintro e w' ⟨rfl, rfl⟩)
        go_ret2
        unfold OfR
        exact ⟨HBe.out, .inl ⟨⟨k, by omega, hlt, HF.out⟩, rfl⟩⟩
      | false =>
        rw [hf] at hat
        have HA := Aside0.mk hat
        have HF := Aside0.mk hf
        clear hat hf
        go_wp2_with (go_at_call 31; refine HA.out.mono ?_; rintro e w' ⟨rfl, rfl⟩)
        go_round
        case rel => exact ⟨k + 1, by omega, by omega, by go_num, ⟨fun j hj hjk => by
          by_cases hjk' : j = k
          · rw [hjk']; exact HF.out
          · exact HN2.out j hj (by omega)⟩⟩
        case measure => simp [intOf]; omega
    · have hk2 : k = 3584 := by omega
      subst hk2
      go_wp2
      go_ret2
      unfold OfR
      exact ⟨HBe.out, .inr ⟨fun j hj hjk => HN2.out j (by omega) hjk, g, b, rfl, HG3.out⟩⟩
end Go.Proofs.Ytmjbjfjmadkjkaa.G
