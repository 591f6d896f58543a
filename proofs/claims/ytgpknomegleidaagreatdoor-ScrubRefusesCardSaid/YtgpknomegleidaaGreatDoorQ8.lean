/- The scrub texts, part Q8: walks through the code that the law reaches. -/
import Derived.Test.YtgpknomegleidaaGreatDoorQ7
import Derived.Deep.Cut
namespace Go.Proofs.YtgpknomegleidaaGreatDoor.T
open Go.RowKit Go.Proofs.YtgpknomegleidaaGreatDoorW.PrintWords Go.Proofs.YtgpknomegleidaaGreatDoorW.PrintLast Go.Proofs.YtgpknomegleidaaGreatDoorW.PrintMore Go.Proofs.YtgpknomegleidaaGreatDoor.PAll
set_option linter.unusedSimpArgs false
set_option linter.unusedVariables false

theorem fnd_all (live at0 : Nat) (h0 : 27 ≤ at0) : ∀ k, at0 + k ≤ live → (fnd (fromTo live) (fun _ => 21) at0 k).length = k
  | 0, _ => rfl
  | k + 1, h => by
    rw [fnd, List.length_append, fnd_all live at0 h0 k (by omega), if_pos ⟨decide_eq_true ⟨by omega, by omega⟩, by decide⟩]
    rfl
theorem flatQ_at (q : Value) : ∀ (fs : List S46) (j : Nat), (fs.flatMap encQ)[j]? = some q → ∃ x, fs[j / 4]? = some x ∧ (encQ x)[j % 4]? = some q
  | [], j, h => by cases h
  | x :: r, j, h => by
    rw [List.flatMap_cons] at h
    by_cases hj : j < 4
    · rw [List.getElem?_append_left (by exact hj)] at h
      exact ⟨x, by rw [Nat.div_eq_of_lt hj]; rfl, by rw [Nat.mod_eq_of_lt hj]; exact h⟩
    · rw [List.getElem?_append_right (by show 4 ≤ j; omega)] at h
      obtain ⟨y, h1, h2⟩ := flatQ_at q r (j - 4) h
      refine ⟨y, ?_, ?_⟩
      · rw [show j / 4 = (j - 4) / 4 + 1 by omega]
        exact h1
      · rw [show j % 4 = (j - 4) % 4 by omega]
        exact h2
theorem flatQ_len : ∀ fs : List S46, (fs.flatMap encQ).length = fs.length * 4
  | [] => rfl
  | x :: r => by
    rw [List.flatMap_cons, List.length_append, flatQ_len r, List.length_cons]
    show 4 + _ = _
    omega
theorem cells_of {w : World} {A : Option Addr} {fs : List S46} (h : Kd.C k46 w A fs.length fs) (ad : Addr) (ea : A = some ad) (j : Nat) (q : Value) (hq : (fs.flatMap encQ)[j]? = some q) : w.cell? (ad.add j) = some q := by
  obtain ⟨x, h1, h2⟩ := flatQ_at q fs j hq
  have hl := (List.getElem?_eq_some_iff.1 h1).1
  obtain ⟨ad', e, hc⟩ := h.2.2 (by omega)
  rw [ea] at e
  cases e
  obtain ⟨cs, c1, c2, c3⟩ := hc _ _ h1
  have c4 := k46_open c2
  subst c4
  have := c3 (j % 4) q h2
  rw [show j / 4 * _ + j % 4 = j by show j / 4 * 4 + j % 4 = j; omega] at this
  exact this
theorem cells_take {w : World} {A : Option Addr} {fs : List S46} {m : Nat} (h : Kd.C k46 w A fs.length fs) (hm : m ≤ fs.length) : Kd.C k46 w A (fs.take m).length (fs.take m) := by
  have hl : (fs.take m).length = m := by rw [List.length_take]; omega
  refine ⟨rfl, by have := h.2.1; omega, fun hn => ?_⟩
  obtain ⟨ad, e, hc⟩ := h.2.2 (by omega)
  refine ⟨ad, e, fun j p hj => hc j p ?_⟩
  rw [List.getElem?_take] at hj
  split at hj
  · exact hj
  · cases hj
def okS (live at_ n : Int) : Bool := rightR live at_ && decide (0 ≤ n)
abbrev imgZ : Value := .agg #[.slice none 0 0, .slice none 0 0]
def StepQ (live at_ n : Int) (l : Nat) (w : World) (e : Ending) (w' : World) : Prop :=
  ∃ tl ta A3 l3 c3 dn f, e = .returned (.tuple #[.agg #[.int .i64 tl, .int .i64 ta, .slice A3 l3 c3], .bool dn, .int .i64 f]) ∧ (okS live at_ n = true → f = 0 ∧ (l3 : Int) - (l : Int) = ta - at_ ∧ l3 ≤ 2000 ∧ 0 ≤ ta ∧ ta ≤ 1024) ∧ (okS live at_ n = false → f = 1 ∧ dn = false ∧ tl = 0 ∧ ta = 0 ∧ l3 = 0) ∧ Below w.heap.size w w'
theorem used_none (w : World) (v : Value) (live : Nat) (h1 : 48 ≤ live) (h2 : live ≤ 1024) : Calls Tryz.prog 14 #[v, .int .i64 (live : Int), imgZ] w (ScUsedP w live (fromTo live)) :=
  used_g w v live h1 h2 none none 0 0 0 0 readZ (fromTo live) (fun W _ => look_none W v 27) (.inl ⟨rfl, rfl⟩)
theorem step_any (w : World) (v : Value) (A : Option Addr) (c : Nat) (fs : List S46) (live at_ n : Int) (hr : Kd.C k46 w A fs.length fs) (hl : fs.length ≤ 100) (hc : A = none → fs.length = 0 ∧ c = 0) (hn : n ≤ 9223372036854775807) :
    Calls Tryz.prog 6 #[v, imgZ, .agg #[.int .i64 live, .int .i64 at_, .slice A fs.length c], .int .i64 n] w (StepQ live at_ n fs.length w) := by
  by_cases h : okS live at_ n = true
  · have h' := h
    unfold okS rightR at h
    rw [Bool.and_eq_true, decide_eq_true_eq, decide_eq_true_eq] at h
    obtain ⟨⟨a1, a2, a3, a4⟩, a5⟩ := h
    obtain ⟨lv, rfl⟩ := Int.eq_ofNat_of_zero_le (show 0 ≤ live by omega)
    obtain ⟨a0, rfl⟩ := Int.eq_ofNat_of_zero_le (show 0 ≤ at_ by omega)
    obtain ⟨m, rfl⟩ := Int.eq_ofNat_of_zero_le a5
    refine (step_g w v none none A 0 0 0 0 fs.length c lv a0 m (fromTo lv) (fun _ => 21) (fun _ => 255) (fs.flatMap encQ) (by omega) (by omega) (by omega) (by omega) (by omega) hc (by omega) (flatQ_len fs) (fun q hq => ?_) (fun ad ea j q hq => cells_of hr ad ea j q hq) (fun W _ => used_none W v lv (by omega) (by omega)) (fun a _ _ W _ => class_none W v a) (fun a _ _ _ W _ => (at_none W a).mono fun e w' he => ⟨⟨_, he.1⟩, he.2⟩)).mono ?_
    · obtain ⟨x, _, hx⟩ := List.mem_flatMap.1 hq
      simp only [encQ, List.mem_cons, List.not_mem_nil, or_false] at hx
      rcases hx with rfl | rfl | rfl | rfl <;> rfl
    · rintro e w' ⟨vb, rfl, ho, hb⟩
      obtain ⟨A3, c3, e3⟩ := own_sliceN ho
      subst e3
      refine ⟨_, _, A3, _, c3, _, _, rfl, fun _ => ⟨rfl, ?_, ?_, ?_, ?_⟩, fun hf => ?_, hb⟩
      · rw [fnd_all lv a0 (by omega) _ (by omega)]
        omega
      · rw [fnd_all lv a0 (by omega) _ (by omega)]
        omega
      · omega
      · omega
      · rw [h'] at hf
        cases hf
  · have hf : okS live at_ n = false := by
      cases hq : okS live at_ n with
      | false => rfl
      | true => exact absurd hq h
    have hbad : rightR live at_ = false ∨ n < 0 := by
      unfold okS at hf
      rcases Bool.and_eq_false_iff.1 hf with q | q
      · exact .inl q
      · exact .inr (by have := of_decide_eq_false q; omega)
    refine (step_bad w v none none A 0 0 0 0 fs.length c live at_ n hbad).mono ?_
    rintro e w' ⟨rfl, hb⟩
    exact ⟨0, 0, none, 0, 0, false, 1, rfl, fun q => absurd q h, fun _ => ⟨rfl, rfl, rfl, rfl, rfl⟩, hb⟩
def errL (live : Int) : Int := if live < 48 ∨ 1024 < live then 1 else 0
theorem whole_any (w : World) (v : Value) (live : Int) :
    Calls Tryz.prog 9 #[v, .int .i64 live, imgZ] w fun e w' => (∃ A l c, e = .returned (.tuple #[.slice A l c, .int .i64 (errL live)])) ∧ Below w.heap.size w w' := by
  by_cases h : live < 48 ∨ 1024 < live
  · refine (whole_bad w v none none 0 0 0 0 live h).mono ?_
    rintro e w' ⟨rfl, hb⟩
    exact ⟨⟨none, 0, 0, by rw [errL, if_pos h]⟩, hb⟩
  · obtain ⟨lv, rfl⟩ := Int.eq_ofNat_of_zero_le (show 0 ≤ live by omega)
    refine (whole_g w v none none 0 0 0 0 lv (fromTo lv) (fun _ => 21) (fun _ => 255) (by omega) (by omega) (fun W _ => used_none W v lv (by omega) (by omega)) (fun a _ _ W _ => class_none W v a) (fun a _ _ _ W _ => (at_none W a).mono fun e w' he => ⟨⟨_, he.1⟩, he.2⟩)).mono ?_
    rintro e w' ⟨vb, rfl, ho, hb⟩
    obtain ⟨A3, c3, e3⟩ := own_sliceN ho
    subst e3
    exact ⟨⟨A3, _, c3, by rw [errL, if_neg h]⟩, hb⟩
theorem start_any (w : World) (live : Int) :
    Calls Tryz.prog 8 #[.int .i64 live] w fun e w' => (∃ a b, e = .returned (.tuple #[.agg #[.int .i64 a, .int .i64 b, .slice none 0 0], .int .i64 (errL live)])) ∧ Below w.heap.size w w' := by
  refine (start_c live w).mono ?_
  rintro e w' ⟨rfl, hb⟩
  by_cases h : live < 48 ∨ 1024 < live
  · exact ⟨⟨_, _, by rw [startR_bad h, errL, if_pos h]⟩, hb⟩
  · exact ⟨⟨live, 27, by rw [startR, if_neg h, errL, if_neg h]⟩, hb⟩
theorem rlay_any (w : World) (live : Int) :
    Calls Tryz.prog 5 #[.int .i64 live] w fun e w' => (∃ b0 b1 b2 b3 b4 b5 b6 b7 b8 b9 b10 b11 b12 b13 b14 b15 : Int, e = .returned (.tuple #[.agg #[.int .i64 b0, .int .i64 b1, .int .i64 b2, .int .i64 b3, .int .i64 b4, .int .i64 b5, .int .i64 b6, .int .i64 b7, .int .i64 b8, .int .i64 b9, .int .i64 b10, .int .i64 b11, .int .i64 b12, .int .i64 b13, .int .i64 b14, .int .i64 b15], .int .i64 (errL live)]) ∧ (errL live = 0 → b3 = 27)) ∧ Below w.heap.size w w' := by
  by_cases h : live < 48 ∨ 1024 < live
  · refine (rlay_bad live h w).mono ?_
    rintro e w' ⟨rfl, hb⟩
    refine ⟨⟨0, 0, 0, 0, 0, 0, 0, 0, 0, 0, 0, 0, 0, 0, 0, 0, by rw [errL, if_pos h]; rfl, fun q => ?_⟩, hb⟩
    rw [errL, if_pos h] at q
    cases q
  · refine (rlay_ok live (by omega) (by omega) w).mono ?_
    rintro e w' ⟨a6, a7, a8, a9, a10, a11, a12, a13, a14, a15, rfl, hb⟩
    exact ⟨⟨live, 2, 3, 27, 28, 29, a6, a7, a8, a9, a10, a11, a12, a13, a14, a15, by rw [errL, if_neg h]; rfl, fun _ => rfl⟩, hb⟩
end Go.Proofs.YtgpknomegleidaaGreatDoor.T
namespace Go.Proofs.YtgpknomegleidaaGreatDoor.T
open Go.RowKit Go.Proofs.YtgpknomegleidaaGreatDoorW.PrintWords Go.Proofs.YtgpknomegleidaaGreatDoorW.PrintLast Go.Proofs.YtgpknomegleidaaGreatDoorW.PrintMore Go.Proofs.YtgpknomegleidaaGreatDoor.PAll
set_option linter.unusedSimpArgs false
set_option linter.unusedVariables false

theorem errL_two (live : Int) : errL live = 0 ∨ errL live = 1 := by
  unfold errL
  split
  · exact .inr rfl
  · exact .inl rfl
theorem okS_of {live at_ n : Int} {b : Bool} (h0 : errL live = 0) (h : (27 ≤ at_ ∧ at_ ≤ live ∧ 0 ≤ n) ↔ b = true) : okS live at_ n = b := by
  have hl : 48 ≤ live ∧ live ≤ 1024 := by
    unfold errL at h0
    split at h0
    · cases h0
    · omega
  unfold okS rightR
  rw [Bool.eq_iff_iff, Bool.and_eq_true, decide_eq_true_eq, decide_eq_true_eq, ← h]
  constructor
  · rintro ⟨⟨_, _, h1, h2⟩, h3⟩
    exact ⟨h1, h2, h3⟩
  · rintro ⟨h1, h2, h3⟩
    exact ⟨⟨hl.1, hl.2, h1, h2⟩, h3⟩
theorem okS_bad {live at_ n : Int} (h0 : errL live = 1) : okS live at_ n = false := by
  have hl : live < 48 ∨ 1024 < live := by
    unfold errL at h0
    split at h0
    · assumption
    · cases h0
  unfold okS rightR
  rw [decide_eq_false (by omega), Bool.false_and]
theorem infoScr3 : (Tryz.prog.info? 24).map (·.size) = some 3 := by kernel_rfl
structure LS where
  v : Nat
  tl : Int
  ta : Int
  f : Int
  dn : Bool
  A3 : Option Addr
  l3 : Nat
  c3 : Nat
  g8 : Nat
def LFact (w : World) (B : Nat) (live at_ n : Int) (l : Nat) (A2 : Option Addr) (c2 : Nat) (s : LS) (w' : World) : Prop :=
  (okS live at_ n = true → s.f = 0 ∧ (s.l3 : Int) - (l : Int) = s.ta - at_ ∧ s.l3 ≤ 2000 ∧ 0 ≤ s.ta ∧ s.ta ≤ 1024) ∧ (okS live at_ n = false → s.f = 1 ∧ s.dn = false ∧ s.tl = 0 ∧ s.ta = 0 ∧ s.l3 = 0) ∧
  w'.heap[s.g8]? = some (.cells #[.int .i64 0, .int .i64 0, .slice none 0 0] 24 (0, 0)) ∧ w'.heap[B]? = some (.cells #[.int .i64 live, .int .i64 at_, .slice A2 l c2] 24 (0, 0)) ∧ w.heap.size ≤ s.g8 ∧ B < s.g8 ∧ Below w.heap.size w w'
structure LQ (w wq : World) (B g8 : Nat) (live at_ tl ta : Int) (A2 A3 : Option Addr) (l2 c2 l3 c3 : Nat) : Prop where
  s : wq.heap[B]? = some (.cells #[.int .i64 live, .int .i64 at_, .slice A2 l2 c2] 24 (0, 0))
  t : wq.heap[g8]? = some (.cells #[.int .i64 tl, .int .i64 ta, .slice A3 l3 c3] 24 (0, 0))
  bel : Below w.heap.size w wq
theorem LQ.below {w wq w' : World} {B g8 : Nat} {live at_ tl ta : Int} {A2 A3 : Option Addr} {l2 c2 l3 c3 : Nat} (h : LQ w wq B g8 live at_ tl ta A2 A3 l2 c2 l3 c3) (hb : Below wq.heap.size wq w') : LQ w w' B g8 live at_ tl ta A2 A3 l2 c2 l3 c3 :=
  ⟨blk_below h.s hb, blk_below h.t hb, below_then h.bel h.bel.size hb⟩
theorem storeZ {w wk : World} {B g8 base : Nat} {live at_ tl ta : Int} {A2 A3 : Option Addr} {l2 c2 l3 c3 : Nat} (hn : wk.heap[g8]? = some (.cells #[.int .i64 0, .int .i64 0, .slice none 0 0] 24 (0, 0))) (hg : base ≤ g8) (hB : B < g8)
    (hs : wk.heap[B]? = some (.cells #[.int .i64 live, .int .i64 at_, .slice A2 l2 c2] 24 (0, 0))) (hb : Below base w wk) :
    (wk.setCells g8 0 [.int .i64 tl, .int .i64 ta, .slice A3 l3 c3]).heap[g8]? = some (.cells #[.int .i64 tl, .int .i64 ta, .slice A3 l3 c3] 24 (0, 0)) ∧
    (wk.setCells g8 0 [.int .i64 tl, .int .i64 ta, .slice A3 l3 c3]).heap[B]? = some (.cells #[.int .i64 live, .int .i64 at_, .slice A2 l2 c2] 24 (0, 0)) ∧ Below base w (wk.setCells g8 0 [.int .i64 tl, .int .i64 ta, .slice A3 l3 c3]) := by
  have g1 := Lib.grownBy_setCell wk g8 0 (.int .i64 tl)
  have g2 := Lib.grownBy_setCell (wk.setCell ⟨g8, 0, none⟩ (.int .i64 tl)) g8 1 (.int .i64 ta)
  have g3 := Lib.grownBy_setCell ((wk.setCell ⟨g8, 0, none⟩ (.int .i64 tl)).setCell ⟨g8, 1, none⟩ (.int .i64 ta)) g8 2 (.slice A3 l3 c3)
  have g := (g1.trans g2).trans g3
  refine ⟨blk_put (blk_put (blk_put hn 0 _ rfl) 1 _ rfl) 2 _ rfl, ?_, ?_⟩
  · exact blk_grown hs g (by intro e; injection e with e; omega)
  · exact ((hb.setCell (p := ⟨g8, 0, none⟩) hg _).setCell (p := ⟨g8, 1, none⟩) hg _).setCell (p := ⟨g8, 2, none⟩) hg _
set_option maxHeartbeats 8000000 in
set_option maxRecDepth 100000 in
theorem ref_law (fs : List S46) (A : Option Addr) (c : Nat) (live at_ n : Int) (w : World) (hr : Kd.C k46 w A fs.length fs) (hlc : fs.length ≤ c) (hnc : A = none → c = 0) (hn : n ≤ 9223372036854775807) :
    Calls Tryz.prog 3 #[.agg #[.int .i64 live, .int .i64 at_, .slice A fs.length c], .int .i64 n] w fun e w' => e = .returned (.bool true) ∧ Below w.heap.size w w' := by
  have hu24 := Tryz.underlying24
  have hu26 := Tryz.underlying26
  have hu37 := Tryz.underlying37
  have hb1 := below_alloc (Below.refl w.heap.size w) (.cells #[.int .i64 live, .int .i64 at_, .slice A fs.length c] 24 (0, 0))
  have HX := Aside0.mk (heap_alloc_new w (.cells #[.int .i64 live, .int .i64 at_, .slice A fs.length c] 24 (0, 0)))
  have HB := Aside0.mk hb1
  have HR := Aside0.mk (And.intro hr (And.intro hlc (And.intro hnc hn)))
  clear hr hlc hnc hn hb1
  go_enter Tryz.func3, Tryz.ntmps3
  go_upto_region 1 with fail
  obtain ⟨B, hB⟩ : ∃ B, B = w.heap.size := ⟨_, rfl⟩
  generalize w.alloc (.cells #[.int .i64 live, .int .i64 at_, .slice A fs.length c] 24 (0, 0)) = w1 at HX HB ⊢
  have HBB := Aside0.mk hB
  rw [← hB] at HX ⊢
  clear hB
  go_cut [5, 6] from 15 (fun s5 s6 wx => ∃ (g : Nat) (b3 : Int), s5 = .pointer (some ⟨g, 0, none⟩) ∧ s6 = .int .i64 (errL live) ∧ Aside0 (wx.cell? ⟨g, 3, none⟩ = some (.int .i64 b3) ∧ (errL live = 0 → b3 = 27) ∧ wx.heap[B]? = some (.cells #[.int .i64 live, .int .i64 at_, .slice A fs.length c] 24 (0, 0)) ∧ Below w.heap.size w wx))
  case first =>
    have s0 : w1.cell? ⟨B, 0, none⟩ = some (.int .i64 live) := (blk_cell HX.out 0).trans rfl
    go_wp2_with fail
    refine (rlay_any w1 live).mono ?_
    rintro e w2 ⟨⟨b0, b1, b2, b3, b4, b5, b6, b7, b8, b9, b10, b11, b12, b13, b14, b15, rfl, h27⟩, hb⟩
    have HX2 := Aside0.mk (blk_below HX.out hb)
    have HB2 := Aside0.mk (below_then HB.out HB.out.size hb)
    have H27 := Aside0.mk h27
    clear hb h27 s0 HX HB
    go_wp2_with (first | ((with_reducible refine gate_dst (N := 5) rfl ?_); refine box_event ?hg (N := 5) ?hd (cs := (#[.int .i64 0, .int .i64 0, .int .i64 0, .int .i64 0, .int .i64 0, .int .i64 0, .int .i64 0, .int .i64 0, .int .i64 0, .int .i64 0, .int .i64 0, .int .i64 0, .int .i64 0, .int .i64 0, .int .i64 0, .int .i64 0] : Array Value)) (t := 26) ?hr ?_; (case hd => rfl); (case hg => rfl); (case hr => first | (go_simp; done) | (go_simp; rfl)); intro gb hgb w5 hbox hb; have HL := Aside0.mk hbox; have HV := Aside0.mk hb; have HGB := Aside0.mk (Nat.le_of_eq hgb.symm : w2.heap.size ≤ gb); clear hgb hbox hb) | ((with_reducible refine gate_store (t := 26) rfl ?_); refine store_at rfl _ _ _ rfl gb 0 26 _ ([.int .i64 b0, .int .i64 b1, .int .i64 b2, .int .i64 b3, .int .i64 b4, .int .i64 b5, .int .i64 b6, .int .i64 b7, .int .i64 b8, .int .i64 b9, .int .i64 b10, .int .i64 b11, .int .i64 b12, .int .i64 b13, .int .i64 b14, .int .i64 b15] : List Value) infoLay HL.out (Nat.le_of_ble_eq_true rfl) (by first | (go_simp; done) | (go_simp; rfl)) (by first | (go_simp; done) | (go_simp; rfl)) (by intro u hu; simp only [List.mem_cons, List.not_mem_nil, or_false] at hu; rcases hu with rfl | rfl | rfl | rfl | rfl | rfl | rfl | rfl | rfl | rfl | rfl | rfl | rfl | rfl | rfl | rfl <;> rfl) ?_; intro w6 hs hgr; have HC3 : Aside0 (w6.cell? ⟨gb, 3, none⟩ = some (.int .i64 b3)) := ⟨(blk_cell hs 3).trans rfl⟩; have HW6 := Aside0.mk (HV.out.grown hgr HV.out.size (fun k hk => by injection hk with hk; rw [← hk]; exact HGB.out)); clear HL HV HGB hs hgr))
    go_meet
    case rel => exact ⟨gb, b3, rfl, rfl, ⟨HC3.out, H27.out, blk_below HX2.out HW6.out, below_then HB2.out HB2.out.size HW6.out⟩⟩
  case rest =>
    obtain ⟨g, b3, rfl, rfl, HC⟩ := hcut
    clear HX HB
    go_upto_region 2 with fail
    go_cut [6, 7] from 15 (fun s6 s7 wx => s6 = .int .i64 (errL live) ∧ s7 = .bool (okS live at_ n) ∧ wx = wc)
    case first =>
      have s0 : wc.cell? ⟨B, 0, none⟩ = some (.int .i64 live) := (blk_cell HC.out.2.2.1 0).trans rfl
      have s1 : wc.cell? ⟨B, 1, none⟩ = some (.int .i64 at_) := (blk_cell HC.out.2.2.1 1).trans rfl
      have x3 := HC.out.1
      rcases errL_two live with h0 | h0
      · have h27 := HC.out.2.1 h0
        subst h27
        have HE := Aside0.mk h0
        rw [h0]
        clear h0
        by_cases a1 : 27 ≤ at_
        · have d1 : decide (27 ≤ at_) = true := decide_eq_true a1
          by_cases a2 : at_ ≤ live
          · have d2 : decide (at_ ≤ live) = true := decide_eq_true a2
            have HK : Aside0 (okS live at_ n = decide (0 ≤ n)) := ⟨okS_of HE.out (by rw [decide_eq_true_eq]; exact ⟨fun h => h.2.2, fun h => ⟨a1, a2, h⟩⟩)⟩
            clear a1 a2
            go_wp2_with fail
            go_meet
            case rel => exact ⟨by rw [HE.out], by rw [HK.out], rfl⟩
          · have d2 : decide (at_ ≤ live) = false := decide_eq_false a2
            have HK : Aside0 (okS live at_ n = false) := ⟨okS_of HE.out ⟨fun h => absurd h.2.1 a2, fun h => by cases h⟩⟩
            clear a1 a2
            go_wp2_with fail
            go_meet
            case rel => exact ⟨by rw [HE.out], by rw [HK.out], rfl⟩
        · have d1 : decide (27 ≤ at_) = false := decide_eq_false a1
          have HK : Aside0 (okS live at_ n = false) := ⟨okS_of HE.out ⟨fun h => absurd h.1 a1, fun h => by cases h⟩⟩
          clear a1
          go_wp2_with fail
          go_meet
          case rel => exact ⟨by rw [HE.out], by rw [HK.out], rfl⟩
      · have HK : Aside0 (okS live at_ n = false) := ⟨okS_bad h0⟩
        have HE := Aside0.mk h0
        rw [h0]
        clear h0
        go_wp2_with fail
        go_meet
        case rel => exact ⟨by rw [HE.out], by rw [HK.out], rfl⟩
    case rest =>
      obtain ⟨rfl, rfl, rfl⟩ := hcut
      have HLT : Aside0 (B < w.heap.size + 1) := ⟨by rw [HBB.out]; exact Nat.lt_succ_self _⟩
      have s2 : wc.cell? ⟨B, 2, none⟩ = some (.slice A fs.length c) := (blk_cell HC.out.2.2.1 2).trans rfl
      go_upto_if 44 with fail
      clear s2
      go_cut [] from 15 (fun wx => ∃ (gs : List S46) (A2 : Option Addr) (c2 : Nat), Aside0 (Kd.C k46 w A2 gs.length gs ∧ gs.length ≤ 100 ∧ (A2 = none → gs.length = 0 ∧ c2 = 0)) ∧ Aside0 (wx.heap[B]? = some (.cells #[.int .i64 live, .int .i64 at_, .slice A2 gs.length c2] 24 (0, 0)) ∧ Below w.heap.size w wx ∧ w.heap.size < wx.heap.size))
      case first =>
        by_cases h1 : 100 < fs.length
        · have d1 : decide (100 < (fs.length : Int)) = true := decide_eq_true (by omega)
          have d1' : decide (100 < fs.length) = true := decide_eq_true h1
          have hc := HR.out.2.1
          have q1 : ((100 : Int) ≤ (c : Int)) = True := eq_true (by omega)
          have q2 : (100 ≤ c) = True := eq_true (by omega)
          have q3 : decide ((100 : Int) ≤ (c : Int)) = true := decide_eq_true (by omega)
          have q4 : decide (100 ≤ c) = true := decide_eq_true (by omega)
          obtain ⟨ad, ea, _⟩ := HR.out.1.2.2 (by omega)
          subst ea
          have HT := Aside0.mk (cells_take HR.out.1 (show 100 ≤ fs.length by omega))
          have HTL : Aside0 ((fs.take 100).length = 100) := ⟨by rw [List.length_take]; omega⟩
          have s2 : wc.cell? ⟨B, 2, none⟩ = some (.slice (some ad) fs.length c) := (blk_cell HC.out.2.2.1 2).trans rfl
          have f2 := blk_frozen HC.out.2.2.1 2
          clear h1 hc
          rw [d1]
          go_wp2_with fail
          go_meet
          case rel =>
            refine ⟨fs.take 100, some ad, c, ⟨HT.out, by rw [HTL.out]; exact Nat.le_refl _, fun e => by cases e⟩, ⟨?_, ?_⟩⟩
            · rw [HTL.out]
              exact blk_put HC.out.2.2.1 2 _ rfl
            · exact ⟨HC.out.2.2.2.setCell (p := ⟨B, 2, none⟩) (Nat.le_of_eq HBB.out.symm) _, by rw [← HBB.out]; exact Nat.lt_of_lt_of_le (blk_lt HC.out.2.2.1) (Lib.grownBy_setCell wc B 2 _).size⟩
        · have d1 : decide (100 < (fs.length : Int)) = false := decide_eq_false (by omega)
          have d1' : decide (100 < fs.length) = false := decide_eq_false h1
          have HL : Aside0 (fs.length ≤ 100) := ⟨by omega⟩
          clear h1
          rw [d1]
          go_wp2_with fail
          go_meet
          case rel => exact ⟨fs, A, c, ⟨HR.out.1, HL.out, fun e => ⟨by have := HR.out.2.2.1 e; have := HR.out.2.1; omega, HR.out.2.2.1 e⟩⟩, ⟨HC.out.2.2.1, HC.out.2.2.2, by rw [← HBB.out]; exact blk_lt HC.out.2.2.1⟩⟩
      case rest =>
        obtain ⟨gs, A2, c2, hgs, HC'⟩ := hcut
        replace HC := Aside0.mk (And.intro HC'.out.1 HC'.out.2.1)
        clear HC'
        replace hgs := hgs.out
        go_upto_region 5 with fail
        -- REGION5
        refine start_ (n := 13) (S := fun w' => w'.heap[B]? = some (.cells #[.int .i64 live, .int .i64 at_, .slice A2 gs.length c2] 24 (0, 0))) (ds := []) #[false, false, false, false, false, false, false, false, false, false, false, false, false] (by kernel_rfl) rfl rfl (show wc.drew.heap[B]? = _ from HC.out.1) (fun hHeld => ?_)
        have HBwd := Aside0.mk (below_drew HC.out.2)
        have HGS := Aside0.mk hgs
        clear HC hgs
        generalize wc.drew = wd at HBwd hHeld ⊢
        refine pure_ (i := 1) (N := some 51) (v := ?_) (a' := ?_) #[false, true, false, false, false, false, false, false, false, false, false, false, false] rfl rfl (by kernel_rfl) (fun _ _ _ h => h) (Or.inl ⟨by rfl, ?_⟩) ?_ ?_
        rotate_left; · intro w'; go_simp; with_reducible rfl
        rotate_left; · simp only [Act.put, List.setIfInBounds_toArray, List.set_cons_zero, List.set_cons_succ, i64_w, i32_w]; rfl
        refine pure_ (i := 3) (N := some 53) (v := ?_) (a' := ?_) #[false, true, false, true, false, false, false, false, false, false, false, false, false] rfl rfl (by kernel_rfl) (fun _ _ _ h => h) (Or.inl ⟨by rfl, ?_⟩) ?_ ?_
        rotate_left; · intro w'; go_simp; with_reducible rfl
        rotate_left; · simp only [Act.put, List.setIfInBounds_toArray, List.set_cons_zero, List.set_cons_succ, i64_w, i32_w]; rfl
        refine take_ (i := 2) (N := some 52) (v := ?_) (a' := ?_) #[false, true, true, true, false, false, false, false, false, false, false, false, false] rfl rfl (by kernel_rfl) (fun _ _ _ h => h) (Or.inl ⟨by rfl, ?_⟩) hHeld ?_ ?_
        rotate_left; · rintro w' hS; have s0 : w'.cell? ⟨B, 0, none⟩ = some (.int .i64 live) := (blk_cell hS 0).trans rfl; have s1 : w'.cell? ⟨B, 1, none⟩ = some (.int .i64 at_) := (blk_cell hS 1).trans rfl; have s2 : w'.cell? ⟨B, 2, none⟩ = some (.slice A2 gs.length c2) := (blk_cell hS 2).trans rfl; go_simp; with_reducible rfl
        rotate_left; · simp only [Act.put, List.setIfInBounds_toArray, List.set_cons_zero, List.set_cons_succ, i64_w, i32_w]; rfl
        refine join_ (σ := LS) 3 #[true, true, true, true, true, true, true, true, true, true, false, false, false] (fun s => [(8, .pointer (some ⟨s.g8, 0, none⟩)), (49, .tuple #[.agg #[.int .i64 s.tl, .int .i64 s.ta, .slice s.A3 s.l3 s.c3], .bool s.dn, .int .i64 s.f]), (50, .pointer (some ⟨s.v, 0, none⟩)), (54, .tuple #[.agg #[.int .i64 s.tl, .int .i64 s.ta, .slice s.A3 s.l3 s.c3], .bool s.dn, .int .i64 s.f]), (55, .agg #[.int .i64 s.tl, .int .i64 s.ta, .slice s.A3 s.l3 s.c3]), (56, .bool s.dn), (57, .int .i64 s.f)]) (LFact w B live at_ n gs.length A2 c2) ?_ ?_
        rotate_left
        · intro hJ
          have HJ := Aside0.mk hJ
          clear hJ
          refine two_ (i := 0) (j := 9) (Ni := some 50) (Nj := some 8) #[true, true, true, true, false, false, false, false, false, false, false, false, false] #[false, true, true, true, false, false, false, false, false, true, false, false, false] rfl rfl rfl rfl (by kernel_rfl) (by decide) (by decide) (fun K hK => ?_) (fun K hK => ?_)
          · refine goes_ Tryz.func7 (by kernel_rfl) rfl #[] (by rfl) rfl rfl (by (try simp only [List.map_toArray, List.map_cons, List.map_nil]); first | done | rfl) ?_
            refine (ideal_c wd).mono ?_
            rintro e wa ⟨v, i, bh, bs, rfl, _, _, _, _, _, hb⟩
            have HBwa := Aside0.mk (below_then HBwd.out HBwd.out.size hb)
            have hHeld := blk_below hHeld hb
            refine ⟨_, rfl, ?_⟩
            refine hK.out _ _ hHeld (fun hHeld => ?_)
            clear hK K hb HBwd
            refine norm_ (a' := ?_) ?_ ?_
            rotate_left; · show Act.put _ (some 50) _ = _; simp only [Act.put, List.setIfInBounds_toArray, List.set_cons_zero, List.set_cons_succ, i64_w, i32_w]; rfl
            refine two_ (i := 4) (j := 9) (Ni := some 54) (Nj := some 8) #[true, true, true, true, true, false, false, false, false, false, false, false, false] #[true, true, true, true, false, false, false, false, false, true, false, false, false] rfl rfl rfl rfl (by kernel_rfl) (by decide) (by decide) (fun K hK => ?_) (fun K hK => ?_)
            · refine goes_ Tryz.func6 (by kernel_rfl) rfl #[.pointer (some ⟨v, 0, none⟩), .agg #[.slice none 0 0, .slice none 0 0], .agg #[.int .i64 live, .int .i64 at_, .slice A2 gs.length c2], .int .i64 n] (by rfl) rfl rfl (by (try simp only [List.map_toArray, List.map_cons, List.map_nil]); first | done | rfl) ?_
              refine (step_any wa (.pointer (some ⟨v, 0, none⟩)) A2 c2 gs live at_ n (Kd.C_below HGS.out.1 HBwa.out) HGS.out.2.1 HGS.out.2.2 HR.out.2.2.2).mono ?_
              rintro e wb ⟨tl, ta, A3, l3, c3, dn, f, rfl, ht, hf, hb⟩
              have HT := Aside0.mk (And.intro ht hf)
              have HBwb := Aside0.mk (below_then HBwa.out HBwa.out.size hb)
              have hHeld := blk_below hHeld hb
              refine ⟨_, rfl, ?_⟩
              refine hK.out _ _ hHeld (fun hHeld => ?_)
              clear hK K hb ht hf HBwa
              refine norm_ (a' := ?_) ?_ ?_
              rotate_left; · show Act.put _ (some 54) _ = _; simp only [Act.put, List.setIfInBounds_toArray, List.set_cons_zero, List.set_cons_succ, i64_w, i32_w]; rfl
              refine pure_ (i := 5) (N := some 49) (v := ?_) (a' := ?_) #[true, true, true, true, true, true, false, false, false, false, false, false, false] rfl rfl (by kernel_rfl) (fun _ _ _ h => h) (Or.inl ⟨by rfl, ?_⟩) ?_ ?_
              rotate_left; · intro w'; go_simp; with_reducible rfl
              rotate_left; · simp only [Act.put, List.setIfInBounds_toArray, List.set_cons_zero, List.set_cons_succ, i64_w, i32_w]; rfl
              refine pure_ (i := 6) (N := some 55) (v := ?_) (a' := ?_) #[true, true, true, true, true, true, true, false, false, false, false, false, false] rfl rfl (by kernel_rfl) (fun _ _ _ h => h) (Or.inl ⟨by rfl, ?_⟩) ?_ ?_
              rotate_left; · intro w'; go_simp; with_reducible rfl
              rotate_left; · simp only [Act.put, List.setIfInBounds_toArray, List.set_cons_zero, List.set_cons_succ, i64_w, i32_w]; rfl
              refine pure_ (i := 7) (N := some 56) (v := ?_) (a' := ?_) #[true, true, true, true, true, true, true, true, false, false, false, false, false] rfl rfl (by kernel_rfl) (fun _ _ _ h => h) (Or.inl ⟨by rfl, ?_⟩) ?_ ?_
              rotate_left; · intro w'; go_simp; with_reducible rfl
              rotate_left; · simp only [Act.put, List.setIfInBounds_toArray, List.set_cons_zero, List.set_cons_succ, i64_w, i32_w]; rfl
              refine pure_ (i := 8) (N := some 57) (v := ?_) (a' := ?_) #[true, true, true, true, true, true, true, true, true, false, false, false, false] rfl rfl (by kernel_rfl) (fun _ _ _ h => h) (Or.inl ⟨by rfl, ?_⟩) ?_ ?_
              rotate_left; · intro w'; go_simp; with_reducible rfl
              rotate_left; · simp only [Act.put, List.setIfInBounds_toArray, List.set_cons_zero, List.set_cons_succ, i64_w, i32_w]; rfl
              refine one_ (i := 9) (N := some 8) #[true, true, true, true, true, true, true, true, true, true, false, false, false] rfl rfl (by kernel_rfl) (by decide) (fun K hK => ?_)
              have HLB := Aside0.mk (blk_lt hHeld)
              refine gives_ (w1 := wb.alloc (.cells #[.int .i64 0, .int .i64 0, .slice none 0 0] 24 (0, 0))) (by rfl) rfl (by first | (go_simp; done) | (go_simp; rfl)) ?_
              refine hK.out _ _ (blk_alloc hHeld _) (fun hHeld => ?_)
              clear hK K
              refine norm_ (a' := ?_) ?_ ?_
              rotate_left; · show Act.put _ (some 8) _ = _; simp only [Act.put, List.setIfInBounds_toArray, List.set_cons_zero, List.set_cons_succ, i64_w, i32_w]; rfl
              have HN := Aside0.mk (heap_alloc_new wb (.cells #[.int .i64 0, .int .i64 0, .slice none 0 0] 24 (0, 0)))
              have HBwk := Aside0.mk (below_alloc HBwb.out (.cells #[.int .i64 0, .int .i64 0, .slice none 0 0] 24 (0, 0)))
              obtain ⟨g8, hg8⟩ : ∃ g8, g8 = wb.heap.size := ⟨_, rfl⟩
              have HG8 := Aside0.mk (show w.heap.size ≤ g8 ∧ B < g8 by rw [hg8]; exact ⟨HBwb.out.size, HLB.out⟩)
              rw [← hg8] at HN ⊢
              clear hg8 HBwb
              generalize wb.alloc (.cells #[.int .i64 0, .int .i64 0, .slice none 0 0] 24 (0, 0)) = wk at HN HBwk hHeld ⊢
              have hj := HJ.out ⟨v, tl, ta, f, dn, A3, l3, c3, g8⟩ wk ⟨HT.out.1, HT.out.2, HN.out, hHeld, HG8.out.1, HG8.out.2, HBwk.out⟩
              refine norm_ (a' := _) ?_ hj
              simp only [putAll, Act.put, List.setIfInBounds_toArray, List.set_cons_zero, List.set_cons_succ]
            · have HLB := Aside0.mk (blk_lt hHeld)
              refine gives_ (w1 := wa.alloc (.cells #[.int .i64 0, .int .i64 0, .slice none 0 0] 24 (0, 0))) (by rfl) rfl (by first | (go_simp; done) | (go_simp; rfl)) ?_
              refine hK.out _ _ (blk_alloc hHeld _) (fun hHeld => ?_)
              clear hK K
              refine norm_ (a' := ?_) ?_ ?_
              rotate_left; · show Act.put _ (some 8) _ = _; simp only [Act.put, List.setIfInBounds_toArray, List.set_cons_zero, List.set_cons_succ, i64_w, i32_w]; rfl
              have HN := Aside0.mk (heap_alloc_new wa (.cells #[.int .i64 0, .int .i64 0, .slice none 0 0] 24 (0, 0)))
              have HBwk := Aside0.mk (below_alloc HBwa.out (.cells #[.int .i64 0, .int .i64 0, .slice none 0 0] 24 (0, 0)))
              obtain ⟨g8, hg8⟩ : ∃ g8, g8 = wa.heap.size := ⟨_, rfl⟩
              have HG8 := Aside0.mk (show w.heap.size ≤ g8 ∧ B < g8 by rw [hg8]; exact ⟨HBwa.out.size, HLB.out⟩)
              rw [← hg8] at HN ⊢
              clear hg8 HBwa
              generalize wa.alloc (.cells #[.int .i64 0, .int .i64 0, .slice none 0 0] 24 (0, 0)) = wk at HN HBwk hHeld ⊢
              refine one_ (i := 4) (N := some 54) #[true, true, true, true, true, false, false, false, false, true, false, false, false] rfl rfl (by kernel_rfl) (by decide) (fun K hK => ?_)
              refine goes_ Tryz.func6 (by kernel_rfl) rfl #[.pointer (some ⟨v, 0, none⟩), .agg #[.slice none 0 0, .slice none 0 0], .agg #[.int .i64 live, .int .i64 at_, .slice A2 gs.length c2], .int .i64 n] (by rfl) rfl rfl (by (try simp only [List.map_toArray, List.map_cons, List.map_nil]); first | done | rfl) ?_
              refine (step_any wk (.pointer (some ⟨v, 0, none⟩)) A2 c2 gs live at_ n (Kd.C_below HGS.out.1 HBwk.out) HGS.out.2.1 HGS.out.2.2 HR.out.2.2.2).mono ?_
              rintro e wb ⟨tl, ta, A3, l3, c3, dn, f, rfl, ht, hf, hb⟩
              have HT := Aside0.mk (And.intro ht hf)
              have HBwb := Aside0.mk (below_then HBwk.out HBwk.out.size hb)
              have hHeld := blk_below hHeld hb
              have HN := Aside0.mk (blk_below HN.out hb)
              refine ⟨_, rfl, ?_⟩
              refine hK.out _ _ hHeld (fun hHeld => ?_)
              clear hK K hb ht hf HBwk
              refine norm_ (a' := ?_) ?_ ?_
              rotate_left; · show Act.put _ (some 54) _ = _; simp only [Act.put, List.setIfInBounds_toArray, List.set_cons_zero, List.set_cons_succ, i64_w, i32_w]; rfl
              refine pure_ (i := 5) (N := some 49) (v := ?_) (a' := ?_) #[true, true, true, true, true, true, false, false, false, true, false, false, false] rfl rfl (by kernel_rfl) (fun _ _ _ h => h) (Or.inl ⟨by rfl, ?_⟩) ?_ ?_
              rotate_left; · intro w'; go_simp; with_reducible rfl
              rotate_left; · simp only [Act.put, List.setIfInBounds_toArray, List.set_cons_zero, List.set_cons_succ, i64_w, i32_w]; rfl
              refine pure_ (i := 6) (N := some 55) (v := ?_) (a' := ?_) #[true, true, true, true, true, true, true, false, false, true, false, false, false] rfl rfl (by kernel_rfl) (fun _ _ _ h => h) (Or.inl ⟨by rfl, ?_⟩) ?_ ?_
              rotate_left; · intro w'; go_simp; with_reducible rfl
              rotate_left; · simp only [Act.put, List.setIfInBounds_toArray, List.set_cons_zero, List.set_cons_succ, i64_w, i32_w]; rfl
              refine pure_ (i := 7) (N := some 56) (v := ?_) (a' := ?_) #[true, true, true, true, true, true, true, true, false, true, false, false, false] rfl rfl (by kernel_rfl) (fun _ _ _ h => h) (Or.inl ⟨by rfl, ?_⟩) ?_ ?_
              rotate_left; · intro w'; go_simp; with_reducible rfl
              rotate_left; · simp only [Act.put, List.setIfInBounds_toArray, List.set_cons_zero, List.set_cons_succ, i64_w, i32_w]; rfl
              refine pure_ (i := 8) (N := some 57) (v := ?_) (a' := ?_) #[true, true, true, true, true, true, true, true, true, true, false, false, false] rfl rfl (by kernel_rfl) (fun _ _ _ h => h) (Or.inl ⟨by rfl, ?_⟩) ?_ ?_
              rotate_left; · intro w'; go_simp; with_reducible rfl
              rotate_left; · simp only [Act.put, List.setIfInBounds_toArray, List.set_cons_zero, List.set_cons_succ, i64_w, i32_w]; rfl
              have hj := HJ.out ⟨v, tl, ta, f, dn, A3, l3, c3, g8⟩ wb ⟨HT.out.1, HT.out.2, HN.out, hHeld, HG8.out.1, HG8.out.2, HBwb.out⟩
              refine norm_ (a' := _) ?_ hj
              simp only [putAll, Act.put, List.setIfInBounds_toArray, List.set_cons_zero, List.set_cons_succ]
          · have HLB := Aside0.mk (blk_lt hHeld)
            refine gives_ (w1 := wd.alloc (.cells #[.int .i64 0, .int .i64 0, .slice none 0 0] 24 (0, 0))) (by rfl) rfl (by first | (go_simp; done) | (go_simp; rfl)) ?_
            refine hK.out _ _ (blk_alloc hHeld _) (fun hHeld => ?_)
            clear hK K
            refine norm_ (a' := ?_) ?_ ?_
            rotate_left; · show Act.put _ (some 8) _ = _; simp only [Act.put, List.setIfInBounds_toArray, List.set_cons_zero, List.set_cons_succ, i64_w, i32_w]; rfl
            have HN := Aside0.mk (heap_alloc_new wd (.cells #[.int .i64 0, .int .i64 0, .slice none 0 0] 24 (0, 0)))
            have HBwk := Aside0.mk (below_alloc HBwd.out (.cells #[.int .i64 0, .int .i64 0, .slice none 0 0] 24 (0, 0)))
            obtain ⟨g8, hg8⟩ : ∃ g8, g8 = wd.heap.size := ⟨_, rfl⟩
            have HG8 := Aside0.mk (show w.heap.size ≤ g8 ∧ B < g8 by rw [hg8]; exact ⟨HBwd.out.size, HLB.out⟩)
            rw [← hg8] at HN ⊢
            clear hg8 HBwd
            generalize wd.alloc (.cells #[.int .i64 0, .int .i64 0, .slice none 0 0] 24 (0, 0)) = wk at HN HBwk hHeld ⊢
            refine one_ (i := 0) (N := some 50) #[true, true, true, true, false, false, false, false, false, true, false, false, false] rfl rfl (by kernel_rfl) (by decide) (fun K hK => ?_)
            refine goes_ Tryz.func7 (by kernel_rfl) rfl #[] (by rfl) rfl rfl (by (try simp only [List.map_toArray, List.map_cons, List.map_nil]); first | done | rfl) ?_
            refine (ideal_c wk).mono ?_
            rintro e wa ⟨v, i, bh, bs, rfl, _, _, _, _, _, hb⟩
            have HBwa := Aside0.mk (below_then HBwk.out HBwk.out.size hb)
            have hHeld := blk_below hHeld hb
            have HN := Aside0.mk (blk_below HN.out hb)
            refine ⟨_, rfl, ?_⟩
            refine hK.out _ _ hHeld (fun hHeld => ?_)
            clear hK K hb HBwk
            refine norm_ (a' := ?_) ?_ ?_
            rotate_left; · show Act.put _ (some 50) _ = _; simp only [Act.put, List.setIfInBounds_toArray, List.set_cons_zero, List.set_cons_succ, i64_w, i32_w]; rfl
            refine one_ (i := 4) (N := some 54) #[true, true, true, true, true, false, false, false, false, true, false, false, false] rfl rfl (by kernel_rfl) (by decide) (fun K hK => ?_)
            refine goes_ Tryz.func6 (by kernel_rfl) rfl #[.pointer (some ⟨v, 0, none⟩), .agg #[.slice none 0 0, .slice none 0 0], .agg #[.int .i64 live, .int .i64 at_, .slice A2 gs.length c2], .int .i64 n] (by rfl) rfl rfl (by (try simp only [List.map_toArray, List.map_cons, List.map_nil]); first | done | rfl) ?_
            refine (step_any wa (.pointer (some ⟨v, 0, none⟩)) A2 c2 gs live at_ n (Kd.C_below HGS.out.1 HBwa.out) HGS.out.2.1 HGS.out.2.2 HR.out.2.2.2).mono ?_
            rintro e wb ⟨tl, ta, A3, l3, c3, dn, f, rfl, ht, hf, hb⟩
            have HT := Aside0.mk (And.intro ht hf)
            have HBwb := Aside0.mk (below_then HBwa.out HBwa.out.size hb)
            have hHeld := blk_below hHeld hb
            have HN := Aside0.mk (blk_below HN.out hb)
            refine ⟨_, rfl, ?_⟩
            refine hK.out _ _ hHeld (fun hHeld => ?_)
            clear hK K hb ht hf HBwa
            refine norm_ (a' := ?_) ?_ ?_
            rotate_left; · show Act.put _ (some 54) _ = _; simp only [Act.put, List.setIfInBounds_toArray, List.set_cons_zero, List.set_cons_succ, i64_w, i32_w]; rfl
            refine pure_ (i := 5) (N := some 49) (v := ?_) (a' := ?_) #[true, true, true, true, true, true, false, false, false, true, false, false, false] rfl rfl (by kernel_rfl) (fun _ _ _ h => h) (Or.inl ⟨by rfl, ?_⟩) ?_ ?_
            rotate_left; · intro w'; go_simp; with_reducible rfl
            rotate_left; · simp only [Act.put, List.setIfInBounds_toArray, List.set_cons_zero, List.set_cons_succ, i64_w, i32_w]; rfl
            refine pure_ (i := 6) (N := some 55) (v := ?_) (a' := ?_) #[true, true, true, true, true, true, true, false, false, true, false, false, false] rfl rfl (by kernel_rfl) (fun _ _ _ h => h) (Or.inl ⟨by rfl, ?_⟩) ?_ ?_
            rotate_left; · intro w'; go_simp; with_reducible rfl
            rotate_left; · simp only [Act.put, List.setIfInBounds_toArray, List.set_cons_zero, List.set_cons_succ, i64_w, i32_w]; rfl
            refine pure_ (i := 7) (N := some 56) (v := ?_) (a' := ?_) #[true, true, true, true, true, true, true, true, false, true, false, false, false] rfl rfl (by kernel_rfl) (fun _ _ _ h => h) (Or.inl ⟨by rfl, ?_⟩) ?_ ?_
            rotate_left; · intro w'; go_simp; with_reducible rfl
            rotate_left; · simp only [Act.put, List.setIfInBounds_toArray, List.set_cons_zero, List.set_cons_succ, i64_w, i32_w]; rfl
            refine pure_ (i := 8) (N := some 57) (v := ?_) (a' := ?_) #[true, true, true, true, true, true, true, true, true, true, false, false, false] rfl rfl (by kernel_rfl) (fun _ _ _ h => h) (Or.inl ⟨by rfl, ?_⟩) ?_ ?_
            rotate_left; · intro w'; go_simp; with_reducible rfl
            rotate_left; · simp only [Act.put, List.setIfInBounds_toArray, List.set_cons_zero, List.set_cons_succ, i64_w, i32_w]; rfl
            have hj := HJ.out ⟨v, tl, ta, f, dn, A3, l3, c3, g8⟩ wb ⟨HT.out.1, HT.out.2, HN.out, hHeld, HG8.out.1, HG8.out.2, HBwb.out⟩
            refine norm_ (a' := _) ?_ hj
            simp only [putAll, Act.put, List.setIfInBounds_toArray, List.set_cons_zero, List.set_cons_succ]
        rintro ⟨v, tl, ta, f, dn, A3, l3, c3, g8⟩ wk ⟨ht, hf, hn8, hHeld, hg1, hg2, hbk⟩
        have HT := Aside0.mk (And.intro ht hf)
        have HN := Aside0.mk hn8
        have HG8 := Aside0.mk (And.intro hg1 hg2)
        have HB7 := Aside0.mk hbk
        clear ht hf hn8 hg1 hg2 hbk
        refine norm_ (a' := ?_) ?_ ?_
        rotate_left; · show putAll _ [(8, _), (49, _), (50, _), (54, _), (55, _), (56, _), (57, _)] = _; simp only [putAll, Act.put, List.setIfInBounds_toArray, List.set_cons_zero, List.set_cons_succ, i64_w, i32_w]; rfl
        refine one_ (i := 10) (N := none) #[true, true, true, true, true, true, true, true, true, true, true, false, false] rfl rfl (by kernel_rfl) (by decide) (fun K hK => ?_)
        refine skip_ (by rfl) rfl (exec_storeN wk 24 (.tmp 8) (.tmp 55) rfl g8 0 24 _ _ [.int .i64 tl, .int .i64 ta, .slice A3 l3 c3] HN.out (Nat.le_of_ble_eq_true rfl) infoScr rfl rfl rfl (by intro q hq; simp only [List.mem_cons, List.not_mem_nil, or_false] at hq; rcases hq with rfl | rfl | rfl <;> rfl)) ?_
        have HE := Aside0.mk (storeZ (wk := wk) (B := B) (live := live) (at_ := at_) (tl := tl) (ta := ta) (A2 := A2) (A3 := A3) (l2 := gs.length) (c2 := c2) (l3 := l3) (c3 := c3) (base := w.heap.size) (w := w) HN.out HG8.out.1 HG8.out.2 hHeld HB7.out)
        refine hK.out _ _ HE.out.2.1 (fun hHeld => ?_)
        clear hK K HN HB7
        generalize wk.setCells g8 0 [.int .i64 tl, .int .i64 ta, .slice A3 l3 c3] = wm at HE hHeld ⊢
        refine pure_ (i := 11) (N := some 9) (v := ?_) (a' := ?_) #[true, true, true, true, true, true, true, true, true, true, true, true, false] rfl rfl (by kernel_rfl) (fun _ _ _ h => h) (Or.inl ⟨by rfl, ?_⟩) ?_ ?_
        rotate_left; · intro w'; go_simp; with_reducible rfl
        rotate_left; · simp only [Act.put, List.setIfInBounds_toArray, List.set_cons_zero, List.set_cons_succ, i64_w, i32_w]; rfl
        refine pure_ (i := 12) (N := some 10) (v := ?_) (a' := ?_) #[true, true, true, true, true, true, true, true, true, true, true, true, true] rfl rfl (by kernel_rfl) (fun _ _ _ h => h) (Or.inl ⟨by rfl, ?_⟩) ?_ ?_
        rotate_left; · intro w'; go_simp; with_reducible rfl
        rotate_left; · simp only [Act.put, List.setIfInBounds_toArray, List.set_cons_zero, List.set_cons_succ, i64_w, i32_w]; rfl
        refine done_ (by kernel_rfl) ?_
        -- END5
        have HQ0 := Aside0.mk (LQ.mk HE.out.2.1 HE.out.1 HE.out.2.2)
        clear HE hHeld
        have s0 : wm.cell? ⟨B, 0, none⟩ = some (.int .i64 live) := (blk_cell HQ0.out.s 0).trans rfl
        go_wp2_with fail
        refine (start_any wm live).mono ?_
        rintro e wn ⟨⟨a1, a2, rfl⟩, hb⟩
        have HQ1 := Aside0.mk (HQ0.out.below hb)
        clear s0 hb HQ0
        go_upto_region 7 with (first | ((with_reducible refine gate_dst (N := 11) rfl ?_); refine box_event ?hg (N := 11) ?hd (cs := (#[.int .i64 0, .int .i64 0, .slice none 0 0] : Array Value)) (t := 24) ?hr ?_; (case hd => rfl); (case hg => rfl); (case hr => first | (go_simp; done) | (go_simp; rfl)); intro gb hgb w5 hbox hb; have HL := Aside0.mk hbox; have HV := Aside0.mk hb; have HGB := Aside0.mk (Nat.le_of_eq hgb.symm : wn.heap.size ≤ gb); clear hgb hbox hb) | ((with_reducible refine gate_store (t := 24) rfl ?_); refine store_at rfl _ _ _ rfl gb 0 24 _ ([.int .i64 a1, .int .i64 a2, .slice none 0 0] : List Value) infoScr3 HL.out (Nat.le_of_ble_eq_true rfl) (by first | (go_simp; done) | (go_simp; rfl)) (by first | (go_simp; done) | (go_simp; rfl)) (by intro u hu; simp only [List.mem_cons, List.not_mem_nil, or_false] at hu; rcases hu with rfl | rfl | rfl <;> rfl) ?_; intro wq hs hgr; have HQ := Aside0.mk (HQ1.out.below (HV.out.grown hgr HV.out.size (fun k hk => by injection hk with hk; rw [← hk]; exact HGB.out))); clear HL HV HGB HQ1 hs hgr))
        -- REGION7
        refine start_ (n := 10) (S := fun w' => w'.heap[B]? = some (.cells #[.int .i64 live, .int .i64 at_, .slice A2 gs.length c2] 24 (0, 0))) (ds := []) #[false, false, false, false, false, false, false, false, false, false] (by kernel_rfl) rfl rfl (show wq.drew.heap[B]? = _ from HQ.out.s) (fun hHeld => ?_)
        have HP := Aside0.mk (HQ.out.below (below_drew (Below.refl wq.heap.size wq)))
        clear HQ
        generalize wq.drew = wp at HP hHeld ⊢
        refine pure_ (i := 1) (N := some 66) (v := ?_) (a' := ?_) #[false, true, false, false, false, false, false, false, false, false] rfl rfl (by kernel_rfl) (fun _ _ _ h => h) (Or.inl ⟨by rfl, ?_⟩) ?_ ?_
        rotate_left; · intro w'; go_simp; with_reducible rfl
        rotate_left; · simp only [Act.put, List.setIfInBounds_toArray, List.set_cons_zero, List.set_cons_succ, i64_w, i32_w]; rfl
        refine pure_ (i := 3) (N := some 68) (v := ?_) (a' := ?_) #[false, true, false, true, false, false, false, false, false, false] rfl rfl (by kernel_rfl) (fun _ _ _ h => h) (Or.inl ⟨by rfl, ?_⟩) ?_ ?_
        rotate_left; · intro w'; go_simp; with_reducible rfl
        rotate_left; · simp only [Act.put, List.setIfInBounds_toArray, List.set_cons_zero, List.set_cons_succ, i64_w, i32_w]; rfl
        refine take_ (i := 2) (N := some 67) (v := ?_) (a' := ?_) #[false, true, true, true, false, false, false, false, false, false] rfl rfl (by kernel_rfl) (fun _ _ _ h => h) (Or.inl ⟨by rfl, ?_⟩) hHeld ?_ ?_
        rotate_left; · rintro w' hS; have s0 : w'.cell? ⟨B, 0, none⟩ = some (.int .i64 live) := (blk_cell hS 0).trans rfl; have s1 : w'.cell? ⟨B, 1, none⟩ = some (.int .i64 at_) := (blk_cell hS 1).trans rfl; have s2 : w'.cell? ⟨B, 2, none⟩ = some (.slice A2 gs.length c2) := (blk_cell hS 2).trans rfl; go_simp; with_reducible rfl
        rotate_left; · simp only [Act.put, List.setIfInBounds_toArray, List.set_cons_zero, List.set_cons_succ, i64_w, i32_w]; rfl
        refine one_ (i := 0) (N := some 65) #[true, true, true, true, false, false, false, false, false, false] rfl rfl (by kernel_rfl) (by decide) (fun K hK => ?_)
        refine goes_ Tryz.func7 (by kernel_rfl) rfl #[] (by rfl) rfl rfl (by (try simp only [List.map_toArray, List.map_cons, List.map_nil]); first | done | rfl) ?_
        refine (ideal_c wp).mono ?_
        rintro e wa ⟨v2, i, bh, bs, rfl, _, _, _, _, _, hb⟩
        have HP2 := Aside0.mk (HP.out.below hb)
        have hHeld := blk_below hHeld hb
        refine ⟨_, rfl, ?_⟩
        refine hK.out _ _ hHeld (fun hHeld => ?_)
        clear hK K hb HP
        refine norm_ (a' := ?_) ?_ ?_
        rotate_left; · show Act.put _ (some 65) _ = _; simp only [Act.put, List.setIfInBounds_toArray, List.set_cons_zero, List.set_cons_succ, i64_w, i32_w]; rfl
        refine one_ (i := 4) (N := some 69) #[true, true, true, true, true, false, false, false, false, false] rfl rfl (by kernel_rfl) (by decide) (fun K hK => ?_)
        refine goes_ Tryz.func9 (by kernel_rfl) rfl #[.pointer (some ⟨v2, 0, none⟩), .int .i64 live, .agg #[.slice none 0 0, .slice none 0 0]] (by rfl) rfl rfl (by (try simp only [List.map_toArray, List.map_cons, List.map_nil]); first | done | rfl) ?_
        refine (whole_any wa (.pointer (some ⟨v2, 0, none⟩)) live).mono ?_
        rintro e wb ⟨⟨A5, l5, c5, rfl⟩, hb⟩
        have HP3 := Aside0.mk (HP2.out.below hb)
        have hHeld := blk_below hHeld hb
        refine ⟨_, rfl, ?_⟩
        refine hK.out _ _ hHeld (fun hHeld => ?_)
        clear hK K hb HP2
        refine norm_ (a' := ?_) ?_ ?_
        rotate_left; · show Act.put _ (some 69) _ = _; simp only [Act.put, List.setIfInBounds_toArray, List.set_cons_zero, List.set_cons_succ, i64_w, i32_w]; rfl
        refine pure_ (i := 5) (N := some 64) (v := ?_) (a' := ?_) #[true, true, true, true, true, true, false, false, false, false] rfl rfl (by kernel_rfl) (fun _ _ _ h => h) (Or.inl ⟨by rfl, ?_⟩) ?_ ?_
        rotate_left; · intro w'; go_simp; with_reducible rfl
        rotate_left; · simp only [Act.put, List.setIfInBounds_toArray, List.set_cons_zero, List.set_cons_succ, i64_w, i32_w]; rfl
        refine pure_ (i := 6) (N := some 70) (v := ?_) (a' := ?_) #[true, true, true, true, true, true, true, false, false, false] rfl rfl (by kernel_rfl) (fun _ _ _ h => h) (Or.inl ⟨by rfl, ?_⟩) ?_ ?_
        rotate_left; · intro w'; go_simp; with_reducible rfl
        rotate_left; · simp only [Act.put, List.setIfInBounds_toArray, List.set_cons_zero, List.set_cons_succ, i64_w, i32_w]; rfl
        refine pure_ (i := 7) (N := some 71) (v := ?_) (a' := ?_) #[true, true, true, true, true, true, true, true, false, false] rfl rfl (by kernel_rfl) (fun _ _ _ h => h) (Or.inl ⟨by rfl, ?_⟩) ?_ ?_
        rotate_left; · intro w'; go_simp; with_reducible rfl
        rotate_left; · simp only [Act.put, List.setIfInBounds_toArray, List.set_cons_zero, List.set_cons_succ, i64_w, i32_w]; rfl
        refine pure_ (i := 8) (N := some 13) (v := ?_) (a' := ?_) #[true, true, true, true, true, true, true, true, true, false] rfl rfl (by kernel_rfl) (fun _ _ _ h => h) (Or.inl ⟨by rfl, ?_⟩) ?_ ?_
        rotate_left; · intro w'; go_simp; with_reducible rfl
        rotate_left; · simp only [Act.put, List.setIfInBounds_toArray, List.set_cons_zero, List.set_cons_succ, i64_w, i32_w]; rfl
        refine pure_ (i := 9) (N := some 14) (v := ?_) (a' := ?_) #[true, true, true, true, true, true, true, true, true, true] rfl rfl (by kernel_rfl) (fun _ _ _ h => h) (Or.inl ⟨by rfl, ?_⟩) ?_ ?_
        rotate_left; · intro w'; go_simp; with_reducible rfl
        rotate_left; · simp only [Act.put, List.setIfInBounds_toArray, List.set_cons_zero, List.set_cons_succ, i64_w, i32_w]; rfl
        refine done_ (by kernel_rfl) ?_
        -- END7
        clear hHeld
        have hne : (errL live != errL live) = false := bne_self_eq_false _
        cases hk : okS live at_ n with
        | false =>
          obtain ⟨rfl, rfl, rfl, rfl, rfl⟩ := HT.out.2 hk
          have x0 : wb.cell? ⟨g8, 0, none⟩ = some (.int .i64 0) := (blk_cell HP3.out.t 0).trans rfl
          have x1 : wb.cell? ⟨g8, 1, none⟩ = some (.int .i64 0) := (blk_cell HP3.out.t 1).trans rfl
          have x2 : wb.cell? ⟨g8, 2, none⟩ = some (.slice A3 0 c3) := (blk_cell HP3.out.t 2).trans rfl
          clear hk
          go_wp2_with fail
          refine (awake_c wb).mono ?_
          rintro e w9 ⟨rfl, hb⟩
          have HZ := Aside0.mk (below_then HP3.out.bel HP3.out.bel.size hb)
          clear hb
          go_wp2_with fail
          go_ret
          exact ⟨rfl, HZ.out⟩
        | true =>
          obtain ⟨rfl, h1, h2, h3, h4⟩ := HT.out.1 hk
          have hgl := HGS.out.2.1
          have x1 : wb.cell? ⟨g8, 1, none⟩ = some (.int .i64 ta) := (blk_cell HP3.out.t 1).trans rfl
          have x2 : wb.cell? ⟨g8, 2, none⟩ = some (.slice A3 l3 c3) := (blk_cell HP3.out.t 2).trans rfl
          have s1 : wb.cell? ⟨B, 1, none⟩ = some (.int .i64 at_) := (blk_cell HP3.out.s 1).trans rfl
          have s2 : wb.cell? ⟨B, 2, none⟩ = some (.slice A2 gs.length c2) := (blk_cell HP3.out.s 2).trans rfl
          have w1_ : wrap64 ((l3 : Int) - (gs.length : Int)) = ta - at_ := by rw [h1]; exact w64 (by omega) (by omega)
          have w2_ : wrap64 (ta - at_) = ta - at_ := w64 (by omega) (by omega)
          clear hk h1 h2 h3 h4 hgl
          go_wp2_with fail
          refine (awake_c wb).mono ?_
          rintro e w9 ⟨rfl, hb⟩
          have HZ := Aside0.mk (below_then HP3.out.bel HP3.out.bel.size hb)
          clear hb
          go_wp2_with fail
          go_ret
          exact ⟨rfl, HZ.out⟩
theorem ref_row (fs : List S46) (A : Option Addr) (c : Nat) (live at_ : Int) (n : Int) (w : World) (hr : Kd.C k46 w A fs.length fs) (hc : fs.length ≤ c) (hn : A = none → c = 0) (_ : WfF fs) (_ : (Lit.int .i64 live).wf = true) (_ : (Lit.int .i64 at_).wf = true) (hw : (Lit.int .i64 n).wf = true) :
    Calls Tryz.prog 3 #[.agg #[.int .i64 live, .int .i64 at_, .slice A fs.length c], .int .i64 n] w fun e w' => e = .returned (.bool true) ∧ Below w.heap.size w w' :=
  ref_law fs A c live at_ n w hr hc hn (wf_le hw).2
end Go.Proofs.YtgpknomegleidaaGreatDoor.T
