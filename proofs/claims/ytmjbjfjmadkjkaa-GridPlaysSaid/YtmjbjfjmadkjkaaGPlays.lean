/- The walk of the law GridPlays. -/
import Derived.Test.YtmjbjfjmadkjkaaGTakes
namespace Go.Proofs.Ytmjbjfjmadkjkaa.G
open Go.RowKit Go.Proofs.YtmjbjfjmadkjkaaW.PrintWords Go.Proofs.YtmjbjfjmadkjkaaW.PrintLast Go.Proofs.YtmjbjfjmadkjkaaW.PrintMore Go.Proofs.Ytmjbjfjmadkjkaa.PGridPlays
attribute [local go_sem] max2_int min2_int max_two min_two max_three min_three max_four min_four
set_option linter.unusedSimpArgs false
set_option linter.unusedVariables false

/-- A step of the script in memory: its four cells, its numbers in their bounds. -/
def OpAt (w : World) (ad : Addr) (i : Nat) (kd a q : Int) (u : Bool) : Prop :=
  w.cell? (ad.add (i * 4)) = some (.int .i64 kd) ∧ w.cell? (ad.add (i * 4 + 1)) = some (.int .i64 a) ∧ w.cell? (ad.add (i * 4 + 2)) = some (.int .i64 q) ∧ w.cell? (ad.add (i * 4 + 3)) = some (.bool u) ∧ a ≤ 9223372036854775807 ∧ q ≤ 9223372036854775807
/-- A script in memory. -/
def OpsIn (w : World) (A : Option Addr) (n : Nat) : Prop := n ≤ 9223372036854775807 ∧ ∀ i, i < n → ∃ ad kd a q u, A = some ad ∧ OpAt w ad i kd a q u
theorem OpAt.below {w w1 : World} {ad : Addr} {i : Nat} {kd a q : Int} {u : Bool} (h : OpAt w ad i kd a q u) (hb : Below w.heap.size w w1) : OpAt w1 ad i kd a q u :=
  ⟨pw_cell_below hb h.1, pw_cell_below hb h.2.1, pw_cell_below hb h.2.2.1, pw_cell_below hb h.2.2.2.1, h.2.2.2.2⟩
theorem ob_cells {w : World} {ob : Nat} {kd a q : Int} {u : Bool} (h : w.heap[ob]? = some (.cells #[.int .i64 kd, .int .i64 a, .int .i64 q, .bool u] 54 (0, 0))) :
    w.cell? ⟨ob, 1, none⟩ = some (.int .i64 a) ∧ w.cell? ⟨ob, 2, none⟩ = some (.int .i64 q) ∧ w.cell? ⟨ob, 3, none⟩ = some (.bool u) :=
  ⟨(blk_cell h 1).trans rfl, (blk_cell h 2).trans rfl, (blk_cell h 3).trans rfl⟩
theorem blk_below {w w1 : World} {k : Nat} {o : Obj} (h : w.heap[k]? = some o) (hb : Below w.heap.size w w1) : w1.heap[k]? = some o := (hb.block k (blk_lt h)).trans h
theorem updL_out (T : List Nat) : ∀ (f : Nat → Bool) (m i : Nat), (∀ y ∈ T, y < m) → m ≤ i → updL f T i = f i := by
  induction T with
  | nil => exact fun f m i _ _ => rfl
  | cons y r ih =>
    intro f m i h hi
    have h1 := h y (List.mem_cons_self ..)
    show updL (upd f y true) r i = f i
    rw [ih (upd f y true) m i (fun z hz => h z (List.mem_cons_of_mem _ hz)) hi, upd_ne f true (by omega)]

set_option maxRecDepth 100000 in
set_option maxHeartbeats 4000000 in
theorem plays_bad (n : Int) (A : Option Addr) (sl c : Nat) (w : World) (h : n < 0 ∨ 3584 < n) :
    Calls Try.prog 9 #[.int .i64 n, .slice A sl c] w fun e w' => e = .returned (.bool true) ∧ Below w.heap.size w w' := by
  have hnil := fun W A l c => run_eql_slice_nil (P := Try.prog) W 24 4 A l c Try.underlying24
  go_enter Try.func9, Try.ntmps9
  go_wp2_with fail
  refine (filled_bad w n none 0 0 h).mono ?_
  rintro e w1 ⟨rfl, hb⟩
  have HB := Aside0.mk hb
  clear hb
  go_wp2_with fail
  refine (awake_calls _).mono ?_
  rintro e w9 ⟨rfl, hb⟩
  have HB9 := Aside0.mk (below_then HB.out HB.out.size hb)
  clear hb
  go_wp2
  go_ret
  exact ⟨rfl, HB9.out⟩

set_option maxRecDepth 100000 in
set_option maxHeartbeats 4000000 in
theorem plays_much (n : Int) (A : Option Addr) (sl c : Nat) (w : World) (h0 : 0 ≤ n) (h1 : n ≤ 3584) (hr : OpsIn w A sl) (hn : 200 < n) :
    Calls Try.prog 9 #[.int .i64 n, .slice A sl c] w fun e w' => e = .returned (.bool true) ∧ Below w.heap.size w w' := by
  obtain ⟨m, rfl⟩ := Int.eq_ofNat_of_zero_le h0
  have HC := Aside0.mk hr
  clear hr
  have hnil := fun W A l c => run_eql_slice_nil (P := Try.prog) W 24 4 A l c Try.underlying24
  go_enter Try.func9, Try.ntmps9
  go_wp2_with fail
  refine (filled_ok w m none 0 [] h0 h1 (Kd.C_nil _ _)).mono ?_
  rintro e w1 hfil
  unfold FilledR at hfil
  rw [Int.toNat_natCast] at hfil
  obtain ⟨g, b, v, f, rfl, hg, hv, hb, hl⟩ := hfil
  have HG := Aside0.mk hg
  have HV := Aside0.mk hv
  have HB := Aside0.mk hb
  have HL := Aside0.mk hl
  clear hg hv hb hl
  obtain ⟨Av, cv, ev⟩ := Kd.R_slice HV.out
  rw [hs_len] at ev
  subst ev
  cases Av with
  | none =>
    go_wp2_with fail
    refine (awake_calls _).mono ?_
    rintro e w2 ⟨rfl, hb⟩
    have HB2 := Aside0.mk (below_then HB.out HB.out.size hb)
    clear hb
    go_wp2
    go_ret
    exact ⟨rfl, HB2.out⟩
  | some ad =>
    go_wp2_with fail
    refine (awake_calls _).mono ?_
    rintro e w9 ⟨rfl, hb⟩
    have HB9 := Aside0.mk (below_then HB.out HB.out.size hb)
    clear hb
    go_wp2
    go_ret
    exact ⟨rfl, HB9.out⟩

set_option maxRecDepth 100000 in
set_option maxHeartbeats 8000000 in
theorem plays_ok (n : Int) (A : Option Addr) (sl c : Nat) (w : World) (h0 : 0 ≤ n) (h1 : n ≤ 3584) (hr : OpsIn w A sl) (hn : n ≤ 200) :
    Calls Try.prog 9 #[.int .i64 n, .slice A sl c] w fun e w' => e = .returned (.bool true) ∧ Below w.heap.size w w' := by
  obtain ⟨m, rfl⟩ := Int.eq_ofNat_of_zero_le h0
  have HC := Aside0.mk hr
  clear hr
  have hnil := fun W A l c => run_eql_slice_nil (P := Try.prog) W 24 4 A l c Try.underlying24
  go_enter Try.func9, Try.ntmps9
  go_wp2_with fail
  refine (filled_ok w m none 0 [] h0 h1 (Kd.C_nil _ _)).mono ?_
  rintro e w1 hfil
  unfold FilledR at hfil
  rw [Int.toNat_natCast] at hfil
  obtain ⟨g, b, v, f, rfl, hg, hv, hb, hl⟩ := hfil
  have HG := Aside0.mk hg
  have HV := Aside0.mk hv
  have HB := Aside0.mk hb
  have HL := Aside0.mk hl
  clear hg hv hb hl
  obtain ⟨Av, cv, ev⟩ := Kd.R_slice HV.out
  rw [hs_len] at ev
  subst ev
  cases Av with
  | none =>
    go_wp2_with fail
    refine (awake_calls _).mono ?_
    rintro e w2 ⟨rfl, hb⟩
    have HB2 := Aside0.mk (below_then HB.out HB.out.size hb)
    clear hb
    go_wp2
    go_ret
    exact ⟨rfl, HB2.out⟩
  | some ad =>
    have hslm := HC.out.1
    go_wp2_with fail
    go_loopw [7] (fun i wr => ∃ (k : Nat) (f : Nat → Bool), k ≤ sl ∧ k ≤ 60 ∧ i = .int .i64 k ∧ Aside0 (Gr wr w.heap.size g b m (byts f)) ∧ Aside0 (Kd.R Kd.bool 4 wr w.heap.size (fun _ => True) (.slice (some ad) m cv) (hs f m)) ∧ Aside0 (Below w.heap.size w wr) ∧ Aside0 (∀ i, m ≤ i → f i = false)) (fun i _ => 60 - (intOf i).toNat)
    case atStart => exact ⟨0, f, by omega, by omega, rfl, HG, HV, HB, HL⟩
    case round =>
      obtain ⟨k, fr0, hk1, hk2, rfl, HGr, HVr, HBr, HLr⟩ := hrel
      by_cases hc : k < sl ∧ k < 60
      · obtain ⟨hc1, hc2⟩ := hc
        obtain ⟨sa, kd, a, q, u, eA, hop⟩ := HC.out.2 k hc1
        subst eA
        have hop' := hop.below HBr.out
        obtain ⟨o0, o1, o2, o3, hamx, hqmx⟩ := hop'
        rw [add_field _ _ _ (by omega)] at o1 o2 o3
        by_cases hkd : kd = 2
        · have hkb : (kd == 2) = true := by simp [hkd]
          clear hkd
          go_wp2_with fail
          have HOb := Aside0.mk (heap_alloc_new wr (.cells #[.int .i64 kd, .int .i64 a, .int .i64 q, .bool u] 54))
          have HG1 := Aside0.mk (HGr.out.alloc (.cells #[.int .i64 kd, .int .i64 a, .int .i64 q, .bool u] 54))
          have HV1 := Aside0.mk (Kd.R_alloc HVr.out (.cells #[.int .i64 kd, .int .i64 a, .int .i64 q, .bool u] 54))
          have HB1 := Aside0.mk (below_alloc HBr.out (.cells #[.int .i64 kd, .int .i64 a, .int .i64 q, .bool u] 54))
          have hblt := HGr.out.lt.2.1
          generalize wr.alloc (.cells #[.int .i64 kd, .int .i64 a, .int .i64 q, .bool u] 54) = wo at HOb HG1 HV1 HB1 ⊢
          generalize wr.heap.size = ob at HOb hblt ⊢
          have HBN := Aside0.mk (show b ≠ ob by omega)
          clear hblt o0 o1 o2 o3 hop
          obtain ⟨p1, p2, p3⟩ := ob_cells HOb.out
          by_cases hq0 : q < 0
          · refine (take_neg wo g q a hq0).mono ?_
            rintro e w3 ⟨rfl, rfl⟩
            go_wp2_with fail
            refine (reffree_calls wo _ _ _ m cv fr0 a q HV1.out (by omega)).mono ?_
            rw [show q.toNat = 0 by omega, List.take_zero]
            rintro e w4 ⟨v4, rfl, hv4, hb4⟩
            obtain ⟨A4, c4, e4⟩ := Kd.R_slice hv4
            have el4 : (ints []).length = 0 := rfl
            rw [el4] at e4
            subst e4
            have HG4 := Aside0.mk (HG1.out.below hb4)
            have HV4 := Aside0.mk (Kd.R_below HV1.out hb4)
            have HB4 := Aside0.mk (below_then HB1.out HB1.out.size hb4)
            have HOb4 := Aside0.mk (blk_below HOb.out hb4)
            clear p1 p2 p3 hv4 hb4 el4
            obtain ⟨p1, p2, p3⟩ := ob_cells HOb4.out
            go_wp2_with fail
            go_roundw
            case rel => exact ⟨k + 1, fr0, by omega, by omega, by go_num, HG4, HV4, HB4, HLr⟩
            case measure => simp [intOf]; omega
          · obtain ⟨qn, rfl⟩ := Int.eq_ofNat_of_zero_le (show 0 ≤ q by omega)
            refine (take_calls wo _ g b m qn a fr0 HG1.out h0 h1 (by omega) hqmx hamx).mono ?_
            rintro e w3 htk
            unfold TakeR at htk
            rw [Int.toNat_natCast, Int.toNat_natCast] at htk
            have hfree := fun W H => reffree_calls W w.heap.size (fun _ => True) (some ad) m cv fr0 a qn H (by omega)
            rw [Int.toNat_natCast] at hfree
            have HFree := Aside0.mk hfree
            clear hfree
            rcases htk with ⟨hlen, v3, rfl, hv3, hg3, hw3⟩ | ⟨hlen, rfl, hb3⟩
            · obtain ⟨T, hT⟩ : ∃ T, T = (fr fr0 m a.toNat).take qn := ⟨_, rfl⟩
              have hTl : T.length = qn := by rw [hT, List.length_take]; omega
              have hTm : ∀ y ∈ T, y < m := fun y hy => (fr_mem (List.mem_of_mem_take (by rw [hT] at hy; exact hy))).2.1
              have hqm : qn ≤ 3584 := by
                have := fr_len fr0 m a.toNat
                omega
              rw [← hT] at hv3 hg3 HFree
              obtain ⟨A3, c3, e3⟩ := Kd.R_slice hv3
              rw [ints_len, hTl] at e3
              subst e3
              have HG3 := Aside0.mk hg3
              have HL3 := Aside0.mk hv3
              have HV3 := Aside0.mk (HG1.out.keeps hw3 HV1.out (by decide))
              have HB3 := Aside0.mk (HG1.out.under HB1.out HB1.out.size hw3)
              have HOb3 := Aside0.mk (blk_grown HOb.out hw3 (by simpa using fun e => HBN.out e.symm))
              have HTl := Aside0.mk hTl
              have HTm := Aside0.mk hTm
              clear p1 p2 p3 hv3 hg3 hw3 hTl hTm hT hlen
              obtain ⟨p1, p2, p3⟩ := ob_cells HOb3.out
              go_wp2_with fail
              refine (HFree.out w3 HV3.out).mono ?_
              rintro e w4 ⟨v4, rfl, hv4, hb4⟩
              obtain ⟨A4, c4, e4⟩ := Kd.R_slice hv4
              rw [ints_len, HTl.out] at e4
              subst e4
              have HG4 := Aside0.mk (HG3.out.below hb4)
              have HV4 := Aside0.mk (Kd.R_below HV3.out hb4)
              have HB4 := Aside0.mk (below_then HB3.out HB3.out.size hb4)
              have HOb4 := Aside0.mk (blk_below HOb3.out hb4)
              have HL4 := Aside0.mk (Kd.R_below HL3.out hb4)
              have HW4 := Aside0.mk hv4
              clear p1 p2 p3 hv4 hb4
              obtain ⟨p1, p2, p3⟩ := ob_cells HOb4.out
              obtain ⟨hsa1, hsa2, hsa3⟩ := Kd.R_reads' HL4.out
              obtain ⟨hsb1, hsb2, hsb3⟩ := Kd.R_reads' HW4.out
              have hsame := grapnellaw08_same.calls _ A3 c3 (ints T) A4 c4 (ints T) _ w4 hsa3 (by omega) hsb3 (by omega) (same_f (ints T) (ints T) (by rw [ints_len, HTl.out]; omega))
              rw [ints_len, HTl.out, show decide (ints T = ints T) = true by simp] at hsame
              have HSame := Aside0.mk hsame
              clear hsame hsa1 hsa2 hsa3 hsb1 hsb2 hsb3
              go_wp2_with fail
              refine HSame.out.mono ?_
              rintro e w5 ⟨rfl, hd5⟩
              have hb5 := hd5.below
              have HG5 := Aside0.mk (HG4.out.below hb5)
              have HV5 := Aside0.mk (Kd.R_below HV4.out hb5)
              have HB5 := Aside0.mk (below_then HB4.out HB4.out.size hb5)
              have HW5 := Aside0.mk (Kd.R_below HW4.out hb5)
              clear p1 p2 p3 hd5 hb5
              go_wp2_with fail
              go_loopw [12] (fun i wq => ∃ (t : Nat), t ≤ qn ∧ i = .int .i64 t ∧ Aside0 (Gr wq w.heap.size g b m (byts (updL fr0 T))) ∧ Aside0 (Kd.R Kd.bool 4 wq w.heap.size (fun _ => True) (.slice (some ad) m cv) (hs (updL fr0 (T.take t)) m)) ∧ Aside0 (Kd.R (Kd.int .i64) 3 wq w3.heap.size (fun _ => True) (.slice A4 qn c4) (ints T)) ∧ Aside0 (Below w.heap.size w wq)) (fun i _ => qn - (intOf i).toNat)
              case atStart => exact ⟨0, by omega, rfl, HG5, HV5, HW5, HB5⟩
              case round =>
                obtain ⟨t, ht, rfl, HGt, HVt, HWt, HBt⟩ := hrel
                by_cases htq : t < qn
                · have htl : t < T.length := by rw [HTl.out]; exact htq
                  obtain ⟨y, hy⟩ : ∃ y, y = T[t] := ⟨_, rfl⟩
                  have hym := HTm.out y (by rw [hy]; exact List.getElem_mem htl)
                  obtain ⟨g4, eg4, hlc⟩ := lrow HWt.out HTl.out (by omega)
                  subst eg4
                  have hcell := hlc t htl
                  rw [← hy] at hcell
                  obtain ⟨hb, ev3, hcb, hfb, hput⟩ := hrow HVt.out (y : Int) (by omega) (by omega)
                  injection ev3 with ev3
                  subst ev3
                  rw [Int.toNat_natCast] at hcb hfb hput
                  have hpu := hput true
                  have hsn : upd (updL fr0 (T.take t)) y true = updL fr0 (T.take (t + 1)) := by
                    rw [List.take_succ_eq_append_getElem htl, ← hy, updL_append]
                    rfl
                  rw [hsn] at hpu
                  have HPu := Aside0.mk hpu
                  have hne : some hb ≠ (Value.slice (some ⟨g4, 0, none⟩) qn c4).ownBlock := by
                    obtain ⟨cl, hcl⟩ := Kd.R_typed HVt.out hb rfl
                    exact Kd.R_ne HWt.out hcl (by decide)
                  have HNe := Aside0.mk hne
                  clear hlc hput hpu hsn hy htl hne
                  go_wp2_with fail
                  go_roundw
                  case rel => exact ⟨t + 1, by omega, by go_num, ⟨HGt.out.kept HVt.out (by decide) (by decide) HPu.out.2⟩, ⟨HPu.out.1⟩, ⟨Kd.R_grown1 HWt.out rfl HPu.out.2 HNe.out⟩, ⟨HBt.out.grown HPu.out.2 HBt.out.size (fun k hk => by injection hk with hk; rw [← hk]; exact Kd.R_base HVt.out hb rfl)⟩⟩
                  case measure => simp [intOf]; omega
                · have htq' : t = qn := by omega
                  subst htq'
                  have hv := HVt.out
                  rw [List.take_of_length_le (by rw [HTl.out]; exact Nat.le_refl _)] at hv
                  have HV6 := Aside0.mk hv
                  clear hv
                  go_wp2_with fail
                  go_roundw
                  case rel => exact ⟨k + 1, updL fr0 T, by omega, by omega, by go_num, HGt, HV6, HBt, ⟨fun i hi => by rw [updL_out T fr0 m i HTm.out hi]; exact HLr.out i hi⟩⟩
                  case measure => simp [intOf]; omega
            · obtain ⟨t, ht⟩ : ∃ t, t = (fr fr0 m a.toNat).length := ⟨_, rfl⟩
              rw [← ht] at hlen
              have HT := Aside0.mk ht
              have HG3 := Aside0.mk (HG1.out.below hb3)
              have HV3 := Aside0.mk (Kd.R_below HV1.out hb3)
              have HB3 := Aside0.mk (below_then HB1.out HB1.out.size hb3)
              have HOb3 := Aside0.mk (blk_below HOb.out hb3)
              clear p1 p2 p3 hb3 ht
              obtain ⟨p1, p2, p3⟩ := ob_cells HOb3.out
              go_wp2_with fail
              refine (HFree.out w3 HV3.out).mono ?_
              rintro e w4 ⟨v4, rfl, hv4, hb4⟩
              obtain ⟨A4, c4, e4⟩ := Kd.R_slice hv4
              rw [ints_len, List.length_take, ← HT.out, Nat.min_eq_right (by omega)] at e4
              subst e4
              have HG4 := Aside0.mk (HG3.out.below hb4)
              have HV4 := Aside0.mk (Kd.R_below HV3.out hb4)
              have HB4 := Aside0.mk (below_then HB3.out HB3.out.size hb4)
              have HOb4 := Aside0.mk (blk_below HOb3.out hb4)
              clear p1 p2 p3 hv4 hb4
              obtain ⟨p1, p2, p3⟩ := ob_cells HOb4.out
              go_wp2_with fail
              go_roundw
              case rel => exact ⟨k + 1, fr0, by omega, by omega, by go_num, HG4, HV4, HB4, HLr⟩
              case measure => simp [intOf]; omega
        · have hkb : (kd == 2) = false := by simp [hkd]
          clear hkd
          go_wp2_with fail
          have HOb := Aside0.mk (heap_alloc_new wr (.cells #[.int .i64 kd, .int .i64 a, .int .i64 q, .bool u] 54))
          have HG1 := Aside0.mk (HGr.out.alloc (.cells #[.int .i64 kd, .int .i64 a, .int .i64 q, .bool u] 54))
          have HV1 := Aside0.mk (Kd.R_alloc HVr.out (.cells #[.int .i64 kd, .int .i64 a, .int .i64 q, .bool u] 54))
          have HB1 := Aside0.mk (below_alloc HBr.out (.cells #[.int .i64 kd, .int .i64 a, .int .i64 q, .bool u] 54))
          have hblt := HGr.out.lt.2.1
          generalize wr.alloc (.cells #[.int .i64 kd, .int .i64 a, .int .i64 q, .bool u] 54) = wo at HOb HG1 HV1 HB1 ⊢
          generalize wr.heap.size = ob at HOb hblt ⊢
          have HBN := Aside0.mk (show b ≠ ob by omega)
          clear hblt o0 o1 o2 o3 hop
          obtain ⟨p1, p2, p3⟩ := ob_cells HOb.out
          have hputc := put_calls wo _ g b m a u fr0 HG1.out (by omega)
          unfold putE putF at hputc
          by_cases hin : inB m a = true
          · rw [if_pos hin, if_pos hin] at hputc
            have h' := hin
            simp only [inB, Bool.and_eq_true, decide_eq_true_eq] at h'
            obtain ⟨ha0, ha1⟩ := h'
            clear hin
            refine hputc.mono ?_
            clear hputc
            rintro e w3 ⟨rfl, hg3, hw3⟩
            have HG3 := Aside0.mk hg3
            have HV3 := Aside0.mk (HG1.out.keeps hw3 HV1.out (by decide))
            have HB3 := Aside0.mk (HG1.out.under HB1.out HB1.out.size hw3)
            have HOb3 := Aside0.mk (blk_grown HOb.out hw3 (by simpa using fun e => HBN.out e.symm))
            clear p1 p2 p3 hg3 hw3
            obtain ⟨p1, p2, p3⟩ := ob_cells HOb3.out
            obtain ⟨hb, ev3, hcb, hfb, hput⟩ := hrow HV3.out a ha0 ha1
            injection ev3 with ev3
            subst ev3
            have HPu := Aside0.mk (hput u)
            clear hput
            go_wp2_with fail
            go_roundw
            case rel => exact ⟨k + 1, upd fr0 a.toNat u, by omega, by omega, by go_num, ⟨HG3.out.kept HV3.out (by decide) (by decide) HPu.out.2⟩, ⟨HPu.out.1⟩, ⟨HB3.out.grown HPu.out.2 HB3.out.size (fun k hk => by injection hk with hk; rw [← hk]; exact Kd.R_base HV3.out hb rfl)⟩, ⟨fun i hi => by rw [upd_ne _ _ (by omega)]; exact HLr.out i hi⟩⟩
            case measure => simp [intOf]; omega
          · rw [if_neg hin, if_neg hin] at hputc
            have hdec : a < 0 ∨ (0 ≤ a ∧ ¬ a < m) := by
              simp only [inB, Bool.and_eq_true, decide_eq_true_eq] at hin
              omega
            clear hin
            refine hputc.mono ?_
            clear hputc
            rintro e w3 ⟨rfl, hg3, hw3⟩
            have HG3 := Aside0.mk hg3
            have HV3 := Aside0.mk (HG1.out.keeps hw3 HV1.out (by decide))
            have HB3 := Aside0.mk (HG1.out.under HB1.out HB1.out.size hw3)
            have HOb3 := Aside0.mk (blk_grown HOb.out hw3 (by simpa using fun e => HBN.out e.symm))
            clear p1 p2 p3 hg3 hw3
            obtain ⟨p1, p2, p3⟩ := ob_cells HOb3.out
            rcases hdec with hd | ⟨hd1, hd2⟩
            all_goals
              go_wp2_with fail
              go_roundw
              case rel => exact ⟨k + 1, fr0, by omega, by omega, by go_num, HG3, HV3, HB3, HLr⟩
              case measure => simp [intOf]; omega
      · have hbo := body_calls _ _ g b m _ HGr.out
        have hrb := refbody_calls _ _ _ _ m cv fr0 HVr.out (by omega) HLr.out
        obtain ⟨s, hss⟩ : ∃ s, s = strOfNums (byts fr0) := ⟨_, rfl⟩
        rw [← hss] at hbo hrb
        have HBo := Aside0.mk hbo
        have HRb := Aside0.mk hrb
        clear hbo hrb hss
        have hdec : ¬ k < sl ∨ (k < sl ∧ ¬ k < 60) := by omega
        clear hc
        rcases hdec with hd | ⟨hd1, hd2⟩
        all_goals
          go_wp2_with fail
          refine HBo.out.mono ?_
          rintro e w5 ⟨rfl, rfl⟩
          go_wp2_with fail
          refine HRb.out.mono ?_
          rintro e w5 ⟨rfl, hb5⟩
          have HG5 := Aside0.mk (HGr.out.below hb5)
          have HV5 := Aside0.mk (Kd.R_below HVr.out hb5)
          have HB5 := Aside0.mk (below_then HBr.out HBr.out.size hb5)
          clear hb5
          go_wp2_with fail
          refine (count_calls _ _ g b m fr0 HG5.out h0 h1).mono ?_
          rw [Int.toNat_natCast]
          rintro e w6 ⟨rfl, rfl⟩
          go_wp2_with fail
          refine (refcount_calls _ _ _ _ m cv fr0 HV5.out (by omega)).mono ?_
          rintro e w6 ⟨rfl, hb6⟩
          have HB6 := Aside0.mk (below_then HB5.out HB5.out.size hb6)
          clear hb6
          generalize cnt fr0 m = x
          go_wp2_with fail
          refine (awake_calls _).mono ?_
          rintro e w9 ⟨rfl, hb⟩
          have HB9 := Aside0.mk (below_then HB6.out HB6.out.size hb)
          clear hb
          go_wp2
          go_ret
          exact ⟨rfl, HB9.out⟩

theorem gridPlays_walk (n : Int) (A : Option Addr) (sl c : Nat) (w : World) (_hn : (Lit.int .i64 n).wf = true) (hr : OpsIn w A sl) :
    Calls Try.prog 9 #[.int .i64 n, .slice A sl c] w fun e w' => e = .returned (.bool true) ∧ Below w.heap.size w w' := by
  by_cases h : 0 ≤ n ∧ n ≤ 3584
  · by_cases h2 : 200 < n
    · exact plays_much n A sl c w h.1 h.2 hr h2
    · exact plays_ok n A sl c w h.1 h.2 hr (by omega)
  · exact plays_bad n A sl c w (by omega)
end Go.Proofs.Ytmjbjfjmadkjkaa.G
