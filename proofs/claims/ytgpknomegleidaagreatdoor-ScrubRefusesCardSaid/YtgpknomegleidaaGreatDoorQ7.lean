/- The scrub texts, part Q7: walks through the code that the law reaches. -/
import Derived.Test.YtgpknomegleidaaGreatDoorQ6
import Derived.Deep.Slices
import Derived.Deep.Fields
import Derived.ChangeArms
import Derived.OpenShut
import Derived.HandedShaped
import Derived.Handed
import Derived.Shelf.Vars
namespace Go.Proofs.YtgpknomegleidaaGreatDoor.T
open Go.RowKit Go.Proofs.YtgpknomegleidaaGreatDoorW.PrintWords Go.Proofs.YtgpknomegleidaaGreatDoorW.PrintLast Go.Proofs.YtgpknomegleidaaGreatDoorW.PrintMore Go.Proofs.YtgpknomegleidaaGreatDoor.PAll
set_option linter.unusedSimpArgs false
set_option linter.unusedVariables false

set_option maxHeartbeats 1000000 in
set_option maxRecDepth 100000 in
theorem up16_c (n : Int) (w : World) : Calls Tryz.prog 12 #[.int .i64 n, .int .i64 16] w fun e w' => (∃ r, e = .returned (.int .i64 r)) ∧ w' = w := by
  go_enter Tryz.func12, Tryz.ntmps12
  go_wp2_with fail
  go_ret
  exact ⟨⟨_, rfl⟩, rfl⟩
set_option maxHeartbeats 1000000 in
set_option maxRecDepth 100000 in
theorem up64_c (n : Int) (w : World) : Calls Tryz.prog 12 #[.int .i64 n, .int .i64 64] w fun e w' => (∃ r, e = .returned (.int .i64 r)) ∧ w' = w := by
  go_enter Tryz.func12, Tryz.ntmps12
  go_wp2_with fail
  go_ret
  exact ⟨⟨_, rfl⟩, rfl⟩
set_option maxHeartbeats 1000000 in
set_option maxRecDepth 100000 in
theorem up6_c (w : World) : Calls Tryz.prog 12 #[.int .i64 6, .int .i64 16] w fun e w' => e = .returned (.int .i64 1) ∧ w' = w := by
  go_enter Tryz.func12, Tryz.ntmps12
  go_wp2_with fail
  go_ret
  exact ⟨rfl, rfl⟩
set_option maxHeartbeats 1000000 in
set_option maxRecDepth 100000 in
theorem up48_c (w : World) : Calls Tryz.prog 12 #[.int .i64 48, .int .i64 64] w fun e w' => e = .returned (.int .i64 1) ∧ w' = w := by
  go_enter Tryz.func12, Tryz.ntmps12
  go_wp2_with fail
  go_ret
  exact ⟨rfl, rfl⟩
def z16C : Array Value := #[.int .i64 0, .int .i64 0, .int .i64 0, .int .i64 0, .int .i64 0, .int .i64 0, .int .i64 0, .int .i64 0, .int .i64 0, .int .i64 0, .int .i64 0, .int .i64 0, .int .i64 0, .int .i64 0, .int .i64 0, .int .i64 0]
set_option maxHeartbeats 4000000 in
set_option maxRecDepth 100000 in
theorem rlay48_c (w : World) : Calls Tryz.prog 5 #[.int .i64 48] w fun e w' => e = .returned (.tuple #[.agg lay48, .int .i64 0]) ∧ Below w.heap.size w w' := by
  have hu26 := Tryz.underlying26
  go_enter Tryz.func5, Tryz.ntmps5
  go_wp2_with ((with_reducible refine gate_dst (N := 2) rfl ?_); refine box_event ?hg (N := 2) ?hd (cs := (#[.int .i64 0, .int .i64 0, .int .i64 0, .int .i64 0, .int .i64 0, .int .i64 0, .int .i64 0, .int .i64 0, .int .i64 0, .int .i64 0, .int .i64 0, .int .i64 0, .int .i64 0, .int .i64 0, .int .i64 0, .int .i64 0] : Array Value)) (t := 26) ?hr ?_; (case hd => rfl); (case hg => rfl); (case hr => first | (go_simp; done) | (go_simp; rfl)); intro g2 hg w1 hbox hb; have H2 := Aside0.mk hbox; have HB := Aside0.mk hb; have G2 := Aside0.mk (Nat.le_of_eq hg.symm : w.heap.size ≤ g2); clear hg hbox hb)
  refine (up6_c _).mono ?_
  rintro e w2 ⟨rfl, rfl⟩
  go_wp2_with fail
  refine (up48_c _).mono ?_
  rintro e w3 ⟨rfl, rfl⟩
  go_wp2_with ((with_reducible refine gate_store (t := 26) rfl ?_); refine store_at rfl _ _ _ rfl g2 0 26 _ lay48.toList infoLay H2.out (Nat.le_of_ble_eq_true rfl) (by first | (go_simp; done) | (go_simp; rfl)) (by first | (go_simp; done) | (go_simp; rfl)) (by intro u hu; simp only [lay48, List.mem_cons, List.not_mem_nil, or_false] at hu; rcases hu with rfl | rfl | rfl | rfl | rfl | rfl | rfl | rfl | rfl | rfl | rfl | rfl | rfl | rfl | rfl | rfl <;> rfl) ?_; intro ws hs hgr; have HW := Aside0.mk hs; have HBW := Aside0.mk (HB.out.grown hgr HB.out.size (fun k hk => by injection hk with hk; have := G2.out; omega)); clear hs hgr)
  (try simp only [Exit.inBlock, Exit.then])
  refine bodyPost_ret (results_ct rfl _ _ g2 26 lay48 (0, 0) _ rfl HW.out hu26 rfl infoLay) rfl ?_
  exact ⟨rfl, HBW.out⟩
set_option maxHeartbeats 1000000 in
set_option maxRecDepth 100000 in
theorem sect48_c (w : World) : Calls Tryz.prog 45 #[.int .i64 48] w fun e w' => e = .returned (.int .i64 784) ∧ Below w.heap.size w w' := by
  have hu26 := Tryz.underlying26
  go_enter Tryz.func45, Tryz.ntmps45
  go_wp2_with fail
  refine (rlay48_c _).mono ?_
  rintro e w2 ⟨rfl, hb⟩
  have HB := Aside0.mk hb
  clear hb
  unfold lay48
  go_wp2_with fail
  go_ret
  exact ⟨rfl, below_alloc HB.out _⟩
set_option maxHeartbeats 1000000 in
set_option maxRecDepth 100000 in
theorem small48_c (w : World) : Calls Tryz.prog 27 #[.int .i64 48] w fun e w' => e = .returned (.bool true) ∧ w' = w := by
  go_enter Tryz.func27, Tryz.ntmps27
  go_wp2_with fail
  go_ret
  exact ⟨rfl, rfl⟩
/-- A device with an empty file system and its vault. -/
def FreshP (w : World) (e : Ending) (w' : World) : Prop :=
  ∃ p bh bd v i vh vs f F ws rd wr, e = .returned (.tuple #[.pointer (some ⟨p, 0, none⟩), .pointer (some ⟨v, 0, none⟩)]) ∧ Vlt w' v i vh vs 400 f ∧ ws.length = 10 ∧ WsOk ws ∧ (∀ j x, ws[j]? = some x → BlkOk f 400 F j x) ∧ H64 F ∧
    PlateS w' p bh bd 784 F (fun _ => false) (.slice none 0 0) rd wr [] ∧ Below w.heap.size w w' ∧ w.heap.size ≤ p ∧ w.heap.size ≤ bh ∧ w.heap.size ≤ bd
set_option maxHeartbeats 4000000 in
set_option maxRecDepth 100000 in
theorem fresh48_c (w : World) : Calls Tryz.prog 28 #[.int .i64 48] w (FreshP w) := by
  go_enter Tryz.func28, Tryz.ntmps28
  go_wp2_with fail
  refine (sect48_c _).mono ?_
  rintro e w2 ⟨rfl, hb⟩
  have HB2 := Aside0.mk hb
  clear hb
  go_wp2_with fail
  refine (new_c w2 784 (by decide)).mono ?_
  rintro e w3 ⟨p, bh, bd, rfl, hp, h1, h2, h3, hb⟩
  have HP3 := Aside0.mk hp
  have HG := Aside0.mk (And.intro (Nat.le_trans HB2.out.size h1) (And.intro (Nat.le_trans HB2.out.size h2) (Nat.le_trans HB2.out.size h3)))
  have HB3 := Aside0.mk (below_then HB2.out HB2.out.size hb)
  clear hp h1 h2 h3 hb HB2
  go_wp2_with fail
  refine (ideal_c w3).mono ?_
  rintro e w4 ⟨v, i, vh, vs, rfl, hv, h1, h2, h3, h4, hb⟩
  have HV4 := Aside0.mk hv
  have HP4 := Aside0.mk (HP3.out.below hb)
  have HB4 := Aside0.mk (below_then HB3.out HB3.out.size hb)
  have HGV := Aside0.mk (And.intro (Nat.le_trans HB3.out.size h3) (Nat.le_trans HB3.out.size h4))
  clear hv h1 h2 h3 h4 hb HP3 HB3
  go_wp2_with fail
  refine (make_c w4 p bh bd v i vh vs 0 (fun _ => 0) _ _ HP4.out HV4.out (by decide)).mono ?_
  rintro e w5 ⟨f, F, ws, rd, wr, rfl, q1, q2, q3, q4, q5, q6, q7⟩
  have HE := Aside0.mk (And.intro q1 (And.intro q2 (And.intro q3 (And.intro q4 (And.intro q5 q6)))))
  have HB5 : Aside0 (Below w.heap.size w w5) := ⟨⟨q7.os.trans HB4.out.os, q7.tape.trans HB4.out.tape, q7.output.trans HB4.out.output, Nat.le_trans HB4.out.size q7.size, fun g hg => by
    exact (q7.block g (Nat.lt_of_lt_of_le hg HB4.out.size) (fun e => by
      rcases e with (e | e | e) | (e | e)
      · have := HG.out.1; omega
      · have := HG.out.2.1; omega
      · have := HG.out.2.2; omega
      · have := HGV.out.1; omega
      · have := HGV.out.2; omega) (fun _ _ _ q hq => by
      rcases hq with (e | e | e) | (e | e)
      · have := HG.out.1; omega
      · have := HG.out.2.1; omega
      · have := HG.out.2.2; omega
      · have := HGV.out.1; omega
      · have := HGV.out.2; omega)).trans (HB4.out.block g hg)⟩⟩
  clear q1 q2 q3 q4 q5 q6 q7
  go_wp2_with fail
  go_ret2
  exact ⟨p, bh, bd, v, i, vh, vs, f, F, ws, rd, wr, rfl, by simpa using HE.out.1, HE.out.2.1, HE.out.2.2.1, by simpa using HE.out.2.2.2.1, HE.out.2.2.2.2.1, HE.out.2.2.2.2.2, HB5.out, HG.out⟩
set_option maxHeartbeats 1000000 in
set_option maxRecDepth 100000 in
theorem fresh_c (w : World) : Calls Tryz.prog 18 #[.int .i64 48] w (FreshP w) := by
  go_enter Tryz.func18, Tryz.ntmps18
  go_wp2_with fail
  refine (small48_c _).mono ?_
  rintro e w2 ⟨rfl, rfl⟩
  go_wp2_with fail
  refine (fresh48_c _).mono ?_
  rintro e w3 ⟨p, bh, bd, v, i, vh, vs, f, F, ws, rd, wr, rfl, h⟩
  have HE := Aside0.mk h
  clear h
  go_wp2_with fail
  go_ret2
  exact ⟨p, bh, bd, v, i, vh, vs, f, F, ws, rd, wr, rfl, HE.out⟩
end Go.Proofs.YtgpknomegleidaaGreatDoor.T
namespace Go.Proofs.YtgpknomegleidaaGreatDoor.T
open Go.RowKit Go.Proofs.YtgpknomegleidaaGreatDoorW.PrintWords Go.Proofs.YtgpknomegleidaaGreatDoorW.PrintLast Go.Proofs.YtgpknomegleidaaGreatDoorW.PrintMore Go.Proofs.YtgpknomegleidaaGreatDoor.PAll
set_option linter.unusedSimpArgs false
set_option linter.unusedVariables false

set_option maxHeartbeats 4000000 in
set_option maxRecDepth 100000 in
theorem class_none (w : World) (v : Value) (a : Nat) :
    Calls Tryz.prog 15 #[v, .agg #[.slice none 0 0, .slice none 0 0], .int .i64 (a : Int)] w fun e w' => e = .returned (.int .i64 21) ∧ Below w.heap.size w w' := by
  have hu37 := Tryz.underlying37
  have HB0 := Aside0.mk (below_alloc (Below.refl w.heap.size w) (.cells #[.slice none 0 0, .slice none 0 0] 37 (0, 0)))
  go_enter Tryz.func15, Tryz.ntmps15
  go_wp2_with fail
  refine (at_none _ a).mono ?_
  rintro e w2 ⟨rfl, hb⟩
  have HB2 := Aside0.mk (below_then HB0.out HB0.out.size hb)
  clear hb HB0
  go_wp2_with fail
  go_ret
  exact ⟨rfl, HB2.out⟩
set_option maxHeartbeats 4000000 in
set_option maxRecDepth 100000 in
theorem class_dumb (w : World) (v : Value) (base M : Nat) (vr vm : Value) (raw : Nat → ByteArray) (msk : Nat → Int) (k : ImgS w base vr vm M raw msk) (a : Nat) (ha : a < M) (hz : (raw a).size = 512) (hm : msk a = 1) :
    Calls Tryz.prog 15 #[v, .agg #[vr, vm], .int .i64 (a : Int)] w fun e w' => e = .returned (.int .i64 21) ∧ Below w.heap.size w w' := by
  have hu37 := Tryz.underlying37
  obtain ⟨Ar, cr, er⟩ := own_sliceN k.raws
  subst er
  obtain ⟨Am, cm, em⟩ := own_sliceN k.msks
  subst em
  have HB0 := Aside0.mk (below_alloc (Below.refl w.heap.size w) (.cells #[.slice Ar M cr, .slice Am M cm] 37 (0, 0)))
  have HA := Aside0.mk (at_c _ base M _ _ raw msk (k.below HB0.out) a ha hz)
  rw [hm] at HA
  clear k ha hz hm
  go_enter Tryz.func15, Tryz.ntmps15
  go_wp2_with fail
  refine HA.out.mono ?_
  rintro e w2 ⟨rfl, hb⟩
  have HB2 := Aside0.mk (below_then HB0.out HB0.out.size hb)
  clear hb HB0 HA
  go_wp2_with fail
  go_ret
  exact ⟨rfl, HB2.out⟩
set_option maxHeartbeats 4000000 in
set_option maxRecDepth 100000 in
theorem class_good (w : World) (v i bh bs N : Nat) (f : Lit → Nat) (h : Hd) (body : ByteArray) (kl : Lit) (hv : Vlt w v i bh bs N f) (hf : h.fits) (hN : N < 1000000) (hz : body.size = 448) (hk : KeyIs h body kl) (h0 : f kl ≠ 0) (hle : f kl ≤ N)
    (base M : Nat) (vr vm : Value) (raw : Nat → ByteArray) (msk : Nat → Int) (k : ImgS w base vr vm M raw msk) (ha : h.addr < M) (hr : raw h.addr = rawA h body (f kl)) (hm : msk h.addr = 0) :
    Calls Tryz.prog 15 #[.pointer (some ⟨v, 0, none⟩), .agg #[vr, vm], .int .i64 (h.addr : Int)] w fun e w' => e = .returned (.int .i64 0) ∧ Below w.heap.size w w' := by
  have hu37 := Tryz.underlying37
  have hu71 := Tryz.underlying71
  have hrz : (raw h.addr).size = 512 := by rw [hr]; exact rawA_size h body _ hz
  obtain ⟨Ar, cr, er⟩ := own_sliceN k.raws
  subst er
  obtain ⟨Am, cm, em⟩ := own_sliceN k.msks
  subst em
  have hb0 := below_alloc (Below.refl w.heap.size w) (.cells #[.slice Ar M cr, .slice Am M cm] 37 (0, 0))
  have HB0 := Aside0.mk hb0
  have HA := Aside0.mk (at_c _ base M _ _ raw msk (k.below hb0) h.addr ha hrz)
  have HV := Aside0.mk (hv.below hb0)
  have HO := Aside0.mk (fun W (hW : Vlt W v i bh bs N f) => bOpen_c W v i bh bs N f h body (raw h.addr) kl hW hf hN hz hk h0 hle hr)
  have HF := Aside0.mk hf
  rw [hm] at HA
  have x1 : (raw h.addr).extract 0 48 = headA h := by rw [hr]; exact rawA_head h body _
  have q1 : (48 ≤ (raw h.addr).size) = True := eq_true (by omega)
  have q2 : ((48 : Int) ≤ ((raw h.addr).size : Int)) = True := eq_true (by omega)
  generalize raw h.addr = r at *
  clear hb0 k hv hr hm hrz
  go_enter Tryz.func15, Tryz.ntmps15
  go_wp2_with fail
  refine HA.out.mono ?_
  rintro e w2 ⟨rfl, hb⟩
  have HB2 := Aside0.mk (below_then HB0.out HB0.out.size hb)
  have HV2 := Aside0.mk (HV.out.below hb)
  clear hb HB0 HV HA
  go_wp2_with fail
  refine (headof_c h HF.out (headA h) rfl _).mono ?_
  rintro e w3 ⟨rfl, hb⟩
  have hb4 := below_alloc (Below.refl w3.heap.size w3) (.cells (headC h) 71 (0, 0))
  have hb5 := below_then hb hb.size hb4
  have HB3 := Aside0.mk (below_then HB2.out HB2.out.size hb5)
  have HV3 := Aside0.mk (HV2.out.below hb5)
  clear hb hb4 hb5 HB2 HV2
  rw [headV_C]
  unfold headC at HB3 HV3 ⊢
  go_wp2_with fail
  refine (HO.out _ HV3.out).mono ?_
  rintro e w4 ⟨rfl, hb⟩
  have hb4 := below_alloc (Below.refl w4.heap.size w4) (.cells (headC h) 71 (0, 0))
  have hb5 := below_then hb hb.size hb4
  have HB4 := Aside0.mk (below_then HB3.out HB3.out.size hb5)
  clear hb hb4 hb5 HB3 HV3
  rw [headV_C]
  unfold headC at HB4 ⊢
  go_wp2_with fail
  go_ret
  exact ⟨rfl, HB4.out⟩
end Go.Proofs.YtgpknomegleidaaGreatDoor.T
namespace Go.Proofs.YtgpknomegleidaaGreatDoor.T
open Go.RowKit Go.Proofs.YtgpknomegleidaaGreatDoorW.PrintWords Go.Proofs.YtgpknomegleidaaGreatDoorW.PrintLast Go.Proofs.YtgpknomegleidaaGreatDoorW.PrintMore Go.Proofs.YtgpknomegleidaaGreatDoor.PAll
set_option linter.unusedSimpArgs false
set_option linter.unusedVariables false

def scrZ : Array Value := #[.int .i64 0, .int .i64 0, .slice none 0 0]
set_option maxHeartbeats 4000000 in
set_option maxRecDepth 100000 in
theorem step_bad (w : World) (v : Value) (Ar Am A : Option Addr) (lr cr lm cm l c : Nat) (live at_ n : Int) (hbad : rightR live at_ = false ∨ n < 0) :
    Calls Tryz.prog 6 #[v, .agg #[.slice Ar lr cr, .slice Am lm cm], .agg #[.int .i64 live, .int .i64 at_, .slice A l c], .int .i64 n] w fun e w' => e = .returned (.tuple #[.agg scrZ, .bool false, .int .i64 1]) ∧ Below w.heap.size w w' := by
  have hu37 := Tryz.underlying37
  have hu24 := Tryz.underlying24
  have hb1 := below_alloc (Below.refl w.heap.size w) (.cells #[.slice Ar lr cr, .slice Am lm cm] 37 (0, 0))
  have hb2 := below_alloc hb1 (.cells #[.int .i64 live, .int .i64 at_, .slice A l c] 24 (0, 0))
  have hb3 := below_alloc hb2 (.cells scrZ 24 (0, 0))
  have h8 := heap_alloc_new ((w.alloc (.cells #[.slice Ar lr cr, .slice Am lm cm] 37 (0, 0))).alloc (.cells #[.int .i64 live, .int .i64 at_, .slice A l c] 24 (0, 0))) (.cells scrZ 24 (0, 0))
  rw [alloc_sz, alloc_sz] at h8
  have HB0 := Aside0.mk hb3
  have H8 := Aside0.mk h8
  have HBAD := Aside0.mk hbad
  clear hb1 hb2 hb3 h8 hbad
  unfold scrZ at HB0 H8
  go_enter Tryz.func6, Tryz.ntmps6
  go_wp2_with fail
  refine (right_c live at_ (.slice A l c) rfl _).mono ?_
  rintro e w2 ⟨rfl, hb⟩
  have HB2 := Aside0.mk (below_then HB0.out HB0.out.size hb)
  have H82 := Aside0.mk (blk_below H8.out hb)
  clear hb HB0 H8
  obtain ⟨g8, hg8⟩ : ∃ g, g = w.heap.size + 1 + 1 := ⟨_, rfl⟩
  have HG := Aside0.mk (show w.heap.size ≤ g8 by omega)
  rw [← hg8] at H82 ⊢
  clear hg8
  by_cases hr : rightR live at_ = true
  · have hn : n < 0 := HBAD.out.resolve_left (by rw [hr]; decide)
    have d0 : decide (n < 0) = true := decide_eq_true hn
    rw [hr]
    clear hr hn HBAD
    go_wp2_with ((with_reducible refine gate_store (t := 24) rfl ?_); refine store_at rfl _ _ _ rfl g8 0 24 _ [.int .i64 0, .int .i64 0, .slice none 0 0] infoScr H82.out (Nat.le_of_ble_eq_true rfl) (by first | (go_simp; done) | (go_simp; rfl)) (by first | (go_simp; done) | (go_simp; rfl)) (by intro u hu; simp only [List.mem_cons, List.not_mem_nil, or_false] at hu; rcases hu with rfl | rfl | rfl <;> rfl) ?_; intro ws hs hgr; have HW := Aside0.mk hs; have HBW := Aside0.mk (HB2.out.grown hgr HB2.out.size (fun k hk => by injection hk with hk; have := HG.out; omega)); clear hs hgr)
    (try simp only [Exit.inBlock, Exit.then])
    refine bodyPost_ret (results_ctt rfl _ _ g8 24 scrZ (0, 0) _ rfl HW.out hu24 rfl infoScr) rfl ?_
    exact ⟨rfl, HBW.out⟩
  · have hr : rightR live at_ = false := by simpa using hr
    rw [hr]
    clear hr HBAD
    go_wp2_with ((with_reducible refine gate_store (t := 24) rfl ?_); refine store_at rfl _ _ _ rfl g8 0 24 _ [.int .i64 0, .int .i64 0, .slice none 0 0] infoScr H82.out (Nat.le_of_ble_eq_true rfl) (by first | (go_simp; done) | (go_simp; rfl)) (by first | (go_simp; done) | (go_simp; rfl)) (by intro u hu; simp only [List.mem_cons, List.not_mem_nil, or_false] at hu; rcases hu with rfl | rfl | rfl <;> rfl) ?_; intro ws hs hgr; have HW := Aside0.mk hs; have HBW := Aside0.mk (HB2.out.grown hgr HB2.out.size (fun k hk => by injection hk with hk; have := HG.out; omega)); clear hs hgr)
    (try simp only [Exit.inBlock, Exit.then])
    refine bodyPost_ret (results_ctt rfl _ _ g8 24 scrZ (0, 0) _ rfl HW.out hu24 rfl infoScr) rfl ?_
    exact ⟨rfl, HBW.out⟩
end Go.Proofs.YtgpknomegleidaaGreatDoor.T
namespace Go.Proofs.YtgpknomegleidaaGreatDoor.T
open Go.RowKit Go.Proofs.YtgpknomegleidaaGreatDoorW.PrintWords Go.Proofs.YtgpknomegleidaaGreatDoorW.PrintLast Go.Proofs.YtgpknomegleidaaGreatDoorW.PrintMore Go.Proofs.YtgpknomegleidaaGreatDoor.PAll
set_option linter.unusedSimpArgs false
set_option linter.unusedVariables false

/-- What is found from at0 on, in k addresses. -/
def fnd (u : Nat → Bool) (cls : Nat → Int) (at0 : Nat) : Nat → List Nat
  | 0 => []
  | k + 1 => fnd u cls at0 k ++ (if u (at0 + k) = true ∧ cls (at0 + k) ≠ 0 then [at0 + k] else [])
def encF (cls msk : Nat → Int) (a : Nat) : List Value := [.int .i64 (cls a), .int .i64 (a : Int), .int .i64 (msk a), .int .i64 0]
theorem infoFnd : (Tryz.prog.info? 46).map (fun i => (i.zero, i.size, i.bytes)) = some (some (.agg #[.int .i64 0, .int .i64 0, .int .i64 0, .int .i64 0]), 4, 32) := by kernel_rfl
theorem fnd_len (u : Nat → Bool) (cls : Nat → Int) (at0 : Nat) : ∀ k, (fnd u cls at0 k).length ≤ k
  | 0 => Nat.le_refl _
  | k + 1 => by
    rw [fnd, List.length_append]
    have := fnd_len u cls at0 k
    split
    · simp only [List.length_cons, List.length_nil]; omega
    · simp only [List.length_nil]; omega
theorem cells_below {w W : World} {ad : Addr} {q : Value} (hb : Below w.heap.size w W) (h : w.cell? ad = some q) : W.cell? ad = some q := (World.cell?_of_block (hb.block _ (World.block_lt_of_cell? w ad h))).trans h
/-- A list is appended to an empty row. -/
theorem wpList_appS {ops : Array Oper} {rest : List Oper} {o : Oper} {a : Act} {Q : Exit → Act → World → Prop} (hgd : o.guard = none) (sl x : Operand) (t : TypeId) (ho : o.op = .call { callee := .builtin .append, args := #[sl, x], argTypes := #[t, t] })
    (B : Nat) (ht : Tryz.prog.underlying t = some (.slice 46)) (W : World) (A : Option Addr) (l c : Nat) (xs : List Value) (hs : a.eval sl = .slice (some ⟨W.heap.size, 0, none⟩) 0 0) (hx : a.eval x = .slice A l c)
    (hnone : A = none → l = 0 ∧ c = 0) (hxl : xs.length = l * 4) (h1 : ∀ q ∈ xs, q.oneCell' = true) (hc : ∀ ad, A = some ad → ∀ j q, xs[j]? = some q → W.cell? (ad.add j) = some q) (hl : l ≤ 10000) (hB : B ≤ W.heap.size)
    (h : ∀ v' w', w'.ownsRow B 46 4 v' l xs → Below W.heap.size W w' → wpList Tryz.prog ops Q rest (a.put o.dst v') w') : wpList Tryz.prog ops Q (o :: rest) a (W.alloc (.cells #[] 46 (0, 0))) := by
  obtain ⟨i0, hi, hz0, hz1, hz2⟩ := info_parts infoFnd
  have ha := below_alloc (Below.refl W.heap.size W) (.cells #[] 46 (0, 0))
  have hown : (W.alloc (.cells #[] 46 (0, 0))).ownsRow B 46 4 (.slice (some ⟨W.heap.size, 0, none⟩) 0 0) 0 [] := ⟨rfl, .inr ⟨W.heap.size, 0, #[], rfl, hB, heap_alloc_new W _, Nat.le_refl _, Nat.zero_le _, rfl, rfl⟩⟩
  have fin : ∀ w', (W.alloc (.cells #[] 46 (0, 0))).grownBy w' (some W.heap.size) → Below W.heap.size W w' := fun w' hg => ⟨hg.os, hg.tape, hg.output, Nat.le_trans ha.size hg.size, fun k hk => (hg.block k (by rw [alloc_sz]; omega) (fun e => by injection e with e; omega)).trans (ha.block k hk)⟩
  cases A with
  | none =>
    obtain ⟨rfl, rfl⟩ := hnone rfl
    have hxn : xs = [] := List.eq_nil_of_length_eq_zero (by simpa using hxl)
    subst hxn
    refine wpList_append_fits_any _ hgd sl x t ho B 46 i0 4 ht hi hz1 W.heap.size 0 0 [] hs hown none 0 0 [] hx rfl (fun _ => ⟨rfl, rfl⟩) (fun ad e => by cases e) (fun u hu => by cases hu) (Nat.le_refl _) ?_
    intro w' h2 h3
    exact h _ w' h2 (fin w' h3)
  | some ad =>
    refine wpList_append_own_wide _ hgd sl x t ho B 46 i0 _ 4 32 ht hi hz0 hz1 hz2 rfl (by decide) _ 0 [] hs hown ad l c xs hx hxl (fun j q hq => cells_below ha (hc ad rfl j q hq)) h1 (by unfold maxLen; omega) (by omega) (by rw [alloc_sz]; omega) ?_
    intro v' w' h2 h3 _
    refine h v' w' ?_ (fin w' h3)
    rw [Nat.zero_add, List.nil_append] at h2
    exact h2
def scrC (live at_ : Int) (vb : Value) : Array Value := #[.int .i64 live, .int .i64 at_, vb]
/-- What stands while a scrub goes on. -/
structure StepI (w wq : World) (B g5 bo g13 : Nat) (ic : Array Value) (live : Nat) (u : Nat → Bool) (at_ : Int) (vb : Value) (m : Nat) (ys : List Value) : Prop where
  im : wq.heap[g5]? = some (.cells ic 37 (0, 0))
  res : wq.heap[g5 + 1 + 1]? = some (.cells #[.int .i64 0, .int .i64 0, .slice none 0 0] 24 (0, 0))
  scr : wq.heap[g13]? = some (.cells #[.int .i64 (live : Int), .int .i64 at_, vb] 24 (0, 0))
  used : wq.heap[bo]? = some (.cells (dumbC live u) 4 (0, 0))
  row : wq.ownsRow B 46 4 vb m ys
  bel : Below B w wq
  ne : g5 + 1 + 1 ≠ g13
  le : B ≤ g13
section
variable {w wq : World} {B g5 bo g13 : Nat} {ic : Array Value} {live : Nat} {u : Nat → Bool} {at_ : Int} {vb : Value} {m : Nat} {ys : List Value}
theorem StepI.below (k : StepI w wq B g5 bo g13 ic live u at_ vb m ys) {w' : World} (hb : Below wq.heap.size wq w') : StepI w w' B g5 bo g13 ic live u at_ vb m ys :=
  ⟨blk_below k.im hb, blk_below k.res hb, blk_below k.scr hb, blk_below k.used hb, pw_own_below k.row hb, below_then k.bel (Nat.le_of_lt (Nat.lt_of_le_of_lt k.le (blk_lt k.scr))) hb, k.ne, k.le⟩
theorem StepI.atS (k : StepI w wq B g5 bo g13 ic live u at_ vb m ys) (a : Int) : StepI w (wq.setCell ⟨g13, 1, none⟩ (.int .i64 a)) B g5 bo g13 ic live u a vb m ys := by
  have hg := Lib.grownBy_setCell wq g13 1 (.int .i64 a)
  exact ⟨blk_grown k.im hg (by intro e; injection e with e; exact blk_ne_type k.im k.scr (by decide) e), blk_grown k.res hg (by intro e; injection e with e; exact k.ne e), blk_put k.scr 1 _ rfl,
    blk_grown k.used hg (by intro e; injection e with e; exact blk_ne_type k.used k.scr (by decide) e), k.row.kept hg (own_not (own_ne2 k.row k.scr (by decide))), k.bel.setCell (p := ⟨g13, 1, none⟩) k.le _, k.ne, k.le⟩
theorem StepI.app (k : StepI w wq B g5 bo g13 ic live u at_ vb m ys) {v1 : Value} {e : List Value} {w4 : World} (ho : w4.ownsRow B 46 4 v1 (m + 1) (ys ++ e)) (hg : (wq.alloc (.cells e.toArray 46 (0, 0))).grownBy w4 vb.ownBlock) :
    w4.heap[g13]? = some (.cells #[.int .i64 (live : Int), .int .i64 at_, vb] 24 (0, 0)) ∧ StepI w (w4.setCell ⟨g13, 2, none⟩ v1) B g5 bo g13 ic live u at_ v1 (m + 1) (ys ++ e) := by
  have k2 := k.below (below_alloc (Below.refl wq.heap.size wq) (.cells e.toArray 46 (0, 0)))
  have i4 := blk_grown k2.im hg (own_ne2 k2.row k2.im (by decide))
  have r4 := blk_grown k2.res hg (own_ne2 k2.row k2.res (by decide))
  have s4 := blk_grown k2.scr hg (own_ne2 k2.row k2.scr (by decide))
  have u4 := blk_grown k2.used hg (own_ne2 k2.row k2.used (by decide))
  have b4 := k2.bel.trans (below_own k2.row hg (Nat.le_refl _) (Nat.le_of_lt (Nat.lt_of_le_of_lt k2.le (blk_lt k2.scr))))
  have hg2 := Lib.grownBy_setCell w4 g13 2 v1
  exact ⟨s4, blk_grown i4 hg2 (by intro e; injection e with e; exact blk_ne_type i4 s4 (by decide) e), blk_grown r4 hg2 (by intro e; injection e with e; exact k.ne e), blk_put s4 2 _ rfl,
    blk_grown u4 hg2 (by intro e; injection e with e; exact blk_ne_type u4 s4 (by decide) e), ho.kept hg2 (own_not (own_ne2 ho s4 (by decide))), b4.setCell (p := ⟨g13, 2, none⟩) k.le _, k.ne, k.le⟩
theorem StepI.store {A2 : Option Addr} {L c2 : Nat} (k : StepI w wq B g5 bo g13 ic live u at_ (.slice A2 L c2) m ys) (hB : B ≤ g5) :
    (wq.setCells (g5 + 1 + 1) 0 [.int .i64 (live : Int), .int .i64 at_, .slice A2 L c2]).heap[g5 + 1 + 1]? = some (.cells #[.int .i64 (live : Int), .int .i64 at_, .slice A2 L c2] 24 (0, 0)) ∧
    (wq.setCells (g5 + 1 + 1) 0 [.int .i64 (live : Int), .int .i64 at_, .slice A2 L c2]).heap[g13]? = some (.cells #[.int .i64 (live : Int), .int .i64 at_, .slice A2 L c2] 24 (0, 0)) ∧
    (wq.setCells (g5 + 1 + 1) 0 [.int .i64 (live : Int), .int .i64 at_, .slice A2 L c2]).ownsRow B 46 4 (.slice A2 L c2) m ys ∧
    Below B w (wq.setCells (g5 + 1 + 1) 0 [.int .i64 (live : Int), .int .i64 at_, .slice A2 L c2]) := by
  have g1 := Lib.grownBy_setCell wq (g5 + 1 + 1) 0 (.int .i64 (live : Int))
  have g2 := Lib.grownBy_setCell (wq.setCell ⟨g5 + 1 + 1, 0, none⟩ (.int .i64 (live : Int))) (g5 + 1 + 1) 1 (.int .i64 at_)
  have g3 := Lib.grownBy_setCell ((wq.setCell ⟨g5 + 1 + 1, 0, none⟩ (.int .i64 (live : Int))).setCell ⟨g5 + 1 + 1, 1, none⟩ (.int .i64 at_)) (g5 + 1 + 1) 2 (.slice A2 L c2)
  have g := (g1.trans g2).trans g3
  refine ⟨blk_put (blk_put (blk_put k.res 0 _ rfl) 1 _ rfl) 2 _ rfl, ?_, ?_, ?_⟩
  · exact blk_grown k.scr g (by intro e; injection e with e; exact k.ne e.symm)
  · exact k.row.kept g (own_not (own_ne2 k.row k.res (by decide)))
  · exact ((k.bel.setCell (p := ⟨g5 + 1 + 1, 0, none⟩) (by show B ≤ g5 + 1 + 1; omega) _).setCell (p := ⟨g5 + 1 + 1, 1, none⟩) (by show B ≤ g5 + 1 + 1; omega) _).setCell (p := ⟨g5 + 1 + 1, 2, none⟩) (by show B ≤ g5 + 1 + 1; omega) _
end
theorem exec_storeN {o : Oper} {a : Act} (w : World) (ty : TypeId) (x y : Operand) (ho : o.op = .store ty x y) (g k : Nat) (t : TypeId) (cur : Array Value) (u : Value) (seg : List Value) (hg : w.heap[g]? = some (.cells cur t (0, 0))) (hk : k + seg.length ≤ cur.size)
    (hi : (Tryz.prog.info? ty).map (·.size) = some seg.length) (hx : a.eval x = .pointer (some ⟨g, k, none⟩)) (hy : a.eval y = u) (hu : u.cells.toList = seg) (h1 : ∀ q ∈ seg, q.oneCell' = true) :
    (execOp a.eval o).run Tryz.prog w = .ok .skip (w.setCells g k seg) := by
  have := run_store_run (P := Tryz.prog) (o := k) ty u seg hg hu hi hk h1
  unfold execOp
  simp only [ho, hx, hy, Sem.run_bind, Sem.run_pure, Result.andThen_ok, this]
theorem int_eq_dec (a b : Nat) : ((a : Int) == (b : Int)) = decide (a = b) := by
  by_cases h : a = b
  · subst h; simp
  · rw [decide_eq_false h, beq_eq_false_iff_ne]
    omega
def StepP (w : World) (live at0 k l : Nat) (u : Nat → Bool) (cls msk : Nat → Int) (xs : List Value) (e : Ending) (w' : World) : Prop :=
  ∃ vb, e = .returned (.tuple #[.agg #[.int .i64 (live : Int), .int .i64 ((at0 + k : Nat) : Int), vb], .bool (decide (at0 + k = live)), .int .i64 0]) ∧
    w'.ownsRow w.heap.size 46 4 vb (l + (fnd u cls at0 k).length) (xs ++ (fnd u cls at0 k).flatMap (encF cls msk)) ∧ Below w.heap.size w w'
set_option maxHeartbeats 4000000 in
set_option maxRecDepth 100000 in
theorem step_g (w : World) (v : Value) (Ar Am A : Option Addr) (lr cr lm cm l c live at0 n : Nat) (u : Nat → Bool) (cls msk : Nat → Int) (xs : List Value)
    (h1 : 48 ≤ live) (h2 : live ≤ 1024) (h3 : 27 ≤ at0) (h4 : at0 ≤ live) (hl : l ≤ 10000) (hlc : A = none → l = 0 ∧ c = 0) (hn : n ≤ 9223372036854775807)
    (hxl : xs.length = l * 4) (hx1 : ∀ q ∈ xs, q.oneCell' = true) (hx : ∀ ad, A = some ad → ∀ j q, xs[j]? = some q → w.cell? (ad.add j) = some q)
    (hU : ∀ W, Below w.heap.size w W → Calls Tryz.prog 14 #[v, .int .i64 (live : Int), .agg #[.slice Ar lr cr, .slice Am lm cm]] W (ScUsedP W live u))
    (hC : ∀ a, a < live → u a = true → ∀ W, Below w.heap.size w W → Calls Tryz.prog 15 #[v, .agg #[.slice Ar lr cr, .slice Am lm cm], .int .i64 (a : Int)] W fun e w' => e = .returned (.int .i64 (cls a)) ∧ Below W.heap.size W w')
    (hA : ∀ a, a < live → u a = true → cls a ≠ 0 → ∀ W, Below w.heap.size w W → Calls Tryz.prog 16 #[.agg #[.slice Ar lr cr, .slice Am lm cm], .int .i64 (a : Int)] W fun e w' => (∃ r, e = .returned (.tuple #[.string r, .int .i64 (msk a)])) ∧ Below W.heap.size W w') :
    Calls Tryz.prog 6 #[v, .agg #[.slice Ar lr cr, .slice Am lm cm], .agg #[.int .i64 (live : Int), .int .i64 (at0 : Int), .slice A l c], .int .i64 (n : Int)] w (StepP w live at0 (min n (live - at0)) l u cls msk xs) := by
  have hu37 := Tryz.underlying37
  have hu24 := Tryz.underlying24
  have hu46 := Tryz.underlying46
  have hb1 := below_alloc (Below.refl w.heap.size w) (.cells #[.slice Ar lr cr, .slice Am lm cm] 37 (0, 0))
  have hb2 := below_alloc hb1 (.cells #[.int .i64 (live : Int), .int .i64 (at0 : Int), .slice A l c] 24 (0, 0))
  have hb3 := below_alloc hb2 (.cells scrZ 24 (0, 0))
  have h8 := heap_alloc_new ((w.alloc (.cells #[.slice Ar lr cr, .slice Am lm cm] 37 (0, 0))).alloc (.cells #[.int .i64 (live : Int), .int .i64 (at0 : Int), .slice A l c] 24 (0, 0))) (.cells scrZ 24 (0, 0))
  rw [alloc_sz, alloc_sz] at h8
  have h6 := blk_alloc (heap_alloc_new (w.alloc (.cells #[.slice Ar lr cr, .slice Am lm cm] 37 (0, 0))) (.cells #[.int .i64 (live : Int), .int .i64 (at0 : Int), .slice A l c] 24 (0, 0))) (.cells scrZ 24 (0, 0))
  rw [alloc_sz] at h6
  have h5 := blk_alloc (blk_alloc (heap_alloc_new w (.cells #[.slice Ar lr cr, .slice Am lm cm] 37 (0, 0))) (.cells #[.int .i64 (live : Int), .int .i64 (at0 : Int), .slice A l c] 24 (0, 0))) (.cells scrZ 24 (0, 0))
  have HB0 := Aside0.mk hb3
  have HX0 := Aside0.mk (And.intro h5 (And.intro h6 h8))
  have HN := Aside0.mk (And.intro h1 (And.intro h2 (And.intro h3 (And.intro h4 (And.intro hl hn)))))
  have HXS := Aside0.mk (And.intro hlc (And.intro hxl (And.intro hx1 hx)))
  have HU := Aside0.mk hU
  have HC := Aside0.mk hC
  have HA := Aside0.mk hA
  have d0 : decide ((n : Int) < 0) = false := decide_eq_false (by omega)
  have HR : Aside0 (rightR (live : Int) (at0 : Int) = true) := ⟨decide_eq_true (by omega)⟩
  clear hb1 hb2 hb3 h8 h6 h5 h1 h2 h3 h4 hl hlc hn hxl hx1 hx hU hC hA
  unfold scrZ at HB0 HX0
  go_enter Tryz.func6, Tryz.ntmps6
  go_wp2_with fail
  refine (right_c (live : Int) (at0 : Int) (.slice A l c) rfl _).mono ?_
  rintro e w2 ⟨rfl, hb⟩
  rw [HR.out]
  have HB2 := Aside0.mk (below_then HB0.out HB0.out.size hb)
  have HX2 := Aside0.mk (And.intro (blk_below HX0.out.1 hb) (And.intro (blk_below HX0.out.2.1 hb) (blk_below HX0.out.2.2 hb)))
  clear hb HB0 HX0 HR
  obtain ⟨g5, hg5⟩ : ∃ g, g = w.heap.size := ⟨_, rfl⟩
  have HG := Aside0.mk (show w.heap.size ≤ g5 by omega)
  rw [← hg5] at HX2 ⊢
  clear hg5
  have y0 : w2.cell? ⟨g5, 0, none⟩ = some (.slice Ar lr cr) := (blk_cell HX2.out.1 0).trans rfl
  have y1 : w2.cell? ⟨g5, 1, none⟩ = some (.slice Am lm cm) := (blk_cell HX2.out.1 1).trans rfl
  have z0 : w2.cell? ⟨g5 + 1, 0, none⟩ = some (.int .i64 (live : Int)) := (blk_cell HX2.out.2.1 0).trans rfl
  go_wp2_with fail
  refine (HU.out _ HB2.out).mono ?_
  rintro e w3 ⟨bo, rfl, hd, hbo, hb⟩
  have HB3 := Aside0.mk (below_then HB2.out HB2.out.size hb)
  have HX3 := Aside0.mk (And.intro (blk_below HX2.out.1 hb) (And.intro (blk_below HX2.out.2.1 hb) (blk_below HX2.out.2.2 hb)))
  have HD3 := Aside0.mk hd
  have HBO := Aside0.mk (Nat.le_trans HB2.out.size hbo)
  clear hd hbo hb HB2 HX2 y0 y1 z0
  have z0 : w3.cell? ⟨g5 + 1, 0, none⟩ = some (.int .i64 (live : Int)) := (blk_cell HX3.out.2.1 0).trans rfl
  have z1 : w3.cell? ⟨g5 + 1, 1, none⟩ = some (.int .i64 (at0 : Int)) := (blk_cell HX3.out.2.1 1).trans rfl
  have z2 : w3.cell? ⟨g5 + 1, 2, none⟩ = some (.slice A l c) := (blk_cell HX3.out.2.1 2).trans rfl
  go_upto_region 5 with fail
  have hb13 := below_alloc (Below.refl w3.heap.size w3) (.cells #[.int .i64 (live : Int), .int .i64 (at0 : Int), .slice A l c] 24 (0, 0))
  have HB4 := Aside0.mk (below_then HB3.out HB3.out.size hb13)
  have HX4 := Aside0.mk (And.intro (blk_below HX3.out.1 hb13) (And.intro (blk_below HX3.out.2.2 hb13) (heap_alloc_new w3 (.cells #[.int .i64 (live : Int), .int .i64 (at0 : Int), .slice A l c] 24 (0, 0)))))
  have HD4 := Aside0.mk (blk_below HD3.out hb13)
  have HG13 := Aside0.mk (And.intro HB3.out.size (blk_lt HX3.out.2.2))
  have z2' : (w3.alloc (.cells #[.int .i64 (live : Int), .int .i64 (at0 : Int), .slice A l c] 24 (0, 0))).cell? ⟨g5 + 1, 2, none⟩ = some (.slice A l c) := cells_below hb13 z2
  clear z0 z1 z2 hb13 HB3 HX3 HD3
  generalize hg13 : w3.heap.size = g13 at HX4 HG13 ⊢
  have HG13' := Aside0.mk hg13
  clear hg13
  generalize w3.alloc (.cells #[.int .i64 (live : Int), .int .i64 (at0 : Int), .slice A l c] 24 (0, 0)) = w4 at HB4 HX4 HD4 z2' ⊢
  have z2'' : (w4.alloc (.cells #[] 46 (0, 0))).cell? ⟨g5 + 1, 2, none⟩ = some (.slice A l c) := cells_below (below_alloc (Below.refl _ _) _) z2'
  go_wp2_with (at_builtin; go_loud (refine wpList_appS rfl (.tmp 35) (.tmp 37) 22 rfl w.heap.size Tryz.underlying22 w4 A l c xs rfl rfl HXS.out.1 HXS.out.2.1 HXS.out.2.2.1 (fun ad e j q hq => cells_below HB4.out (HXS.out.2.2.2 ad e j q hq)) HN.out.2.2.2.2.1 HB4.out.size ?_); intro v1 w5 ho hb; have HR5 := Aside0.mk ho; have HB5 := Aside0.mk (below_then HB4.out HB4.out.size hb); have HX5 := Aside0.mk (And.intro (blk_below HX4.out.1 hb) (And.intro (blk_below HX4.out.2.1 hb) (blk_below HX4.out.2.2 hb))); have HD5 := Aside0.mk (blk_below HD4.out hb); have f13 := blk_frozen HX5.out.2.2 2; have c13 : w5.cell? ⟨g13, 2, none⟩ = some (.slice A l c) := (blk_cell HX5.out.2.2 2).trans rfl; clear z2' z2'' hb; obtain ⟨A1, c1, e1⟩ := own_sliceN ho; subst e1; clear ho)
  have hg := Lib.grownBy_setCell w5 g13 2 (.slice A1 l c1)
  have HI := Aside0.mk (StepI.mk (u := u) (at_ := (at0 : Int)) (ys := xs) (blk_grown HX5.out.1 hg (by intro e; injection e with e; exact blk_ne_type HX5.out.1 HX5.out.2.2 (by decide) e)) (blk_grown HX5.out.2.1 hg (by intro e; injection e with e; have := HG13.out.2; omega)) (blk_put HX5.out.2.2 2 (.slice A1 l c1) rfl)
    (blk_grown HD5.out hg (by intro e; injection e with e; exact blk_ne_type HD5.out HX5.out.2.2 (by decide) e)) (HR5.out.kept hg (own_not (own_ne2 HR5.out HX5.out.2.2 (by decide)))) (HB5.out.setCell (p := ⟨g13, 2, none⟩) HG13.out.1 _) (by have := HG13.out.2; omega) HG13.out.1)
  clear hg HR5 HB5 HX5 HD5 HX4 HD4 HB4 f13 c13
  generalize w5.setCell ⟨g13, 2, none⟩ (.slice A1 l c1) = w6 at HI ⊢
  obtain ⟨K, hK⟩ : ∃ K, K = min n (live - at0) := ⟨_, rfl⟩
  have HKK := Aside0.mk hK
  rw [← hK]
  clear hK
  go_loopw [3] (fun i wq => ∃ (k : Nat) (vb : Value), k ≤ K ∧ i = .int .i64 (((n - k : Nat)) : Int) ∧ Aside0 (StepI w wq w.heap.size g5 bo g13 #[.slice Ar lr cr, .slice Am lm cm] live u ((at0 + k : Nat) : Int) vb (l + (fnd u cls at0 k).length) (xs ++ (fnd u cls at0 k).flatMap (encF cls msk)))) (fun i _ => (intOf i).toNat)
  case atStart => exact ⟨0, _, Nat.zero_le _, rfl, ⟨by simpa [fnd] using HI.out⟩⟩
  case round =>
    clear HI
    obtain ⟨k, vb, hk, rfl, HI⟩ := hrel
    obtain ⟨A2, c2, e2⟩ := own_sliceN HI.out.row
    subst e2
    generalize hL : l + (fnd u cls at0 k).length = L at HI
    have HLL := Aside0.mk hL
    clear hL
    generalize hak : at0 + k = a at HI
    generalize hmk : n - k = m
    have HAK := Aside0.mk (And.intro hak hmk)
    have HKN := Aside0.mk (show a < live ∧ 0 < m ↔ k < K by have := HKK.out; have := HN.out; omega)
    have HML := Aside0.mk (show m ≤ 9223372036854775807 ∧ a ≤ live by have := HKK.out; have := HN.out; omega)
    clear hak hmk
    have s0 : wr.cell? ⟨g13, 0, none⟩ = some (.int .i64 (live : Int)) := (blk_cell HI.out.scr 0).trans rfl
    have s1 : wr.cell? ⟨g13, 1, none⟩ = some (.int .i64 (a : Int)) := (blk_cell HI.out.scr 1).trans rfl
    have s2 : wr.cell? ⟨g13, 2, none⟩ = some (.slice A2 L c2) := (blk_cell HI.out.scr 2).trans rfl
    by_cases hlt : k < K
    · have HJ := Aside0.mk hlt
      have hh := HKN.out.2 hlt
      have hh2 := HML.out
      have hh3 := HN.out
      have w1_ : wrap64 ((a : Int) + 1) = (a : Int) + 1 := w64 (by omega) (by omega)
      have w2_ : wrap64 ((m : Int) - 1) = (m : Int) - 1 := w64 (by omega) (by omega)
      have d1 : decide (0 < (m : Int)) = true := decide_eq_true (by omega)
      have d1' : decide (0 < m) = true := decide_eq_true (by omega)
      have d2 : decide ((a : Int) < (live : Int)) = true := decide_eq_true (by omega)
      have d2' : decide (a < live) = true := decide_eq_true (by omega)
      have q1 : ((a : Int) < (live : Int)) = True := eq_true (by omega)
      have q2 : (a < live) = True := eq_true (by omega)
      have f1 := blk_frozen HI.out.scr 1
      clear hlt hh hh2 hh3 hk
      have HM1 : Aside0 ((m : Int) - 1 = ((n - (k + 1) : Nat) : Int)) := ⟨by have := HAK.out.2; have := of_decide_eq_true d1'; omega⟩
      go_upto_region 10 with fail
      have HI7 := Aside0.mk (HI.out.atS ((a : Int) + 1))
      clear HI f1 s0 s1 s2
      generalize wr.setCell ⟨g13, 1, none⟩ (.int .i64 ((a : Int) + 1)) = w7 at HI7 ⊢
      have xu : w7.cell? ⟨bo, a, none⟩ = some (.bool (u a)) := (blk_cell HI7.out.used a).trans (dumbC_at live u a (of_decide_eq_true d2'))
      cases hua : u a
      · rw [hua] at xu
        have HIE : Aside0 (StepI w w7 w.heap.size g5 bo g13 #[.slice Ar lr cr, .slice Am lm cm] live u ((a + 1 : Nat) : Int) (.slice A2 L c2) (l + (fnd u cls at0 k).length) (xs ++ (fnd u cls at0 k).flatMap (encF cls msk))) := ⟨by rw [HLL.out]; exact HI7.out⟩
        have HNX : Aside0 (fnd u cls at0 (k + 1) = fnd u cls at0 k) := ⟨by rw [fnd, HAK.out.1, if_neg (fun e => by rw [hua] at e; cases e.1), List.append_nil]⟩
        clear HI7 hua
        go_wp2_with fail
        clear xu
        go_roundw
        case rel => exact ⟨k + 1, _, HJ.out, by rw [w2_, HM1.out], ⟨by rw [← Nat.add_assoc, HAK.out.1, HNX.out]; exact HIE.out⟩⟩
        case measure =>
          have := HM1.out
          have := of_decide_eq_true d1'
          rw [w2_]
          simp only [intOf]
          omega
      · rw [hua] at xu
        have y0 : w7.cell? ⟨g5, 0, none⟩ = some (.slice Ar lr cr) := (blk_cell HI7.out.im 0).trans rfl
        have y1 : w7.cell? ⟨g5, 1, none⟩ = some (.slice Am lm cm) := (blk_cell HI7.out.im 1).trans rfl
        have HUA := Aside0.mk hua
        clear hua
        go_wp2_with fail
        refine (HC.out a (of_decide_eq_true d2') HUA.out w7 HI7.out.bel).mono ?_
        rintro e w8 ⟨rfl, hb⟩
        have HI8 := Aside0.mk (HI7.out.below hb)
        clear hb HI7 xu y0 y1
        by_cases hcz : cls a = 0
        · have HIE : Aside0 (StepI w w8 w.heap.size g5 bo g13 #[.slice Ar lr cr, .slice Am lm cm] live u ((a + 1 : Nat) : Int) (.slice A2 L c2) (l + (fnd u cls at0 k).length) (xs ++ (fnd u cls at0 k).flatMap (encF cls msk))) := ⟨by rw [HLL.out]; exact HI8.out⟩
          have HNX : Aside0 (fnd u cls at0 (k + 1) = fnd u cls at0 k) := ⟨by rw [fnd, HAK.out.1, if_neg (fun e => e.2 hcz), List.append_nil]⟩
          rw [hcz]
          clear HI8 hcz
          go_wp2_with fail
          go_roundw
          case rel => exact ⟨k + 1, _, HJ.out, by rw [w2_, HM1.out], ⟨by rw [← Nat.add_assoc, HAK.out.1, HNX.out]; exact HIE.out⟩⟩
          case measure =>
            have := HM1.out
            have := of_decide_eq_true d1'
            rw [w2_]
            simp only [intOf]
            omega
        · have y0 : w8.cell? ⟨g5, 0, none⟩ = some (.slice Ar lr cr) := (blk_cell HI8.out.im 0).trans rfl
          have y1 : w8.cell? ⟨g5, 1, none⟩ = some (.slice Am lm cm) := (blk_cell HI8.out.im 1).trans rfl
          have ec : (cls a != 0) = true := by rw [bne_iff_ne]; exact hcz
          have HCZ := Aside0.mk hcz
          clear hcz
          go_wp2_with fail
          refine (HA.out a (of_decide_eq_true d2') HUA.out HCZ.out w8 HI8.out.bel).mono ?_
          rintro e w9 ⟨⟨r, rfl⟩, hb⟩
          have HI9 := Aside0.mk (HI8.out.below hb)
          clear hb HI8 y0 y1
          have s2 : w9.cell? ⟨g13, 2, none⟩ = some (.slice A2 L c2) := (blk_cell HI9.out.scr 2).trans rfl
          obtain ⟨i0, hi, hz0, hz1, hz2⟩ := info_parts infoFnd
          have HLB : Aside0 (L ≤ 20000) := ⟨by
            have h1 := HLL.out
            have h2 := fnd_len u cls at0 k
            have h3 := HJ.out
            have h4 := HKK.out
            have h5 := HN.out
            omega⟩
          have HNC := Aside0.mk (new_cells w9 (encF cls msk a) 46)
          have HRA := Aside0.mk (pw_own_below HI9.out.row (below_alloc (Below.refl w9.heap.size w9) (.cells (encF cls msk a).toArray 46 (0, 0))))
          have HSZ := Aside0.mk (show w.heap.size ≤ (w9.alloc (.cells (encF cls msk a).toArray 46 (0, 0))).heap.size by rw [alloc_sz]; have := HI9.out.bel.size; omega)
          have HI9' := Aside0.mk HI9.out
          clear HI9
          go_wp2_with (at_builtin; go_loud (refine wpList_append_own_wide (w9.alloc (.cells (encF cls msk a).toArray 46 (0, 0))) rfl (.tmp 75) (.tmp 80) 22 rfl w.heap.size 46 i0 _ 4 32 Tryz.underlying22 hi hz0 hz1 hz2 rfl (by decide) (.slice A2 L c2) L _ rfl HRA.out ⟨w9.heap.size, 0, none⟩ 1 1 (encF cls msk a) rfl rfl HNC.out (by intro q hq; simp only [encF, List.mem_cons, List.not_mem_nil, or_false] at hq; rcases hq with rfl | rfl | rfl | rfl <;> rfl) (by have := HLB.out; unfold maxLen; omega) (by have := HLB.out; omega) HSZ.out ?_); intro v1 w10 ho hg _; have HQ := Aside0.mk (HI9'.out.app (e := encF cls msk a) ho hg); have f2 := blk_frozen HQ.out.1 2; have s2' : w10.cell? ⟨g13, 2, none⟩ = some (.slice A2 L c2) := (blk_cell HQ.out.1 2).trans rfl; clear s2; obtain ⟨A3, c3, e3⟩ := own_sliceN ho; subst e3; clear ho hg HI9' HRA HNC)
          have HIE : Aside0 (StepI w _ w.heap.size g5 bo g13 #[.slice Ar lr cr, .slice Am lm cm] live u ((a + 1 : Nat) : Int) (.slice A3 (L + 1) c3) (L + 1) (xs ++ (fnd u cls at0 k).flatMap (encF cls msk) ++ encF cls msk a)) := ⟨HQ.out.2⟩
          have HNX : Aside0 (l + (fnd u cls at0 (k + 1)).length = L + 1 ∧ xs ++ (fnd u cls at0 (k + 1)).flatMap (encF cls msk) = xs ++ (fnd u cls at0 k).flatMap (encF cls msk) ++ encF cls msk a) := ⟨by
            have e : fnd u cls at0 (k + 1) = fnd u cls at0 k ++ [a] := by rw [fnd, HAK.out.1, if_pos ⟨HUA.out, HCZ.out⟩]
            rw [e]
            refine ⟨?_, by simp⟩
            rw [List.length_append]
            have := HLL.out
            simp only [List.length_cons, List.length_nil]
            omega⟩
          clear HQ f2 s2'
          generalize w10.setCell ⟨g13, 2, none⟩ (.slice A3 (L + 1) c3) = w11 at HIE ⊢
          go_roundw
          case rel => exact ⟨k + 1, _, HJ.out, by rw [w2_, HM1.out], ⟨by rw [← Nat.add_assoc, HAK.out.1, HNX.out.1, HNX.out.2]; exact HIE.out⟩⟩
          case measure =>
            have := HM1.out
            have := of_decide_eq_true d1'
            rw [w2_]
            simp only [intOf]
            omega
    · have HEQ : Aside0 (K = k) := ⟨by omega⟩
      by_cases hm0 : m = 0
      · have d1 : decide (0 < (m : Int)) = false := decide_eq_false (by omega)
        have d1' : decide (0 < m) = false := decide_eq_false (by omega)
        clear hlt hk hm0
        go_wp2_with fail
      -- REGION15A
        refine start_ (n := 9) (S := fun w' => w'.heap[g13]? = some (.cells #[.int .i64 (live : Int), .int .i64 (a : Int), .slice A2 L c2] 24 (0, 0))) (ds := []) #[false, false, false, false, false, false, false, false, false] (by kernel_rfl) rfl rfl (show wr.drew.heap[g13]? = _ from HI.out.scr) (fun hHeld => ?_)
        have HI' := Aside0.mk (HI.out.below (below_drew (Below.refl wr.heap.size wr)))
        clear HI
        have HI := HI'
        clear HI' s0 s1 s2
        generalize wr.drew = w12 at HI hHeld ⊢
        refine take_ (i := 0) (N := some 83) (v := ?_) (a' := ?_) #[true, false, false, false, false, false, false, false, false] rfl rfl (by kernel_rfl) (fun _ _ _ h => h) (Or.inl ⟨by rfl, ?_⟩) hHeld ?_ ?_
        rotate_left; · rintro w' hS; have s0 : w'.cell? ⟨g13, 0, none⟩ = some (.int .i64 (live : Int)) := (blk_cell hS 0).trans rfl; have s1 : w'.cell? ⟨g13, 1, none⟩ = some (.int .i64 (a : Int)) := (blk_cell hS 1).trans rfl; have s2 : w'.cell? ⟨g13, 2, none⟩ = some (.slice A2 L c2) := (blk_cell hS 2).trans rfl; go_simp; with_reducible rfl
        rotate_left; · simp only [Act.put, List.setIfInBounds_toArray, List.set_cons_zero, List.set_cons_succ, i64_w, i32_w]; rfl
        refine pure_ (i := 1) (N := some 84) (v := ?_) (a' := ?_) #[true, true, false, false, false, false, false, false, false] rfl rfl (by kernel_rfl) (fun _ _ _ h => h) (Or.inl ⟨by rfl, ?_⟩) ?_ ?_
        rotate_left; · intro w'; go_simp; with_reducible rfl
        rotate_left; · simp only [Act.put, List.setIfInBounds_toArray, List.set_cons_zero, List.set_cons_succ, i64_w, i32_w]; rfl
        refine take_ (i := 2) (N := some 85) (v := ?_) (a' := ?_) #[true, true, true, false, false, false, false, false, false] rfl rfl (by kernel_rfl) (fun _ _ _ h => h) (Or.inl ⟨by rfl, ?_⟩) hHeld ?_ ?_
        rotate_left; · rintro w' hS; have s0 : w'.cell? ⟨g13, 0, none⟩ = some (.int .i64 (live : Int)) := (blk_cell hS 0).trans rfl; have s1 : w'.cell? ⟨g13, 1, none⟩ = some (.int .i64 (a : Int)) := (blk_cell hS 1).trans rfl; have s2 : w'.cell? ⟨g13, 2, none⟩ = some (.slice A2 L c2) := (blk_cell hS 2).trans rfl; go_simp; with_reducible rfl
        rotate_left; · simp only [Act.put, List.setIfInBounds_toArray, List.set_cons_zero, List.set_cons_succ, i64_w, i32_w]; rfl
        refine pure_ (i := 3) (N := some 86) (v := ?_) (a' := ?_) #[true, true, true, true, false, false, false, false, false] rfl rfl (by kernel_rfl) (fun _ _ _ h => h) (Or.inl ⟨by rfl, ?_⟩) ?_ ?_
        rotate_left; · intro w'; go_simp; with_reducible rfl
        rotate_left; · simp only [Act.put, List.setIfInBounds_toArray, List.set_cons_zero, List.set_cons_succ, i64_w, i32_w]; rfl
        refine take_ (i := 4) (N := some 87) (v := ?_) (a' := ?_) #[true, true, true, true, true, false, false, false, false] rfl rfl (by kernel_rfl) (fun _ _ _ h => h) (Or.inl ⟨by rfl, ?_⟩) hHeld ?_ ?_
        rotate_left; · rintro w' hS; have s0 : w'.cell? ⟨g13, 0, none⟩ = some (.int .i64 (live : Int)) := (blk_cell hS 0).trans rfl; have s1 : w'.cell? ⟨g13, 1, none⟩ = some (.int .i64 (a : Int)) := (blk_cell hS 1).trans rfl; have s2 : w'.cell? ⟨g13, 2, none⟩ = some (.slice A2 L c2) := (blk_cell hS 2).trans rfl; go_simp; with_reducible rfl
        rotate_left; · simp only [Act.put, List.setIfInBounds_toArray, List.set_cons_zero, List.set_cons_succ, i64_w, i32_w]; rfl
        refine pure_ (i := 5) (N := some 88) (v := ?_) (a' := ?_) #[true, true, true, true, true, true, false, false, false] rfl rfl (by kernel_rfl) (fun _ _ _ h => h) (Or.inl ⟨by rfl, ?_⟩) ?_ ?_
        rotate_left; · intro w'; go_simp; with_reducible rfl
        rotate_left; · simp only [Act.put, List.setIfInBounds_toArray, List.set_cons_zero, List.set_cons_succ, i64_w, i32_w]; rfl
        refine one_ (i := 6) (N := none) #[true, true, true, true, true, true, true, false, false] rfl rfl (by kernel_rfl) (by decide) (fun K hK => ?_)
        refine skip_ (by rfl) rfl (exec_storeN w12 24 (.tmp 8) (.tmp 83) rfl (g5 + 1 + 1) 0 24 _ _ [.int .i64 (live : Int), .int .i64 (a : Int), .slice A2 L c2] HI.out.res (Nat.le_of_ble_eq_true rfl) infoScr rfl rfl rfl (by intro q hq; simp only [List.mem_cons, List.not_mem_nil, or_false] at hq; rcases hq with rfl | rfl | rfl <;> rfl)) ?_
        have HE := Aside0.mk (HI.out.store HG.out)
        refine hK.out _ _ HE.out.2.1 (fun hHeld => ?_)
        clear hK K
        generalize w12.setCells (g5 + 1 + 1) 0 [.int .i64 (live : Int), .int .i64 (a : Int), .slice A2 L c2] = w13 at HE hHeld ⊢
        refine pure_ (i := 7) (N := some 9) (v := ?_) (a' := ?_) #[true, true, true, true, true, true, true, true, false] rfl rfl (by kernel_rfl) (fun _ _ _ h => h) (Or.inl ⟨by rfl, ?_⟩) ?_ ?_
        rotate_left; · intro w'; go_simp; with_reducible rfl
        rotate_left; · simp only [Act.put, List.setIfInBounds_toArray, List.set_cons_zero, List.set_cons_succ, i64_w, i32_w]; rfl
        refine pure_ (i := 8) (N := some 10) (v := ?_) (a' := ?_) #[true, true, true, true, true, true, true, true, true] rfl rfl (by kernel_rfl) (fun _ _ _ h => h) (Or.inl ⟨by rfl, ?_⟩) ?_ ?_
        rotate_left; · intro w'; go_simp; with_reducible rfl
        rotate_left; · simp only [Act.put, List.setIfInBounds_toArray, List.set_cons_zero, List.set_cons_succ, i64_w, i32_w]; rfl
        refine done_ (by kernel_rfl) ?_
        go_wp2_with fail
        (try simp only [Exit.inBlock, Exit.then])
        refine bodyPost_ret (results_ctt rfl _ _ (g5 + 1 + 1) 24 #[.int .i64 (live : Int), .int .i64 (a : Int), .slice A2 L c2] (0, 0) _ rfl HE.out.1 hu24 rfl infoScr) rfl ?_
        refine ⟨.slice A2 L c2, ?_, ?_, HE.out.2.2.2⟩
        · rw [← HKK.out, HEQ.out, HAK.out.1]
          exact congrArg (fun b => Ending.returned (.tuple #[.agg #[.int .i64 (live : Int), .int .i64 (a : Int), .slice A2 L c2], .bool b, .int .i64 0])) (int_eq_dec a live)
        · rw [← HKK.out, HEQ.out, HLL.out]
          exact HE.out.2.2.1
      -- END15A
      · have hh := HKN.out
        have hh2 := HML.out
        have d1 : decide (0 < (m : Int)) = true := decide_eq_true (by omega)
        have d1' : decide (0 < m) = true := decide_eq_true (by omega)
        have d2 : decide ((a : Int) < (live : Int)) = false := decide_eq_false (by omega)
        have d2' : decide (a < live) = false := decide_eq_false (by omega)
        clear hlt hk hm0 hh hh2
        go_wp2_with fail
      -- REGION15B
        refine start_ (n := 9) (S := fun w' => w'.heap[g13]? = some (.cells #[.int .i64 (live : Int), .int .i64 (a : Int), .slice A2 L c2] 24 (0, 0))) (ds := []) #[false, false, false, false, false, false, false, false, false] (by kernel_rfl) rfl rfl (show wr.drew.heap[g13]? = _ from HI.out.scr) (fun hHeld => ?_)
        have HI' := Aside0.mk (HI.out.below (below_drew (Below.refl wr.heap.size wr)))
        clear HI
        have HI := HI'
        clear HI' s0 s1 s2
        generalize wr.drew = w12 at HI hHeld ⊢
        refine take_ (i := 0) (N := some 83) (v := ?_) (a' := ?_) #[true, false, false, false, false, false, false, false, false] rfl rfl (by kernel_rfl) (fun _ _ _ h => h) (Or.inl ⟨by rfl, ?_⟩) hHeld ?_ ?_
        rotate_left; · rintro w' hS; have s0 : w'.cell? ⟨g13, 0, none⟩ = some (.int .i64 (live : Int)) := (blk_cell hS 0).trans rfl; have s1 : w'.cell? ⟨g13, 1, none⟩ = some (.int .i64 (a : Int)) := (blk_cell hS 1).trans rfl; have s2 : w'.cell? ⟨g13, 2, none⟩ = some (.slice A2 L c2) := (blk_cell hS 2).trans rfl; go_simp; with_reducible rfl
        rotate_left; · simp only [Act.put, List.setIfInBounds_toArray, List.set_cons_zero, List.set_cons_succ, i64_w, i32_w]; rfl
        refine pure_ (i := 1) (N := some 84) (v := ?_) (a' := ?_) #[true, true, false, false, false, false, false, false, false] rfl rfl (by kernel_rfl) (fun _ _ _ h => h) (Or.inl ⟨by rfl, ?_⟩) ?_ ?_
        rotate_left; · intro w'; go_simp; with_reducible rfl
        rotate_left; · simp only [Act.put, List.setIfInBounds_toArray, List.set_cons_zero, List.set_cons_succ, i64_w, i32_w]; rfl
        refine take_ (i := 2) (N := some 85) (v := ?_) (a' := ?_) #[true, true, true, false, false, false, false, false, false] rfl rfl (by kernel_rfl) (fun _ _ _ h => h) (Or.inl ⟨by rfl, ?_⟩) hHeld ?_ ?_
        rotate_left; · rintro w' hS; have s0 : w'.cell? ⟨g13, 0, none⟩ = some (.int .i64 (live : Int)) := (blk_cell hS 0).trans rfl; have s1 : w'.cell? ⟨g13, 1, none⟩ = some (.int .i64 (a : Int)) := (blk_cell hS 1).trans rfl; have s2 : w'.cell? ⟨g13, 2, none⟩ = some (.slice A2 L c2) := (blk_cell hS 2).trans rfl; go_simp; with_reducible rfl
        rotate_left; · simp only [Act.put, List.setIfInBounds_toArray, List.set_cons_zero, List.set_cons_succ, i64_w, i32_w]; rfl
        refine pure_ (i := 3) (N := some 86) (v := ?_) (a' := ?_) #[true, true, true, true, false, false, false, false, false] rfl rfl (by kernel_rfl) (fun _ _ _ h => h) (Or.inl ⟨by rfl, ?_⟩) ?_ ?_
        rotate_left; · intro w'; go_simp; with_reducible rfl
        rotate_left; · simp only [Act.put, List.setIfInBounds_toArray, List.set_cons_zero, List.set_cons_succ, i64_w, i32_w]; rfl
        refine take_ (i := 4) (N := some 87) (v := ?_) (a' := ?_) #[true, true, true, true, true, false, false, false, false] rfl rfl (by kernel_rfl) (fun _ _ _ h => h) (Or.inl ⟨by rfl, ?_⟩) hHeld ?_ ?_
        rotate_left; · rintro w' hS; have s0 : w'.cell? ⟨g13, 0, none⟩ = some (.int .i64 (live : Int)) := (blk_cell hS 0).trans rfl; have s1 : w'.cell? ⟨g13, 1, none⟩ = some (.int .i64 (a : Int)) := (blk_cell hS 1).trans rfl; have s2 : w'.cell? ⟨g13, 2, none⟩ = some (.slice A2 L c2) := (blk_cell hS 2).trans rfl; go_simp; with_reducible rfl
        rotate_left; · simp only [Act.put, List.setIfInBounds_toArray, List.set_cons_zero, List.set_cons_succ, i64_w, i32_w]; rfl
        refine pure_ (i := 5) (N := some 88) (v := ?_) (a' := ?_) #[true, true, true, true, true, true, false, false, false] rfl rfl (by kernel_rfl) (fun _ _ _ h => h) (Or.inl ⟨by rfl, ?_⟩) ?_ ?_
        rotate_left; · intro w'; go_simp; with_reducible rfl
        rotate_left; · simp only [Act.put, List.setIfInBounds_toArray, List.set_cons_zero, List.set_cons_succ, i64_w, i32_w]; rfl
        refine one_ (i := 6) (N := none) #[true, true, true, true, true, true, true, false, false] rfl rfl (by kernel_rfl) (by decide) (fun K hK => ?_)
        refine skip_ (by rfl) rfl (exec_storeN w12 24 (.tmp 8) (.tmp 83) rfl (g5 + 1 + 1) 0 24 _ _ [.int .i64 (live : Int), .int .i64 (a : Int), .slice A2 L c2] HI.out.res (Nat.le_of_ble_eq_true rfl) infoScr rfl rfl rfl (by intro q hq; simp only [List.mem_cons, List.not_mem_nil, or_false] at hq; rcases hq with rfl | rfl | rfl <;> rfl)) ?_
        have HE := Aside0.mk (HI.out.store HG.out)
        refine hK.out _ _ HE.out.2.1 (fun hHeld => ?_)
        clear hK K
        generalize w12.setCells (g5 + 1 + 1) 0 [.int .i64 (live : Int), .int .i64 (a : Int), .slice A2 L c2] = w13 at HE hHeld ⊢
        refine pure_ (i := 7) (N := some 9) (v := ?_) (a' := ?_) #[true, true, true, true, true, true, true, true, false] rfl rfl (by kernel_rfl) (fun _ _ _ h => h) (Or.inl ⟨by rfl, ?_⟩) ?_ ?_
        rotate_left; · intro w'; go_simp; with_reducible rfl
        rotate_left; · simp only [Act.put, List.setIfInBounds_toArray, List.set_cons_zero, List.set_cons_succ, i64_w, i32_w]; rfl
        refine pure_ (i := 8) (N := some 10) (v := ?_) (a' := ?_) #[true, true, true, true, true, true, true, true, true] rfl rfl (by kernel_rfl) (fun _ _ _ h => h) (Or.inl ⟨by rfl, ?_⟩) ?_ ?_
        rotate_left; · intro w'; go_simp; with_reducible rfl
        rotate_left; · simp only [Act.put, List.setIfInBounds_toArray, List.set_cons_zero, List.set_cons_succ, i64_w, i32_w]; rfl
        refine done_ (by kernel_rfl) ?_
        go_wp2_with fail
        (try simp only [Exit.inBlock, Exit.then])
        refine bodyPost_ret (results_ctt rfl _ _ (g5 + 1 + 1) 24 #[.int .i64 (live : Int), .int .i64 (a : Int), .slice A2 L c2] (0, 0) _ rfl HE.out.1 hu24 rfl infoScr) rfl ?_
        refine ⟨.slice A2 L c2, ?_, ?_, HE.out.2.2.2⟩
        · rw [← HKK.out, HEQ.out, HAK.out.1]
          exact congrArg (fun b => Ending.returned (.tuple #[.agg #[.int .i64 (live : Int), .int .i64 (a : Int), .slice A2 L c2], .bool b, .int .i64 0])) (int_eq_dec a live)
        · rw [← HKK.out, HEQ.out, HLL.out]
          exact HE.out.2.2.1
      -- END15B
end Go.Proofs.YtgpknomegleidaaGreatDoor.T
namespace Go.Proofs.YtgpknomegleidaaGreatDoor.T
open Go.RowKit Go.Proofs.YtgpknomegleidaaGreatDoorW.PrintWords Go.Proofs.YtgpknomegleidaaGreatDoorW.PrintLast Go.Proofs.YtgpknomegleidaaGreatDoorW.PrintMore Go.Proofs.YtgpknomegleidaaGreatDoor.PAll
set_option linter.unusedSimpArgs false
set_option linter.unusedVariables false

theorem startR_bad {live : Int} (h : live < 48 ∨ 1024 < live) : startR live = (.agg #[.int .i64 0, .int .i64 0, .slice none 0 0], 1) := by unfold startR; rw [if_pos h]
theorem startR_ok {n : Nat} (h1 : 48 ≤ n) (h2 : n ≤ 1024) : startR (n : Int) = (.agg #[.int .i64 (n : Int), .int .i64 27, .slice none 0 0], 0) := by unfold startR; rw [if_neg (by omega)]
set_option maxHeartbeats 4000000 in
set_option maxRecDepth 100000 in
theorem whole_bad (w : World) (v : Value) (Ar Am : Option Addr) (lr cr lm cm : Nat) (live : Int) (hb : live < 48 ∨ 1024 < live) :
    Calls Tryz.prog 9 #[v, .int .i64 live, .agg #[.slice Ar lr cr, .slice Am lm cm]] w fun e w' => e = .returned (.tuple #[.slice none 0 0, .int .i64 1]) ∧ Below w.heap.size w w' := by
  have hu37 := Tryz.underlying37
  have hu24 := Tryz.underlying24
  have HB0 := Aside0.mk (below_alloc (Below.refl w.heap.size w) (.cells #[.slice Ar lr cr, .slice Am lm cm] 37 (0, 0)))
  have HBAD := Aside0.mk hb
  clear hb
  go_enter Tryz.func9, Tryz.ntmps9
  go_wp2_with fail
  refine (start_c live _).mono ?_
  rintro e w2 ⟨rfl, hb⟩
  rw [startR_bad HBAD.out]
  have HB2 := Aside0.mk (below_then HB0.out HB0.out.size hb)
  clear hb HB0
  go_wp2_with fail
  go_ret2
  exact ⟨rfl, below_alloc HB2.out _⟩
def WholeP (w : World) (live : Nat) (u : Nat → Bool) (cls msk : Nat → Int) (e : Ending) (w' : World) : Prop :=
  ∃ vb, e = .returned (.tuple #[vb, .int .i64 0]) ∧ w'.ownsRow w.heap.size 46 4 vb (fnd u cls 27 (live - 27)).length ((fnd u cls 27 (live - 27)).flatMap (encF cls msk)) ∧ Below w.heap.size w w'
set_option maxHeartbeats 4000000 in
set_option maxRecDepth 100000 in
theorem whole_g (w : World) (v : Value) (Ar Am : Option Addr) (lr cr lm cm live : Nat) (u : Nat → Bool) (cls msk : Nat → Int)
    (h1 : 48 ≤ live) (h2 : live ≤ 1024)
    (hU : ∀ W, Below w.heap.size w W → Calls Tryz.prog 14 #[v, .int .i64 (live : Int), .agg #[.slice Ar lr cr, .slice Am lm cm]] W (ScUsedP W live u))
    (hC : ∀ a, a < live → u a = true → ∀ W, Below w.heap.size w W → Calls Tryz.prog 15 #[v, .agg #[.slice Ar lr cr, .slice Am lm cm], .int .i64 (a : Int)] W fun e w' => e = .returned (.int .i64 (cls a)) ∧ Below W.heap.size W w')
    (hA : ∀ a, a < live → u a = true → cls a ≠ 0 → ∀ W, Below w.heap.size w W → Calls Tryz.prog 16 #[.agg #[.slice Ar lr cr, .slice Am lm cm], .int .i64 (a : Int)] W fun e w' => (∃ r, e = .returned (.tuple #[.string r, .int .i64 (msk a)])) ∧ Below W.heap.size W w') :
    Calls Tryz.prog 9 #[v, .int .i64 (live : Int), .agg #[.slice Ar lr cr, .slice Am lm cm]] w (WholeP w live u cls msk) := by
  have hu37 := Tryz.underlying37
  have hu24 := Tryz.underlying24
  have HB0 := Aside0.mk (below_alloc (Below.refl w.heap.size w) (.cells #[.slice Ar lr cr, .slice Am lm cm] 37 (0, 0)))
  have HI0 := Aside0.mk (heap_alloc_new w (.cells #[.slice Ar lr cr, .slice Am lm cm] 37 (0, 0)))
  have HN := Aside0.mk (And.intro h1 h2)
  have HH := Aside0.mk (And.intro hU (And.intro hC hA))
  clear h1 h2 hU hC hA
  go_enter Tryz.func9, Tryz.ntmps9
  go_wp2_with fail
  refine (start_c (live : Int) _).mono ?_
  rintro e w2 ⟨rfl, hb⟩
  rw [startR_ok HN.out.1 HN.out.2]
  have hb8 := below_alloc (Below.refl w2.heap.size w2) (.cells #[.int .i64 (live : Int), .int .i64 27, .slice none 0 0] 24 (0, 0))
  have HB2 := Aside0.mk (below_then (below_then HB0.out HB0.out.size hb) (Nat.le_trans HB0.out.size hb.size) hb8)
  have HI2 := Aside0.mk (blk_below (blk_below HI0.out hb) hb8)
  have HS2 := Aside0.mk (heap_alloc_new w2 (.cells #[.int .i64 (live : Int), .int .i64 27, .slice none 0 0] 24 (0, 0)))
  have HG8 := Aside0.mk (show w.heap.size ≤ w2.heap.size from Nat.le_trans HB0.out.size hb.size)
  clear hb hb8 HB0 HI0
  obtain ⟨g5, hg5⟩ : ∃ g, g = w.heap.size := ⟨_, rfl⟩
  rw [← hg5] at HI2 ⊢
  clear hg5
  go_upto_region 4 with fail
  generalize w2.heap.size = g8 at HS2 HG8 ⊢
  generalize w2.alloc (.cells #[.int .i64 (live : Int), .int .i64 27, .slice none 0 0] 24 (0, 0)) = w3 at HB2 HI2 HS2 ⊢
  have y0 : w3.cell? ⟨g5, 0, none⟩ = some (.slice Ar lr cr) := (blk_cell HI2.out 0).trans rfl
  have y1 : w3.cell? ⟨g5, 1, none⟩ = some (.slice Am lm cm) := (blk_cell HI2.out 1).trans rfl
  have s0 : w3.cell? ⟨g8, 0, none⟩ = some (.int .i64 (live : Int)) := (blk_cell HS2.out 0).trans rfl
  have s1 : w3.cell? ⟨g8, 1, none⟩ = some (.int .i64 27) := (blk_cell HS2.out 1).trans rfl
  have s2 : w3.cell? ⟨g8, 2, none⟩ = some (.slice none 0 0) := (blk_cell HS2.out 2).trans rfl
  go_wp2_with fail
  clear y0 y1 s0 s1 s2
  refine (step_g w3 v Ar Am none lr cr lm cm 0 0 live 27 live u cls msk [] HN.out.1 HN.out.2 (by decide) (by have := HN.out.1; omega) (by decide) (fun _ => ⟨rfl, rfl⟩) (by have := HN.out.2; omega) rfl (fun q hq => by cases hq) (fun ad e => by cases e)
    (fun W hW => HH.out.1 W (below_then HB2.out HB2.out.size hW)) (fun a h1 h2 W hW => HH.out.2.1 a h1 h2 W (below_then HB2.out HB2.out.size hW)) (fun a h1 h2 h3 W hW => HH.out.2.2 a h1 h2 h3 W (below_then HB2.out HB2.out.size hW))).mono ?_
  rintro e w4 ⟨vb, rfl, hr, hb⟩
  rw [show min live (live - 27) = live - 27 by omega, Nat.zero_add, List.nil_append] at hr
  have HR := Aside0.mk hr
  have HB4 := Aside0.mk (below_then HB2.out HB2.out.size hb)
  have HS4 := Aside0.mk (blk_below HS2.out hb)
  have HW3 := Aside0.mk HB2.out.size
  obtain ⟨A1, c1, e1⟩ := own_sliceN hr
  subst e1
  clear hr hb HB2 HI2 HS2
  generalize hq : 27 + min live (live - 27) = q
  clear hq
  generalize decide (q = live) = bq
  go_wp2_with ((with_reducible refine gate_store (t := 24) rfl ?_); refine store_at rfl _ _ _ rfl g8 0 24 _ [.int .i64 (live : Int), .int .i64 (q : Int), .slice A1 (fnd u cls 27 (live - 27)).length c1] infoScr HS4.out (Nat.le_of_ble_eq_true rfl) (by first | (go_simp; done) | (go_simp; rfl)) (by first | (go_simp; done) | (go_simp; rfl)) (by intro u hu; simp only [List.mem_cons, List.not_mem_nil, or_false] at hu; rcases hu with rfl | rfl | rfl <;> rfl) ?_; intro ws hs hgr; have HWS := Aside0.mk hs; have HGR := Aside0.mk hgr; have s2 : ws.cell? ⟨g8, 2, none⟩ = some (.slice A1 (fnd u cls 27 (live - 27)).length c1) := (blk_cell HWS.out 2).trans rfl; clear hs hgr)
  go_ret2
  refine ⟨_, rfl, ?_, ?_⟩
  · have := HR.out.kept HGR.out (own_not (own_ne2 HR.out HS4.out (by decide)))
    exact ⟨this.1, this.2.imp id (fun ⟨g, cap, cur, e1, e2, r⟩ => ⟨g, cap, cur, e1, Nat.le_trans HW3.out e2, r⟩)⟩
  · exact HB4.out.grown HGR.out HB4.out.size (fun k hk => by injection hk with hk; have := HG8.out; omega)
end Go.Proofs.YtgpknomegleidaaGreatDoor.T
namespace Go.Proofs.YtgpknomegleidaaGreatDoor.T
open Go.RowKit Go.Proofs.YtgpknomegleidaaGreatDoorW.PrintWords Go.Proofs.YtgpknomegleidaaGreatDoorW.PrintLast Go.Proofs.YtgpknomegleidaaGreatDoorW.PrintMore Go.Proofs.YtgpknomegleidaaGreatDoor.PAll
open Go.Proofs.YtgpknomegleidaaGreatDoor.G (Gr byts bitsOf bytesOf_len byts_bitsOf rd_byts at_val)
set_option linter.unusedSimpArgs false
set_option linter.unusedVariables false

theorem getL_raw (h : Nat → ByteArray) (d : Nat → Bool) (a : Nat) (raw : ByteArray) (hz : raw.size = 512) (hd : ∀ q, q < 8 → d (a * 8 + q) = false) (hh : ∀ q, q < 8 → h (a * 8 + q) = piece raw q) : ∀ n, n ≤ 8 → getL h d a n = (pb raw).take (64 * n)
  | 0, _ => by simp [getL]
  | n + 1, hn => by
    rw [getL, getL_raw h d a raw hz hd hh n (by omega), hd n (by omega), hh n (by omega), if_neg (by decide)]
    have hp : (piece raw n).size = 64 := piece_size raw hz n (by omega)
    rw [rdS, if_neg (by omega), piece, pb_ext, List.extract_eq_take_drop, show (n + 1) * 64 - n * 64 = 64 by omega, show 64 * (n + 1) = 64 * n + 64 by omega, List.take_add, Nat.mul_comm n 64]
theorem getR_raw (h : Nat → ByteArray) (d : Nat → Bool) (a : Nat) (raw : ByteArray) (hz : raw.size = 512) (hd : ∀ q, q < 8 → d (a * 8 + q) = false) (hh : ∀ q, q < 8 → h (a * 8 + q) = piece raw q) : getR h d a = raw := by
  apply pb_inj
  rw [getR, pb_mk, getL_raw h d a raw hz hd hh 8 (Nat.le_refl _), List.take_of_length_le (by rw [pb_len, hz]; decide)]
/-- The grid of blocks as its body tells it. -/
theorem bytes_low : Go.Proofs.YtgpknomegleidaaGreatDoorW.PrintWords.bytesOf (strOfNums (byts (low 37))) = byts (low 37) := by decide +kernel
theorem bits_low (i : Nat) (hi : i < 3584) : bitsOf (strOfNums (byts (low 37))) i = low 37 i := by
  have e : byts (bitsOf (strOfNums (byts (low 37)))) = byts (low 37) := by
    rw [← byts_bitsOf _ (by rw [strOfNums_size, byts_length']), bytes_low]
  have h1 := at_val (bitsOf (strOfNums (byts (low 37)))) (i : Int) (by omega) (by omega)
  have h2 := at_val (low 37) (i : Int) (by omega) (by omega)
  rw [e] at h1
  rw [Int.toNat_natCast] at h1 h2
  exact h1.symm.trans h2
theorem byts_low : byts (bitsOf (strOfNums (byts (low 37)))) = byts (low 37) := by
  rw [← byts_bitsOf _ (by rw [strOfNums_size, byts_length']), bytes_low]
/-- Which addresses are gone through. -/
def uA : Nat → Bool := fun a => fromTo 48 a && low 37 a
theorem uA_iff (a : Nat) : uA a = true ↔ 27 ≤ a ∧ a < 37 := by
  unfold uA fromTo low
  rw [Bool.and_eq_true, decide_eq_true_eq, decide_eq_true_eq]
  omega
theorem fnd_zero (u : Nat → Bool) (at0 : Nat) : ∀ n, fnd u (fun _ => 0) at0 n = []
  | 0 => rfl
  | n + 1 => by rw [fnd, fnd_zero u at0 n, if_neg (by simp)]; rfl
def cls36 : Nat → Int := fun a => if a = 36 then 21 else 0
def msk36 : Nat → Int := fun a => if a = 36 then 1 else 0
theorem fnd_36 : fnd uA cls36 27 21 = [36] := by decide
end Go.Proofs.YtgpknomegleidaaGreatDoor.T
namespace Go.Proofs.YtgpknomegleidaaGreatDoor.T
open Go.RowKit Go.Proofs.YtgpknomegleidaaGreatDoorW.PrintWords Go.Proofs.YtgpknomegleidaaGreatDoorW.PrintLast Go.Proofs.YtgpknomegleidaaGreatDoorW.PrintMore Go.Proofs.YtgpknomegleidaaGreatDoor.PAll
set_option linter.unusedSimpArgs false
set_option linter.unusedVariables false

def clsB (c : Bool) : Nat → Int := if c then cls36 else fun _ => 0
def mskB (c : Bool) : Nat → Int := if c then msk36 else fun _ => 0
theorem whole_ours (w : World) (v i vh vs : Nat) (f : Lit → Nat) (hv : Vlt w v i vh vs 400 f) (ws : List Wn) (hl : ws.length = 10) (hw : WsOk ws) (base : Nat) (vr vm : Value) (raw : Nat → ByteArray) (msk : Nat → Int) (k : ImgS w base vr vm (784 / 8) raw msk) (c : Bool)
    (hg : ∀ j x, ws[j]? = some x → (j = 9 → c = false) → ∃ kl, KeyIs (hdW j x) x.body kl ∧ f kl ≠ 0 ∧ f kl ≤ 400 ∧ raw (27 + j) = rawA (hdW j x) x.body (f kl) ∧ msk (27 + j) = 0)
    (hb : c = true → (raw 36).size = 512 ∧ msk 36 = 1) :
    Calls Tryz.prog 9 #[.pointer (some ⟨v, 0, none⟩), .int .i64 48, .agg #[vr, vm]] w (WholeP w 48 uA (clsB c) (mskB c)) := by
  obtain ⟨Ar, cr, er⟩ := own_sliceN k.raws
  obtain ⟨Am, cm, em⟩ := own_sliceN k.msks
  subst er
  subst em
  have hx (j : Nat) (hj : j < 10) : ∃ x, ws[j]? = some x := ⟨_, List.getElem?_eq_getElem (by rw [hl]; exact hj)⟩
  refine whole_g w (.pointer (some ⟨v, 0, none⟩)) Ar Am _ cr _ cm 48 uA (clsB c) (mskB c) (by decide) (by decide) ?_ ?_ ?_
  · intro W hW
    obtain ⟨x0, h0, h3, hbody⟩ := hw.2
    have hok := hw.1 0 x0 h0
    refine used_g W (.pointer (some ⟨v, 0, none⟩)) 48 (by decide) (by decide) Ar Am _ cr _ cm (readC (hdW 0 x0) x0.body) uA (fun W2 hW2 => ?_) (.inr ⟨hdW 0 x0, x0.body, low 37, rfl, h3, hok.2.1, ?_, ?_, rfl⟩)
    · obtain ⟨kl, q1, q2, q3, q4, q5⟩ := hg 0 x0 h0 (fun e => by cases e)
      have ha : x0.addr = 27 := hok.1
      have := look_c W2 v i vh vs 400 f (hdW 0 x0) x0.body kl ((hv.below hW).below hW2) (hdW_fits 0 x0 hok (by decide)) (by decide) hok.2.1 q1 q2 q3 base _ _ _ raw msk ((k.below hW).below hW2) (by show x0.addr < _; rw [ha]; decide) (by show raw x0.addr = _; rw [ha]; exact q4) (by show msk x0.addr = _; rw [ha]; exact q5)
      rw [show ((hdW 0 x0).addr : Int) = 27 by show ((x0.addr : Nat) : Int) = 27; rw [ha]; rfl] at this
      exact this
    · intro q hq1 hq2
      rw [hbody, bits_low q hq2]
      exact decide_eq_false (by omega)
    · rw [hbody]
      exact byts_low
  · intro a ha hu W hW
    obtain ⟨h1, h2⟩ := (uA_iff a).1 hu
    obtain ⟨x, hxj⟩ := hx (a - 27) (by omega)
    have hok := hw.1 _ x hxj
    have hax : x.addr = a := by rw [hok.1]; omega
    by_cases h36 : a = 36 ∧ c = true
    · obtain ⟨rfl, rfl⟩ := h36
      have := class_dumb W (.pointer (some ⟨v, 0, none⟩)) base _ _ _ raw msk (k.below hW) 36 (by decide) (hb rfl).1 (hb rfl).2
      exact this
    · obtain ⟨kl, q1, q2, q3, q4, q5⟩ := hg (a - 27) x hxj (fun e => by
        cases c with
        | false => rfl
        | true => exact absurd ⟨by omega, rfl⟩ h36)
      have e27 : 27 + (a - 27) = a := by omega
      rw [e27] at q4 q5
      have := class_good W v i vh vs 400 f (hdW (a - 27) x) x.body kl (hv.below hW) (hdW_fits _ x hok (by omega)) (by decide) hok.2.1 q1 q2 q3 base _ _ _ raw msk (k.below hW) (by show x.addr < _; rw [hax]; omega) (by show raw x.addr = _; rw [hax]; exact q4) (by show msk x.addr = _; rw [hax]; exact q5)
      rw [show ((hdW (a - 27) x).addr : Int) = (a : Int) by show ((x.addr : Nat) : Int) = _; rw [hax]] at this
      have hc0 : clsB c a = 0 := by
        cases c with
        | false => rfl
        | true => exact if_neg (fun e => h36 ⟨e, rfl⟩)
      rw [hc0]
      exact this
  · intro a ha hu hc W hW
    have h36 : a = 36 ∧ c = true := by
      cases c with
      | false => exact absurd rfl hc
      | true =>
        refine ⟨?_, rfl⟩
        by_cases e : a = 36
        · exact e
        · exact absurd (if_neg e) hc
    obtain ⟨rfl, rfl⟩ := h36
    refine (at_c W base _ _ _ raw msk (k.below hW) 36 (by decide) (hb rfl).1).mono ?_
    rintro e w' ⟨rfl, hb2⟩
    exact ⟨⟨_, by rw [(hb rfl).2]; rfl⟩, hb2⟩
set_option maxHeartbeats 4000000 in
set_option maxRecDepth 100000 in
theorem awake_c (w : World) : Calls Tryz.prog 10 #[] w fun e w' => e = .returned (.bool true) ∧ Below w.heap.size w w' := by
  have hu46 := Tryz.underlying46
  go_enter Tryz.func10, Tryz.ntmps10
  go_wp2_with fail
  refine (fresh_c w).mono ?_
  rintro e w1 ⟨p, bh, bd, v, i, vh, vs, f, F, ws, rd, wr, rfl, q1, q2, q3, q4, q5, q6, q7, q8, q9, q10⟩
  have HV := Aside0.mk q1
  have HWS := Aside0.mk (And.intro q2 (And.intro q3 (And.intro q4 q5)))
  have HP := Aside0.mk q6
  have HB := Aside0.mk q7
  have HG := Aside0.mk (And.intro q8 (And.intro q9 q10))
  clear q1 q2 q3 q4 q5 q6 q7 q8 q9 q10
  go_wp2_with fail
  refine (all_c HP.out HWS.out.2.2.2 (by decide) (fun q hq => by cases hq)).mono ?_
  rintro e w2 ⟨vr, vm, r1, rfl, himg, hpl, hfr⟩
  have HIM := Aside0.mk himg
  have HP2 := Aside0.mk hpl
  have HV2 := Aside0.mk (HV.out.frp HP.out hfr)
  have HF2 := Aside0.mk hfr
  obtain ⟨Ar, cr, er⟩ := own_sliceN himg.raws
  obtain ⟨Am, cm, em⟩ := own_sliceN himg.msks
  subst er
  subst em
  clear himg hpl hfr HV
  go_wp2_with fail
  refine (whole_ours w2 v i vh vs f HV2.out ws HWS.out.1 HWS.out.2.1 _ _ _ _ _ HIM.out false (fun j x hj _ => by
    obtain ⟨kl, h1, h2, h3, h4⟩ := HWS.out.2.2.1 j x hj
    have hok := HWS.out.2.1.1 j x hj
    exact ⟨kl, h1, h2, h3, getR_raw F _ _ _ (rawA_size _ _ _ hok.2.1) (fun _ _ => rfl) h4, by show mskN (fun _ => false) (27 + j) 8 = 0; exact if_neg (fun e => by cases e.1)⟩) (fun e => by cases e)).mono ?_
  rintro e w3 ⟨va, rfl, hra, hba⟩
  rw [show clsB false = fun _ => 0 from rfl, fnd_zero] at hra
  obtain ⟨Aa, ca, ea⟩ := own_sliceN hra
  subst ea
  have HP3 := Aside0.mk (HP2.out.below hba)
  have HV3 := Aside0.mk (HV2.out.below hba)
  have HF3 := Aside0.mk (HF2.out.trans (FrP.below hba))
  clear hra hba HP2 HV2 HF2 HIM
  go_wp2_with fail
  refine (spoil_c HP3.out 288 (by decide)).mono ?_
  rintro e w4 ⟨rfl, hp4, hf4⟩
  have HP4 := Aside0.mk hp4
  have HV4 := Aside0.mk (HV3.out.frp HP3.out hf4)
  have HF4 := Aside0.mk (HF3.out.trans hf4)
  clear hp4 hf4 HP3 HV3 HF3
  go_wp2_with fail
  have HD : Aside0 (∀ q, upd (fun _ => false) 288 true q = true → q = 288) := ⟨fun q hq => by
    unfold upd at hq
    by_cases e : q = 288
    · exact e
    · rw [if_neg e] at hq; cases hq⟩
  have HH : Aside0 (H64 (upd F 288 ⟨#[]⟩)) := ⟨fun q => by
    unfold upd
    by_cases e : q = 288
    · rw [if_pos e]; exact .inl rfl
    · rw [if_neg e]; exact HWS.out.2.2.2 q⟩
  refine (all_c HP4.out HH.out (by decide) (fun q hq => by rw [HD.out q hq])).mono ?_
  rintro e w5 ⟨vr2, vm2, r2, rfl, himg, hpl, hfr⟩
  have HIM := Aside0.mk himg
  have HV5 := Aside0.mk (HV4.out.frp HP4.out hfr)
  have HF5 := Aside0.mk (HF4.out.trans hfr)
  obtain ⟨Ar2, cr2, er⟩ := own_sliceN himg.raws
  obtain ⟨Am2, cm2, em⟩ := own_sliceN himg.msks
  subst er
  subst em
  clear himg hpl hfr HV4 HF4 HP4
  go_wp2_with fail
  refine (whole_ours w5 v i vh vs f HV5.out ws HWS.out.1 HWS.out.2.1 _ _ _ _ _ HIM.out true (fun j x hj h9 => by
    have hj9 : j ≠ 9 := fun e => by cases h9 e
    obtain ⟨kl, h1, h2, h3, h4⟩ := HWS.out.2.2.1 j x hj
    have hok := HWS.out.2.1.1 j x hj
    have hne : ∀ q, q < 8 → upd (fun _ => false) 288 true ((27 + j) * 8 + q) = false := fun q hq => if_neg (by omega)
    refine ⟨kl, h1, h2, h3, getR_raw _ _ _ _ (rawA_size _ _ _ hok.2.1) hne (fun q hq => ?_), ?_⟩
    · unfold upd
      rw [if_neg (by omega)]
      exact h4 q hq
    · show mskN _ (27 + j) 8 = 0
      refine if_neg (fun e => ?_)
      have := hne 0 (by decide)
      rw [Nat.add_zero] at this
      rw [this] at e
      cases e.1) (fun _ => ⟨getR_size _ HH.out 36, by show mskN _ 36 8 = 1; exact if_pos ⟨rfl, by decide⟩⟩)).mono ?_
  rintro e w6 ⟨vb, rfl, hrb, hbb⟩
  rw [show clsB true = cls36 from rfl, fnd_36] at hrb
  obtain ⟨Ab, cb, eb⟩ := own_sliceN hrb
  subst eb
  obtain ⟨gb, rfl⟩ := own_some hrb (by decide)
  have x0 := hrb.cells (g := gb) rfl 0 (.int .i64 21) rfl
  have x1 := hrb.cells (g := gb) rfl 1 (.int .i64 36) rfl
  have x2 := hrb.cells (g := gb) rfl 2 (.int .i64 1) rfl
  have x3 := hrb.cells (g := gb) rfl 3 (.int .i64 0) rfl
  rw [add_plain] at x0 x1 x2 x3
  have HF6 := Aside0.mk (HF5.out.trans (FrP.below hbb))
  have HBB : Aside0 (Below w.heap.size w w6) := ⟨⟨HF6.out.os.trans HB.out.os, HF6.out.tape.trans HB.out.tape, HF6.out.output.trans HB.out.output, Nat.le_trans HB.out.size HF6.out.size, fun g hg => (HF6.out.block g (Nat.lt_of_lt_of_le hg HB.out.size) (fun e => by
    rcases e with e | e | e
    · have := HG.out.1; omega
    · have := HG.out.2.1; omega
    · have := HG.out.2.2; omega) (fun _ _ _ q e => by
    rcases e with e | e | e
    · have := HG.out.1; omega
    · have := HG.out.2.1; omega
    · have := HG.out.2.2; omega)).trans (HB.out.block g hg)⟩⟩
  clear hrb hbb HV5 HF5 HF6 HIM
  rw [show ([36] : List Nat).length = 1 from rfl]
  go_wp2_with fail
  go_ret
  exact ⟨rfl, HBB.out⟩
end Go.Proofs.YtgpknomegleidaaGreatDoor.T
namespace Go.Proofs.YtgpknomegleidaaGreatDoor.T
open Go.RowKit Go.Proofs.YtgpknomegleidaaGreatDoorW.PrintWords Go.Proofs.YtgpknomegleidaaGreatDoorW.PrintLast Go.Proofs.YtgpknomegleidaaGreatDoorW.PrintMore Go.Proofs.YtgpknomegleidaaGreatDoor.PAll
set_option linter.unusedSimpArgs false
set_option linter.unusedVariables false

/-- Block b is a map of numbers to numbers, at most n of them. -/
def MapI (w : World) (b n : Nat) (f : Int → Int) : Prop := ∃ D, w.ownsMap Tryz.prog 3 (plainElem Tryz.prog 3) b n D ∧ ∀ a, D.atKey (.int .i64 a) (li 0) = li (f a)
theorem MapI.made (w : World) : MapI (w.alloc (.map #[] 0)) w.heap.size 0 (fun _ => 0) := ⟨_, World.ownsMap_made w Tryz.prog 3 (plainElem Tryz.prog 3), fun s => rfl⟩
theorem MapI.kept {w w' : World} {b n : Nat} {f : Int → Int} {row : Option Nat} (h : MapI w b n f) (hg : w.grownBy w' row) (hne : some b ≠ row) : MapI w' b n f := by
  obtain ⟨D, h1, h2⟩ := h
  exact ⟨D, h1.kept hg hne, h2⟩
theorem MapI.below {w w' : World} {b n : Nat} {f : Int → Int} (h : MapI w b n f) (hb : Below w.heap.size w w') : MapI w' b n f := h.kept (row := none) ⟨hb.os, hb.tape, hb.output, hb.size, fun k hk _ => hb.block k hk⟩ (by simp)
theorem MapI.obj {w : World} {b n : Nat} {f : Int → Int} (h : MapI w b n f) : ∃ es c, w.heap[b]? = some (.map es c) := by
  obtain ⟨D, ⟨es, clock, hb, _⟩, _⟩ := h
  exact ⟨es, clock, hb⟩
theorem MapI.mono {w : World} {b n n' : Nat} {f : Int → Int} (h : MapI w b n f) (hn : n ≤ n') : MapI w b n' f := by
  obtain ⟨D, h1, h2⟩ := h
  exact ⟨D, h1.mono hn, h2⟩
theorem keyI (a : Int) (ha : (Lit.int .i64 a).wf = true) : keyOf Tryz.prog 3 (.int .i64 a) = some (.int .i64 a) := Maps.keyOf_int_mk Tryz.underlying3 ha
theorem MapI.look {w : World} {b n : Nat} {f : Int → Int} (h : MapI w b n f) (a : Int) (ha : (Lit.int .i64 a).wf = true) :
    (Instr.lookup 69 (.map (some b)) (.int .i64 a) false).run Tryz.prog w = .ok (.int .i64 (f a)) w := by
  obtain ⟨D, h1, h2⟩ := h
  obtain ⟨c, hrun, hat, _⟩ := h1.lookup_int (Maps.int_keyed Tryz.underlying3) Tryz.underlying69 Tryz.underlying3 (Tryz.zeroValue3 w) (keyI a ha)
  have e := li_inj ((h2 _).symm.trans hat)
  rw [hrun, e]
theorem MapI.put {w : World} {b n : Nat} {f : Int → Int} (h : MapI w b n f) (hn : n < maxLen) (a : Int) (ha : (Lit.int .i64 a).wf = true) (c : Int) (hc : (Lit.int .i64 c).wf = true) :
    ∃ w', (Instr.mapUpdate 69 (.map (some b)) (.int .i64 a) (.int .i64 c)).run Tryz.prog w = .ok () w' ∧ MapI w' b (n + 1) (fun t => if t = a then c else f t) ∧ w.grownBy w' (some b) := by
  obtain ⟨D, h1, h2⟩ := h
  obtain ⟨w', hrun, r1, r2⟩ := h1.update (Maps.int_keyed Tryz.underlying3) Tryz.underlying69 hn (keyI a ha) (plainElem_int (H := Unit) Tryz.underlying3 hc)
  refine ⟨w', hrun, ⟨_, r1, fun t => ?_⟩, r2⟩
  show _ = li (if t = a then c else f t)
  by_cases ht : t = a
  · rw [if_pos ht, ht, Maps.atKey_put_same h1.isMap (by trivial)]
  · rw [if_neg ht, Maps.atKey_put_other (by simpa using ht), h2]
/-- How often an address is among the first findings, and whether it is. -/
def cq (fs : List S46) : Nat → Int → Int
  | 0, _ => 0
  | k + 1, a => if a = (rd_T46 fs (k : Int)).f1 then cq fs k a + 1 else cq fs k a
def isB (fs : List S46) : Nat → Int → Bool
  | 0, _ => false
  | k + 1, a => isB fs k a || ((rd_T46 fs (k : Int)).f1 == a)
theorem cq_is (fs : List S46) (a : Int) : ∀ k : Nat, 0 ≤ cq fs k a ∧ cq fs k a ≤ (k : Int) ∧ (0 < cq fs k a ↔ isB fs k a = true)
  | 0 => ⟨Int.le_refl _, Int.le_refl _, by simp [cq, isB]⟩
  | k + 1 => by
    obtain ⟨h1, h2, h3⟩ := cq_is fs a k
    simp only [cq, isB, Bool.or_eq_true, beq_iff_eq]
    by_cases e : a = (rd_T46 fs (k : Int)).f1
    · rw [if_pos e]
      exact ⟨by omega, by omega, by constructor <;> intro _; exact .inr e.symm; omega⟩
    · rw [if_neg e]
      refine ⟨h1, by omega, h3.trans ⟨.inl, fun h => ?_⟩⟩
      rcases h with h | h
      · exact h
      · exact absurd h.symm e
def qr (fs : List S46) : Nat → List Nat
  | 0 => []
  | i + 1 => qr fs i ++ (if isB fs fs.length (i : Int) = true then [i] else [])
theorem qr_len (fs : List S46) : ∀ i, (qr fs i).length ≤ i
  | 0 => Nat.le_refl _
  | i + 1 => by
    have := qr_len fs i
    rw [qr, List.length_append]
    split <;> simp only [List.length_cons, List.length_nil] <;> omega
def intV (a : Nat) : Value := .int .i64 (a : Int)
/-- Each finding's address is a whole number of the machine. -/
def WfF (fs : List S46) : Prop := ∀ x ∈ fs, (Lit.int .i64 x.f0).wf = true ∧ (Lit.int .i64 x.f1).wf = true ∧ (Lit.int .i64 x.f2).wf = true ∧ (Lit.int .i64 x.f3).wf = true
theorem rdF_mem {fs : List S46} {k : Nat} (hk : k < fs.length) : rd_T46 fs (k : Int) ∈ fs := by
  unfold rd_T46
  rw [Int.toNat_natCast, List.getD_eq_getElem?_getD, List.getElem?_eq_getElem hk]
  exact List.getElem_mem hk
theorem nat_wf {k : Nat} (h : k < 4294967296) : (Lit.int .i64 (k : Int)).wf = true := by
  rw [← w64 (x := (k : Int)) (by omega) (by omega)]
  exact wrap64_wf _
theorem infoFnd4 : (Tryz.prog.info? 46).map (·.size) = some 4 := by kernel_rfl
structure QuI (w wq : World) (live at_ : Int) (A : Option Addr) (l c m : Nat) (f : Int → Int) : Prop where
  scr : wq.heap[w.heap.size]? = some (.cells #[.int .i64 live, .int .i64 at_, .slice A l c] 24 (0, 0))
  mp : MapI wq (w.heap.size + 1) m f
  bel : Below w.heap.size w wq
theorem QuI.lt {w wq : World} {live at_ : Int} {A : Option Addr} {l c m : Nat} {f : Int → Int} (h : QuI w wq live at_ A l c m f) : w.heap.size + 1 < wq.heap.size := by
  obtain ⟨es, cl, e⟩ := h.mp.obj
  exact (Array.getElem?_eq_some_iff.1 e).1
theorem QuI.below {w wq w' : World} {live at_ : Int} {A : Option Addr} {l c m : Nat} {f : Int → Int} (h : QuI w wq live at_ A l c m f) (hb : Below wq.heap.size wq w') : QuI w w' live at_ A l c m f :=
  ⟨blk_below h.scr hb, h.mp.below hb, below_then h.bel h.bel.size hb⟩
theorem QuI.own {w wq w' : World} {live at_ : Int} {A : Option Addr} {l c m : Nat} {f : Int → Int} {row : Option Nat} (h : QuI w wq live at_ A l c m f) (hg : wq.grownBy w' row) (h0 : ∀ g, row = some g → w.heap.size + 2 ≤ g) : QuI w w' live at_ A l c m f :=
  ⟨blk_grown h.scr hg (by intro e; have := h0 _ e.symm; omega), h.mp.kept hg (by intro e; have := h0 _ e.symm; omega), h.bel.grown hg h.bel.size (fun k hk => by have := h0 _ hk; omega)⟩
def QuaP (w : World) (fs : List S46) (M : Nat) (e : Ending) (w' : World) : Prop :=
  ∃ v, e = .returned v ∧ w'.ownsRow w.heap.size 3 1 v (qr fs M).length ((qr fs M).map intV) ∧ Below w.heap.size w w'
set_option maxHeartbeats 4000000 in
set_option maxRecDepth 100000 in
theorem quarantine_c (fs : List S46) (A : Option Addr) (c : Nat) (live at_ : Int) (w : World) (hr : Kd.C k46 w A fs.length fs) (hl : fs.length ≤ 200) (hw : WfF fs) (hm : live ≤ 2000) (hm0 : -9223372036854775808 ≤ live) :
    Calls Tryz.prog 11 #[.agg #[.int .i64 live, .int .i64 at_, .slice A fs.length c]] w (QuaP w fs live.toNat) := by
  have hu24 := Tryz.underlying24
  have hu46 := Tryz.underlying46
  have HR := Aside0.mk hr
  have HL := Aside0.mk hl
  have HW := Aside0.mk hw
  have HMM := Aside0.mk (And.intro hm hm0)
  have hb1 := below_alloc (Below.refl w.heap.size w) (.cells #[.int .i64 live, .int .i64 at_, .slice A fs.length c] 24 (0, 0))
  have hb2 := below_alloc hb1 (.map #[] 0)
  have h1 := blk_alloc (heap_alloc_new w (.cells #[.int .i64 live, .int .i64 at_, .slice A fs.length c] 24 (0, 0))) (.map #[] 0)
  have h2 := MapI.made (w.alloc (.cells #[.int .i64 live, .int .i64 at_, .slice A fs.length c] 24 (0, 0)))
  rw [alloc_sz] at h2
  have HI := Aside0.mk (QuI.mk (w := w) h1 h2 hb2)
  clear hr hl hw hm hm0 hb1 hb2 h1 h2
  have m1 : ∀ W : World, (Instr.makeMap 69 none).run Tryz.prog W = .ok (.map (some W.heap.size)) (W.alloc (.map #[] 0)) := fun W => run_makeMap 69 W
  go_enter Tryz.func11, Tryz.ntmps11
  go_upto_region 2 with fail
  generalize (w.alloc (.cells #[.int .i64 live, .int .i64 at_, .slice A fs.length c] 24 (0, 0))).alloc (.map #[] 0) = w1 at HI ⊢
  obtain ⟨B, hB⟩ : ∃ B, B = w.heap.size := ⟨_, rfl⟩
  have HBB := Aside0.mk hB
  have s0 : w1.cell? ⟨w.heap.size, 0, none⟩ = some (.int .i64 live) := (blk_cell HI.out.scr 0).trans rfl
  have s2 : w1.cell? ⟨w.heap.size, 2, none⟩ = some (.slice A fs.length c) := (blk_cell HI.out.scr 2).trans rfl
  rw [← hB] at s0 s2 ⊢
  clear hB
  go_wp2_with fail
  clear s0 s2
  go_loopw [12] (fun i wr => ∃ (k : Nat), k ≤ fs.length ∧ i = .int .i64 k ∧ Aside0 (QuI w wr live at_ A fs.length c k (cq fs k))) (fun i _ => fs.length - (intOf i).toNat)
  case atStart => exact ⟨0, Nat.zero_le _, rfl, HI⟩
  case round =>
    clear HI
    obtain ⟨k, hk, rfl, HI⟩ := hrel
    by_cases hkl : k < fs.length
    · have HK := Aside0.mk hkl
      obtain ⟨ad, ea, x0, x1, x2, x3⟩ := at_T46 (Kd.C_below HR.out HI.out.bel) (k : Int) (by omega) (by omega)
      cases ea
      simp only [Int.toNat_natCast] at x0 x1 x2 x3
      have p1 : (0 ≤ (k : Int)) = True := eq_true (by omega)
      have q1 : ((k : Int) < (fs.length : Int)) = True := eq_true (by omega)
      generalize hy : rd_T46 fs (k : Int) = y at x0 x1 x2 x3
      have HY := Aside0.mk hy
      have HYW : Aside0 ((Lit.int .i64 y.f1).wf = true) := ⟨by rw [← hy]; exact (HW.out _ (rdF_mem hkl)).2.1⟩
      have HQ := Aside0.mk (cq_is fs y.f1 k)
      clear hy hkl hk
      go_upto_region 5 with (first | ((with_reducible refine gate_dst (N := 5) rfl ?_); refine box_event ?hg (N := 5) ?hd (cs := (#[.int .i64 0, .int .i64 0, .int .i64 0, .int .i64 0] : Array Value)) (t := 46) ?hr ?_; (case hd => rfl); (case hg => rfl); (case hr => first | (go_simp; done) | (go_simp; rfl)); intro gb hgb w5 hbox hb; have HX := Aside0.mk hbox; have HV := Aside0.mk hb; have HGB := Aside0.mk (Nat.le_of_eq hgb.symm : wr.heap.size ≤ gb); clear hgb hbox hb) | ((with_reducible refine gate_store (t := 46) rfl ?_); refine store_at rfl _ _ _ rfl gb 0 46 _ ([.int .i64 y.f0, .int .i64 y.f1, .int .i64 y.f2, .int .i64 y.f3] : List Value) infoFnd4 HX.out (Nat.le_of_ble_eq_true rfl) (by first | (go_simp; done) | (go_simp; rfl)) (by first | (go_simp; done) | (go_simp; rfl)) (by intro u hu; simp only [List.mem_cons, List.not_mem_nil, or_false] at hu; rcases hu with rfl | rfl | rfl | rfl <;> rfl) ?_; intro w6 hs hgr; have n1_ : Aside0 (w6.heap[gb]? = some (.cells (#[.int .i64 y.f0, .int .i64 y.f1, .int .i64 y.f2, .int .i64 y.f3] : Array Value) 46 (0, 0))) := ⟨hs⟩; have n2_ := Aside0.mk (HI.out.below (HV.out.grown hgr HV.out.size (fun k hk => by injection hk with hk; rw [← hk]; exact HGB.out))); clear HX HV hs hgr HI; have HX := n1_; have HI := n2_; clear n1_ n2_; clear x0 x1 x2 x3))
      have x1 : w6.cell? ⟨gb, 1, none⟩ = some (.int .i64 y.f1) := (blk_cell HX.out 1).trans rfl
      have hlo : (Instr.lookup 69 (.map (some (B + 1))) (.int .i64 y.f1) false).run Tryz.prog w6 = .ok (.int .i64 (cq fs k y.f1)) w6 := by
        rw [HBB.out]
        exact HI.out.mp.look _ HYW.out
      have hQ := HQ.out
      generalize hq : cq fs k y.f1 = q at hlo hQ
      have w1_ : wrap64 (q + 1) = q + 1 := by
        have := HK.out
        have := HL.out
        exact w64 (by omega) (by omega)
      obtain ⟨w7, hput, hm7, hg7⟩ := HI.out.mp.put (by have := HK.out; have := HL.out; unfold maxLen; omega) y.f1 HYW.out (q + 1) (by rw [← w1_]; exact wrap64_wf _)
      rw [← HBB.out] at hput
      have HQQ := Aside0.mk hq
      have HP7 := Aside0.mk (And.intro hm7 hg7)
      clear hq hm7 hg7 hQ
      go_wp2_with fail
      have HN : Aside0 (QuI w w7 live at_ (some ad) fs.length c (k + 1) (cq fs (k + 1))) := ⟨by
        refine ⟨blk_grown HI.out.scr HP7.out.2 (by intro e; injection e with e; omega), ?_, HI.out.bel.grown HP7.out.2 HI.out.bel.size (fun k hk => by injection hk with hk; omega)⟩
        have e : cq fs (k + 1) = fun t => if t = y.f1 then q + 1 else cq fs k t := by
          funext t
          show (if t = (rd_T46 fs (k : Int)).f1 then cq fs k t + 1 else cq fs k t) = _
          rw [HY.out]
          by_cases ht : t = y.f1
          · rw [if_pos ht, if_pos ht, ht, HQQ.out]
          · rw [if_neg ht, if_neg ht]
        rw [e]
        exact HP7.out.1⟩
      clear HP7 HI HX
      have w2_ : wrap64 ((k : Int) + 1) = ((k + 1 : Nat) : Int) := by have := HK.out; have := HL.out; rw [w64 (by omega) (by omega)]; rfl
      go_roundw
      case rel => exact ⟨k + 1, HK.out, by rw [w2_], HN⟩
      case measure =>
        have := HK.out
        rw [w2_]
        simp only [intOf]
        omega
    · have HE : Aside0 (QuI w wr live at_ A fs.length c fs.length (cq fs fs.length)) := ⟨by have e : k = fs.length := by omega
                                                                                            rw [e] at HI; exact HI.out⟩
      have d1 : decide ((k : Int) < (fs.length : Int)) = false := decide_eq_false (by omega)
      have q1 : ((k : Int) < (fs.length : Int)) = False := eq_false (by omega)
      clear HI hkl hk
      obtain ⟨M, hM⟩ : ∃ M, M = live.toNat := ⟨_, rfl⟩
      have HM := Aside0.mk (And.intro hM (show M ≤ 2000 by have := HMM.out; omega))
      have hmx : max live 0 = (M : Int) := by omega
      clear hM
      have s0 : wr.cell? ⟨B, 0, none⟩ = some (.int .i64 live) := by rw [HBB.out]; exact (blk_cell HE.out.scr 0).trans rfl
      go_wp2_with fail
      clear s0
      have HQI : Aside0 (QuI w wr live at_ A fs.length c fs.length (cq fs fs.length)) := HE
      clear HE
      go_loopw [6, 25] (fun v i wq => ∃ (k : Nat), k ≤ M ∧ i = .int .i64 k ∧ Aside0 (QuI w wq live at_ A fs.length c fs.length (cq fs fs.length)) ∧ Aside0 (wq.ownsRow (w.heap.size + 2) 3 1 v (qr fs k).length ((qr fs k).map intV))) (fun _ i _ => M - (intOf i).toNat)
      case atStart => exact ⟨0, Nat.zero_le _, rfl, HQI, ⟨World.ownsRow_nil _ _ _ _⟩⟩
      case round =>
        clear HQI
        obtain ⟨k, hk, rfl, HI, HO⟩ := hrel
        obtain ⟨A2, c2, e2⟩ := own_sliceN HO.out
        subst e2
        by_cases hkl : k < M
        · have HK := Aside0.mk hkl
          have HMB := HM.out.2
          have d1 : decide ((k : Int) < (M : Int)) = true := decide_eq_true (by omega)
          have d1' : decide (k < M) = true := decide_eq_true hkl
          have q1 : ((k : Int) < (M : Int)) = True := eq_true (by omega)
          have q1' : (k < M) = True := eq_true hkl
          have w2_ : wrap64 ((k : Int) + 1) = ((k + 1 : Nat) : Int) := by rw [w64 (by omega) (by omega)]; rfl
          have hlo : (Instr.lookup 69 (.map (some (B + 1))) (.int .i64 (k : Int)) false).run Tryz.prog wr = .ok (.int .i64 (cq fs fs.length (k : Int))) wr := by
            rw [HBB.out]
            exact HI.out.mp.look _ (nat_wf (by omega))
          have hQ := cq_is fs (k : Int) fs.length
          generalize hq : cq fs fs.length (k : Int) = q at hlo hQ
          have HLB : Aside0 ((qr fs k).length ≤ 100000) := ⟨by have := qr_len fs k; omega⟩
          clear hq HMB hkl hk
          cases hi : isB fs fs.length (k : Int) with
          | false =>
            have hn : ¬ 0 < q := fun e => by rw [hQ.2.2.1 e] at hi; cases hi
            have d2 : decide (0 < q) = false := decide_eq_false hn
            have HE : Aside0 (qr fs (k + 1) = qr fs k) := ⟨by rw [qr, if_neg (by rw [hi]; decide), List.append_nil]⟩
            clear hQ hi hn
            go_wp2_with fail
            go_roundw
            case rel => exact ⟨k + 1, HK.out, by rw [w2_], HI, ⟨by rw [HE.out]; exact HO.out⟩⟩
            case measure =>
              have := HK.out
              rw [w2_]
              simp only [intOf]
              omega
          | true =>
            have hn : 0 < q := hQ.2.2.2 hi
            have d2 : decide (0 < q) = true := decide_eq_true hn
            have HE : Aside0 (qr fs (k + 1) = qr fs k ++ [k]) := ⟨by rw [qr, if_pos hi]⟩
            clear hQ hi hn
            go_wp2_with (at_builtin; go_loud (refine wpList_app1 rfl (.tmp 32) (.tmp 34) 35 rfl (w.heap.size + 2) 3 (.int .i64 0) 8 Tryz.underlying35 infoInt3 rfl (by decide) wr (.slice A2 (qr fs k).length c2) (.int .i64 (k : Int)) (qr fs k).length _ rfl rfl HO.out rfl HLB.out HI.out.lt ?_); intro v1 w4 ho hg; have HI4 := Aside0.mk ((HI.out.below (below_alloc (Below.refl wr.heap.size wr) _)).own hg (fun g e => (own_row HO.out g e).1)); have HO4 := Aside0.mk ho; obtain ⟨A1, c1, e1'⟩ := own_sliceN ho; subst e1'; clear ho hg HI HO)
            go_roundw
            case rel => exact ⟨k + 1, HK.out, by rw [w2_], HI4, ⟨by rw [HE.out, List.length_append, List.map_append]; exact HO4.out⟩⟩
            case measure =>
              have := HK.out
              rw [w2_]
              simp only [intOf]
              omega
        · have e : k = M := by omega
          subst e
          have d1 : decide ((k : Int) < (k : Int)) = false := decide_eq_false (by omega)
          have d1' : decide (k < k) = false := decide_eq_false (by omega)
          clear hkl hk
          go_wp2_with fail
          go_ret
          exact ⟨_, rfl, by rw [← HM.out.1]; exact own_lower HO.out (by omega), HI.out.bel⟩
end Go.Proofs.YtgpknomegleidaaGreatDoor.T
namespace Go.Proofs.YtgpknomegleidaaGreatDoor.T
open Go.RowKit Go.Proofs.YtgpknomegleidaaGreatDoorW.PrintWords Go.Proofs.YtgpknomegleidaaGreatDoorW.PrintLast Go.Proofs.YtgpknomegleidaaGreatDoorW.PrintMore Go.Proofs.YtgpknomegleidaaGreatDoor.PAll
set_option linter.unusedSimpArgs false
set_option linter.unusedVariables false

theorem qr_pre (fs : List S46) (k : Nat) : ∀ m, ∃ t, qr fs (k + m) = qr fs k ++ t
  | 0 => ⟨[], by simp⟩
  | m + 1 => by
    obtain ⟨t, h⟩ := qr_pre fs k m
    refine ⟨t ++ (if isB fs fs.length ((k + m : Nat) : Int) = true then [k + m] else []), ?_⟩
    rw [← Nat.add_assoc, qr, h, List.append_assoc]
theorem qr_at {fs : List S46} {k M : Nat} (hk : k < M) (hi : isB fs fs.length (k : Int) = true) : (qr fs k).length < (qr fs M).length ∧ ((qr fs M).map intV)[(qr fs k).length]? = some (.int .i64 (k : Int)) := by
  obtain ⟨t, h⟩ := qr_pre fs (k + 1) (M - (k + 1))
  rw [show k + 1 + (M - (k + 1)) = M by omega, qr, if_pos hi] at h
  rw [h]
  constructor
  · simp only [List.length_append, List.length_cons, List.length_nil]
    omega
  · simp [intV]
theorem wf_le {n : Int} (h : (Lit.int .i64 n).wf = true) : -9223372036854775808 ≤ n ∧ n ≤ 9223372036854775807 := by
  simp [Lit.wf, IntKind.min, IntKind.max, IntKind.signed, IntKind.bits] at h
  omega
set_option maxHeartbeats 4000000 in
set_option maxRecDepth 100000 in
theorem quar_law (fs : List S46) (A : Option Addr) (c : Nat) (live at_ : Int) (w : World) (hr : Kd.C k46 w A fs.length fs) (hw : WfF fs) (hm0 : -9223372036854775808 ≤ live) :
    Calls Tryz.prog 4 #[.agg #[.int .i64 live, .int .i64 at_, .slice A fs.length c]] w fun e w' => e = .returned (.bool true) ∧ Below w.heap.size w w' := by
  have hu24 := Tryz.underlying24
  have hu46 := Tryz.underlying46
  have HW := Aside0.mk hw
  have hb1 := below_alloc (Below.refl w.heap.size w) (.cells #[.int .i64 live, .int .i64 at_, .slice A fs.length c] 24 (0, 0))
  have HX := Aside0.mk (heap_alloc_new w (.cells #[.int .i64 live, .int .i64 at_, .slice A fs.length c] 24 (0, 0)))
  have HB := Aside0.mk hb1
  have HR := Aside0.mk (Kd.C_below hr hb1)
  have HM0 := Aside0.mk hm0
  clear hr hw hb1 hm0
  go_enter Tryz.func4, Tryz.ntmps4
  go_upto_region 1 with fail
  obtain ⟨B, hB⟩ : ∃ B, B = w.heap.size := ⟨_, rfl⟩
  generalize w.alloc (.cells #[.int .i64 live, .int .i64 at_, .slice A fs.length c] 24 (0, 0)) = w1 at HX HB HR ⊢
  have HBB := Aside0.mk hB
  rw [← hB] at HX ⊢
  clear hB
  have s0 : w1.cell? ⟨B, 0, none⟩ = some (.int .i64 live) := (blk_cell HX.out 0).trans rfl
  have s2 : w1.cell? ⟨B, 2, none⟩ = some (.slice A fs.length c) := (blk_cell HX.out 2).trans rfl
  by_cases h1 : 200 < fs.length
  · have d1 : decide (200 < (fs.length : Int)) = true := decide_eq_true (by omega)
    have d1' : decide (200 < fs.length) = true := decide_eq_true h1
    clear h1
    go_wp2_with fail
    refine (awake_c w1).mono ?_
    rintro e w2 ⟨rfl, hb⟩
    have HB2 := Aside0.mk (below_then HB.out HB.out.size hb)
    clear hb
    go_wp2_with fail
    go_ret
    exact ⟨rfl, HB2.out⟩
  · have d1 : decide (200 < (fs.length : Int)) = false := decide_eq_false (by omega)
    have d1' : decide (200 < fs.length) = false := decide_eq_false h1
    have HL : Aside0 (fs.length ≤ 200) := ⟨by omega⟩
    clear h1
    by_cases h2 : 2000 < live
    · have d2 : decide (2000 < live) = true := decide_eq_true h2
      clear h2
      go_wp2_with fail
      refine (awake_c w1).mono ?_
      rintro e w2 ⟨rfl, hb⟩
      have HB2 := Aside0.mk (below_then HB.out HB.out.size hb)
      clear hb
      go_wp2_with fail
      go_ret
      exact ⟨rfl, HB2.out⟩
    · have d2 : decide (2000 < live) = false := decide_eq_false h2
      have HMM : Aside0 (live ≤ 2000) := ⟨by omega⟩
      have s1 : w1.cell? ⟨B, 1, none⟩ = some (.int .i64 at_) := (blk_cell HX.out 1).trans rfl
      clear h2
      go_wp2_with fail
      refine (quarantine_c fs A c live at_ w1 HR.out HL.out HW.out HMM.out HM0.out).mono ?_
      rintro e w2 ⟨v, rfl, ho, hb⟩
      obtain ⟨M, hM⟩ : ∃ M, M = live.toNat := ⟨_, rfl⟩
      rw [← hM] at ho
      obtain ⟨A2, c2, e2⟩ := own_sliceN ho
      subst e2
      have HO := Aside0.mk ho
      have HX2 := Aside0.mk (blk_below HX.out hb)
      have HR2 := Aside0.mk (Kd.C_below HR.out hb)
      have HB2 := Aside0.mk (below_then HB.out HB.out.size hb)
      have HM := Aside0.mk (And.intro hM (show M ≤ 2000 by have := HMM.out; omega))
      clear ho hb s0 s1 s2 HX HR HB hM
      have s0 : w2.cell? ⟨B, 0, none⟩ = some (.int .i64 live) := (blk_cell HX2.out 0).trans rfl
      have s2 : w2.cell? ⟨B, 2, none⟩ = some (.slice A fs.length c) := (blk_cell HX2.out 2).trans rfl
      go_wp2_with fail
      go_loopw [4, 5] (fun a i wq => ∃ (k : Nat), k ≤ M ∧ a = .int .i64 (((qr fs k).length : Nat) : Int) ∧ i = .int .i64 k ∧ w2 = wq) (fun _ i _ => M - (intOf i).toNat)
      case atStart => exact ⟨0, Nat.zero_le _, rfl, rfl, rfl⟩
      case round =>
        obtain ⟨k, hk, rfl, rfl, rfl⟩ := hrel
        by_cases hkl : k < M
        · have HK := Aside0.mk hkl
          have hMM := HM.out
          have d3 : decide ((k : Int) < live) = true := decide_eq_true (by omega)
          have q3 : ((k : Int) < live) = True := eq_true (by omega)
          have w2_ : wrap64 ((k : Int) + 1) = ((k + 1 : Nat) : Int) := by rw [w64 (by omega) (by omega)]; rfl
          clear hMM hkl hk
          go_upto_region 10 with fail
          go_loopw [6, 7] (fun b j wq => ∃ (q : Nat), q ≤ fs.length ∧ b = .bool (isB fs q (k : Int)) ∧ j = .int .i64 q ∧ w2 = wq) (fun _ j _ => fs.length - (intOf j).toNat)
          case atStart => exact ⟨0, Nat.zero_le _, rfl, rfl, rfl⟩
          case round =>
            obtain ⟨q, hq, rfl, rfl, rfl⟩ := hrel
            by_cases hql : q < fs.length
            · have HQ := Aside0.mk hql
              obtain ⟨ad, ea, x0, x1, x2, x3⟩ := at_T46 HR2.out (q : Int) (by omega) (by omega)
              cases ea
              simp only [Int.toNat_natCast] at x0 x1 x2 x3
              have hLL := HL.out
              have p1 : (0 ≤ (q : Int)) = True := eq_true (by omega)
              have q1 : ((q : Int) < (fs.length : Int)) = True := eq_true (by omega)
              have p2 : decide (0 ≤ (q : Int)) = true := decide_eq_true (by omega)
              have q2 : decide ((q : Int) < (fs.length : Int)) = true := decide_eq_true (by omega)
              have q2' : decide (q < fs.length) = true := decide_eq_true (by omega)
              have w3_ : wrap64 ((q : Int) + 1) = ((q + 1 : Nat) : Int) := by rw [w64 (by omega) (by omega)]; rfl
              have HE : Aside0 (isB fs (q + 1) (k : Int) = (isB fs q (k : Int) || ((rd_T46 fs (q : Int)).f1 == (k : Int)))) := ⟨rfl⟩
              generalize hb0 : isB fs q (k : Int) = b0 at HE
              generalize hy : rd_T46 fs (q : Int) = y at x0 x1 x2 x3 HE
              clear hLL hql hq hy hb0
              cases b0 with
              | true =>
                go_wp2_with fail
                go_roundw
                case rel => exact ⟨q + 1, HQ.out, by rw [HE.out]; rfl, by rw [w3_], trivial⟩
                case measure =>
                  have := HQ.out
                  rw [w3_]
                  simp only [intOf]
                  omega
              | false =>
                go_wp2_with fail
                go_roundw
                case rel => exact ⟨q + 1, HQ.out, by rw [HE.out]; rfl, by rw [w3_], trivial⟩
                case measure =>
                  have := HQ.out
                  rw [w3_]
                  simp only [intOf]
                  omega
            · have e : q = fs.length := by omega
              have HIS : Aside0 (isB fs fs.length (k : Int) = isB fs q (k : Int)) := ⟨by rw [e]⟩
              have d4 : decide ((q : Int) < (fs.length : Int)) = false := decide_eq_false (by omega)
              have q4 : ((q : Int) < (fs.length : Int)) = False := eq_false (by omega)
              have q4' : decide (q < fs.length) = false := decide_eq_false (by omega)
              clear hql hq e
              generalize hb0 : isB fs q (k : Int) = b0 at HIS
              clear hb0
              cases b0 with
              | false =>
                have HE : Aside0 (qr fs (k + 1) = qr fs k) := ⟨by rw [qr, if_neg (by rw [HIS.out]; decide), List.append_nil]⟩
                go_wp2_with fail
                go_roundw
                case rel => exact ⟨k + 1, HK.out, by rw [HE.out], by rw [w2_], trivial⟩
                case measure =>
                  have := HK.out
                  rw [w2_]
                  simp only [intOf]
                  omega
              | true =>
                have HE : Aside0 ((qr fs (k + 1)).length = (qr fs k).length + 1) := ⟨by rw [qr, if_pos HIS.out, List.length_append]; rfl⟩
                obtain ⟨r1, r2⟩ := qr_at HK.out HIS.out
                obtain ⟨gq, e3⟩ := own_some HO.out (by omega)
                cases e3
                have x0 := HO.out.cells (g := gq) rfl _ _ r2
                have hln := qr_len fs M
                have hMM := HM.out.2
                rw [add_plain] at x0
                have p1 : (0 ≤ ((qr fs k).length : Int)) = True := eq_true (by omega)
                have q1 : (((qr fs k).length : Int) < ((qr fs M).length : Int)) = True := eq_true (by omega)
                have q2 : decide (((qr fs k).length : Int) < ((qr fs M).length : Int)) = true := decide_eq_true (by omega)
                have q3' : decide (((qr fs M).length : Int) ≤ ((qr fs k).length : Int)) = false := decide_eq_false (by omega)
                have q5 : decide ((qr fs M).length ≤ (qr fs k).length) = false := decide_eq_false (by omega)
                have w4_ : wrap64 (((qr fs k).length : Int) + 1) = (((qr fs k).length + 1 : Nat) : Int) := by rw [w64 (by omega) (by omega)]; rfl
                clear r1 r2 hln hMM
                go_wp2_with fail
                go_roundw
                case rel => exact ⟨k + 1, HK.out, by rw [w4_, HE.out], by rw [w2_], trivial⟩
                case measure =>
                  have := HK.out
                  rw [w2_]
                  simp only [intOf]
                  omega
        · have e : k = M := by omega
          subst e
          have hMM := HM.out
          have d3 : decide ((k : Int) < live) = false := decide_eq_false (by omega)
          have q3 : ((k : Int) < live) = False := eq_false (by omega)
          clear hMM hkl hk
          go_wp2_with fail
          refine (awake_c w2).mono ?_
          rintro e w3 ⟨rfl, hb⟩
          have HB3 := Aside0.mk (below_then HB2.out HB2.out.size hb)
          clear hb
          go_wp2_with fail
          go_ret
          exact ⟨rfl, HB3.out⟩
theorem quar_row (fs : List S46) (A : Option Addr) (c : Nat) (live at_ : Int) (w : World) (hr : Kd.C k46 w A fs.length fs) (_ : fs.length ≤ c) (_ : A = none → c = 0) (hw : WfF fs) (hl : (Lit.int .i64 live).wf = true) (_ : (Lit.int .i64 at_).wf = true) :
    Calls Tryz.prog 4 #[.agg #[.int .i64 live, .int .i64 at_, .slice A fs.length c]] w fun e w' => e = .returned (.bool true) ∧ Below w.heap.size w w' :=
  quar_law fs A c live at_ w hr hw (wf_le hl).1
end Go.Proofs.YtgpknomegleidaaGreatDoor.T
namespace Go.Proofs.YtgpknomegleidaaGreatDoor.T
open Go.RowKit Go.Deep Go.Proofs.YtgpknomegleidaaGreatDoorW.PrintWords Go.Proofs.YtgpknomegleidaaGreatDoorW.PrintLast Go.Proofs.YtgpknomegleidaaGreatDoorW.PrintMore Go.Proofs.YtgpknomegleidaaGreatDoor.PAll
set_option linter.unusedSimpArgs false
set_option linter.unusedVariables false

theorem c_int : Tryz.prog.cellsOf 3 = 1 := by kernel_rfl
theorem c_fnd : Tryz.prog.cellsOf 46 = 4 := by kernel_rfl
theorem c_fnds : Tryz.prog.cellsOf 22 = 1 := by kernel_rfl
theorem c_scr : Tryz.prog.cellsOf 24 = 3 := by kernel_rfl
theorem one_cell {H : Type} {enc : TypeId × Value → H} {w : World} {base n : Nat} {spare : Nat → Bool} {held : Bool} {t : TypeId} {cs' : List Value} {y : DataW H × List MemPlace} {j : Nat} (hl : j < cs'.length)
    (h : DataW.trod enc Tryz.prog w base spare held n t ((cs'.drop j).take 1) = some y) : DataW.trod enc Tryz.prog w base spare held n t [cs'[j]] = some y := by
  have : (cs'.drop j).take 1 = [cs'[j]] := by
    rw [List.drop_eq_getElem_cons hl]
    rfl
  rw [this] at h
  exact h
theorem int_at {H : Type} {enc : TypeId × Value → H} {w : World} {base n : Nat} {spare : Nat → Bool} {held : Bool} {cs' : List Value} {y : DataW H × List MemPlace} {j : Nat} (hl : j < cs'.length)
    (h : DataW.trod enc Tryz.prog w base spare held n 3 ((cs'.drop j).take (Tryz.prog.cellsOf 3)) = some y) : ∃ k, cs'[j]? = some (.int .i64 k) ∧ (Lit.int .i64 k).wf = true := by
  rw [c_int] at h
  obtain ⟨k, e, _, hw⟩ := DataW.trod_int Tryz.underlying3 (one_cell hl h)
  injection e with e
  exact ⟨k, by rw [List.getElem?_eq_getElem hl, e], hw⟩
def encQ (x : S46) : List Value := [.int .i64 x.f0, .int .i64 x.f1, .int .i64 x.f2, .int .i64 x.f3]
theorem find_at {H : Type} {enc : TypeId × Value → H} {w : World} {base n : Nat} {spare : Nat → Bool} {held : Bool} {cs' : List Value} {y : DataW H × List MemPlace}
    (h : DataW.trod enc Tryz.prog w base spare held n 46 cs' = some y) : ∃ m : S46, cs' = encQ m ∧ ((Lit.int .i64 m.f0).wf = true ∧ (Lit.int .i64 m.f1).wf = true ∧ (Lit.int .i64 m.f2).wf = true ∧ (Lit.int .i64 m.f3).wf = true) := by
  obtain ⟨zs, n', hn', hy, hlen, hzl, hg⟩ := DataW.trod_struct Tryz.underlying46 h
  rw [c_fnd] at hlen
  have hzs : zs.length = 4 := hzl
  have g0 : DataW.trod enc Tryz.prog w base spare held n' 3 ((cs'.drop 0).take (Tryz.prog.cellsOf 3)) = zs[0]? := hg 0 _ rfl
  have g1 : DataW.trod enc Tryz.prog w base spare held n' 3 ((cs'.drop 1).take (Tryz.prog.cellsOf 3)) = zs[1]? := hg 1 _ rfl
  have g2 : DataW.trod enc Tryz.prog w base spare held n' 3 ((cs'.drop 2).take (Tryz.prog.cellsOf 3)) = zs[2]? := hg 2 _ rfl
  have g3 : DataW.trod enc Tryz.prog w base spare held n' 3 ((cs'.drop 3).take (Tryz.prog.cellsOf 3)) = zs[3]? := hg 3 _ rfl
  rw [List.getElem?_eq_getElem (by omega)] at g0 g1 g2 g3
  obtain ⟨a0, e0, w0⟩ := int_at (by omega) g0
  obtain ⟨a1, e1, w1⟩ := int_at (by omega) g1
  obtain ⟨a2, e2, w2⟩ := int_at (by omega) g2
  obtain ⟨a3, e3, w3⟩ := int_at (by omega) g3
  refine ⟨⟨a0, a1, a2, a3⟩, ?_, w0, w1, w2, w3⟩
  apply List.ext_getElem?
  intro j
  match j with
  | 0 => exact e0
  | 1 => exact e1
  | 2 => exact e2
  | 3 => exact e3
  | j + 4 =>
    rw [List.getElem?_eq_none (by omega)]
    rfl
theorem finds_in {H : Type} {enc : TypeId × Value → H} {w : World} {base fuel : Nat} {spare : Nat → Bool} {held : Bool} {cs : List Value} {x : DataW H × List MemPlace}
    (h : DataW.trod enc Tryz.prog w base spare held fuel 22 cs = some x) : ∃ (l : List S46) (a : Option Addr) (cap : Nat), cs = [.slice a l.length cap] ∧ l.length ≤ cap ∧ (a = none → cap = 0) ∧ Kd.C k46 w a l.length l ∧ WfF l := by
  rcases open_slice Tryz.underlying22 h with ⟨h0, _⟩ | ⟨ad, len, cap, m, n, D, Pl, hcs, hb, hl, hm, hmm, hx, hi⟩
  · exact ⟨[], none, 0, h0, Nat.le_refl _, fun _ => rfl, ⟨rfl, by decide, fun h => absurd h (by decide)⟩, fun n hn => by cases hn⟩
  · have F : ∀ i, ∃ n : S46, i < len → (∀ j u, (encQ n)[j]? = some u → w.cell? (ad.add (i * 4 + j)) = some u) ∧ ((Lit.int .i64 n.f0).wf = true ∧ (Lit.int .i64 n.f1).wf = true ∧ (Lit.int .i64 n.f2).wf = true ∧ (Lit.int .i64 n.f3).wf = true) := by
      intro i
      by_cases hil : i < len
      · obtain ⟨cs', hc, ht'⟩ := hi i (by rw [hmm]; split <;> omega)
        rw [c_fnd] at hc
        obtain ⟨nd, e, hw⟩ := find_at ht'
        obtain ⟨_, hcl, hat⟩ := World.cells?_some hc
        refine ⟨nd, fun _ => ⟨fun j u hj => ?_, hw⟩⟩
        have hj4 : j < 4 := (List.getElem?_eq_some_iff.1 hj).1
        have := hat j hj4
        rw [e, Addr.add_add] at this
        rw [this, hj]
      · exact ⟨z46, fun q => absurd q hil⟩
    obtain ⟨f, hf⟩ := Classical.axiomOfChoice F
    have hl' : ((List.range len).map f).length = len := by rw [List.length_map, List.length_range]
    refine ⟨(List.range len).map f, some ad, cap, by rw [hl']; exact hcs, by rw [hl']; exact hl, (fun e => by cases e), ?_, fun n hn => ?_⟩
    · rw [hl']
      refine ⟨hl', by unfold maxLen at hm; omega, fun _ => ⟨ad, rfl, fun j p hj => ?_⟩⟩
      rw [List.getElem?_map] at hj
      obtain ⟨i, hi1, hi2⟩ := Option.map_eq_some_iff.1 hj
      obtain ⟨hi3, hi4⟩ := List.getElem?_eq_some_iff.1 hi1
      rw [List.getElem_range] at hi4
      subst hi4
      rw [List.length_range] at hi3
      subst hi2
      exact ⟨encQ (f j), rfl, k46_mk w (f j), fun i u hu => (hf j hi3).1 i u hu⟩
    · obtain ⟨i, hi1, rfl⟩ := List.mem_map.1 hn
      exact (hf i (List.mem_range.1 hi1)).2
theorem scrub_in {H : Type} {enc : TypeId × Value → H} {w : World} {base fuel : Nat} {spare : Nat → Bool} {held : Bool} {cs : Array Value} {x : DataW H × List MemPlace}
    (h : DataW.trod enc Tryz.prog w base spare held fuel 24 (Value.agg cs).cells.toList = some x) : ∃ (l : List S46) (a : Option Addr) (cap : Nat) (live at_ : Int), cs = #[.int .i64 live, .int .i64 at_, .slice a l.length cap] ∧ l.length ≤ cap ∧ (a = none → cap = 0) ∧ Kd.C k46 w a l.length l ∧ WfF l ∧ (Lit.int .i64 live).wf = true ∧ (Lit.int .i64 at_).wf = true := by
  have h : DataW.trod enc Tryz.prog w base spare held fuel 24 cs.toList = some x := h
  obtain ⟨ys, n', hn', hy, hlen, hyl, hf⟩ := DataW.trod_struct Tryz.underlying24 h
  rw [c_scr] at hlen
  have hys : ys.length = 3 := hyl
  have f0 : DataW.trod enc Tryz.prog w base spare held n' 3 ((cs.toList.drop 0).take (Tryz.prog.cellsOf 3)) = ys[0]? := hf 0 _ rfl
  have f1 : DataW.trod enc Tryz.prog w base spare held n' 3 ((cs.toList.drop 1).take (Tryz.prog.cellsOf 3)) = ys[1]? := hf 1 _ rfl
  have f2 : DataW.trod enc Tryz.prog w base spare held n' 22 ((cs.toList.drop 2).take (Tryz.prog.cellsOf 22)) = ys[2]? := hf 2 _ rfl
  rw [List.getElem?_eq_getElem (by omega)] at f0 f1 f2
  rw [c_fnds] at f2
  obtain ⟨live, e0, w0⟩ := int_at (by omega) f0
  obtain ⟨at_, e1, w1⟩ := int_at (by omega) f1
  obtain ⟨l, a, cap, e2, hc, hn, hr, hw⟩ := finds_in (one_cell (by omega) f2)
  refine ⟨l, a, cap, live, at_, ?_, hc, hn, hr, hw, w0, w1⟩
  injection e2 with e2
  apply Array.ext'
  apply List.ext_getElem?
  intro j
  match j with
  | 0 => exact e0
  | 1 => exact e1
  | 2 => rw [List.getElem?_eq_getElem (by omega), e2]; rfl
  | j + 3 =>
    rw [List.getElem?_eq_none (by omega)]
    rfl
/-- The plain wrap: the listed variables and the world's shape kept. -/
theorem returns_laid_shaped {H : Type} {enc : TypeId × Value → H} {a : Assume} {C : Checked} {os : Os} {f : FuncId} {fn : Func} {s : ChangeSpec} {conds : List PathCond} {apart fresh handsOn again : Bool} {X : World → Array Value → Prop}
    (own : ownKnob C.prog.godebug = none) (started : os.Started) (noInit : C.prog.inits.idxOf? f = none) (hfn : C.prog.funcs[f]? = some fn)
    (witness : ∃ (w : World) (tape : Tape) (i : Input), w.os = os ∧ (w.forCall tape i).Shaped C.prog ∧ i.vars = [] ∧ Input.okWide C.prog (w.forCall tape i) .any w.heap.size f i ∧
      ((s.pre enc C.prog fn conds apart (w.forCall tape i).memory i.args ∧ X (w.forCall tape i).memory i.args) ∧ sizedMet enc C.prog fn (OpenSpec.ofChange s) apart (w.forCall tape i).memory i.args) ∧ a.holds C.prog (lone (Frame.enter C.prog f i.args .normal) [] (w.forCall tape i)))
    (contract : ∀ (W : World) (base : Nat) (args : Array Value) (ds gs : List (DataW H)) (before : List MemPlace),
      (∀ (j : Nat) t v, fn.params[j]? = some t → args[j]? = some v → Value.okWide C.prog W .any base t v) →
      DataW.Whole enc C.prog fn.params.toList s.vars apart W args.toList ds gs before →
      W.ShapedOpen C.prog →
      Calls C.prog f args W fun e W' => ∃ v, e = .returned v ∧ s.post enc C.prog fn apart fresh handsOn again W args v W') :
    ReturnsInHanded a C os f .any (fun w args => (s.pre enc C.prog fn conds apart w args ∧ X w args) ∧ sizedMet enc C.prog fn (OpenSpec.ofChange s) apart w args) (s.post enc C.prog fn apart fresh handsOn again) := by
  refine returnsInHanded_of_calls own started noInit witness ?_
  intro w tape i _ hsh _ hok hpre hholds
  obtain ⟨_, _, _, fn', hfn', _, _, _, _, hval⟩ := hok
  have e : fn' = fn := Option.some.inj (hfn'.symm.trans hfn)
  subst e
  obtain ⟨⟨⟨ds, gs, before, hw, hc⟩, hx⟩, hz⟩ := hpre
  have hw' := DataW.Whole.of_heap (w' := w.forCall tape i) (by rfl) hw
  refine (contract (w.forCall tape i) w.heap.size i.args ds gs before hval hw' hsh).mono fun e W' ⟨v, he, hp⟩ => ?_
  subst he
  exact ChangeSpec.post_blind hp
end Go.Proofs.YtgpknomegleidaaGreatDoor.T
namespace Go.Proofs.YtgpknomegleidaaGreatDoor.T
open Go.RowKit Go.Proofs.YtgpknomegleidaaGreatDoorW.PrintWords Go.Proofs.YtgpknomegleidaaGreatDoorW.PrintLast Go.Proofs.YtgpknomegleidaaGreatDoorW.PrintMore Go.Proofs.YtgpknomegleidaaGreatDoor.PAll
set_option linter.unusedSimpArgs false
set_option linter.unusedVariables false

def layV (live a6 a7 a8 a9 a10 a11 a12 a13 a14 a15 : Int) : Array Value := #[.int .i64 live, .int .i64 2, .int .i64 3, .int .i64 27, .int .i64 28, .int .i64 29, .int .i64 a6, .int .i64 a7, .int .i64 a8, .int .i64 a9, .int .i64 a10, .int .i64 a11, .int .i64 a12, .int .i64 a13, .int .i64 a14, .int .i64 a15]
def RLayP (live : Int) (w : World) (e : Ending) (w' : World) : Prop :=
  ∃ a6 a7 a8 a9 a10 a11 a12 a13 a14 a15, e = .returned (.tuple #[.agg (layV live a6 a7 a8 a9 a10 a11 a12 a13 a14 a15), .int .i64 0]) ∧ Below w.heap.size w w'
set_option maxHeartbeats 4000000 in
set_option maxRecDepth 100000 in
theorem rlay_bad (live : Int) (h : live < 48 ∨ 1024 < live) (w : World) : Calls Tryz.prog 5 #[.int .i64 live] w fun e w' => e = .returned (.tuple #[.agg z16C, .int .i64 1]) ∧ Below w.heap.size w w' := by
  have hu26 := Tryz.underlying26
  have HBAD := Aside0.mk h
  clear h
  go_enter Tryz.func5, Tryz.ntmps5
  go_upto_region 1 with ((with_reducible refine gate_dst (N := 2) rfl ?_); refine box_event ?hg (N := 2) ?hd (cs := (#[.int .i64 0, .int .i64 0, .int .i64 0, .int .i64 0, .int .i64 0, .int .i64 0, .int .i64 0, .int .i64 0, .int .i64 0, .int .i64 0, .int .i64 0, .int .i64 0, .int .i64 0, .int .i64 0, .int .i64 0, .int .i64 0] : Array Value)) (t := 26) ?hr ?_; (case hd => rfl); (case hg => rfl); (case hr => first | (go_simp; done) | (go_simp; rfl)); intro g2 hg w1 hbox hb; have H2 := Aside0.mk hbox; have HB := Aside0.mk hb; have G2 := Aside0.mk (Nat.le_of_eq hg.symm : w.heap.size ≤ g2); clear hg hbox hb)
  by_cases h1 : live < 48
  · have d1 : decide (live < 48) = true := decide_eq_true h1
    clear h1
    go_wp2_with ((with_reducible refine gate_store (t := 26) rfl ?_); refine store_at rfl _ _ _ rfl g2 0 26 _ z16C.toList infoLay H2.out (Nat.le_of_ble_eq_true rfl) (by first | (go_simp; done) | (go_simp; rfl)) (by first | (go_simp; done) | (go_simp; rfl)) (by intro u hu; simp only [z16C, List.mem_cons, List.not_mem_nil, or_false] at hu; rcases hu with rfl | rfl | rfl | rfl | rfl | rfl | rfl | rfl | rfl | rfl | rfl | rfl | rfl | rfl | rfl | rfl <;> rfl) ?_; intro ws hs hgr; have HW := Aside0.mk hs; have HBW := Aside0.mk (HB.out.grown hgr HB.out.size (fun k hk => by injection hk with hk; have := G2.out; omega)); clear hs hgr)
    (try simp only [Exit.inBlock, Exit.then])
    refine bodyPost_ret (results_ct rfl _ _ g2 26 z16C (0, 0) _ rfl HW.out hu26 rfl infoLay) rfl ?_
    exact ⟨rfl, HBW.out⟩
  · have d1 : decide (live < 48) = false := decide_eq_false h1
    have d2 : decide (1024 < live) = true := decide_eq_true (by have := HBAD.out; omega)
    clear h1
    go_wp2_with ((with_reducible refine gate_store (t := 26) rfl ?_); refine store_at rfl _ _ _ rfl g2 0 26 _ z16C.toList infoLay H2.out (Nat.le_of_ble_eq_true rfl) (by first | (go_simp; done) | (go_simp; rfl)) (by first | (go_simp; done) | (go_simp; rfl)) (by intro u hu; simp only [z16C, List.mem_cons, List.not_mem_nil, or_false] at hu; rcases hu with rfl | rfl | rfl | rfl | rfl | rfl | rfl | rfl | rfl | rfl | rfl | rfl | rfl | rfl | rfl | rfl <;> rfl) ?_; intro ws hs hgr; have HW := Aside0.mk hs; have HBW := Aside0.mk (HB.out.grown hgr HB.out.size (fun k hk => by injection hk with hk; have := G2.out; omega)); clear hs hgr)
    (try simp only [Exit.inBlock, Exit.then])
    refine bodyPost_ret (results_ct rfl _ _ g2 26 z16C (0, 0) _ rfl HW.out hu26 rfl infoLay) rfl ?_
    exact ⟨rfl, HBW.out⟩
set_option maxHeartbeats 4000000 in
set_option maxRecDepth 100000 in
theorem rlay_ok (live : Int) (h0 : 48 ≤ live) (h1 : live ≤ 1024) (w : World) : Calls Tryz.prog 5 #[.int .i64 live] w (RLayP live w) := by
  have hu26 := Tryz.underlying26
  have d1 : decide (live < 48) = false := decide_eq_false (by omega)
  have d2 : decide (1024 < live) = false := decide_eq_false (by omega)
  clear h0 h1
  go_enter Tryz.func5, Tryz.ntmps5
  go_wp2_with ((with_reducible refine gate_dst (N := 2) rfl ?_); refine box_event ?hg (N := 2) ?hd (cs := (#[.int .i64 0, .int .i64 0, .int .i64 0, .int .i64 0, .int .i64 0, .int .i64 0, .int .i64 0, .int .i64 0, .int .i64 0, .int .i64 0, .int .i64 0, .int .i64 0, .int .i64 0, .int .i64 0, .int .i64 0, .int .i64 0] : Array Value)) (t := 26) ?hr ?_; (case hd => rfl); (case hg => rfl); (case hr => first | (go_simp; done) | (go_simp; rfl)); intro g2 hg w1 hbox hb; have H2 := Aside0.mk hbox; have HB := Aside0.mk hb; have G2 := Aside0.mk (Nat.le_of_eq hg.symm : w.heap.size ≤ g2); clear hg hbox hb)
  refine (up16_c _ _).mono ?_
  rintro e w2 ⟨⟨a, rfl⟩, rfl⟩
  go_wp2_with fail
  refine (up64_c _ _).mono ?_
  rintro e w3 ⟨⟨b, rfl⟩, rfl⟩
  go_upto_region 6 with fail
  generalize wrap64 (live.tdiv 8) = q
  go_wp2_with ((with_reducible refine gate_store (t := 26) rfl ?_); refine store_at rfl _ _ _ rfl g2 0 26 _ (layV live q (wrap64 (29 + q)) a (wrap64 (wrap64 (29 + q) + a)) (wrap64 (wrap64 (30 + q) + a)) live (wrap64 (live + 1)) b (wrap64 (wrap64 (live + 1) + b)) (wrap64 (wrap64 (wrap64 (2 * live) + 1) + b))).toList infoLay H2.out (Nat.le_of_ble_eq_true rfl) (by first | (go_simp; done) | (go_simp; rfl)) (by first | (go_simp; done) | (go_simp; rfl)) (by intro u hu; simp only [layV, List.mem_cons, List.not_mem_nil, or_false] at hu; rcases hu with rfl | rfl | rfl | rfl | rfl | rfl | rfl | rfl | rfl | rfl | rfl | rfl | rfl | rfl | rfl | rfl <;> rfl) ?_; intro ws hs hgr; have HW := Aside0.mk hs; have HBW := Aside0.mk (HB.out.grown hgr HB.out.size (fun k hk => by injection hk with hk; have := G2.out; omega)); clear hs hgr)
  (try simp only [Exit.inBlock, Exit.then])
  refine bodyPost_ret (results_ct rfl _ _ g2 26 (layV live q (wrap64 (29 + q)) a (wrap64 (wrap64 (29 + q) + a)) (wrap64 (wrap64 (30 + q) + a)) live (wrap64 (live + 1)) b (wrap64 (wrap64 (live + 1) + b)) (wrap64 (wrap64 (wrap64 (2 * live) + 1) + b))) (0, 0) _ rfl HW.out hu26 rfl infoLay) rfl ?_
  exact ⟨_, _, _, _, _, _, _, _, _, _, rfl, HBW.out⟩
end Go.Proofs.YtgpknomegleidaaGreatDoor.T
