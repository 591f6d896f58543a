/- The law ArchiveBent: the walk. Printed by wip/tools/gen_lbent.py. -/
import Derived.Test.YtkhblpmjmkhiiaaGreatDoorQH14
import Derived.Test.YtkhblpmjmkhiiaaGreatDoorQH15
import Derived.Test.YtkhblpmjmkhiiaaGreatDoorQK7
import Derived.Test.YtkhblpmjmkhiiaaGreatDoorQH7
import Derived.Test.YtkhblpmjmkhiiaaGreatDoorQH9
import Derived.Test.YtkhblpmjmkhiiaaGreatDoorQH1
import Derived.Test.YtkhblpmjmkhiiaaGreatDoorQH8
namespace Go.Proofs.YtkhblpmjmkhiiaaGreatDoor.T
open Go.RowKit Go.Proofs.YtkhblpmjmkhiiaaGreatDoorW.PrintWords Go.Proofs.YtkhblpmjmkhiiaaGreatDoorW.PrintLast Go.Proofs.YtkhblpmjmkhiiaaGreatDoorW.PrintMore Go.Proofs.YtkhblpmjmkhiiaaGreatDoor.PAll
set_option linter.unusedSimpArgs false
set_option linter.unusedVariables false
def PofRet (w : World) (x : Int) (e : Ending) (w' : World) : Prop := ∃ v, e = .returned (.tuple #[v, .int .i64 x]) ∧ Below w.heap.size w w'
theorem pof_ret {w w' : World} {v : Value} {x y : Int} (hb : Below w.heap.size w w') (h : y = x) : PofRet w y (.returned (.tuple #[v, .int .i64 x])) w' := by
 subst h
 exact ⟨_, rfl, hb⟩
theorem noE67 : ∀ q, q ∈ 38 :: (k38).E → q ≠ 67 := by
 intro q hq
 rcases List.mem_cons.1 hq with rfl | hq
 ·
  decide
 ·
  cases hq
theorem ofP_two (s : ByteArray) (n : Nat) (h1 : 32 ≤ s.size) (h2 : s.size ≤ 8388640) (hn : n + 32 = s.size) (hs : sha ((pb s).take n) = (pb s).drop n) : ofP (pb s) = ofR (readR (pb (s.extract 0 n))) := by
 unfold ofP
 rw [if_neg Z37, if_neg Z37, pb_len, show s.size - 32 = n by omega, if_neg (by simpa using hs), ext_head]
set_option maxHeartbeats 4000000 in
set_option maxRecDepth 100000 in
theorem pof_c (s : ByteArray) (w : World) (hs : s.size < 1000000000000) :
  Calls Tryz.prog 12 #[.string s] w fun e w' => PofRet w (ofP (pb s)).2 e w' := by
 have hu46 := Tryz.underlying38
 have hu44 := Tryz.underlying36
 have HF := Aside0.mk hs
 clear hs
 by_cases h32 : s.size < 32
 ·
  have HP : Aside0 ((ofP (pb s)).2 = 3) := ⟨by unfold ofP; rw [if_pos (by rw [pb_len]; exact h32)]⟩
  have g1 : decide (s.size < 32) = true := decide_eq_true h32
  have g2 : decide ((s.size : Int) < 32) = true := decide_eq_true Z3
  clear h32
  go_enter Tryz.func12, Tryz.ntmps12
  go_wp2_with fail
  go_ret2
  exact pof_ret (Below.refl _ _) HP.out
 obtain ⟨n, hn⟩ : ∃ n, n = s.size - 32 := ⟨_, rfl⟩
 have g1 : decide (s.size < 32) = false := decide_eq_false h32
 have g2 : decide ((s.size : Int) < 32) = false := decide_eq_false Z3
 have hw0 : IntKind.i64.wrap ((s.size : Int) - 32) = (n : Int) := by rw [i64_w, w64 Z25 Z25]; omega
 by_cases hbig : 8388640 < s.size
 ·
  have HP : Aside0 ((ofP (pb s)).2 = 4) := ⟨by unfold ofP; rw [if_neg (by rw [pb_len]; exact h32), if_pos (by rw [pb_len]; exact hbig)]⟩
  have gb : decide (8388640 < s.size) = true := decide_eq_true hbig
  have gb' : decide ((8388640 : Int) < (s.size : Int)) = true := decide_eq_true Z3
  clear h32 hn hbig
  go_enter Tryz.func12, Tryz.ntmps12
  go_wp2_with fail
  go_ret2
  exact pof_ret (Below.refl _ _) HP.out
 have gb : decide (8388640 < s.size) = false := decide_eq_false hbig
 have gb' : decide ((8388640 : Int) < (s.size : Int)) = false := decide_eq_false Z3
 have qn : (n ≤ s.size) = True := eq_true Z3
 have HN := Aside0.mk (show n + 32 = s.size ∧ s.size ≤ 8388640 by omega)
 have HP : Aside0 (sha ((pb s).take n) ≠ (pb s).drop n → (ofP (pb s)).2 = 10) := ⟨fun hne => by
   unfold ofP
   rw [if_neg (by rw [pb_len]; exact h32), if_neg (by rw [pb_len]; exact hbig), pb_len, ← hn, if_pos hne]⟩
 have HSZ : Aside0 ((s.extract 0 n).size = n) := ⟨by have e := congrArg List.length (ext_head s n); rw [pb_len, List.length_take, pb_len] at e; omega⟩
 clear h32 hn hbig
 go_enter Tryz.func12, Tryz.ntmps12
 go_wp2_with fail
 refine start_ (n := 12) (S := fun _ => True) (ds := []) #[false, false, false, false, false, false, false, false, false, false, false, false] Z13 rfl rfl trivial (fun _ => ?_)
 have HB1 : Aside0 (Below w.heap.size w w.drew) := ⟨below_drew (Below.refl _ _)⟩
 generalize w.drew = w1 at HB1 ⊢
 refine pk 0 20 (bl 12 1) ?_
 refine pk 1 21 (bl 12 3) ?_
 refine pk 2 22 (bl 12 7) ?_
 refine pk 3 23 (bl 12 15) ?_
 refine pk 4 24 (bl 12 31) ?_
 refine pk 6 26 (bl 12 95) ?_
 refine pk 7 27 (bl 12 223) ?_
 refine pk 8 28 (bl 12 479) ?_
 refine pk 9 29 (bl 12 991) ?_
 refine pk 10 30 (bl 12 2015) ?_
 refine one_ (i := 5) (N := some 25) (bl 12 2047) rfl rfl Z13 Z11 (fun K hK => ?_)
 refine goes_ Tryz.func28 Z13 rfl #[.string (s.extract 0 n)] (by rfl) rfl rfl Z19 ?_
 refine (rsum_c (s.extract 0 n) _ (by have := HN.out; have := HSZ.out; omega)).mono ?_
 rintro e w2 ⟨rfl, hb⟩
 have HB2 := Aside0.mk (below_then HB1.out HB1.out.size hb)
 refine ⟨_, rfl, ?_⟩
 refine hK.out _ _ trivial (fun _ => ?_)
 clear hK K hb HB1
 refine norm_ (a' := ?_) ?_ ?_
 rotate_left; · show Act.put _ (some 25) _ = _; simp only [Act.put, List.setIfInBounds_toArray, List.set_cons_zero, List.set_cons_succ, i64_w, i32_w]; rfl
 refine pk 11 31 (bl 12 4095) ?_
 refine done_ Z13 ?_
 by_cases hsum : sha ((pb s).take n) = (pb s).drop n
 rotate_left
 ·
  have HP' := Aside0.mk (HP.out hsum)
  have hX : (sha (pb (s.extract 0 n)) == (s.extract n s.size).toList) = false := by
   rw [toL, ext_tail, ext_head]
   simpa using hsum
  clear hsum HP
  simp only [hX, Bool.not_false]
  go_wp2_with fail
  go_ret2
  exact pof_ret HB2.out HP'.out
 have hX : (sha (pb (s.extract 0 n)) == (s.extract n s.size).toList) = true := by
  rw [toL, ext_tail, ext_head]
  simpa using hsum
 have HP2 : Aside0 (ofP (pb s) = ofR (readR (pb (s.extract 0 n)))) := ⟨ofP_two s n (by have := HN.out; omega) HN.out.2 HN.out.1 hsum⟩
 clear hsum HP
 simp only [hX, Bool.not_true]
 obtain ⟨s1, hs1⟩ : ∃ s1, s.extract 0 n = s1 := ⟨_, rfl⟩
 rw [hs1] at HP2 HSZ
 have HS1 : Aside0 (s1.size < 1099511627776) := ⟨by have := HSZ.out; have := HN.out; omega⟩
 have HSB : Aside0 (s1.size ≤ 8388640) := ⟨by have := HSZ.out; have := HN.out; omega⟩
 obtain ⟨⟨nn, st⟩, hP, hev⟩ := head_ev s1 HS1.out
 obtain ⟨m, a0, E0, R0, he, hm, hL, hRd⟩ := hP
 injection he with he1 he2
 subst he1 he2
 obtain ⟨K, hK⟩ := evs_get hev
 unfold headF at hK
 obtain ⟨⟨t1, s_1, a_1, E_1⟩, e1, hK⟩ := Option.bind_eq_some_iff.mp hK
 obtain ⟨⟨s_2, a_2, E_2⟩, e2, e3⟩ := Option.bind_eq_some_iff.mp hK
 have G1 := Aside0.mk e1
 have G2 : Aside0 (r8_Part_ask.f s_1 a_1 E_1 (t1.toList == [65, 82, 67, 72]) = some (s_2, a_2, E_2)) := ⟨e2⟩
 have G3 : Aside0 (r8_Part_get.f K s_2 a_2 E_2 4 = some ((m : Int), s1, a0, E0)) := ⟨e3⟩
 have HL := Aside0.mk hL
 have HM := Aside0.mk hm
 have HRD := Aside0.mk hRd
 clear hev hK e1 e2 e3 hL hm hRd
 go_wp2_with fail
 simp only [hs1]
 clear hs1
 have HB : Aside0 (Below w.heap.size w (w2.alloc (.cells #[.string s1, .int .i64 0, .int .i64 0] 67))) := ⟨below_alloc HB2.out _⟩
 have HI : Aside0 (IsS67 w (w2.alloc (.cells #[.string s1, .int .i64 0, .int .i64 0] 67)) w2.heap.size s1 0 0) := ⟨IsS67.new w w2 s1 0 0 HB2.out⟩
 generalize w2.alloc (.cells #[.string s1, .int .i64 0, .int .i64 0] 67) = w3 at HB HI ⊢
 generalize w2.heap.size = g at HI ⊢
 clear HB2
 refine (r8_Part_text.calls g _ _ _ 4 _ _ _ _ w _ HI.out HB.out G1.out).mono ?_
 rintro e w4 ⟨rfl, hi, hb, hk⟩
 clear HI HB
 have HI := Aside0.mk hi
 have HB := Aside0.mk hb
 clear hi hb hk G1
 go_wp2_with fail
 refine (r8_Part_ask.calls g _ _ _ _ _ _ _ w _ HI.out HB.out G2.out).mono ?_
 rintro e w5 ⟨rfl, hi, hb, hk⟩
 clear HI HB
 have HI := Aside0.mk hi
 have HB := Aside0.mk hb
 clear hi hb hk G2
 go_wp2_with fail
 refine (r8_Part_get.calls K g _ _ _ 4 _ _ _ _ w _ HI.out HB.out G3.out).mono ?_
 rintro e w6 ⟨rfl, hi, hb, hk⟩
 clear HI HB
 have HI := Aside0.mk hi
 have HB := Aside0.mk hb
 clear hi hb hk G3
 go_wp2_with fail
 go_loopw [7, 8, 9] (fun v7 v8 v9 wr => ∃ (i : Nat) (l : List S38) (z a E : Int), v8 = .int .i64 z ∧ v9 = .int .i64 i ∧ Aside0 (LInv s1 m R0 i l z a E ∧ ∀ y ∈ l, y.f2.size ≤ 8388608) ∧ Aside0 (IsS67 w wr g s1 a E) ∧ Aside0 (Below w.heap.size w wr) ∧ Aside0 (Kd.R k38 38 wr w.heap.size (fun _ => True) v7 l)) (fun _ _ v9 _ => m - (intOf v9).toNat)
 case atStart => exact ⟨0, [], 0, a0, E0, rfl, rfl, ⟨HL.out, fun y hy => by cases hy⟩, HI, HB, ⟨Kd.R_nil _ _ _ _ _⟩⟩
 case round =>
  clear HI HB HL
  obtain ⟨i, l, z, a, E, rfl, rfl, HL, HI, HB, HO⟩ := hrel
  obtain ⟨A, c, rfl⟩ := Kd.R_slice HO.out
  have cE := cellS67_2 HI.out.1
  by_cases hgo : i < m ∧ E = 0
  ·
   obtain ⟨hlt, hE⟩ := hgo
   subst hE
   have hdec : decide (i < m) = true := decide_eq_true hlt
   have hdec2 : decide ((i : Int) < (m : Int)) = true := decide_eq_true Z3
   obtain ⟨an, ea, hal⟩ : ∃ an : Nat, a = (an : Int) ∧ an ≤ s1.size := by
    rcases HL.out.1.2.2.2.2 with ⟨_, _, zn, an, _, _, ha, h2, _⟩ | ⟨h, _⟩
    ·
     exact ⟨an, ha, h2⟩
    ·
     exact absurd rfl h
   subst ea
   obtain ⟨⟨x, s2, a2, E2⟩, hN, hev⟩ := node_ev s1 HS1.out l an hal
   obtain ⟨K2, hK2⟩ := evs_get hev
   have hxs : x.f2.size ≤ 8388608 := by
    obtain ⟨ok, er⟩ := hN
    cases hn : nodeR (pb s1) l an with
    | error y =>
     obtain ⟨_, _, _, h⟩ := er y hn
     exact h
    | ok r =>
     obtain ⟨y, b⟩ := r
     have q := (ok y b hn).1
     have h2 := nodeR_size hn HL.out.2
     have q2 := congrArg (fun n : S38 => n.f2) q
     have q3 : x.f2 = y.f2 := q2
     rw [q3]
     exact h2
   obtain ⟨hs2, hst⟩ := linv_step HL.out.1 hlt (fun b hb => by have hb' : an = b := Z3; subst hb'; exact hN) Z3
   have hs2' : s1 = s2 := hs2.symm
   subst hs2'
   have HST := Aside0.mk hst
   have HK := Aside0.mk (show i < m ∧ l.length < 4294967296 by have := HM.out; have := HL.out.1.1; omega)
   have HXS : Aside0 (∀ y ∈ l ++ [x], y.f2.size ≤ 8388608) := ⟨fun y hy => by
    rcases List.mem_append.1 hy with hy | hy
    ·
     exact HL.out.2 y hy
    ·
     rcases List.mem_cons.1 hy with rfl | hy
     ·
      exact hxs
     ·
      cases hy⟩
   have HZ : Aside0 (0 ≤ z ∧ z ≤ 20000000 ∧ x.f2.size ≤ 8388608) := ⟨HL.out.1.2.2.1, HL.out.1.2.2.2.1, hxs⟩
   obtain ⟨z2, hz2⟩ : ∃ z2, z2 = z + (x.f2.size : Int) := ⟨_, rfl⟩
   have hw1 : IntKind.i64.wrap (z + (x.f2.size : Int)) = z2 := by rw [i64_w, w64 (by have := HZ.out; omega) (by have := HZ.out; omega)]; omega
   rw [← hz2] at HST
   have hu2 : IntKind.i64.wrap ((i : Int) + 1) = ((i + 1 : Nat) : Int) := by rw [i64_w, w64 (by have := HK.out; have := HM.out; omega) (by have := HK.out; have := HM.out; omega)]; rfl
   have HCR : Aside0 (∀ W', KeepBut wr W' g none → Kd.C k38 W' A l.length l) := ⟨Kd.C_foot_own (HI.out.apart HO.out noE67) (fun _ h => h.2)⟩
   have HCC := Aside0.mk (Kd.R_reads' HO.out).2.1
   have HK2 := Aside0.mk hK2
   clear hlt hal hN hev hK2 hxs hs2 hst hz2 HL
   go_wp2_with fail
   refine (pnode_c K2 g s1 (an : Int) 0 A c l x (s1, a2, E2) w wr HI.out HB.out HCR.out HCC.out HK.out.2 HK2.out).mono ?_
   rintro e w4 ⟨rfl, hi, hb, hk⟩
   have n0_ : Aside0 (IsS67 w w4 g s1 a2 E2) := ⟨hi⟩
   have n1_ := Aside0.mk hb
   have n4_ : Aside0 (Kd.R k38 38 w4 w.heap.size (fun _ => True) (.slice A l.length c) l) := ⟨Kd.R_mono (Kd.R_keep (HI.out.apart HO.out noE67) hk (fun _ h => h.2)) (fun _ _ => trivial)⟩
   clear HI HB HO HCR HCC HK2 hi hb hk cE
   have HI := n0_
   have HB := n1_
   have HO := n4_
   clear n0_ n1_ n4_
   unfold nodeV
   by_cases hE2 : E2 = 0
   rotate_left
   ·
    have HLN : Aside0 (LInv s1 m R0 (i + 1) (l ++ [x]) z2 a2 E2) := ⟨by
     rcases HST.out with ⟨_, h⟩ | ⟨h, _⟩ | ⟨h, _⟩
     ·
      exact h
     ·
      exact absurd h hE2
     ·
      exact absurd h hE2⟩
    have gE : (E2 == 0) = false := beq_eq_false_iff_ne.mpr hE2
    clear hE2 HST
    go_upto_region 20 with (first | ((with_reducible refine gate_dst (N := 10) rfl ?_); refine box_event ?hg (N := 10) ?hd (cs := #[.string (⟨#[]⟩ : ByteArray), .int .i64 0, .int .i64 0, .int .i64 0, .int .i64 0, .int .i64 0, .string (⟨#[]⟩ : ByteArray)]) (t := 38) ?hr ?_; (case hd => rfl); (case hg => rfl); (case hr => first | (go_simp; done) | (go_simp; rfl)); intro g7 hg w5 hbox hb; have n0_ := Aside0.mk (HI.out.below hb); have n1_ := Aside0.mk (below_then HB.out HB.out.size hb); have n2_ := Aside0.mk hbox; have n3_ := Aside0.mk ((by rw [hg]; exact ⟨HB.out.size, HI.out.lt⟩) : w.heap.size ≤ g7 ∧ g < g7); have n4_ := Aside0.mk (Kd.R_below (Kd.R_elderB HO.out g7 (Nat.le_of_eq hg.symm)) hb); clear HI HB HO; have HI := n0_; have HB := n1_; have B7 := n2_; have G7 := n3_; have HO := n4_; clear n0_ n1_ n2_ n3_ n4_ hb hbox hg) | ((with_reducible refine gate_store (t := 38) rfl ?_); refine store_node' rfl rfl _ _ rfl g7 _ x B7.out rfl rfl rfl ?_; intro w6 hS1 hS2; have n0_ := Aside0.mk (HI.out.grown hS2 (fun e => by injection e with e; have := G7.out; omega)); have n1_ := Aside0.mk (HB.out.grown hS2 HB.out.size (fun q hq => by injection hq with hq; have := G7.out; omega)); have n2_ := Aside0.mk hS1; have n4_ := Aside0.mk (Kd.R_grown HO.out hS2 (fun k hk e => hk.2 (Option.some.inj e))); clear HI HB HO B7 hS1 hS2; have HI := n0_; have HB := n1_; have B7 := n2_; have HO := n4_; clear n0_ n1_ n2_ n4_; have cE : w6.cell? ⟨g, 2, none⟩ = some (.int .i64 _) := cellS67_2 HI.out.1; have fE := blk_frozen HI.out.1 2; have c6 : w6.cell? ⟨g7, 6, none⟩ = some (.string x.f2) := (blk_cell B7.out 6).trans rfl))
    clear cE fE c6
    have c0 : w6.cell? ⟨g7, 0, none⟩ = some (.string x.f0) := (blk_cell B7.out 0).trans rfl
    have c1 : w6.cell? ⟨g7, 1, none⟩ = some (.int .i64 x.f1.f0) := (blk_cell B7.out 1).trans rfl
    have c2 : w6.cell? ⟨g7, 2, none⟩ = some (.int .i64 x.f1.f1) := (blk_cell B7.out 2).trans rfl
    have c3 : w6.cell? ⟨g7, 3, none⟩ = some (.int .i64 x.f1.f2) := (blk_cell B7.out 3).trans rfl
    have c4 : w6.cell? ⟨g7, 4, none⟩ = some (.int .i64 x.f1.f3) := (blk_cell B7.out 4).trans rfl
    have c5 : w6.cell? ⟨g7, 5, none⟩ = some (.int .i64 x.f1.f4) := (blk_cell B7.out 5).trans rfl
    have c6 : w6.cell? ⟨g7, 6, none⟩ = some (.string x.f2) := (blk_cell B7.out 6).trans rfl
    go_wp2_with ((with_reducible refine gate_builtin (b := .append) (xs := #[.tmp 79, .tmp 81]) rfl ?_); at_builtin; go_must (refine Kd.R_append k38 (w0 := w) w.heap.size rfl (.tmp 79) (.tmp 81) 22 38 (.agg #[(.string ⟨#[]⟩), (.int .i64 0), (.int .i64 0), (.int .i64 0), (.int .i64 0), (.int .i64 0), (.string ⟨#[]⟩)]) 72 rfl Tryz.underlying22 info38 rfl Z11 Z3 (.slice A l.length c) l x [.string x.f0, .int .i64 x.f1.f0, .int .i64 x.f1.f1, .int .i64 x.f1.f2, .int .i64 x.f1.f3, .int .i64 x.f1.f4, .string x.f2] (fun k_ => k_ ≠ g7) (fun _ => False) rfl Z33 ?aP (fun _ hk => hk.elim) ?aF ?aO ?aB ?aS ?aL ?_; (case aP => exact k38_mkM _ _ _ x); (case aB => exact HB.out); (case aF => exact (fun k_ hk => Kd.freshB B7.out k_ hk)); (case aO => exact Kd.R_mono HO.out (fun _ hk => hk.2)); (case aS => exact HB.out.size); (case aL => have := HK.out; omega); intro v9 w9 ho hb hg hat; have n0_ := Aside0.mk (HI.out.grown hg (Kd.R_ne HO.out HI.out.1 Z11)); have n1_ := Aside0.mk hb; have n4_ := Aside0.mk (Kd.R_mono ho (fun _ _ => trivial) : Kd.R k38 38 w9 w.heap.size (fun _ => True) v9 (l ++ [x])); clear HI HB HO B7 ho hb hg hat c0 c1 c2 c3 c4 c5 c6; have HI := n0_; have HB := n1_; have HO := n4_; clear n0_ n1_ n4_))
    go_roundw
    case rel => exact ⟨i + 1, l ++ [x], z2, a2, E2, rfl, rfl, ⟨HLN.out, HXS.out⟩, HI, HB, HO⟩
    case measure =>
     have := HK.out
     simp [intOf]
     omega
   subst hE2
   by_cases hzb : z2 > 8388608
   ·
    have HLN : Aside0 (LInv s1 m R0 (i + 1) (l ++ [x]) z2 a2 4) := ⟨by
     rcases HST.out with ⟨h, _⟩ | ⟨_, _, h⟩ | ⟨_, h, _⟩
     ·
      exact absurd rfl h
     ·
      exact h
     ·
      omega⟩
    have gz : decide ((8388608 : Int) < z2) = true := decide_eq_true hzb
    clear hzb HST
    go_upto_region 20 with (first | ((with_reducible refine gate_dst (N := 10) rfl ?_); refine box_event ?hg (N := 10) ?hd (cs := #[.string (⟨#[]⟩ : ByteArray), .int .i64 0, .int .i64 0, .int .i64 0, .int .i64 0, .int .i64 0, .string (⟨#[]⟩ : ByteArray)]) (t := 38) ?hr ?_; (case hd => rfl); (case hg => rfl); (case hr => first | (go_simp; done) | (go_simp; rfl)); intro g7 hg w5 hbox hb; have n0_ := Aside0.mk (HI.out.below hb); have n1_ := Aside0.mk (below_then HB.out HB.out.size hb); have n2_ := Aside0.mk hbox; have n3_ := Aside0.mk ((by rw [hg]; exact ⟨HB.out.size, HI.out.lt⟩) : w.heap.size ≤ g7 ∧ g < g7); have n4_ := Aside0.mk (Kd.R_below (Kd.R_elderB HO.out g7 (Nat.le_of_eq hg.symm)) hb); clear HI HB HO; have HI := n0_; have HB := n1_; have B7 := n2_; have G7 := n3_; have HO := n4_; clear n0_ n1_ n2_ n3_ n4_ hb hbox hg) | ((with_reducible refine gate_store (t := 38) rfl ?_); refine store_node' rfl rfl _ _ rfl g7 _ x B7.out rfl rfl rfl ?_; intro w6 hS1 hS2; have n0_ := Aside0.mk (HI.out.grown hS2 (fun e => by injection e with e; have := G7.out; omega)); have n1_ := Aside0.mk (HB.out.grown hS2 HB.out.size (fun q hq => by injection hq with hq; have := G7.out; omega)); have n2_ := Aside0.mk hS1; have n4_ := Aside0.mk (Kd.R_grown HO.out hS2 (fun k hk e => hk.2 (Option.some.inj e))); clear HI HB HO B7 hS1 hS2; have HI := n0_; have HB := n1_; have B7 := n2_; have HO := n4_; clear n0_ n1_ n2_ n4_; have cE : w6.cell? ⟨g, 2, none⟩ = some (.int .i64 _) := cellS67_2 HI.out.1; have fE := blk_frozen HI.out.1 2; have c6 : w6.cell? ⟨g7, 6, none⟩ = some (.string x.f2) := (blk_cell B7.out 6).trans rfl))
    clear cE fE c6
    have n0_ : Aside0 (IsS67 w (w6.setCell ⟨g, 2, none⟩ (.int .i64 4)) g s1 a2 4) := ⟨HI.out.set_2 4⟩
    have n1_ : Aside0 (Below w.heap.size w (w6.setCell ⟨g, 2, none⟩ (.int .i64 4))) := ⟨below_set HB.out (IsS67.ge HI.out)⟩
    have n2_ := Aside0.mk (blk_far B7.out (p := ⟨g, 2, none⟩) (by have := G7.out; show g7 ≠ g; omega) (.int .i64 4))
    have n4_ := Aside0.mk (Kd.R_grown2 HO.out rfl (Lib.grownBy_setCell w6 g 2 (.int .i64 4)) (fun k hk => by injection hk with hk; subst hk; exact Kd.R_ne HO.out HI.out.1 Z11))
    clear HI HB HO B7
    have HI := n0_
    have HB := n1_
    have B7 := n2_
    have HO := n4_
    clear n0_ n1_ n2_ n4_
    generalize w6.setCell ⟨g, 2, none⟩ (.int .i64 4) = w8 at HI HB B7 HO ⊢
    have c0 : w8.cell? ⟨g7, 0, none⟩ = some (.string x.f0) := (blk_cell B7.out 0).trans rfl
    have c1 : w8.cell? ⟨g7, 1, none⟩ = some (.int .i64 x.f1.f0) := (blk_cell B7.out 1).trans rfl
    have c2 : w8.cell? ⟨g7, 2, none⟩ = some (.int .i64 x.f1.f1) := (blk_cell B7.out 2).trans rfl
    have c3 : w8.cell? ⟨g7, 3, none⟩ = some (.int .i64 x.f1.f2) := (blk_cell B7.out 3).trans rfl
    have c4 : w8.cell? ⟨g7, 4, none⟩ = some (.int .i64 x.f1.f3) := (blk_cell B7.out 4).trans rfl
    have c5 : w8.cell? ⟨g7, 5, none⟩ = some (.int .i64 x.f1.f4) := (blk_cell B7.out 5).trans rfl
    have c6 : w8.cell? ⟨g7, 6, none⟩ = some (.string x.f2) := (blk_cell B7.out 6).trans rfl
    go_wp2_with ((with_reducible refine gate_builtin (b := .append) (xs := #[.tmp 79, .tmp 81]) rfl ?_); at_builtin; go_must (refine Kd.R_append k38 (w0 := w) w.heap.size rfl (.tmp 79) (.tmp 81) 22 38 (.agg #[(.string ⟨#[]⟩), (.int .i64 0), (.int .i64 0), (.int .i64 0), (.int .i64 0), (.int .i64 0), (.string ⟨#[]⟩)]) 72 rfl Tryz.underlying22 info38 rfl Z11 Z3 (.slice A l.length c) l x [.string x.f0, .int .i64 x.f1.f0, .int .i64 x.f1.f1, .int .i64 x.f1.f2, .int .i64 x.f1.f3, .int .i64 x.f1.f4, .string x.f2] (fun k_ => k_ ≠ g7) (fun _ => False) rfl Z33 ?aP (fun _ hk => hk.elim) ?aF ?aO ?aB ?aS ?aL ?_; (case aP => exact k38_mkM _ _ _ x); (case aB => exact HB.out); (case aF => exact (fun k_ hk => Kd.freshB B7.out k_ hk)); (case aO => exact Kd.R_mono HO.out (fun _ hk => hk.2)); (case aS => exact HB.out.size); (case aL => have := HK.out; omega); intro v9 w9 ho hb hg hat; have n0_ := Aside0.mk (HI.out.grown hg (Kd.R_ne HO.out HI.out.1 Z11)); have n1_ := Aside0.mk hb; have n4_ := Aside0.mk (Kd.R_mono ho (fun _ _ => trivial) : Kd.R k38 38 w9 w.heap.size (fun _ => True) v9 (l ++ [x])); clear HI HB HO B7 ho hb hg hat c0 c1 c2 c3 c4 c5 c6; have HI := n0_; have HB := n1_; have HO := n4_; clear n0_ n1_ n4_))
    go_roundw
    case rel => exact ⟨i + 1, l ++ [x], z2, a2, 4, rfl, rfl, ⟨HLN.out, HXS.out⟩, HI, HB, HO⟩
    case measure =>
     have := HK.out
     simp [intOf]
     omega
   have HLN : Aside0 (LInv s1 m R0 (i + 1) (l ++ [x]) z2 a2 0) := ⟨by
    rcases HST.out with ⟨h, _⟩ | ⟨_, h, _⟩ | ⟨_, _, h⟩
    ·
     exact absurd rfl h
    ·
     exact absurd h hzb
    ·
     exact h⟩
   have gz : decide ((8388608 : Int) < z2) = false := decide_eq_false hzb
   clear hzb HST
   go_upto_region 20 with (first | ((with_reducible refine gate_dst (N := 10) rfl ?_); refine box_event ?hg (N := 10) ?hd (cs := #[.string (⟨#[]⟩ : ByteArray), .int .i64 0, .int .i64 0, .int .i64 0, .int .i64 0, .int .i64 0, .string (⟨#[]⟩ : ByteArray)]) (t := 38) ?hr ?_; (case hd => rfl); (case hg => rfl); (case hr => first | (go_simp; done) | (go_simp; rfl)); intro g7 hg w5 hbox hb; have n0_ := Aside0.mk (HI.out.below hb); have n1_ := Aside0.mk (below_then HB.out HB.out.size hb); have n2_ := Aside0.mk hbox; have n3_ := Aside0.mk ((by rw [hg]; exact ⟨HB.out.size, HI.out.lt⟩) : w.heap.size ≤ g7 ∧ g < g7); have n4_ := Aside0.mk (Kd.R_below (Kd.R_elderB HO.out g7 (Nat.le_of_eq hg.symm)) hb); clear HI HB HO; have HI := n0_; have HB := n1_; have B7 := n2_; have G7 := n3_; have HO := n4_; clear n0_ n1_ n2_ n3_ n4_ hb hbox hg) | ((with_reducible refine gate_store (t := 38) rfl ?_); refine store_node' rfl rfl _ _ rfl g7 _ x B7.out rfl rfl rfl ?_; intro w6 hS1 hS2; have n0_ := Aside0.mk (HI.out.grown hS2 (fun e => by injection e with e; have := G7.out; omega)); have n1_ := Aside0.mk (HB.out.grown hS2 HB.out.size (fun q hq => by injection hq with hq; have := G7.out; omega)); have n2_ := Aside0.mk hS1; have n4_ := Aside0.mk (Kd.R_grown HO.out hS2 (fun k hk e => hk.2 (Option.some.inj e))); clear HI HB HO B7 hS1 hS2; have HI := n0_; have HB := n1_; have B7 := n2_; have HO := n4_; clear n0_ n1_ n2_ n4_; have cE : w6.cell? ⟨g, 2, none⟩ = some (.int .i64 _) := cellS67_2 HI.out.1; have fE := blk_frozen HI.out.1 2; have c6 : w6.cell? ⟨g7, 6, none⟩ = some (.string x.f2) := (blk_cell B7.out 6).trans rfl))
   clear cE fE c6
   have c0 : w6.cell? ⟨g7, 0, none⟩ = some (.string x.f0) := (blk_cell B7.out 0).trans rfl
   have c1 : w6.cell? ⟨g7, 1, none⟩ = some (.int .i64 x.f1.f0) := (blk_cell B7.out 1).trans rfl
   have c2 : w6.cell? ⟨g7, 2, none⟩ = some (.int .i64 x.f1.f1) := (blk_cell B7.out 2).trans rfl
   have c3 : w6.cell? ⟨g7, 3, none⟩ = some (.int .i64 x.f1.f2) := (blk_cell B7.out 3).trans rfl
   have c4 : w6.cell? ⟨g7, 4, none⟩ = some (.int .i64 x.f1.f3) := (blk_cell B7.out 4).trans rfl
   have c5 : w6.cell? ⟨g7, 5, none⟩ = some (.int .i64 x.f1.f4) := (blk_cell B7.out 5).trans rfl
   have c6 : w6.cell? ⟨g7, 6, none⟩ = some (.string x.f2) := (blk_cell B7.out 6).trans rfl
   go_wp2_with ((with_reducible refine gate_builtin (b := .append) (xs := #[.tmp 79, .tmp 81]) rfl ?_); at_builtin; go_must (refine Kd.R_append k38 (w0 := w) w.heap.size rfl (.tmp 79) (.tmp 81) 22 38 (.agg #[(.string ⟨#[]⟩), (.int .i64 0), (.int .i64 0), (.int .i64 0), (.int .i64 0), (.int .i64 0), (.string ⟨#[]⟩)]) 72 rfl Tryz.underlying22 info38 rfl Z11 Z3 (.slice A l.length c) l x [.string x.f0, .int .i64 x.f1.f0, .int .i64 x.f1.f1, .int .i64 x.f1.f2, .int .i64 x.f1.f3, .int .i64 x.f1.f4, .string x.f2] (fun k_ => k_ ≠ g7) (fun _ => False) rfl Z33 ?aP (fun _ hk => hk.elim) ?aF ?aO ?aB ?aS ?aL ?_; (case aP => exact k38_mkM _ _ _ x); (case aB => exact HB.out); (case aF => exact (fun k_ hk => Kd.freshB B7.out k_ hk)); (case aO => exact Kd.R_mono HO.out (fun _ hk => hk.2)); (case aS => exact HB.out.size); (case aL => have := HK.out; omega); intro v9 w9 ho hb hg hat; have n0_ := Aside0.mk (HI.out.grown hg (Kd.R_ne HO.out HI.out.1 Z11)); have n1_ := Aside0.mk hb; have n4_ := Aside0.mk (Kd.R_mono ho (fun _ _ => trivial) : Kd.R k38 38 w9 w.heap.size (fun _ => True) v9 (l ++ [x])); clear HI HB HO B7 ho hb hg hat c0 c1 c2 c3 c4 c5 c6; have HI := n0_; have HB := n1_; have HO := n4_; clear n0_ n1_ n4_))
   go_roundw
   case rel => exact ⟨i + 1, l ++ [x], z2, a2, 0, rfl, rfl, ⟨HLN.out, HXS.out⟩, HI, HB, HO⟩
   case measure =>
    have := HK.out
    simp [intOf]
    omega
  ·
   have hd2 : i = m ∨ E ≠ 0 := by
    by_cases hE : E = 0
    ·
     have h1 := HL.out.1.2.1
     have h2 : ¬ i < m := fun q => hgo ⟨q, hE⟩
     exact .inl Z3
    ·
     exact .inr hE
   obtain ⟨E', hask, hfin⟩ := linv_fin HRD.out HL.out.1 hd2
   have HA := Aside0.mk hask
   have HFN := Aside0.mk hfin
   have HLN := Aside0.mk (show l.length = i ∧ i ≤ m from ⟨HL.out.1.1, HL.out.1.2.1⟩)
   clear hd2 hask hfin HL
   have c1 := cellS67_1 HI.out.1
   have c0 := cellS67_0 HI.out.1
   by_cases hlt : i < m
   ·
    have hdec : decide (i < m) = true := decide_eq_true hlt
    have hdec2 : decide ((i : Int) < (m : Int)) = true := decide_eq_true Z3
    have gE0 : (E == 0) = false := beq_eq_false_iff_ne.mpr (fun q => hgo ⟨hlt, q⟩)
    clear hlt hgo
    go_upto_region 21 with fail
    clear gE0
    refine start_ (n := 12) (S := fun w' => w'.cell? ⟨g, 1, none⟩ = some (.int .i64 a) ∧ w'.cell? ⟨g, 0, none⟩ = some (.string s1)) (ds := [11]) #[false, false, false, false, false, false, false, false, false, false, false, false] Z13 rfl rfl ⟨c1, c0⟩ (fun hHeld => ?_)
    have n0_ : Aside0 (IsS67 w wr.drew g s1 a E) := ⟨HI.out.drew⟩
    have n1_ := Aside0.mk (below_drew HB.out)
    have n4_ := Aside0.mk (Kd.R_below HO.out (below_drew (Below.refl _ _)))
    clear HI HB HO c0 c1 cE
    have HI := n0_
    have HB := n1_
    have HO := n4_
    clear n0_ n1_ n4_
    generalize wr.drew = w4 at HI HB HO hHeld ⊢
    refine pk 0 83 (bl 12 1) ?_
    refine pk 1 84 (bl 12 3) ?_
    refine pk 2 85 (bl 12 7) ?_
    refine pk 3 86 (bl 12 15) ?_
    refine take_ (i := 4) (N := some 87) (v := ?_) (a' := ?_) (bl 12 31) rfl rfl Z13 (fun _ _ _ h => h) (Or.inl ⟨by rfl, ?_⟩) hHeld ?_ ?_
    rotate_left; · rintro w' ⟨q1, q0⟩; go_simp; with_reducible rfl
    rotate_left; · simp only [Act.put, List.setIfInBounds_toArray, List.set_cons_zero, List.set_cons_succ, i64_w, i32_w]; rfl
    refine pk 5 88 (bl 12 63) ?_
    refine pk 6 89 (bl 12 127) ?_
    refine pk 7 90 (bl 12 255) ?_
    refine take_ (i := 8) (N := some 91) (v := ?_) (a' := ?_) (bl 12 511) rfl rfl Z13 (fun _ _ _ h => h) (Or.inl ⟨by rfl, ?_⟩) hHeld ?_ ?_
    rotate_left; · rintro w' ⟨q1, q0⟩; go_simp; with_reducible rfl
    rotate_left; · simp only [Act.put, List.setIfInBounds_toArray, List.set_cons_zero, List.set_cons_succ, i64_w, i32_w]; rfl
    refine pk 9 92 (bl 12 1023) ?_
    refine pk 10 93 (bl 12 2047) ?_
    refine last_ (i := 11) (N := some 94) (bl 12 4095) rfl rfl Z13 Z11 (fun K hK => ?_)
    refine goes_ Tryz.func36 Z13 rfl #[.pointer (some ⟨g, 0, none⟩), .bool (a == (s1.size : Int))] (by rfl) rfl rfl Z19 ?_
    refine (r8_Part_ask.calls g s1 a E (a == (s1.size : Int)) _ _ _ w _ HI.out HB.out HA.out).mono ?_
    rintro e w5 ⟨rfl, hi, hb, hk⟩
    have n4_ : Aside0 (Kd.R k38 38 w5 w.heap.size (fun _ => True) (.slice A l.length c) l) := ⟨Kd.R_mono (Kd.R_keep (HI.out.apart HO.out noE67) hk (fun _ h => h.2)) (fun _ _ => trivial)⟩
    clear HI HB HO
    have HI := Aside0.mk hi
    have HB := Aside0.mk hb
    have HO := n4_
    refine ⟨_, rfl, ?_⟩
    refine hK.out _ _ ?_
    clear hK K hi hb hk n4_
    refine norm_ (a' := ?_) ?_ ?_
    rotate_left; · show Act.put _ (some 94) _ = _; simp only [Act.put, List.setIfInBounds_toArray, List.set_cons_zero, List.set_cons_succ, i64_w, i32_w]; rfl
    refine done_ Z13 ?_
    have cE := cellS67_2 HI.out.1
    rcases HFN.out with ⟨hE0, hrd⟩ | ⟨hE0, l1, hrd, hlike⟩
    ·
     have HP3 : Aside0 ((ofP (pb s)).2 = E') := ⟨by rw [HP2.out, hrd]; rfl⟩
     have gE : (E' != 0) = true := bne_iff_ne.mpr hE0
     clear hE0 hrd HFN HA
     go_wp2_with fail
     go_quiet (fail)
     go_wp2_with fail
     go_ret2
     exact pof_ret (below_then HB.out HB.out.size (pw_below_drewN (Below.refl _ _) _)) HP3.out
    subst hE0
    have HP3 : Aside0 ((ofP (pb s)).2 = (ofL l).2) := ⟨by rw [HP2.out, hrd, ofL_like hlike]; rfl⟩
    have HLL : Aside0 (2 * l.length ≤ 8388640) := ⟨by
     have h1 := (readR_ok (by rw [pb_len]; have := HSB.out; omega) hrd).2
     have h2 := congrArg List.length hlike
     rw [List.length_map, List.length_map] at h2
     rw [pb_len] at h1
     have := HSB.out
     omega⟩
    clear hrd hlike HFN HA
    obtain ⟨K4, hK4⟩ := evs_get (normT_ev l (by have := HLL.out; omega))
    have HK4 : Aside0 (r8_Normal.f K4 l = some ((normT l).1, (normT l).2)) := ⟨hK4⟩
    clear hK4
    go_wp2_with fail
    rcases normT_err l with h0 | hbad
    rotate_left
    ·
     have HP4 : Aside0 ((ofP (pb s)).2 = 5) := ⟨by rw [HP3.out]; unfold ofL; rw [hbad]; rfl⟩
     rw [hbad] at HK4
     clear hbad HP3
     refine (r8_Normal.calls K4 A c l _ _ _ (Kd.R_reads' HO.out).2.2 (Kd.R_reads' HO.out).2.1 HK4.out).mono ?_
     rintro e w6 ⟨v6, rfl, hv, hb⟩
     have HB6 := Aside0.mk (below_then HB.out HB.out.size hb)
     obtain ⟨A1, c1, e1⟩ := Kd.R_slice hv
     subst e1
     clear hb hv
     dsimp only [bad]
     go_wp2_with fail
     go_ret2
     exact pof_ret HB6.out HP4.out
    obtain ⟨t, ht⟩ : ∃ t, normT l = (t, 0) := ⟨(normT l).1, Prod.ext rfl h0⟩
    open Classical in
    have HP4 : Aside0 ((ofP (pb s)).2 = if Alike t l then 0 else 5) := ⟨by
     rw [HP3.out]
     unfold ofL
     rw [ht, if_neg Z23]
     by_cases hA : Alike t l
     ·
      rw [if_pos hA, if_pos hA]
     ·
      rw [if_neg hA, if_neg hA]⟩
    have HTL : Aside0 (t.length = l.length) := ⟨by
     have h' := congrArg Prod.fst ht
     unfold normT at h'
     split at h'
     ·
      rw [← show canon (sortT l) = t from h', canon_len, (sortT_perm l).length_eq]
     ·
      rename_i hno
      unfold normT at h0
      rw [if_neg hno] at h0
      cases h0⟩
    rw [ht] at HK4
    clear h0 ht HP3
    refine (r8_Normal.calls K4 A c l _ _ _ (Kd.R_reads' HO.out).2.2 (Kd.R_reads' HO.out).2.1 HK4.out).mono ?_
    rintro e w6 ⟨v6, rfl, hv, hb⟩
    have HV := Aside0.mk (Kd.R_lower hv HB.out.size)
    have n4_ := Aside0.mk (Kd.R_below HO.out hb)
    have n1_ := Aside0.mk (below_then HB.out HB.out.size hb)
    clear HB HO hb hv HI cE
    have HB := n1_
    have HO := n4_
    clear n1_ n4_
    dsimp only
    obtain ⟨A1, c1, e1⟩ := Kd.R_slice HV.out
    subst e1
    go_wp2_with fail
    go_loopw [13] (fun v13 wq => ∃ k : Nat, k ≤ l.length ∧ v13 = .int .i64 k ∧ Aside0 (∀ j, j < k → (rdn t j).f0 = (rdn l j).f0 ∧ (rdn t j).f1.f0 = (rdn l j).f1.f0) ∧ Aside0 (Below w.heap.size w wq) ∧ Aside0 (Kd.R k38 38 wq w.heap.size (fun _ => True) (.slice A l.length c) l) ∧ Aside0 (Kd.R k38 38 wq w.heap.size (fun _ => True) (.slice A1 t.length c1) t)) (fun i _ => l.length - (intOf i).toNat)
    case atStart => exact ⟨0, Z3, rfl, ⟨fun j hj => absurd hj Z3⟩, HB, HO, HV⟩
    case round =>
     clear HB HO HV
     obtain ⟨k, hk, rfl, HA, HB, HO, HV⟩ := hrel
     by_cases hlt : k < l.length
     ·
      have HK := Aside0.mk (show k < t.length ∧ k < l.length ∧ l.length < 2147483648 from ⟨by have := HTL.out; omega, hlt, by have := HLL.out; omega⟩)
      obtain ⟨ad, ea, x0, x1, x2, x3, x4, x5, x6⟩ := at_T38 (Kd.R_reads' HV.out).2.2 (k : Int) Z3 (by have := HK.out; omega)
      cases ea
      simp only [Int.toNat_natCast] at x0 x1
      clear x2 x3 x4 x5 x6
      have p1 : (0 ≤ (k : Int)) = True := eq_true Z3
      have q1 : ((k : Int) < (t.length : Int)) = True := eq_true (by have := HK.out; omega)
      have q2 : ((k : Int) < (l.length : Int)) = True := eq_true Z3
      obtain ⟨ad2, ea, y0, y1, y2, y3, y4, y5, y6⟩ := at_T38 (Kd.R_reads' HO.out).2.2 (k : Int) Z3 (by have := HK.out; omega)
      cases ea
      simp only [Int.toNat_natCast] at y0 y1
      clear y2 y3 y4 y5 y6 hlt hk
      by_cases h1 : (rdn t k).f0 = (rdn l k).f0
      rotate_left
      ·
       have z1 : ((rdn t k).f0.toList == (rdn l k).f0.toList) = false := by
        rw [toL, toL]
        simpa using fun e => h1 (pb_inj e)
       have HNo : Aside0 ((ofP (pb s)).2 = 5) := ⟨by rw [HP4.out, if_neg (fun F => h1 (F k HK.out.1).1)]⟩
       clear h1
       go_wp2_with fail
       go_quiet (fail)
       go_wp2_with fail
       go_ret2
       exact pof_ret (below_then HB.out HB.out.size (pw_below_drewN (Below.refl _ _) _)) HNo.out
      have z1 : ((rdn t k).f0.toList == (rdn l k).f0.toList) = true := by
       rw [toL, toL, h1]
       simp
      by_cases h2 : (rdn t k).f1.f0 = (rdn l k).f1.f0
      rotate_left
      ·
       have z2 : ((rdn t k).f1.f0 != (rdn l k).f1.f0) = true := by simpa using h2
       have HNo : Aside0 ((ofP (pb s)).2 = 5) := ⟨by rw [HP4.out, if_neg (fun F => h2 (F k HK.out.1).2)]⟩
       clear h1 h2
       go_wp2_with fail
       go_quiet (fail)
       go_wp2_with fail
       go_ret2
       exact pof_ret (below_then HB.out HB.out.size (pw_below_drewN (Below.refl _ _) _)) HNo.out
      have z2 : ((rdn t k).f1.f0 != (rdn l k).f1.f0) = false := by simpa using h2
      have HE := Aside0.mk (And.intro h1 h2)
      clear h1 h2
      go_wp2_with fail
      go_quiet (fail)
      go_wp2_with fail
      go_roundw
      case rel =>
       have := HK.out
       refine ⟨k + 1, Z3, Z38, ⟨fun j hj => ?_⟩, ⟨below_then HB.out HB.out.size (pw_below_drewN (Below.refl _ _) _)⟩, ⟨Kd.R_below HO.out (pw_below_drewN (Below.refl _ _) _)⟩, ⟨Kd.R_below HV.out (pw_below_drewN (Below.refl _ _) _)⟩⟩
       by_cases hjk : j = k
       ·
        rw [hjk]; exact HE.out
       ·
        exact HA.out j Z3
      case measure =>
       have := HK.out
       rw [w64 Z3 Z3]
       simp [intOf]
       omega
     ·
      have hkt : k = l.length := by omega
      subst hkt
      have HYes : Aside0 ((ofP (pb s)).2 = 0) := ⟨by rw [HP4.out, if_pos (show Alike t l from fun i hi => HA.out i (by have := HTL.out; omega))]⟩
      have q1 : ((l.length : Int) < (l.length : Int)) = False := eq_false Z3
      clear hlt hk
      go_wp2_with fail
      go_ret2
      exact pof_ret HB.out HYes.out
   have hdec : decide (i < m) = false := decide_eq_false hlt
   have hdec2 : decide ((i : Int) < (m : Int)) = false := decide_eq_false Z3
   clear hlt hgo
   go_upto_region 21 with fail
   refine start_ (n := 12) (S := fun w' => w'.cell? ⟨g, 1, none⟩ = some (.int .i64 a) ∧ w'.cell? ⟨g, 0, none⟩ = some (.string s1)) (ds := [11]) #[false, false, false, false, false, false, false, false, false, false, false, false] Z13 rfl rfl ⟨c1, c0⟩ (fun hHeld => ?_)
   have n0_ : Aside0 (IsS67 w wr.drew g s1 a E) := ⟨HI.out.drew⟩
   have n1_ := Aside0.mk (below_drew HB.out)
   have n4_ := Aside0.mk (Kd.R_below HO.out (below_drew (Below.refl _ _)))
   clear HI HB HO c0 c1 cE
   have HI := n0_
   have HB := n1_
   have HO := n4_
   clear n0_ n1_ n4_
   generalize wr.drew = w4 at HI HB HO hHeld ⊢
   refine pk 0 83 (bl 12 1) ?_
   refine pk 1 84 (bl 12 3) ?_
   refine pk 2 85 (bl 12 7) ?_
   refine pk 3 86 (bl 12 15) ?_
   refine take_ (i := 4) (N := some 87) (v := ?_) (a' := ?_) (bl 12 31) rfl rfl Z13 (fun _ _ _ h => h) (Or.inl ⟨by rfl, ?_⟩) hHeld ?_ ?_
   rotate_left; · rintro w' ⟨q1, q0⟩; go_simp; with_reducible rfl
   rotate_left; · simp only [Act.put, List.setIfInBounds_toArray, List.set_cons_zero, List.set_cons_succ, i64_w, i32_w]; rfl
   refine pk 5 88 (bl 12 63) ?_
   refine pk 6 89 (bl 12 127) ?_
   refine pk 7 90 (bl 12 255) ?_
   refine take_ (i := 8) (N := some 91) (v := ?_) (a' := ?_) (bl 12 511) rfl rfl Z13 (fun _ _ _ h => h) (Or.inl ⟨by rfl, ?_⟩) hHeld ?_ ?_
   rotate_left; · rintro w' ⟨q1, q0⟩; go_simp; with_reducible rfl
   rotate_left; · simp only [Act.put, List.setIfInBounds_toArray, List.set_cons_zero, List.set_cons_succ, i64_w, i32_w]; rfl
   refine pk 9 92 (bl 12 1023) ?_
   refine pk 10 93 (bl 12 2047) ?_
   refine last_ (i := 11) (N := some 94) (bl 12 4095) rfl rfl Z13 Z11 (fun K hK => ?_)
   refine goes_ Tryz.func36 Z13 rfl #[.pointer (some ⟨g, 0, none⟩), .bool (a == (s1.size : Int))] (by rfl) rfl rfl Z19 ?_
   refine (r8_Part_ask.calls g s1 a E (a == (s1.size : Int)) _ _ _ w _ HI.out HB.out HA.out).mono ?_
   rintro e w5 ⟨rfl, hi, hb, hk⟩
   have n4_ : Aside0 (Kd.R k38 38 w5 w.heap.size (fun _ => True) (.slice A l.length c) l) := ⟨Kd.R_mono (Kd.R_keep (HI.out.apart HO.out noE67) hk (fun _ h => h.2)) (fun _ _ => trivial)⟩
   clear HI HB HO
   have HI := Aside0.mk hi
   have HB := Aside0.mk hb
   have HO := n4_
   refine ⟨_, rfl, ?_⟩
   refine hK.out _ _ ?_
   clear hK K hi hb hk n4_
   refine norm_ (a' := ?_) ?_ ?_
   rotate_left; · show Act.put _ (some 94) _ = _; simp only [Act.put, List.setIfInBounds_toArray, List.set_cons_zero, List.set_cons_succ, i64_w, i32_w]; rfl
   refine done_ Z13 ?_
   have cE := cellS67_2 HI.out.1
   rcases HFN.out with ⟨hE0, hrd⟩ | ⟨hE0, l1, hrd, hlike⟩
   ·
    have HP3 : Aside0 ((ofP (pb s)).2 = E') := ⟨by rw [HP2.out, hrd]; rfl⟩
    have gE : (E' != 0) = true := bne_iff_ne.mpr hE0
    clear hE0 hrd HFN HA
    go_wp2_with fail
    go_quiet (fail)
    go_wp2_with fail
    go_ret2
    exact pof_ret (below_then HB.out HB.out.size (pw_below_drewN (Below.refl _ _) _)) HP3.out
   subst hE0
   have HP3 : Aside0 ((ofP (pb s)).2 = (ofL l).2) := ⟨by rw [HP2.out, hrd, ofL_like hlike]; rfl⟩
   have HLL : Aside0 (2 * l.length ≤ 8388640) := ⟨by
    have h1 := (readR_ok (by rw [pb_len]; have := HSB.out; omega) hrd).2
    have h2 := congrArg List.length hlike
    rw [List.length_map, List.length_map] at h2
    rw [pb_len] at h1
    have := HSB.out
    omega⟩
   clear hrd hlike HFN HA
   obtain ⟨K4, hK4⟩ := evs_get (normT_ev l (by have := HLL.out; omega))
   have HK4 : Aside0 (r8_Normal.f K4 l = some ((normT l).1, (normT l).2)) := ⟨hK4⟩
   clear hK4
   go_wp2_with fail
   rcases normT_err l with h0 | hbad
   rotate_left
   ·
    have HP4 : Aside0 ((ofP (pb s)).2 = 5) := ⟨by rw [HP3.out]; unfold ofL; rw [hbad]; rfl⟩
    rw [hbad] at HK4
    clear hbad HP3
    refine (r8_Normal.calls K4 A c l _ _ _ (Kd.R_reads' HO.out).2.2 (Kd.R_reads' HO.out).2.1 HK4.out).mono ?_
    rintro e w6 ⟨v6, rfl, hv, hb⟩
    have HB6 := Aside0.mk (below_then HB.out HB.out.size hb)
    obtain ⟨A1, c1, e1⟩ := Kd.R_slice hv
    subst e1
    clear hb hv
    dsimp only [bad]
    go_wp2_with fail
    go_ret2
    exact pof_ret HB6.out HP4.out
   obtain ⟨t, ht⟩ : ∃ t, normT l = (t, 0) := ⟨(normT l).1, Prod.ext rfl h0⟩
   open Classical in
   have HP4 : Aside0 ((ofP (pb s)).2 = if Alike t l then 0 else 5) := ⟨by
    rw [HP3.out]
    unfold ofL
    rw [ht, if_neg Z23]
    by_cases hA : Alike t l
    ·
     rw [if_pos hA, if_pos hA]
    ·
     rw [if_neg hA, if_neg hA]⟩
   have HTL : Aside0 (t.length = l.length) := ⟨by
    have h' := congrArg Prod.fst ht
    unfold normT at h'
    split at h'
    ·
     rw [← show canon (sortT l) = t from h', canon_len, (sortT_perm l).length_eq]
    ·
     rename_i hno
     unfold normT at h0
     rw [if_neg hno] at h0
     cases h0⟩
   rw [ht] at HK4
   clear h0 ht HP3
   refine (r8_Normal.calls K4 A c l _ _ _ (Kd.R_reads' HO.out).2.2 (Kd.R_reads' HO.out).2.1 HK4.out).mono ?_
   rintro e w6 ⟨v6, rfl, hv, hb⟩
   have HV := Aside0.mk (Kd.R_lower hv HB.out.size)
   have n4_ := Aside0.mk (Kd.R_below HO.out hb)
   have n1_ := Aside0.mk (below_then HB.out HB.out.size hb)
   clear HB HO hb hv HI cE
   have HB := n1_
   have HO := n4_
   clear n1_ n4_
   dsimp only
   obtain ⟨A1, c1, e1⟩ := Kd.R_slice HV.out
   subst e1
   go_wp2_with fail
   go_loopw [13] (fun v13 wq => ∃ k : Nat, k ≤ l.length ∧ v13 = .int .i64 k ∧ Aside0 (∀ j, j < k → (rdn t j).f0 = (rdn l j).f0 ∧ (rdn t j).f1.f0 = (rdn l j).f1.f0) ∧ Aside0 (Below w.heap.size w wq) ∧ Aside0 (Kd.R k38 38 wq w.heap.size (fun _ => True) (.slice A l.length c) l) ∧ Aside0 (Kd.R k38 38 wq w.heap.size (fun _ => True) (.slice A1 t.length c1) t)) (fun i _ => l.length - (intOf i).toNat)
   case atStart => exact ⟨0, Z3, rfl, ⟨fun j hj => absurd hj Z3⟩, HB, HO, HV⟩
   case round =>
    clear HB HO HV
    obtain ⟨k, hk, rfl, HA, HB, HO, HV⟩ := hrel
    by_cases hlt : k < l.length
    ·
     have HK := Aside0.mk (show k < t.length ∧ k < l.length ∧ l.length < 2147483648 from ⟨by have := HTL.out; omega, hlt, by have := HLL.out; omega⟩)
     obtain ⟨ad, ea, x0, x1, x2, x3, x4, x5, x6⟩ := at_T38 (Kd.R_reads' HV.out).2.2 (k : Int) Z3 (by have := HK.out; omega)
     cases ea
     simp only [Int.toNat_natCast] at x0 x1
     clear x2 x3 x4 x5 x6
     have p1 : (0 ≤ (k : Int)) = True := eq_true Z3
     have q1 : ((k : Int) < (t.length : Int)) = True := eq_true (by have := HK.out; omega)
     have q2 : ((k : Int) < (l.length : Int)) = True := eq_true Z3
     obtain ⟨ad2, ea, y0, y1, y2, y3, y4, y5, y6⟩ := at_T38 (Kd.R_reads' HO.out).2.2 (k : Int) Z3 (by have := HK.out; omega)
     cases ea
     simp only [Int.toNat_natCast] at y0 y1
     clear y2 y3 y4 y5 y6 hlt hk
     by_cases h1 : (rdn t k).f0 = (rdn l k).f0
     rotate_left
     ·
      have z1 : ((rdn t k).f0.toList == (rdn l k).f0.toList) = false := by
       rw [toL, toL]
       simpa using fun e => h1 (pb_inj e)
      have HNo : Aside0 ((ofP (pb s)).2 = 5) := ⟨by rw [HP4.out, if_neg (fun F => h1 (F k HK.out.1).1)]⟩
      clear h1
      go_wp2_with fail
      go_quiet (fail)
      go_wp2_with fail
      go_ret2
      exact pof_ret (below_then HB.out HB.out.size (pw_below_drewN (Below.refl _ _) _)) HNo.out
     have z1 : ((rdn t k).f0.toList == (rdn l k).f0.toList) = true := by
      rw [toL, toL, h1]
      simp
     by_cases h2 : (rdn t k).f1.f0 = (rdn l k).f1.f0
     rotate_left
     ·
      have z2 : ((rdn t k).f1.f0 != (rdn l k).f1.f0) = true := by simpa using h2
      have HNo : Aside0 ((ofP (pb s)).2 = 5) := ⟨by rw [HP4.out, if_neg (fun F => h2 (F k HK.out.1).2)]⟩
      clear h1 h2
      go_wp2_with fail
      go_quiet (fail)
      go_wp2_with fail
      go_ret2
      exact pof_ret (below_then HB.out HB.out.size (pw_below_drewN (Below.refl _ _) _)) HNo.out
     have z2 : ((rdn t k).f1.f0 != (rdn l k).f1.f0) = false := by simpa using h2
     have HE := Aside0.mk (And.intro h1 h2)
     clear h1 h2
     go_wp2_with fail
     go_quiet (fail)
     go_wp2_with fail
     go_roundw
     case rel =>
      have := HK.out
      refine ⟨k + 1, Z3, Z38, ⟨fun j hj => ?_⟩, ⟨below_then HB.out HB.out.size (pw_below_drewN (Below.refl _ _) _)⟩, ⟨Kd.R_below HO.out (pw_below_drewN (Below.refl _ _) _)⟩, ⟨Kd.R_below HV.out (pw_below_drewN (Below.refl _ _) _)⟩⟩
      by_cases hjk : j = k
      ·
       rw [hjk]; exact HE.out
      ·
       exact HA.out j Z3
     case measure =>
      have := HK.out
      rw [w64 Z3 Z3]
      simp [intOf]
      omega
    ·
     have hkt : k = l.length := by omega
     subst hkt
     have HYes : Aside0 ((ofP (pb s)).2 = 0) := ⟨by rw [HP4.out, if_pos (show Alike t l from fun i hi => HA.out i (by have := HTL.out; omega))]⟩
     have q1 : ((l.length : Int) < (l.length : Int)) = False := eq_false Z3
     clear hlt hk
     go_wp2_with fail
     go_ret2
     exact pof_ret HB.out HYes.out
def BRow (w : World) (g cap : Nat) (l : List UInt8) : Prop :=
 ∃ cur fr, w.heap[g]? = some (.cells cur 5 fr) ∧ l.length ≤ cap ∧ cur.size = cap ∧ cur.toList.take l.length = l.map vb ∧ (fr = (0, 0) ∨ fr = (cap, cap + 1))
theorem BRow.lt {w : World} {g cap : Nat} {l : List UInt8} (h : BRow w g cap l) : g < w.heap.size := by
 obtain ⟨cur, fr, hh, _⟩ := h
 rcases Nat.lt_or_ge g w.heap.size with q | q
 ·
  exact q
 ·
  rw [Array.getElem?_eq_none q] at hh
  cases hh
theorem BRow.below {w w1 : World} {g cap : Nat} {l : List UInt8} (h : BRow w g cap l) (hb : Below w.heap.size w w1) : BRow w1 g cap l := by
 have hlt := h.lt
 obtain ⟨cur, fr, hh, h2⟩ := h
 exact ⟨cur, fr, by rw [hb.block g hlt]; exact hh, h2⟩
theorem BRow.cell {w : World} {g cap : Nat} {l : List UInt8} (h : BRow w g cap l) {i : Nat} (hi : i < l.length) : w.cell? ⟨g, i, none⟩ = some (vb (l.getD i 0)) := by
 obtain ⟨cur, fr, hh, h1, h2, h3, h4⟩ := h
 rw [cell_of_row w g i cur 5 fr hh]
 have hu : (l.map vb)[i]? = some (vb (l.getD i 0)) := by rw [List.getElem?_map, List.getElem?_eq_getElem hi, List.getD_eq_getElem?_getD, List.getElem?_eq_getElem hi]; rfl
 rw [← h3, List.getElem?_take, if_pos hi, Array.getElem?_toList] at hu
 exact hu
theorem BRow.thawed {w : World} {g cap : Nat} {l : List UInt8} (h : BRow w g cap l) {i : Nat} (hi : i < l.length) : w.frozen? ⟨g, i, none⟩ = false := by
 obtain ⟨cur, fr, hh, h1, h2, h3, h4⟩ := h
 simp only [World.frozen?, hh]
 rcases h4 with rfl | rfl
 ·
  simp
 ·
  simp
  omega
theorem BRow.str {w : World} {g cap : Nat} {l : List UInt8} (h : BRow w g cap l) : (convert 31 9 (.slice (some ⟨g, 0, none⟩) l.length cap)).run Tryz.prog w = .ok (.string ⟨l.toArray⟩) w := by
 have e := run_convert_bytes_arg (P := Tryz.prog) w 31 5 Tryz.underlying31 Tryz.underlying5 g 0 l.length cap (l.map fun b => (b.toNat : Int)) (by rw [List.length_map]) (fun i hi => by
  rw [Nat.zero_add, h.cell hi]
  simp [vb, List.getD_eq_getElem?_getD, List.getElem?_map, List.getElem?_eq_getElem hi]) 9 Tryz.underlying9
 rw [Lib.Lz.strOfNums_map] at e
 exact e
theorem BRow.set {w : World} {g cap : Nat} {l : List UInt8} (h : BRow w g cap l) (i : Nat) (x : UInt8) : BRow (w.setCell ⟨g, i, none⟩ (vb x)) g cap (l.set i x) := by
 obtain ⟨cur, fr, hh, h1, h2, h3, h4⟩ := h
 refine ⟨cur.setIfInBounds i (vb x), fr, ?_, by rw [List.length_set]; exact h1, by rw [Array.size_setIfInBounds]; exact h2, ?_, h4⟩
 ·
  simp only [World.setCell, Array.getElem?_modify, hh]
  simp
 ·
  rw [Array.toList_setIfInBounds, List.length_set, List.map_set, ← h3, List.take_set]
theorem brow_bytes (w : World) (s : ByteArray) : BRow (Lib.bytesWorld w 5 s) w.heap.size (grownCap w s.size 0 5) (pb s) := by
 have hsz : (Lib.bytesCells w 5 s).size = grownCap w s.size 0 5 := by
  have := grownCap_ge w s.size 0 5
  simp only [Lib.bytesCells, Array.size_append, Array.size_map, Array.size_replicate]
  have e : s.data.size = s.size := rfl
  omega
 refine ⟨_, _, Lib.bytesWorld_at_new w _ s, by rw [pb_len]; exact grownCap_ge _ _ _ _, hsz, ?_, .inr (by rw [hsz])⟩
 simp only [Lib.bytesCells, Array.toList_append, Array.toList_map]
 rw [List.take_append_of_le_length (by rw [List.length_map]; exact Nat.le_refl _), List.take_of_length_le (by rw [List.length_map]; exact Nat.le_refl _)]
 rfl
theorem bent_of (b : ByteArray) (h1 : 32 ≤ b.size) (h2 : b.size ≤ 8388640) : (ofP (pb b)).2 = 10 ∨ l8_summed.f 0 b = some true := by
 obtain ⟨n, hn⟩ : ∃ n, n + 32 = b.size := ⟨b.size - 32, Z3⟩
 by_cases hs : sha ((pb b).take n) = (pb b).drop n
 ·
  right
  have hw : wrap64 ((b.size : Int) - 32) = (n : Int) := by rw [w64 Z3 Z3]; omega
  unfold l8_summed.f
  rw [hw, if_pos Z3, if_pos Z3, if_pos Z3]
  unfold r2_Sum.f
  rw [Int.toNat_natCast, if_pos (by have e := congrArg List.length (ext_head b n); rw [pb_len, List.length_take, pb_len] at e; omega), Option.bind_some]
  congr 1
  rw [toL, toL, ext_tail, ext_head]
  exact beq_iff_eq.mpr hs
 ·
  left
  unfold ofP
  rw [if_neg Z37, if_neg Z37, pb_len, show b.size - 32 = n by omega, if_pos hs]
theorem bent_short (b : ByteArray) (h : b.size < 32) : (ofP (pb b)).2 = 3 := by
 unfold ofP
 rw [if_pos (by rw [pb_len]; exact h)]
theorem perm_tot {a b : List S38} (p : a.Perm b) : tot a = tot b := by
 unfold tot
 exact (p.map _).sum_nat
theorem norm_tot (l : List S38) : tot (normT l).1 ≤ tot l := by
 unfold normT
 split
 ·
  rw [show tot (canon (sortT l)) = tot (sortT l) from by unfold tot canon; rw [List.map_map]; rfl, perm_tot (sortT_perm l)]
  exact Nat.le_refl _
 ·
  exact Nat.zero_le _
theorem bent_bytes {t : List S38} (h : normT t = (t, 0)) (hl : t.length ≤ 40) (ht : tot t ≤ 60000) : (bytesP t).2 = 0 ∧ 32 ≤ (bytesP t).1.size ∧ (bytesP t).1.size ≤ 8388640 := by
 unfold bytesP
 rw [if_pos h]
 have h1 := take_bound (arc_ok h hl ht) hl t.length
 rw [List.take_length] at h1
 have h2 : (arcB t).length ≤ 4100000 := h1
 have h3 := sha_length (arcB t)
 have h4 : (⟨(arcB t ++ sha (arcB t)).toArray⟩ : ByteArray).size = (arcB t).length + 32 := by
  show (arcB t ++ sha (arcB t)).toArray.size = _
  rw [List.size_toArray, List.length_append, h3]
 rw [h4]
 exact ⟨rfl, Z3, Z3⟩
theorem size_ext (s : ByteArray) (n : Nat) (h : n ≤ s.size) : (s.extract 0 n).size = n := by
 have e := congrArg List.length (ext_head s n)
 rw [pb_len, List.length_take, pb_len] at e
 omega
theorem xor_byte (a b : Int) : ∃ z : UInt8, bits .xor .u8 a b = (z.toNat : Int) := by
 have h1 := bits_lo_u8 .xor a b
 have h2 := bits_hi_u8 .xor a b
 refine ⟨UInt8.ofNat (bits .xor .u8 a b).toNat, ?_⟩
 rw [UInt8.toNat_ofNat']
 omega
set_option maxHeartbeats 8000000 in
set_option maxRecDepth 100000 in
theorem bent_law (l : List S38) (A : Option Addr) (c : Nat) (at_ by_ cut : Int) (w : World) (hr0 : Kd.C k38 w A l.length l) (hc : l.length ≤ c) (hwf : Wf l) (hat : (Lit.int .i64 at_).wf = true) (hby : (Lit.int .u8 by_).wf = true) (hcut : (Lit.int .i64 cut).wf = true) (hT : Tab w) :
  Calls Tryz.prog 4 #[.slice A l.length c, .int .i64 at_, .int .u8 by_, .int .i64 cut] w fun e w' => e = .returned (.bool true) ∧ Below w.heap.size w w' := by
 have hu46 := Tryz.underlying38
 have hu44 := Tryz.underlying36
 have HT := Aside0.mk hT
 have HBY := Aside0.mk hby
 obtain ⟨y, h1, h2, h3, hy⟩ := few_c l A c w hr0 hc hwf
 have HL := Aside0.mk (And.intro h1 h3)
 have HW := Aside0.mk h2
 have HY := Aside0.mk hy
 clear hT hr0 hc hwf hat hby hcut h1 h2 h3 hy
 go_enter Tryz.func4, Tryz.ntmps4
 go_wp2_with fail
 refine HY.out.mono ?_
 rintro e w1 ⟨v1, rfl, hv1, hb1⟩
 obtain ⟨A1, c1, e1⟩ := Kd.R_slice hv1
 subst e1
 have HR1 := Aside0.mk (Kd.R_reads' hv1).2.2
 have HC1 := Aside0.mk (Kd.R_reads' hv1).2.1
 have HB1 := Aside0.mk hb1
 clear hv1 hb1 HY
 go_wp2_with fail
 refine (normal_c y A1 c1 w1 HR1.out HC1.out Z46 HW.out (HT.out.below HB1.out)).mono ?_
 rintro e w2 ⟨v2, rfl, hv2, hb2⟩
 have HB2 := Aside0.mk (below_then HB1.out HB1.out.size hb2)
 have HNL : Aside0 ((normT y).1.length ≤ 40 ∧ tot (normT y).1 ≤ 60000 ∧ Wf (normT y).1) := ⟨by have := normT_len y; have := HL.out; omega, Nat.le_trans (norm_tot y) HL.out.2, wf_norm Z46⟩
 have HID : Aside0 ((normT y).2 = 0 → normT (normT y).1 = normT y) := ⟨normT_idem⟩
 have HERR := Aside0.mk (normT_err y)
 obtain ⟨t, ht⟩ : ∃ t, (normT y).1 = t := ⟨_, rfl⟩
 obtain ⟨x, hx⟩ : ∃ x, (normT y).2 = x := ⟨_, rfl⟩
 have HTX : Aside0 (normT y = (t, x)) := ⟨Prod.ext ht hx⟩
 rw [ht] at HNL hv2
 rw [hx]
 rw [HTX.out] at HID HERR
 obtain ⟨A2, c2, e2⟩ := Kd.R_slice hv2
 subst e2
 have HR2 := Aside0.mk (Kd.R_reads' hv2).2.2
 have HC2 := Aside0.mk (Kd.R_reads' hv2).2.1
 clear hv2 hb2 ht hx HR1 HC1 HB1 HTX
 have hBC := bytes_c t A2 c2 w2 HR2.out HC2.out HNL.out.1 HNL.out.2.1 HNL.out.2.2 (HT.out.below HB2.out)
 have HSZ : Aside0 (x = 0 → (bytesP t).2 = 0 ∧ 32 ≤ (bytesP t).1.size ∧ (bytesP t).1.size ≤ 8388640) := ⟨fun h0 => bent_bytes (by have := HID.out h0; rw [this, h0]) HNL.out.1 HNL.out.2.1⟩
 obtain ⟨s, hs⟩ : ∃ s, (bytesP t).1 = s := ⟨_, rfl⟩
 obtain ⟨f, hf⟩ : ∃ f, (bytesP t).2 = f := ⟨_, rfl⟩
 rw [hs, hf] at hBC HSZ
 have HBC := Aside0.mk hBC
 clear hBC hs hf HID
 go_wp2_with fail
 refine HBC.out.mono ?_
 rintro e w3 ⟨rfl, hb3⟩
 have HB3 := Aside0.mk (below_then HB2.out HB2.out.size hb3)
 clear hb3 HBC HR2 HC2 HB2
 by_cases h0 : x = 0
 rotate_left
 ·
  have h5 : x = 5 := by
   rcases HERR.out with h | h
   ·
    exact absurd h h0
   ·
    exact congrArg Prod.snd h
  subst h5
  clear h0 HERR HSZ
  go_wp2_with fail
  refine (awake_c _ (HT.out.below HB3.out)).mono ?_
  rintro e w9 ⟨rfl, hb9⟩
  have HB9 := Aside0.mk (below_then HB3.out HB3.out.size hb9)
  clear hb9
  go_wp2_with fail
  go_ret
  exact ⟨rfl, HB9.out⟩
 subst h0
 obtain ⟨hf0, hs1, hs2⟩ := HSZ.out rfl
 subst hf0
 have HS := Aside0.mk (And.intro hs1 hs2)
 clear HSZ HERR hs1 hs2
 by_cases h1 : at_ < 0
 ·
  have g1 : decide (at_ < 0) = true := decide_eq_true h1
  clear h1
  go_wp2_with fail
  refine (awake_c _ (HT.out.below HB3.out)).mono ?_
  rintro e w9 ⟨rfl, hb9⟩
  have HB9 := Aside0.mk (below_then HB3.out HB3.out.size hb9)
  clear hb9
  go_wp2_with fail
  go_ret
  exact ⟨rfl, HB9.out⟩
 have g1 : decide (at_ < 0) = false := decide_eq_false h1
 by_cases h2 : (s.size : Int) ≤ at_
 ·
  have g2 : decide ((s.size : Int) ≤ at_) = true := decide_eq_true h2
  clear h1 h2
  go_wp2_with fail
  refine (awake_c _ (HT.out.below HB3.out)).mono ?_
  rintro e w9 ⟨rfl, hb9⟩
  have HB9 := Aside0.mk (below_then HB3.out HB3.out.size hb9)
  clear hb9
  go_wp2_with fail
  go_ret
  exact ⟨rfl, HB9.out⟩
 have g2 : decide ((s.size : Int) ≤ at_) = false := decide_eq_false h2
 by_cases h3 : by_ = 0
 ·
  have g3 : (by_ == 0) = true := beq_iff_eq.mpr h3
  clear h1 h2 h3
  go_wp2_with fail
  refine (awake_c _ (HT.out.below HB3.out)).mono ?_
  rintro e w9 ⟨rfl, hb9⟩
  have HB9 := Aside0.mk (below_then HB3.out HB3.out.size hb9)
  clear hb9
  go_wp2_with fail
  go_ret
  exact ⟨rfl, HB9.out⟩
 have g3 : (by_ == 0) = false := beq_eq_false_iff_ne.mpr h3
 by_cases h4 : cut < 0
 ·
  have g4 : decide (cut < 0) = true := decide_eq_true h4
  clear h1 h2 h3 h4
  go_wp2_with fail
  refine (awake_c _ (HT.out.below HB3.out)).mono ?_
  rintro e w9 ⟨rfl, hb9⟩
  have HB9 := Aside0.mk (below_then HB3.out HB3.out.size hb9)
  clear hb9
  go_wp2_with fail
  go_ret
  exact ⟨rfl, HB9.out⟩
 have g4 : decide (cut < 0) = false := decide_eq_false h4
 by_cases h5 : (s.size : Int) ≤ cut
 ·
  have g5 : decide ((s.size : Int) ≤ cut) = true := decide_eq_true h5
  clear h1 h2 h3 h4 h5
  go_wp2_with fail
  refine (awake_c _ (HT.out.below HB3.out)).mono ?_
  rintro e w9 ⟨rfl, hb9⟩
  have HB9 := Aside0.mk (below_then HB3.out HB3.out.size hb9)
  clear hb9
  go_wp2_with fail
  go_ret
  exact ⟨rfl, HB9.out⟩
 have g5 : decide ((s.size : Int) ≤ cut) = false := decide_eq_false h5
 obtain ⟨n, hn⟩ : ∃ n : Nat, at_ = (n : Int) := ⟨at_.toNat, Z3⟩
 obtain ⟨k, hk⟩ : ∃ k : Nat, cut = (k : Int) := ⟨cut.toNat, Z3⟩
 subst hn hk
 have HN := Aside0.mk (show n < s.size ∧ k < s.size by omega)
 have q1 : (0 ≤ (n : Int)) = True := eq_true Z3
 have q2 : ((n : Int) < (s.size : Int)) = True := eq_true Z3
 have q3 : (k ≤ s.size) = True := eq_true Z3
 have q4 : (n < s.size) = True := eq_true Z3
 have g2' : decide (s.size ≤ n) = false := decide_eq_false Z3
 have g5' : decide (s.size ≤ k) = false := decide_eq_false Z3
 clear h1 h2 h3 h4 h5
 have kb := fun W => print_bytes (P := Tryz.prog) 9 31 5 Tryz.underlying9 Tryz.underlying31 Tryz.underlying5 s W
 have HF := Aside0.mk (brow_bytes w3 s)
 have HB4 := Aside0.mk (bytes_below HB3.out HB3.out.size 5 s)
 have x0 := HF.out.cell (i := n) (by rw [pb_len]; exact HN.out.1)
 have f0 := HF.out.thawed (i := n) (by rw [pb_len]; exact HN.out.1)
 unfold vb at x0
 generalize (((pb s).getD n 0).toNat : Int) = b0 at x0
 obtain ⟨z, hz⟩ := xor_byte b0 by_
 have HF5 := Aside0.mk (HF.out.set n z)
 unfold vb at HF5
 have HB5 := Aside0.mk (HB4.out.setCell (p := ⟨w3.heap.size, n, none⟩) HB3.out.size (.int .u8 (z.toNat : Int)))
 have hcv := HF5.out.str
 rw [List.length_set, pb_len] at hcv
 obtain ⟨b, hb⟩ : ∃ b : ByteArray, b = ⟨((pb s).set n z).toArray⟩ := ⟨_, rfl⟩
 rw [← hb] at hcv
 have hpb : pb b = (pb s).set n z := by
  rw [hb]
  rfl
 have HBZ : Aside0 (b.size = s.size) := ⟨by
  have e := congrArg List.length hpb
  rw [pb_len, List.length_set, pb_len] at e
  exact e⟩
 rw [← hpb] at HF5
 have HG1 := Aside0.mk (bent_of b (by have := HBZ.out; have := HS.out; omega) (by have := HBZ.out; have := HS.out; omega))
 clear HF HB4 hb hpb
 go_wp2_with fail
 clear kb x0 f0 hz hcv
 generalize grownCap w3 s.size 0 5 = cap at HF5 ⊢
 generalize hW5 : (Lib.bytesWorld w3 5 s).setCell ⟨w3.heap.size, n, none⟩ (.int .u8 (z.toNat : Int)) = w5 at HF5 HB5 ⊢
 clear hW5
 generalize w3.heap.size = g at HF5 ⊢
 refine (of_c b w5 (by have := HBZ.out; have := HS.out; omega) (HT.out.below HB5.out)).mono ?_
 rintro e w6 ⟨v6, rfl, hv6, hb6⟩
 have HB6 := Aside0.mk (below_then HB5.out HB5.out.size hb6)
 have HF6 := Aside0.mk (HF5.out.below hb6)
 clear hv6 hb6 HB5 HF5
 go_wp2_with fail
 refine (of_c (s.extract 0 k) w6 (by rw [size_ext s k (by have := HN.out; omega)]; have := HN.out; have := HS.out; omega) (HT.out.below HB6.out)).mono ?_
 rintro e w7 ⟨v7, rfl, hv7, hb7⟩
 have HB7 := Aside0.mk (below_then HB6.out HB6.out.size hb7)
 have HF7 := Aside0.mk (HF6.out.below hb7)
 clear hv7 hb7 HB6 HF6
 have hcv := HF7.out.str
 rw [pb_len, HBZ.out] at hcv
 go_wp2_with fail
 clear hcv
 refine (pof_c b w7 (by have := HBZ.out; have := HS.out; omega)).mono ?_
 rintro e w8 ⟨v8, rfl, hb8⟩
 have HB8 := Aside0.mk (below_then HB7.out HB7.out.size hb8)
 have HF8 := Aside0.mk (HF7.out.below hb8)
 clear hb8 HB7 HF7
 go_wp2_with fail
 refine (pof_c (s.extract 0 k) w8 (by rw [size_ext s k (by have := HN.out; omega)]; have := HN.out; have := HS.out; omega)).mono ?_
 rintro e w9 ⟨v9, rfl, hb9⟩
 have HB9 := Aside0.mk (below_then HB8.out HB8.out.size hb9)
 have HF9 := Aside0.mk (HF8.out.below hb9)
 clear hb9 HB8 HF8
 have hcv := HF9.out.str
 rw [pb_len, HBZ.out] at hcv
 have HG2 : Aside0 (k < 32 ∧ (ofP (pb (s.extract 0 k))).2 = 3 ∨ ¬ k < 32 ∧ ((ofP (pb (s.extract 0 k))).2 = 10 ∨ l8_summed.f 0 (s.extract 0 k) = some true)) := ⟨by
  have hk := size_ext s k (by have := HN.out; omega)
  by_cases h : k < 32
  ·
   exact .inl ⟨h, bent_short _ Z3⟩
  ·
   exact .inr ⟨h, bent_of _ Z3 (by have := HN.out; have := HS.out; omega)⟩⟩
 generalize (ofP (pb b)).2 = gx at HG1 ⊢
 generalize (ofP (pb (s.extract 0 k))).2 = hx at HG2 ⊢
 rcases HG1.out with h10 | hsum
 ·
  subst h10
  clear HG1 hcv
  rcases HG2.out with ⟨h32, h3⟩ | ⟨h32, h3⟩
  ·
   subst h3
   have g32 : decide (k < 32) = true := decide_eq_true h32
   have g32' : decide ((k : Int) < 32) = true := decide_eq_true Z3
   clear HG2 h32
   go_wp2_with fail
   refine (awake_c _ (HT.out.below HB9.out)).mono ?_
   rintro e w9 ⟨rfl, hb9⟩
   have HB9 := Aside0.mk (below_then HB9.out HB9.out.size hb9)
   clear hb9
   go_wp2_with fail
   go_ret
   exact ⟨rfl, HB9.out⟩
  have g32 : decide (k < 32) = false := decide_eq_false h32
  have g32' : decide ((k : Int) < 32) = false := decide_eq_false Z3
  by_cases h10 : hx = 10
  ·
   subst h10
   clear HG2 h3 h32
   go_wp2_with fail
   refine (awake_c _ (HT.out.below HB9.out)).mono ?_
   rintro e w9 ⟨rfl, hb9⟩
   have HB9 := Aside0.mk (below_then HB9.out HB9.out.size hb9)
   clear hb9
   go_wp2_with fail
   go_ret
   exact ⟨rfl, HB9.out⟩
  have z11 : (hx == 10) = false := beq_eq_false_iff_ne.mpr h10
  have HS38 := Aside0.mk (h3.resolve_left h10)
  clear HG2 h3 h32 h10
  go_wp2_with fail
  refine (l8_summed.calls 0 (s.extract 0 k) true _ HS38.out).mono ?_
  rintro e w11 ⟨rfl, hb11⟩
  have HB11 := Aside0.mk (below_then HB9.out HB9.out.size hb11)
  clear hb11
  go_wp2_with fail
  refine (awake_c _ (HT.out.below HB11.out)).mono ?_
  rintro e w9 ⟨rfl, hb9⟩
  have HB9 := Aside0.mk (below_then HB11.out HB11.out.size hb9)
  clear hb9
  go_wp2_with fail
  go_ret
  exact ⟨rfl, HB9.out⟩
 by_cases h10 : gx = 10
 ·
  subst h10
  clear HG1 hcv hsum
  rcases HG2.out with ⟨h32, h3⟩ | ⟨h32, h3⟩
  ·
   subst h3
   have g32 : decide (k < 32) = true := decide_eq_true h32
   have g32' : decide ((k : Int) < 32) = true := decide_eq_true Z3
   clear HG2 h32
   go_wp2_with fail
   refine (awake_c _ (HT.out.below HB9.out)).mono ?_
   rintro e w9 ⟨rfl, hb9⟩
   have HB9 := Aside0.mk (below_then HB9.out HB9.out.size hb9)
   clear hb9
   go_wp2_with fail
   go_ret
   exact ⟨rfl, HB9.out⟩
  have g32 : decide (k < 32) = false := decide_eq_false h32
  have g32' : decide ((k : Int) < 32) = false := decide_eq_false Z3
  by_cases h10 : hx = 10
  ·
   subst h10
   clear HG2 h3 h32
   go_wp2_with fail
   refine (awake_c _ (HT.out.below HB9.out)).mono ?_
   rintro e w9 ⟨rfl, hb9⟩
   have HB9 := Aside0.mk (below_then HB9.out HB9.out.size hb9)
   clear hb9
   go_wp2_with fail
   go_ret
   exact ⟨rfl, HB9.out⟩
  have z11 : (hx == 10) = false := beq_eq_false_iff_ne.mpr h10
  have HS38 := Aside0.mk (h3.resolve_left h10)
  clear HG2 h3 h32 h10
  go_wp2_with fail
  refine (l8_summed.calls 0 (s.extract 0 k) true _ HS38.out).mono ?_
  rintro e w11 ⟨rfl, hb11⟩
  have HB11 := Aside0.mk (below_then HB9.out HB9.out.size hb11)
  clear hb11
  go_wp2_with fail
  refine (awake_c _ (HT.out.below HB11.out)).mono ?_
  rintro e w9 ⟨rfl, hb9⟩
  have HB9 := Aside0.mk (below_then HB11.out HB11.out.size hb9)
  clear hb9
  go_wp2_with fail
  go_ret
  exact ⟨rfl, HB9.out⟩
 have z10 : (gx == 10) = false := beq_eq_false_iff_ne.mpr h10
 have HSM := Aside0.mk hsum
 clear HG1 h10 hsum
 rcases HG2.out with ⟨h32, h3⟩ | ⟨h32, h3⟩
 ·
  subst h3
  have g32 : decide (k < 32) = true := decide_eq_true h32
  have g32' : decide ((k : Int) < 32) = true := decide_eq_true Z3
  clear HG2 h32
  go_wp2_with fail
  refine (l8_summed.calls 0 b true _ HSM.out).mono ?_
  rintro e w10 ⟨rfl, hb10⟩
  have HB10 := Aside0.mk (below_then HB9.out HB9.out.size hb10)
  clear hb10
  go_wp2_with fail
  refine (awake_c _ (HT.out.below HB10.out)).mono ?_
  rintro e w9 ⟨rfl, hb9⟩
  have HB9 := Aside0.mk (below_then HB10.out HB10.out.size hb9)
  clear hb9
  go_wp2_with fail
  go_ret
  exact ⟨rfl, HB9.out⟩
 have g32 : decide (k < 32) = false := decide_eq_false h32
 have g32' : decide ((k : Int) < 32) = false := decide_eq_false Z3
 by_cases h10 : hx = 10
 ·
  subst h10
  clear HG2 h3 h32
  go_wp2_with fail
  refine (l8_summed.calls 0 b true _ HSM.out).mono ?_
  rintro e w10 ⟨rfl, hb10⟩
  have HB10 := Aside0.mk (below_then HB9.out HB9.out.size hb10)
  clear hb10
  go_wp2_with fail
  refine (awake_c _ (HT.out.below HB10.out)).mono ?_
  rintro e w9 ⟨rfl, hb9⟩
  have HB9 := Aside0.mk (below_then HB10.out HB10.out.size hb9)
  clear hb9
  go_wp2_with fail
  go_ret
  exact ⟨rfl, HB9.out⟩
 have z11 : (hx == 10) = false := beq_eq_false_iff_ne.mpr h10
 have HS38 := Aside0.mk (h3.resolve_left h10)
 clear HG2 h3 h32 h10
 go_wp2_with fail
 refine (l8_summed.calls 0 b true _ HSM.out).mono ?_
 rintro e w10 ⟨rfl, hb10⟩
 have HB10 := Aside0.mk (below_then HB9.out HB9.out.size hb10)
 clear hb10
 go_wp2_with fail
 refine (l8_summed.calls 0 (s.extract 0 k) true _ HS38.out).mono ?_
 rintro e w11 ⟨rfl, hb11⟩
 have HB11 := Aside0.mk (below_then HB10.out HB10.out.size hb11)
 clear hb11
 go_wp2_with fail
 refine (awake_c _ (HT.out.below HB11.out)).mono ?_
 rintro e w9 ⟨rfl, hb9⟩
 have HB9 := Aside0.mk (below_then HB11.out HB11.out.size hb9)
 clear hb9
 go_wp2_with fail
 go_ret
 exact ⟨rfl, HB9.out⟩
end Go.Proofs.YtkhblpmjmkhiiaaGreatDoor.T
