/- The scrub texts, part Q6: walks through the code that the law reaches. -/
import Derived.Test.YtgpknomegleidaaGreatDoorQ5
import Derived.Test.YtgpknomegleidaaGreatDoorQ3
import Derived.Test.YtgpknomegleidaaGreatDoorQ4
import Derived.Test.YtgpknomegleidaaGreatDoorQ1
namespace Go.Proofs.YtgpknomegleidaaGreatDoor.T
open Go.RowKit Go.Proofs.YtgpknomegleidaaGreatDoorW.PrintWords Go.Proofs.YtgpknomegleidaaGreatDoorW.PrintLast Go.Proofs.YtgpknomegleidaaGreatDoorW.PrintMore Go.Proofs.YtgpknomegleidaaGreatDoor.PAll
open Go.Maps (Keyed)
set_option linter.unusedSimpArgs false
set_option linter.unusedVariables false

theorem headA_size (h : Hd) : (headA h).size = 48 := by rw [headA, mk_size, headB_len]
theorem tag_size (m : Nat) : (⟨(tagB m).toArray⟩ : ByteArray).size = 16 := by rw [mk_size, tagB, List.length_append, le_length]; rfl
theorem rawA_size (h : Hd) (body : ByteArray) (m : Nat) (hz : body.size = 448) : (rawA h body m).size = 512 := by
  rw [rawA, ByteArray.size_append, ByteArray.size_append, headA_size, tag_size, hz]
theorem rawA_head (h : Hd) (body : ByteArray) (m : Nat) : (rawA h body m).extract 0 48 = headA h := by
  rw [rawA, ← headA_size h]; exact ByteArray.extract_append_eq_left rfl
theorem rawA_rest (h : Hd) (body : ByteArray) (m : Nat) (hz : body.size = 448) : (rawA h body m).extract 48 512 = body ++ ⟨(tagB m).toArray⟩ := by
  rw [rawA]
  exact ByteArray.extract_append_eq_right (headA_size h).symm (by rw [ByteArray.size_append, headA_size, tag_size, hz])
set_option maxHeartbeats 4000000 in
set_option maxRecDepth 100000 in
theorem bOpen_c (w : World) (v i bh bs N : Nat) (f : Lit → Nat) (h : Hd) (body raw : ByteArray) (kl : Lit) (hv : Vlt w v i bh bs N f) (hf : h.fits) (hN : N < 1000000) (hz : body.size = 448) (hk : KeyIs h body kl) (h0 : f kl ≠ 0) (hle : f kl ≤ N) (hr : raw = rawA h body (f kl)) :
    Calls Tryz.prog 25 #[.pointer (some ⟨v, 0, none⟩), .string raw] w fun e w' => e = .returned (.tuple #[headV h, .string body, .int .i64 0]) ∧ Below w.heap.size w w' := by
  have HF := Aside0.mk hf
  have HN := Aside0.mk hN
  have HV := Aside0.mk hv
  have HKL := Aside0.mk hk
  have HZ := Aside0.mk hz
  have H0 := Aside0.mk (And.intro h0 hle)
  have hu71 := Tryz.underlying71
  have hsz : raw.size = 512 := by rw [hr]; exact rawA_size h body _ hz
  have e512 : (((raw.size : Nat) : Int) != 512) = false := by rw [hsz]; rfl
  have x1 : raw.extract 0 48 = headA h := by rw [hr]; exact rawA_head h body _
  have x2 : raw.extract 48 raw.size = body ++ ⟨(tagB (f kl)).toArray⟩ := by rw [hsz, hr]; exact rawA_rest h body _ hz
  have q1 : (48 ≤ raw.size) = True := eq_true (by omega)
  have q2 : ((48 : Int) ≤ (raw.size : Int)) = True := eq_true (by omega)
  clear hf hN hv hk hz h0 hle hr hsz
  go_enter Tryz.func25, Tryz.ntmps25
  go_wp2_with fail
  have HB0 := Aside0.mk (below_alloc (Below.refl w.heap.size w) (.cells #[.int .i64 0, .int .i64 0, .int .i64 0, .int .i64 0, .int .i64 0, .int .i64 0, .int .i64 0, .int .i64 0] 71 (0, 0)))
  have HO0 := Aside0.mk (heap_alloc_new w (.cells #[.int .i64 0, .int .i64 0, .int .i64 0, .int .i64 0, .int .i64 0, .int .i64 0, .int .i64 0, .int .i64 0] 71 (0, 0)))
  have HG4 := Aside0.mk (Nat.le_refl w.heap.size)
  refine (headof_c h HF.out (headA h) rfl _).mono ?_
  rintro e w2 ⟨rfl, hb⟩
  have HB2 := Aside0.mk (below_then HB0.out HB0.out.size hb)
  have HO2 := Aside0.mk (blk_below HO0.out hb)
  clear hb HB0 HO0
  obtain ⟨g4, hg4⟩ : ∃ g, g = w.heap.size := ⟨_, rfl⟩
  have HG := Aside0.mk (Nat.le_of_eq hg4.symm)
  rw [← hg4] at HO2 ⊢
  clear HG4 hg4
  rw [headV_C]
  unfold headC
  have ha := below_alloc (Below.refl w2.heap.size w2) (.cells (headC h) 71 (0, 0))
  have HB3 := Aside0.mk (below_then HB2.out HB2.out.size ha)
  have HO3 := Aside0.mk (blk_below HO2.out ha)
  have HS3 := Aside0.mk (heap_alloc_new w2 (.cells (headC h) 71 (0, 0)))
  have HNE := Aside0.mk (blk_lt HO2.out)
  clear ha HO2 HB2
  go_wp2_with fail
  unfold headC at HB3 HO3 HS3
  generalize w2.heap.size = g7 at HS3 HNE ⊢
  generalize w2.alloc (.cells #[.int .i64 (h.vol : Int), .int .i64 (h.addr : Int), .int .i64 (h.kind : Int), .int .i64 (h.ino : Int), .int .i64 (h.gen : Int), .int .i64 (h.index : Int), .int .i64 (h.ver : Int), .int .i64 (h.salt : Int)] 71 (0, 0)) = w3 at HB3 HO3 HS3 ⊢
  -- REGION6
  refine start_ (n := 15) (S := fun w' => w'.heap[g7]? = some (.cells (headC h) 71 (0, 0))) (ds := []) #[false, false, false, false, false, false, false, false, false, false, false, false, false, false, false] (by kernel_rfl) rfl rfl HS3.out (fun hHeld => ?_)
  have HB3' := Aside0.mk (below_drew HB3.out)
  have HO3' := Aside0.mk (show w3.drew.heap[g4]? = _ from HO3.out)
  clear HB3 HS3 HO3
  have HB3 := HB3'
  have HO3 := HO3'
  clear HB3' HO3'
  generalize w3.drew = w3d at HB3 HO3 hHeld ⊢
  refine pure_ (i := 0) (N := some 25) (v := ?_) (a' := ?_) #[true, false, false, false, false, false, false, false, false, false, false, false, false, false, false] rfl rfl (by kernel_rfl) (fun _ _ _ h => h) (Or.inl ⟨by rfl, ?_⟩) ?_ ?_
  rotate_left; · intro w'; go_simp; with_reducible rfl
  rotate_left; · simp only [Act.put, List.setIfInBounds_toArray, List.set_cons_zero, List.set_cons_succ, i64_w, i32_w]; rfl
  refine pure_ (i := 1) (N := some 26) (v := ?_) (a' := ?_) #[true, true, false, false, false, false, false, false, false, false, false, false, false, false, false] rfl rfl (by kernel_rfl) (fun _ _ _ h => h) (Or.inl ⟨by rfl, ?_⟩) ?_ ?_
  rotate_left; · intro w'; go_simp; with_reducible rfl
  rotate_left; · simp only [Act.put, List.setIfInBounds_toArray, List.set_cons_zero, List.set_cons_succ, i64_w, i32_w]; rfl
  refine pure_ (i := 5) (N := some 30) (v := ?_) (a' := ?_) #[true, true, false, false, false, true, false, false, false, false, false, false, false, false, false] rfl rfl (by kernel_rfl) (fun _ _ _ h => h) (Or.inl ⟨by rfl, ?_⟩) ?_ ?_
  rotate_left; · intro w'; go_simp; with_reducible rfl
  rotate_left; · simp only [Act.put, List.setIfInBounds_toArray, List.set_cons_zero, List.set_cons_succ, i64_w, i32_w]; rfl
  refine pure_ (i := 6) (N := some 31) (v := ?_) (a' := ?_) #[true, true, false, false, false, true, true, false, false, false, false, false, false, false, false] rfl rfl (by kernel_rfl) (fun _ _ _ h => h) (Or.inl ⟨by rfl, ?_⟩) ?_ ?_
  rotate_left; · intro w'; go_simp; with_reducible rfl
  rotate_left; · simp only [Act.put, List.setIfInBounds_toArray, List.set_cons_zero, List.set_cons_succ, i64_w, i32_w]; rfl
  refine pure_ (i := 7) (N := some 32) (v := ?_) (a' := ?_) #[true, true, false, false, false, true, true, true, false, false, false, false, false, false, false] rfl rfl (by kernel_rfl) (fun _ _ _ h => h) (Or.inl ⟨by rfl, ?_⟩) ?_ ?_
  rotate_left; · intro w'; go_simp; with_reducible rfl
  rotate_left; · simp only [Act.put, List.setIfInBounds_toArray, List.set_cons_zero, List.set_cons_succ, i64_w, i32_w]; rfl
  refine pure_ (i := 8) (N := some 33) (v := ?_) (a' := ?_) #[true, true, false, false, false, true, true, true, true, false, false, false, false, false, false] rfl rfl (by kernel_rfl) (fun _ _ _ h => h) (Or.inl ⟨by rfl, ?_⟩) ?_ ?_
  rotate_left; · intro w'; go_simp; with_reducible rfl
  rotate_left; · simp only [Act.put, List.setIfInBounds_toArray, List.set_cons_zero, List.set_cons_succ, i64_w, i32_w]; rfl
  refine take_ (i := 2) (N := some 27) (v := ?_) (a' := ?_) #[true, true, true, false, false, true, true, true, true, false, false, false, false, false, false] rfl rfl (by kernel_rfl) (fun _ _ _ h => h) (Or.inl ⟨by rfl, ?_⟩) hHeld ?_ ?_
  rotate_left; · rintro w' hS; have d7 : w'.cell? ⟨g7, 7, none⟩ = some (.int .i64 (h.salt : Int)) := (blk_cell hS 7).trans rfl; go_simp; with_reducible rfl
  rotate_left; · simp only [Act.put, List.setIfInBounds_toArray, List.set_cons_zero, List.set_cons_succ, i64_w, i32_w]; rfl
  refine take_ (i := 3) (N := some 28) (v := ?_) (a' := ?_) #[true, true, true, true, false, true, true, true, true, false, false, false, false, false, false] rfl rfl (by kernel_rfl) (fun _ _ _ h => h) (Or.inl ⟨by rfl, ?_⟩) hHeld ?_ ?_
  rotate_left; · rintro w' hS; have d0 : w'.cell? ⟨g7, 0, none⟩ = some (.int .i64 (h.vol : Int)) := (blk_cell hS 0).trans rfl; have d1 : w'.cell? ⟨g7, 1, none⟩ = some (.int .i64 (h.addr : Int)) := (blk_cell hS 1).trans rfl; have d2 : w'.cell? ⟨g7, 2, none⟩ = some (.int .i64 (h.kind : Int)) := (blk_cell hS 2).trans rfl; have d3 : w'.cell? ⟨g7, 3, none⟩ = some (.int .i64 (h.ino : Int)) := (blk_cell hS 3).trans rfl; have d4 : w'.cell? ⟨g7, 4, none⟩ = some (.int .i64 (h.gen : Int)) := (blk_cell hS 4).trans rfl; have d5 : w'.cell? ⟨g7, 5, none⟩ = some (.int .i64 (h.index : Int)) := (blk_cell hS 5).trans rfl; have d6 : w'.cell? ⟨g7, 6, none⟩ = some (.int .i64 (h.ver : Int)) := (blk_cell hS 6).trans rfl; have d7 : w'.cell? ⟨g7, 7, none⟩ = some (.int .i64 (h.salt : Int)) := (blk_cell hS 7).trans rfl; go_simp; with_reducible rfl
  rotate_left; · simp only [Act.put, List.setIfInBounds_toArray, List.set_cons_zero, List.set_cons_succ, i64_w, i32_w]; rfl
  refine one_ (i := 4) (N := some 29) #[true, true, true, true, true, true, true, true, true, false, false, false, false, false, false] rfl rfl (by kernel_rfl) (by decide) (fun K hK => ?_)
  refine goes_ Tryz.func42 (by kernel_rfl) rfl #[headV h] (by rfl) rfl rfl (by (try simp only [List.map_toArray, List.map_cons, List.map_nil]); first | done | rfl) ?_
  refine (nonce_c h _ HF.out).mono ?_
  rintro e w4 ⟨rfl, hb⟩
  have HB4 := Aside0.mk (below_then HB3.out HB3.out.size hb)
  have HO4 := Aside0.mk (blk_below HO3.out hb)
  have hHeld := blk_below hHeld hb
  refine ⟨_, rfl, ?_⟩
  refine hK.out _ _ hHeld (fun hHeld => ?_)
  clear hK K hb
  refine norm_ (a' := ?_) ?_ ?_
  rotate_left; · show Act.put _ (some 29) _ = _; simp only [Act.put, List.setIfInBounds_toArray, List.set_cons_zero, List.set_cons_succ, i64_w, i32_w]; rfl
  refine one_ (i := 9) (N := some 34) #[true, true, true, true, true, true, true, true, true, true, false, false, false, false, false] rfl rfl (by kernel_rfl) (by decide) (fun K hK => ?_)
  refine goes_ Tryz.func41 (by kernel_rfl) rfl #[.pointer (some ⟨v, 0, none⟩), .int .i64 (h.salt : Int), .string ⟨(nonceB h).toArray⟩, .string ⟨(headB h).toArray⟩, .string (body ++ ⟨(tagB (f kl)).toArray⟩)] (by rfl) rfl rfl (by (try simp only [List.map_toArray, List.map_cons, List.map_nil]); first | done | rfl) ?_
  refine (vOpen_c _ v i bh bs N f (h.salt : Int) _ _ body _ kl (HV.out.below HB4.out) HN.out HKL.out (by have := HZ.out; omega) rfl H0.out.1 H0.out.2 (by omega) (by have := HF.out.2.2.2.2.2.2.2; omega) (nonceB_size h)).mono ?_
  rintro e w5 ⟨rfl, hb⟩
  have HB5 := Aside0.mk (below_then HB4.out HB4.out.size hb)
  have HO5 := Aside0.mk (blk_below HO4.out hb)
  have hHeld := blk_below hHeld hb
  refine ⟨_, rfl, ?_⟩
  refine hK.out _ _ hHeld (fun hHeld => ?_)
  have HX5 := Aside0.mk hHeld
  clear hK K hb
  refine norm_ (a' := ?_) ?_ ?_
  rotate_left; · show Act.put _ (some 34) _ = _; simp only [Act.put, List.setIfInBounds_toArray, List.set_cons_zero, List.set_cons_succ, i64_w, i32_w]; rfl
  refine pure_ (i := 10) (N := some 24) (v := ?_) (a' := ?_) #[true, true, true, true, true, true, true, true, true, true, true, false, false, false, false] rfl rfl (by kernel_rfl) (fun _ _ _ h => h) (Or.inl ⟨by rfl, ?_⟩) ?_ ?_
  rotate_left; · intro w'; go_simp; with_reducible rfl
  rotate_left; · simp only [Act.put, List.setIfInBounds_toArray, List.set_cons_zero, List.set_cons_succ, i64_w, i32_w]; rfl
  refine pure_ (i := 11) (N := some 35) (v := ?_) (a' := ?_) #[true, true, true, true, true, true, true, true, true, true, true, true, false, false, false] rfl rfl (by kernel_rfl) (fun _ _ _ h => h) (Or.inl ⟨by rfl, ?_⟩) ?_ ?_
  rotate_left; · intro w'; go_simp; with_reducible rfl
  rotate_left; · simp only [Act.put, List.setIfInBounds_toArray, List.set_cons_zero, List.set_cons_succ, i64_w, i32_w]; rfl
  refine pure_ (i := 12) (N := some 36) (v := ?_) (a' := ?_) #[true, true, true, true, true, true, true, true, true, true, true, true, true, false, false] rfl rfl (by kernel_rfl) (fun _ _ _ h => h) (Or.inl ⟨by rfl, ?_⟩) ?_ ?_
  rotate_left; · intro w'; go_simp; with_reducible rfl
  rotate_left; · simp only [Act.put, List.setIfInBounds_toArray, List.set_cons_zero, List.set_cons_succ, i64_w, i32_w]; rfl
  refine pure_ (i := 13) (N := some 9) (v := ?_) (a' := ?_) #[true, true, true, true, true, true, true, true, true, true, true, true, true, true, false] rfl rfl (by kernel_rfl) (fun _ _ _ h => h) (Or.inl ⟨by rfl, ?_⟩) ?_ ?_
  rotate_left; · intro w'; go_simp; with_reducible rfl
  rotate_left; · simp only [Act.put, List.setIfInBounds_toArray, List.set_cons_zero, List.set_cons_succ, i64_w, i32_w]; rfl
  refine pure_ (i := 14) (N := some 8) (v := ?_) (a' := ?_) #[true, true, true, true, true, true, true, true, true, true, true, true, true, true, true] rfl rfl (by kernel_rfl) (fun _ _ _ h => h) (Or.inl ⟨by rfl, ?_⟩) ?_ ?_
  rotate_left; · intro w'; go_simp; with_reducible rfl
  rotate_left; · simp only [Act.put, List.setIfInBounds_toArray, List.set_cons_zero, List.set_cons_succ, i64_w, i32_w]; rfl
  refine done_ (by kernel_rfl) ?_
  -- END6
  have d0 : w5.cell? ⟨g7, 0, none⟩ = some (.int .i64 (h.vol : Int)) := (blk_cell HX5.out 0).trans rfl
  have d1 : w5.cell? ⟨g7, 1, none⟩ = some (.int .i64 (h.addr : Int)) := (blk_cell HX5.out 1).trans rfl
  have d2 : w5.cell? ⟨g7, 2, none⟩ = some (.int .i64 (h.kind : Int)) := (blk_cell HX5.out 2).trans rfl
  have d3 : w5.cell? ⟨g7, 3, none⟩ = some (.int .i64 (h.ino : Int)) := (blk_cell HX5.out 3).trans rfl
  have d4 : w5.cell? ⟨g7, 4, none⟩ = some (.int .i64 (h.gen : Int)) := (blk_cell HX5.out 4).trans rfl
  have d5 : w5.cell? ⟨g7, 5, none⟩ = some (.int .i64 (h.index : Int)) := (blk_cell HX5.out 5).trans rfl
  have d6 : w5.cell? ⟨g7, 6, none⟩ = some (.int .i64 (h.ver : Int)) := (blk_cell HX5.out 6).trans rfl
  have d7 : w5.cell? ⟨g7, 7, none⟩ = some (.int .i64 (h.salt : Int)) := (blk_cell HX5.out 7).trans rfl
  go_wp2_with ((with_reducible refine gate_store (t := 71) rfl ?_); refine store_at rfl _ _ _ rfl g4 0 71 _ (headC h).toList infoHd HO5.out (Nat.le_of_ble_eq_true rfl) (by first | (go_simp; done) | (go_simp; rfl)) (by first | (go_simp; done) | (go_simp; rfl)) (by intro u hu; simp only [headC, List.mem_cons, List.not_mem_nil, or_false] at hu; rcases hu with rfl | rfl | rfl | rfl | rfl | rfl | rfl | rfl <;> rfl) ?_; intro ws hs hgr; have HW := Aside0.mk hs; have HBW := Aside0.mk (HB5.out.grown hgr HB5.out.size (fun k hk => by injection hk with hk; have := HG.out; omega)); clear hs hgr d0 d1 d2 d3 d4 d5 d6 d7)
  (try simp only [Exit.inBlock, Exit.then])
  refine bodyPost_ret (results_ctt rfl _ _ g4 71 (headC h) (0, 0) _ rfl HW.out hu71 rfl infoHd) rfl ?_
  exact ⟨rfl, HBW.out⟩
end Go.Proofs.YtgpknomegleidaaGreatDoor.T
namespace Go.Proofs.YtgpknomegleidaaGreatDoor.T
open Go.RowKit Go.Proofs.YtgpknomegleidaaGreatDoorW.PrintWords Go.Proofs.YtgpknomegleidaaGreatDoorW.PrintLast Go.Proofs.YtgpknomegleidaaGreatDoorW.PrintMore Go.Proofs.YtgpknomegleidaaGreatDoor.PAll
open Go.Maps (Keyed)
set_option linter.unusedSimpArgs false
set_option linter.unusedVariables false

theorem kt_sealed : Tryz.prog.keyType 158 = true := by kernel_rfl
theorem co_sealed : Tryz.prog.cellsOf 158 = 4 := by kernel_rfl
theorem co_str : Tryz.prog.cellsOf 9 = 1 := by kernel_rfl
theorem co_int : Tryz.prog.cellsOf 3 = 1 := by kernel_rfl
theorem types_pos : decide (0 < Tryz.prog.types.size) = true := by kernel_rfl
theorem key_ex (salt : Nat) (nonce ad s : ByteArray) (h0 : salt < 281474976710656) (h1 : nonce.size ≤ maxLen) (h2 : ad.size ≤ maxLen) (h3 : s.size ≤ maxLen) : ∃ kl, keyOf Tryz.prog 158 (keyV (salt : Int) nonce ad s) = some kl := by
  obtain ⟨n, hn⟩ : ∃ n, Tryz.prog.types.size = n + 1 := ⟨Tryz.prog.types.size - 1, by have := of_decide_eq_true types_pos; omega⟩
  have hwf : (Lit.int .i64 (salt : Int)).wf = true := by
    show (decide (IntKind.i64.min ≤ (salt : Int)) && decide ((salt : Int) ≤ IntKind.i64.max)) = true
    rw [Bool.and_eq_true, decide_eq_true_eq, decide_eq_true_eq]
    exact ⟨by show (-9223372036854775808 : Int) ≤ _; omega, by show _ ≤ (9223372036854775807 : Int); omega⟩
  have hf : Value.formed Tryz.prog 158 (keyV (salt : Int) nonce ad s) = true := by
    simp [Value.formed, keyV, Tryz.underlying158, co_sealed]
  have hls : ∃ ls, Tryz.prog.keyLits (Tryz.prog.types.size + 1) 158 (keyV (salt : Int) nonce ad s).cells.toList = some ls := by
    rw [hn]
    refine ⟨[.int .i64 (salt : Int), .string nonce.data.toList, .string ad.data.toList, .string s.data.toList], ?_⟩
    unfold Program.keyLits
    simp [keyV, Value.cells, Tryz.underlying158, co_sealed, co_str, co_int, Program.keyLits, Tryz.underlying9, Tryz.underlying3, hwf, h1, h2, h3]
  obtain ⟨ls, hls⟩ := hls
  refine ⟨.string (keyBytes ls), ?_⟩
  unfold keyOf
  simp only [Tryz.underlying158, kt_sealed, hf, hls, Bool.and_self, if_true, Option.map_some]
theorem keyIs_ex (h : Hd) (body : ByteArray) (hz : body.size = 448) (hs : h.salt < 281474976710656) : ∃ kl, KeyIs h body kl :=
  key_ex _ _ _ _ hs (by rw [nonceA, nonceB_size]; decide) (by rw [headA_size]; decide) (by rw [hz]; decide)
set_option maxHeartbeats 4000000 in
set_option maxRecDepth 100000 in
theorem jlive_c {w : World} {p bh bd : Nat} {h : Nat → ByteArray} {d : Nat → Bool} {cv : Value} {rd wr : Int} {cl : List (Nat × ByteArray)} (k : PlateS w p bh bd 784 h d cv rd wr cl) :
    Calls Tryz.prog 64 #[.pointer (some ⟨p, 0, none⟩)] w fun e w' => e = .returned (.tuple #[.int .i64 48, .int .i64 0]) ∧ Below w.heap.size w w' := by
  have hu26 := Tryz.underlying26
  have HS := Aside0.mk (sectors_c k)
  clear k
  go_enter Tryz.func64, Tryz.ntmps64
  go_wp2_with fail
  refine HS.out.mono ?_
  rintro e w1 ⟨rfl, rfl⟩
  rw [show ((784 : Nat) : Int) = 784 from rfl]
  go_wp2_with fail
  refine HS.out.mono ?_
  rintro e w2 ⟨rfl, rfl⟩
  rw [show ((784 : Nat) : Int) = 784 from rfl]
  go_wp2_with fail
  go_loopw [5] (fun i wq => i = .int .i64 48 ∧ wq = w2) (fun _ _ => 0)
  case atStart => exact ⟨rfl, rfl⟩
  case round =>
    obtain ⟨rfl, rfl⟩ := hrel
    go_wp2_with fail
    refine (layout_c 48 _).mono ?_
    rintro e w3 ⟨rfl, hb⟩
    rw [show layR 48 = (layL 48, 0) from layR_ok (n := 48) (by decide) (by decide), lay48_eq]
    have HB := Aside0.mk hb
    clear hb
    unfold lay48
    go_wp2_with fail
    go_ret2
    exact ⟨rfl, below_alloc HB.out _⟩
theorem Fr.own {S : Nat → Prop} {a b c : World} {q : Nat} (h : Fr S a b) (hg : b.grownBy c (some q)) (hq : a.heap.size ≤ q) : Fr S a c :=
  ⟨hg.os.trans h.os, hg.tape.trans h.tape, hg.output.trans h.output, Nat.le_trans h.size hg.size, fun g hgl hs => (hg.block g (Nat.lt_of_lt_of_le hgl h.size) (fun e => by injection e with e; omega)).trans (h.block g hgl hs)⟩
/-- What a superblock's row leaves. -/
def SuperP (w : World) (v i bh bs N : Nat) (f : Lit → Nat) (e : Ending) (w' : World) : Prop :=
  ∃ raw f', e = .returned (.tuple #[.agg #[.int .i64 0, .string raw], .int .i64 0]) ∧ raw.size = 512 ∧ Vlt w' v i bh bs (N + 1) f' ∧ (∀ x, f x ≠ 0 → f' x = f x) ∧ Fr (VS bh bs) w w'
theorem infoWrite : (Tryz.prog.info? 193).map (·.size) = some 2 := by kernel_rfl
set_option maxHeartbeats 4000000 in
set_option maxRecDepth 100000 in
theorem jsuper_c (w : World) (v i bh bs N : Nat) (f : Lit → Nat) (hv : Vlt w v i bh bs N f) (hN : N < 1000000) (vol next live : Nat) (root : ByteArray) (h1 : vol < 281474976710656) (h2 : next < 281474976710656) (h3 : live < 4294967296) (hr : root.size = 32) :
    Calls Tryz.prog 104 #[.pointer (some ⟨v, 0, none⟩), .agg #[.int .i64 (vol : Int), .int .i64 0, .int .i64 (next : Int), .int .i64 (live : Int), .string root]] w (SuperP w v i bh bs N f) := by
  have hu148 := Tryz.underlying148
  have hu193 := Tryz.underlying193
  have hu71 := Tryz.underlying71
  have hb1 := below_alloc (Below.refl w.heap.size w) (.cells #[.int .i64 (vol : Int), .int .i64 0, .int .i64 (next : Int), .int .i64 (live : Int), .string root] 148 (0, 0))
  have hb2 := below_alloc hb1 (.cells #[.int .i64 0, .string ⟨#[]⟩] 193 (0, 0))
  have h3' := blk_alloc (heap_alloc_new w (.cells #[.int .i64 (vol : Int), .int .i64 0, .int .i64 (next : Int), .int .i64 (live : Int), .string root] 148 (0, 0))) (.cells #[.int .i64 0, .string ⟨#[]⟩] 193 (0, 0))
  have h4' := heap_alloc_new (w.alloc (.cells #[.int .i64 (vol : Int), .int .i64 0, .int .i64 (next : Int), .int .i64 (live : Int), .string root] 148 (0, 0))) (.cells #[.int .i64 0, .string ⟨#[]⟩] 193 (0, 0))
  rw [alloc_sz] at h4'
  have HB0 := Aside0.mk hb2
  have HX0 := Aside0.mk (And.intro h3' h4')
  have HV := Aside0.mk hv
  have HN := Aside0.mk (And.intro hN (And.intro h1 (And.intro h2 (And.intro h3 hr))))
  clear hb1 hb2 h3' h4' hv hN h1 h2 h3 hr
  go_enter Tryz.func104, Tryz.ntmps104
  go_wp2_with fail
  generalize (w.alloc (.cells #[.int .i64 (vol : Int), .int .i64 0, .int .i64 (next : Int), .int .i64 (live : Int), .string root] 148 (0, 0))).alloc (.cells #[.int .i64 0, .string ⟨#[]⟩] 193 (0, 0)) = w1 at HB0 HX0 ⊢
  refine (super_c vol 0 next live root w1 HN.out.2.1 (by decide) HN.out.2.2.1 HN.out.2.2.2.1 HN.out.2.2.2.2).mono ?_
  rintro e w2 ⟨b, rfl, hbz, hb⟩
  have HBZ := Aside0.mk hbz
  have HB2 := Aside0.mk (below_then HB0.out HB0.out.size hb)
  have HX2 := Aside0.mk (And.intro (blk_below HX0.out.1 hb) (blk_below HX0.out.2 hb))
  have HV2 := Aside0.mk (HV.out.below HB2.out)
  clear hbz hb HB0 HX0
  obtain ⟨g3, hg3⟩ : ∃ g, g = w.heap.size := ⟨_, rfl⟩
  have HG := Aside0.mk hg3
  rw [← hg3] at HX2 ⊢
  clear hg3
  have x0 : w2.cell? ⟨g3, 0, none⟩ = some (.int .i64 (vol : Int)) := (blk_cell HX2.out.1 0).trans rfl
  have x1 : w2.cell? ⟨g3, 1, none⟩ = some (.int .i64 0) := (blk_cell HX2.out.1 1).trans rfl
  go_wp2_with fail
  clear x0 x1
  obtain ⟨kl, hkl⟩ := keyIs_ex ⟨vol, 0, 1, 0, 0, 0, 0, 0⟩ b HBZ.out (by decide : (0 : Nat) < 281474976710656)
  refine (bSeal_c w2 v i bh bs N f ⟨vol, 0, 1, 0, 0, 0, 0, 0⟩ b kl HV2.out ⟨HN.out.2.1, (by decide : (0 : Nat) < 4294967296), (by decide : (1 : Nat) < 65536), (by decide : (0 : Nat) < 4294967296), (by decide : (0 : Nat) < 4294967296), (by decide : (0 : Nat) < 4294967296), (by decide : (0 : Nat) < 281474976710656), (by decide : (0 : Nat) < 281474976710656)⟩ HN.out.1 HBZ.out hkl).mono ?_
  rintro e w3 ⟨m, f1, rfl, q1, q2, q3, q4, q5, q6⟩
  have HRZ := Aside0.mk (rawA_size ⟨vol, 0, 1, 0, 0, 0, 0, 0⟩ b m HBZ.out)
  have HE := Aside0.mk (And.intro q1 (And.intro q5 ((Fr.below HB2.out).trans q6)))
  have HW3 := Aside0.mk (q6.cells HX2.out.2 (vs_cells HV2.out _ _ _ _ HX2.out.2))
  generalize rawA ⟨vol, 0, 1, 0, 0, 0, 0, 0⟩ b m = raw at HRZ ⊢
  clear q1 q2 q3 q4 q5 q6 HB2 HX2 HV2 hkl
  go_wp2_with ((with_reducible refine gate_store (t := 193) rfl ?_); refine store_at rfl _ _ _ rfl (g3 + 1) 0 193 _ [.int .i64 0, .string raw] infoWrite HW3.out (Nat.le_of_ble_eq_true rfl) (by first | (go_simp; done) | (go_simp; rfl)) (by first | (go_simp; done) | (go_simp; rfl)) (by intro u hu; simp only [List.mem_cons, List.not_mem_nil, or_false] at hu; rcases hu with rfl | rfl <;> rfl) ?_; intro ws hs hgr; have HW := Aside0.mk hs; have HGR := Aside0.mk hgr; clear hs hgr)
  (try simp only [Exit.inBlock, Exit.then])
  refine bodyPost_ret (results_ct rfl _ _ (g3 + 1) 193 #[.int .i64 0, .string raw] (0, 0) _ rfl HW.out hu193 rfl infoWrite) rfl ?_
  have hfr : Fr (fun g => g = g3 + 1) w3 ws := Fr.grown HGR.out rfl
  refine ⟨raw, f1, rfl, HRZ.out, ?_, HE.out.2.1, HE.out.2.2.own HGR.out (by rw [HG.out]; omega)⟩
  · obtain ⟨bm, hib⟩ := HE.out.1.ib
    obtain ⟨qg, hqg⟩ := HE.out.1.hm
    obtain ⟨e3, c3, h3⟩ := hqg.obj
    obtain ⟨e4, c4, h4⟩ := HE.out.1.sm.obj
    refine HE.out.1.fr hfr ?_ ?_ ?_ ?_
    · exact fun e => blk_ne_type HE.out.1.vb HW3.out (by decide) e
    · exact fun e => blk_ne_type hib HW3.out (by decide) e
    · intro e; rw [e] at h3; rw [HW3.out] at h3; cases h3
    · intro e; rw [e] at h4; rw [HW3.out] at h4; cases h4
set_option maxHeartbeats 1000000 in
set_option maxRecDepth 100000 in
theorem stopnil_c (w : World) : Calls Tryz.prog 107 #[.nilIface] w fun e w' => e = .returned (.int .i64 0) ∧ w' = w := by
  go_enter Tryz.func107, Tryz.ntmps107
  go_wp2_with fail
  go_ret
  exact ⟨rfl, rfl⟩
section
variable {w : World} {p bh bd n K : Nat} {F : Nat → ByteArray}
set_option maxHeartbeats 1000000 in
set_option maxRecDepth 100000 in
theorem sput_c (k : PlateP w p bh bd n K F) (hK : K + 8 ≤ 1000) (gs : Nat) (hs : w.heap[gs]? = some (.cells #[.pointer (some ⟨p, 0, none⟩), .nilIface] 198 (0, 0))) (a : Nat) (ha : a * 8 + 8 ≤ n) (hn : n ≤ 32768) (raw : ByteArray) (hz : raw.size = 512) :
    Calls Tryz.prog 105 #[.pointer (some ⟨gs, 0, none⟩), .int .i64 (a : Int), .string raw] w fun e w' => e = .returned (.tuple #[]) ∧ PlateP w' p bh bd n (K + 8) (putB F a raw) ∧ FrP (PS p bh bd) w w' := by
  have HP := Aside0.mk (bPut_c k hK a ha hn raw hz)
  have x0 : w.cell? ⟨gs, 0, none⟩ = some (.pointer (some ⟨p, 0, none⟩)) := (blk_cell hs 0).trans rfl
  have x1 : w.cell? ⟨gs, 1, none⟩ = some .nilIface := (blk_cell hs 1).trans rfl
  clear k hK hs ha hn hz
  go_enter Tryz.func105, Tryz.ntmps105
  go_wp2_with fail
  refine HP.out.mono ?_
  rintro e w1 ⟨rfl, h1, h2⟩
  have HE := Aside0.mk (And.intro h1 h2)
  clear h1 h2 x0 x1
  go_wp2_with fail
  go_end0
  exact ⟨rfl, HE.out.1, HE.out.2⟩
set_option maxHeartbeats 1000000 in
set_option maxRecDepth 100000 in
theorem sflush_c (k : PlateP w p bh bd n K F) (hK : K ≤ 1000) (gs : Nat) (hs : w.heap[gs]? = some (.cells #[.pointer (some ⟨p, 0, none⟩), .nilIface] 198 (0, 0))) :
    Calls Tryz.prog 106 #[.pointer (some ⟨gs, 0, none⟩)] w fun e w' => e = .returned (.tuple #[]) ∧ (∃ rd wr, PlateS w' p bh bd n F (fun _ => false) (.slice none 0 0) rd wr []) ∧ FrP (PS p bh bd) w w' := by
  have HP := Aside0.mk (flush_p k hK)
  have x0 : w.cell? ⟨gs, 0, none⟩ = some (.pointer (some ⟨p, 0, none⟩)) := (blk_cell hs 0).trans rfl
  have x1 : w.cell? ⟨gs, 1, none⟩ = some .nilIface := (blk_cell hs 1).trans rfl
  clear k hK hs
  go_enter Tryz.func106, Tryz.ntmps106
  go_wp2_with fail
  refine HP.out.mono ?_
  rintro e w1 ⟨rfl, h1, h2⟩
  have HE := Aside0.mk (And.intro h1 h2)
  clear h1 h2 x0 x1
  go_wp2_with fail
  go_end0
  exact ⟨rfl, HE.out.1, HE.out.2⟩
end
end Go.Proofs.YtgpknomegleidaaGreatDoor.T
namespace Go.Proofs.YtgpknomegleidaaGreatDoor.T
open Go.RowKit Go.Proofs.YtgpknomegleidaaGreatDoorW.PrintWords Go.Proofs.YtgpknomegleidaaGreatDoorW.PrintLast Go.Proofs.YtgpknomegleidaaGreatDoorW.PrintMore Go.Proofs.YtgpknomegleidaaGreatDoor.PAll
set_option linter.unusedSimpArgs false
set_option linter.unusedVariables false

theorem PlateP.notT {w : World} {p bh bd n K : Nat} {F : Nat → ByteArray} (k : PlateP w p bh bd n K F) {q : Nat} {cs : Array Value} {t : TypeId} {fr : Nat × Nat} (hq : w.heap[q]? = some (.cells cs t fr)) (ht : ¬ PT t) : ¬ PS p bh bd q := by
  obtain ⟨h, cv, rd, wr, cl, k1, _⟩ := k
  exact k1.notT hq ht
theorem z512_size : z512.size = 512 := by rw [z512, mk_size]; exact List.length_replicate
/-- The plate's blocks and the vault's maps. -/
def AS (p bh bd vh vs : Nat) (g : Nat) : Prop := PS p bh bd g ∨ VS vh vs g
def FmtP (w : World) (v i vh vs N : Nat) (f : Lit → Nat) (p bh bd : Nat) (F : Nat → ByteArray) (e : Ending) (w' : World) : Prop :=
  ∃ raw f' rd wr, e = .returned (.int .i64 0) ∧ raw.size = 512 ∧ Vlt w' v i vh vs (N + 1) f' ∧ (∀ x, f x ≠ 0 → f' x = f x) ∧
    PlateS w' p bh bd 784 (putB (putB (putB F 1 z512) 2 z512) 0 raw) (fun _ => false) (.slice none 0 0) rd wr [] ∧ FrP (AS p bh bd vh vs) w w'
set_option maxHeartbeats 4000000 in
set_option maxRecDepth 100000 in
theorem format_c (w : World) (v i vh vs N : Nat) (f : Lit → Nat) (hv : Vlt w v i vh vs N f) (hN : N < 1000000) (p bh bd : Nat) (F : Nat → ByteArray) (rd wt : Int) (k : PlateS w p bh bd 784 F (fun _ => false) (.slice none 0 0) rd wt []) (vol next : Nat) (root : ByteArray) (h1 : vol < 281474976710656) (h2 : next < 281474976710656) (hr : root.size = 32) :
    Calls Tryz.prog 73 #[.pointer (some ⟨p, 0, none⟩), .pointer (some ⟨v, 0, none⟩), .agg #[.int .i64 (vol : Int), .int .i64 0, .int .i64 (next : Int), .int .i64 48, .string root]] w (FmtP w v i vh vs N f p bh bd F) := by
  have hu148 := Tryz.underlying148
  have hu193 := Tryz.underlying193
  have hu198 := Tryz.underlying198
  have hb0 := below_alloc (Below.refl w.heap.size w) (.cells #[.int .i64 (vol : Int), .int .i64 0, .int .i64 (next : Int), .int .i64 48, .string root] 148 (0, 0))
  have HB0 := Aside0.mk hb0
  have HS0 := Aside0.mk (heap_alloc_new w (.cells #[.int .i64 (vol : Int), .int .i64 0, .int .i64 (next : Int), .int .i64 48, .string root] 148 (0, 0)))
  have HP0 := Aside0.mk (k.below hb0)
  have HV0 := Aside0.mk (hv.below hb0)
  have HN := Aside0.mk (And.intro hN (And.intro h1 (And.intro h2 hr)))
  clear hb0 k hv hN h1 h2 hr
  go_enter Tryz.func73, Tryz.ntmps73
  go_wp2_with fail
  generalize w.alloc (.cells #[.int .i64 (vol : Int), .int .i64 0, .int .i64 (next : Int), .int .i64 48, .string root] 148 (0, 0)) = w1 at HB0 HS0 HP0 HV0 ⊢
  refine (jlive_c HP0.out).mono ?_
  rintro e w2 ⟨rfl, hb⟩
  obtain ⟨g5, hg5⟩ : ∃ g, g = w.heap.size := ⟨_, rfl⟩
  have HG := Aside0.mk hg5
  rw [← hg5] at HS0 ⊢
  clear hg5
  have HB2 := Aside0.mk (below_then HB0.out HB0.out.size hb)
  have HS2 := Aside0.mk (blk_below HS0.out hb)
  have HP2 := Aside0.mk (HP0.out.below hb)
  have HV2 := Aside0.mk (HV0.out.below hb)
  clear hb HB0 HS0 HP0 HV0
  have s0 : w2.cell? ⟨g5, 0, none⟩ = some (.int .i64 (vol : Int)) := (blk_cell HS2.out 0).trans rfl
  have s1 : w2.cell? ⟨g5, 1, none⟩ = some (.int .i64 0) := (blk_cell HS2.out 1).trans rfl
  have s2 : w2.cell? ⟨g5, 2, none⟩ = some (.int .i64 (next : Int)) := (blk_cell HS2.out 2).trans rfl
  have s3 : w2.cell? ⟨g5, 3, none⟩ = some (.int .i64 48) := (blk_cell HS2.out 3).trans rfl
  have s4 : w2.cell? ⟨g5, 4, none⟩ = some (.string root) := (blk_cell HS2.out 4).trans rfl
  go_wp2_with fail
  refine (jsuper_c w2 v i vh vs N f HV2.out HN.out.1 vol next 48 root HN.out.2.1 HN.out.2.2.1 (by decide) HN.out.2.2.2).mono ?_
  rintro e w3 ⟨raw, f1, rfl, hz, q1, q2, q3⟩
  clear s0 s1 s2 s3 s4
  have hb9 := below_alloc (Below.refl w3.heap.size w3) (.cells #[.int .i64 0, .string raw] 193 (0, 0))
  have HRZ := Aside0.mk (And.intro hz q2)
  have HV3 := Aside0.mk (q1.below hb9)
  have HP3 := Aside0.mk ((HP2.out.fr q3 (vs_cells HV2.out)).below hb9)
  have HW3 := Aside0.mk (heap_alloc_new w3 (.cells #[.int .i64 0, .string raw] 193 (0, 0)))
  have HF3 : Aside0 (FrP (AS p bh bd vh vs) w _) := ⟨((FrP.below (S := AS p bh bd vh vs) HB2.out).trans ((FrP.of q3).mono (fun _ h => .inr h))).trans (FrP.below hb9)⟩
  have HG9 := Aside0.mk (show w.heap.size ≤ w3.heap.size from Nat.le_trans HB2.out.size q3.size)
  clear hz q1 q2 q3 hb9 HB2 HS2 HP2 HV2
  go_upto_region 5 with fail
  generalize w3.heap.size = g9 at HW3 HG9 ⊢
  generalize w3.alloc (.cells #[.int .i64 0, .string raw] 193 (0, 0)) = w4 at HV3 HP3 HW3 HF3 ⊢
  go_wp2_with fail
  refine (Tryz.strings_Repeat ⟨#[0]⟩ 512 _ (by decide) (by decide)).mono ?_
  rintro e w5 ⟨rfl, hb⟩
  have hz5 : (⟨(Lib.repeatL [0] 512).toArray⟩ : ByteArray) = z512 := by unfold z512; congr 2
  rw [show (⟨#[0]⟩ : ByteArray).data.toList = [0] from rfl, hz5]
  clear hz5
  have hb6 := below_then hb hb.size (below_alloc (Below.refl w5.heap.size w5) (.cells #[.pointer (some ⟨p, 0, none⟩), .nilIface] 198 (0, 0)))
  have HV6 := Aside0.mk (HV3.out.below hb6)
  have HP6 := Aside0.mk (HP3.out.below hb6)
  have HW6 := Aside0.mk (blk_below HW3.out hb6)
  have HF6 := Aside0.mk (HF3.out.trans (FrP.below hb6))
  have HS6 := Aside0.mk (heap_alloc_new w5 (.cells #[.pointer (some ⟨p, 0, none⟩), .nilIface] 198 (0, 0)))
  have x0' : (w5.alloc (.cells #[.pointer (some ⟨p, 0, none⟩), .nilIface] 198 (0, 0))).cell? ⟨g9, 0, none⟩ = some (.int .i64 0) := (blk_cell HW6.out 0).trans rfl
  clear hb hb6 HV3 HP3 HW3 HF3
  go_wp2_with fail
  clear x0'
  generalize w5.heap.size = gs at HS6 ⊢
  generalize w5.alloc (.cells #[.pointer (some ⟨p, 0, none⟩), .nilIface] 198 (0, 0)) = w6 at HV6 HP6 HW6 HF6 HS6 ⊢
  refine (sput_c (PlateP.of HP6.out 0) (by decide) gs HS6.out 1 (by decide) (by decide) z512 z512_size).mono ?_
  rintro e w7 ⟨rfl, k7, h7⟩
  have HV7 := Aside0.mk (HV6.out.frp HP6.out h7)
  have HW7 := Aside0.mk (h7.cells HW6.out (HP6.out.notT HW6.out (by decide)) (by decide))
  have HS7 := Aside0.mk (h7.cells HS6.out (HP6.out.notT HS6.out (by decide)) (by decide))
  have HF7 := Aside0.mk (HF6.out.trans (h7.mono (fun _ h => .inl h)))
  have HP7 := Aside0.mk k7
  clear k7 h7 HV6 HW6 HS6 HF6 HP6
  go_wp2_with fail
  refine (sput_c HP7.out (by decide) gs HS7.out 2 (by decide) (by decide) z512 z512_size).mono ?_
  rintro e w8 ⟨rfl, k8, h8⟩
  have HV8 := Aside0.mk (HV7.out.frpP HP7.out h8)
  have HW8 := Aside0.mk (h8.cells HW7.out (HP7.out.notT HW7.out (by decide)) (by decide))
  have HS8 := Aside0.mk (h8.cells HS7.out (HP7.out.notT HS7.out (by decide)) (by decide))
  have HF8 := Aside0.mk (HF7.out.trans (h8.mono (fun _ h => .inl h)))
  have HP8 := Aside0.mk k8
  clear k8 h8 HV7 HW7 HS7 HF7 HP7
  go_wp2_with fail
  refine (sflush_c HP8.out (by decide) gs HS8.out).mono ?_
  rintro e w9 ⟨rfl, ⟨rd9, wr9, k9⟩, h9⟩
  have HV9 := Aside0.mk (HV8.out.frpP HP8.out h9)
  have HW9 := Aside0.mk (h9.cells HW8.out (HP8.out.notT HW8.out (by decide)) (by decide))
  have HS9 := Aside0.mk (h9.cells HS8.out (HP8.out.notT HS8.out (by decide)) (by decide))
  have HF9 := Aside0.mk (HF8.out.trans (h9.mono (fun _ h => .inl h)))
  have HP9 := Aside0.mk k9
  clear k9 h9 HV8 HW8 HS8 HF8 HP8
  have x0 : w9.cell? ⟨g9, 0, none⟩ = some (.int .i64 0) := (blk_cell HW9.out 0).trans rfl
  have x1 : w9.cell? ⟨g9, 1, none⟩ = some (.string raw) := (blk_cell HW9.out 1).trans rfl
  go_wp2_with fail
  clear x0 x1
  refine (sput_c (PlateP.of HP9.out 0) (by decide) gs HS9.out 0 (by decide) (by decide) raw HRZ.out.1).mono ?_
  rintro e w10 ⟨rfl, k7, h7⟩
  have HV10 := Aside0.mk (HV9.out.frp HP9.out h7)
  have HS10 := Aside0.mk (h7.cells HS9.out (HP9.out.notT HS9.out (by decide)) (by decide))
  have HF10 := Aside0.mk (HF9.out.trans (h7.mono (fun _ h => .inl h)))
  have HP10 := Aside0.mk k7
  clear k7 h7 HV9 HW9 HS9 HF9 HP9
  go_wp2_with fail
  refine (sflush_c HP10.out (by decide) gs HS10.out).mono ?_
  rintro e w11 ⟨rfl, ⟨rd11, wr11, k9⟩, h9⟩
  have HV11 := Aside0.mk (HV10.out.frpP HP10.out h9)
  have HS11 := Aside0.mk (h9.cells HS10.out (HP10.out.notT HS10.out (by decide)) (by decide))
  have HF11 := Aside0.mk (HF10.out.trans (h9.mono (fun _ h => .inl h)))
  have HP11 := Aside0.mk k9
  clear k9 h9 HV10 HS10 HF10 HP10
  have y1 : w11.cell? ⟨gs, 1, none⟩ = some .nilIface := (blk_cell HS11.out 1).trans rfl
  go_wp2_with fail
  refine (stopnil_c _).mono ?_
  rintro e w12 ⟨rfl, rfl⟩
  clear y1
  go_wp2_with fail
  go_ret
  exact ⟨raw, f1, rd11, wr11, rfl, HRZ.out.1, HV11.out, HRZ.out.2, HP11.out, HF11.out⟩
end Go.Proofs.YtgpknomegleidaaGreatDoor.T
namespace Go.Proofs.YtgpknomegleidaaGreatDoor.T
open Go.RowKit Go.Proofs.YtgpknomegleidaaGreatDoorW.PrintWords Go.Proofs.YtgpknomegleidaaGreatDoorW.PrintLast Go.Proofs.YtgpknomegleidaaGreatDoorW.PrintMore Go.Proofs.YtgpknomegleidaaGreatDoor.PAll
set_option linter.unusedSimpArgs false
set_option linter.unusedVariables false

set_option maxHeartbeats 1000000 in
set_option maxRecDepth 100000 in
theorem tnone_c (w : World) (gt : Nat) (A : Option Addr) (m c : Nat) (h1 : w.cell? ⟨gt, 1, none⟩ = some (.slice A (m + 1) c)) :
    Calls Tryz.prog 102 #[.pointer (some ⟨gt, 0, none⟩)] w fun e w' => e = .returned (.bool false) ∧ w' = w := by
  have e0 : (((m + 1 : Nat) : Int) == 0) = false := beq_eq_false_iff_ne.mpr (by omega)
  have e1 : ((m : Int) + 1 == 0) = false := beq_eq_false_iff_ne.mpr (by omega)
  go_enter Tryz.func102, Tryz.ntmps102
  go_wp2_with fail
  go_ret
  exact ⟨rfl, rfl⟩
theorem cells_fr {w w' : World} {v i bh bs N : Nat} {f : Lit → Nat} {ad : Addr} {q : Value} (hv : Vlt w v i bh bs N f) (hf : Fr (VS bh bs) w w') (h : w.cell? ad = some q) : w'.cell? ad = some q := by
  have hl := World.block_lt_of_cell? w ad h
  refine (World.cell?_of_block (hf.block _ hl ?_)).trans h
  have : ∃ cs t fr, w.heap[ad.block]? = some (.cells cs t fr) := by
    unfold World.cell? at h
    cases hq : w.heap[ad.block]? with
    | none => simp [hq] at h
    | some o =>
      cases o with
      | cells cs t fr => exact ⟨cs, t, fr, rfl⟩
      | _ => simp [hq] at h
  obtain ⟨cs, t, fr, hq⟩ := this
  exact vs_cells hv _ _ _ _ hq
set_option maxHeartbeats 4000000 in
set_option maxRecDepth 100000 in
theorem troot_c (w : World) (v i bh bs N : Nat) (f : Lit → Nat) (gt : Nat) (hv : Vlt w v i bh bs N f) (hN : N < 1000000) (ht : TreeS w gt v) :
    Calls Tryz.prog 72 #[.pointer (some ⟨gt, 0, none⟩)] w (HashP w v i bh bs N f) := by
  obtain ⟨base, vR, R, A, L, c, hb, hrows, hRn, hsh, hlast⟩ := ht.tree
  obtain ⟨AR, cR, ev⟩ := own_sliceN hrows
  subst ev
  obtain ⟨gR, rfl⟩ := own_some hrows (by omega)
  obtain ⟨A0, n0, c0, he0, hn0⟩ : ∃ A0 n0 c0, (R ++ [.slice A L c])[0]? = some (.slice A0 n0 c0) ∧ n0 ≤ 1000 := by
    cases R with
    | nil =>
      obtain ⟨A', n', c', h1, h2⟩ := hsh (.slice A L c) (by simp)
      exact ⟨A', n', c', by rw [← h1]; rfl, h2⟩
    | cons a r =>
      obtain ⟨A', n', c', h1, h2⟩ := hsh a (by simp)
      exact ⟨A', n', c', by rw [← h1]; rfl, h2⟩
  have x0 : w.cell? ⟨gt, 0, none⟩ = some (.pointer (some ⟨v, 0, none⟩)) := (blk_cell hb 0).trans rfl
  have x1 : w.cell? ⟨gt, 1, none⟩ = some (.slice (some ⟨gR, 0, none⟩) (R.length + 1) cR) := (blk_cell hb 1).trans rfl
  have y0 := hrows.cells (g := gR) rfl 0 _ he0
  have yl := hrows.cells (g := gR) rfl R.length (.slice A L c) (by simp)
  rw [add_plain] at y0 yl
  have HV := Aside0.mk hv
  have HN := Aside0.mk (And.intro hN hn0)
  have HLA := Aside0.mk hlast
  have HCL := Aside0.mk (And.intro x0 (And.intro x1 y0))
  have HNO := Aside0.mk (tnone_c w gt _ R.length cR x1)
  have HSL := Aside0.mk (show L ≤ 1000 by
    obtain ⟨A', n', c', h1, h2⟩ := hsh (.slice A L c) (by simp)
    injection h1 with _ h3 _
    omega)
  clear hb hrows hsh hlast he0 hv hN hn0
  obtain ⟨m, hm⟩ : ∃ m, m = R.length := ⟨_, rfl⟩
  rw [← hm] at x1 yl HCL hRn
  have w1_ : wrap64 ((m : Int) + 1 - 1) = (m : Int) := by rw [w64 (by omega) (by omega)]; omega
  have w2_ : wrap64 (m : Int) = (m : Int) := w64 (by omega) (by omega)
  have q1 : ((m : Int) < (m : Int) + 1) = True := eq_true (by omega)
  have q2 : (m < m + 1) = True := eq_true (by omega)
  have q3 : ((m : Int) ≤ (m : Int)) = True := eq_true (by omega)
  clear hm hRn y0 x0
  go_enter Tryz.func72, Tryz.ntmps72
  go_wp2_with fail
  refine HNO.out.mono ?_
  rintro e w1 ⟨rfl, rfl⟩
  go_wp2_with fail
  go_big_quiet (fail)
  have HV0 := Aside0.mk (HV.out.below (show Below w1.heap.size w1 (w1.drewN nq) by apply pw_below_drewN; exact Below.refl _ _))
  have HF0 := Aside0.mk (Fr.below (S := VS bh bs) (show Below w1.heap.size w1 (w1.drewN nq) by apply pw_below_drewN; exact Below.refl _ _))
  have HCL0 : Aside0 ((w1.drewN nq).cell? ⟨gt, 0, none⟩ = some (.pointer (some ⟨v, 0, none⟩)) ∧ (w1.drewN nq).cell? ⟨gt, 1, none⟩ = some (.slice (some ⟨gR, 0, none⟩) (m + 1) cR) ∧ (w1.drewN nq).cell? ⟨gR, 0, none⟩ = some (.slice A0 n0 c0)) := ⟨HCL.out⟩
  have HLA0 : Aside0 (0 < L → ∃ b s, A = some ⟨b, 0, none⟩ ∧ (w1.drewN nq).cell? ⟨b, 0, none⟩ = some (.string s) ∧ s.size = 32) := ⟨HLA.out⟩
  clear HV HCL HLA x1 yl
  have HV := HV0
  have HCL := HCL0
  have HLA := HLA0
  clear HV0 HCL0 HLA0 w1_ w2_
  generalize w1.drewN nq = w0 at HV HF0 HCL HLA ⊢
  by_cases hL0 : 0 < L
  · obtain ⟨b, top, rfl, hc, hz⟩ := HLA.out hL0
    have HTOP := Aside0.mk (show top.size ≤ 1000 by omega)
    have d0 : decide (0 < (L : Int)) = true := decide_eq_true (by omega)
    have d1 : decide (0 < L) = true := decide_eq_true hL0
    have q4 : (0 < L) = True := eq_true hL0
    have q5 : (0 < (L : Int)) = True := eq_true (by omega)
    clear hL0 hz
    go_wp2_with fail
    -- REGION7A
    have HVD := Aside0.mk (HV.out.below (below_drew (Below.refl w0.heap.size w0)))
    have HFD := Aside0.mk (HF0.out.trans (Fr.below (S := VS bh bs) (below_drew (Below.refl w0.heap.size w0))))
    refine start_ (n := 14) (S := fun w' => w'.cell? ⟨gt, 0, none⟩ = some (.pointer (some ⟨v, 0, none⟩)) ∧ w'.cell? ⟨gt, 1, none⟩ = some (.slice (some ⟨gR, 0, none⟩) (m + 1) cR) ∧ w'.cell? ⟨gR, 0, none⟩ = some (.slice A0 n0 c0)) (ds := []) #[false, false, false, false, false, false, false, false, false, false, false, false, false, false] (by kernel_rfl) rfl rfl HCL.out (fun hHeld => ?_)
    have SCL : ∀ w5 : World, Fr (VS bh bs) w0.drew w5 → (w0.drew.cell? ⟨gt, 0, none⟩ = some (.pointer (some ⟨v, 0, none⟩)) ∧ w0.drew.cell? ⟨gt, 1, none⟩ = some (.slice (some ⟨gR, 0, none⟩) (m + 1) cR) ∧ w0.drew.cell? ⟨gR, 0, none⟩ = some (.slice A0 n0 c0)) → (w5.cell? ⟨gt, 0, none⟩ = some (.pointer (some ⟨v, 0, none⟩)) ∧ w5.cell? ⟨gt, 1, none⟩ = some (.slice (some ⟨gR, 0, none⟩) (m + 1) cR) ∧ w5.cell? ⟨gR, 0, none⟩ = some (.slice A0 n0 c0)) := fun w5 hf h => ⟨cells_fr HVD.out hf h.1, cells_fr HVD.out hf h.2.1, cells_fr HVD.out hf h.2.2⟩
    generalize w0.drew = wd at HVD HFD SCL hHeld ⊢
    refine pure_ (i := 0) (N := some 25) (v := ?_) (a' := ?_) #[true, false, false, false, false, false, false, false, false, false, false, false, false, false] rfl rfl (by kernel_rfl) (fun _ _ _ h => h) (Or.inl ⟨by rfl, ?_⟩) ?_ ?_
    rotate_left; · intro w'; go_simp; with_reducible rfl
    rotate_left; · simp only [Act.put, List.setIfInBounds_toArray, List.set_cons_zero, List.set_cons_succ, i64_w, i32_w]; rfl
    refine pure_ (i := 1) (N := some 26) (v := ?_) (a' := ?_) #[true, true, false, false, false, false, false, false, false, false, false, false, false, false] rfl rfl (by kernel_rfl) (fun _ _ _ h => h) (Or.inl ⟨by rfl, ?_⟩) ?_ ?_
    rotate_left; · intro w'; go_simp; with_reducible rfl
    rotate_left; · simp only [Act.put, List.setIfInBounds_toArray, List.set_cons_zero, List.set_cons_succ, i64_w, i32_w]; rfl
    refine pure_ (i := 2) (N := some 27) (v := ?_) (a' := ?_) #[true, true, true, false, false, false, false, false, false, false, false, false, false, false] rfl rfl (by kernel_rfl) (fun _ _ _ h => h) (Or.inl ⟨by rfl, ?_⟩) ?_ ?_
    rotate_left; · intro w'; go_simp; with_reducible rfl
    rotate_left; · simp only [Act.put, List.setIfInBounds_toArray, List.set_cons_zero, List.set_cons_succ, i64_w, i32_w]; rfl
    refine take_ (i := 3) (N := some 28) (v := ?_) (a' := ?_) #[true, true, true, true, false, false, false, false, false, false, false, false, false, false] rfl rfl (by kernel_rfl) (fun _ _ _ h => h) (Or.inl ⟨by rfl, ?_⟩) hHeld ?_ ?_
    rotate_left; · rintro w' hS; obtain ⟨h1, h2, h3⟩ := hS; go_simp; with_reducible rfl
    rotate_left; · simp only [Act.put, List.setIfInBounds_toArray, List.set_cons_zero, List.set_cons_succ, i64_w, i32_w]; rfl
    refine pure_ (i := 4) (N := some 29) (v := ?_) (a' := ?_) #[true, true, true, true, true, false, false, false, false, false, false, false, false, false] rfl rfl (by kernel_rfl) (fun _ _ _ h => h) (Or.inl ⟨by rfl, ?_⟩) ?_ ?_
    rotate_left; · intro w'; go_simp; with_reducible rfl
    rotate_left; · simp only [Act.put, List.setIfInBounds_toArray, List.set_cons_zero, List.set_cons_succ, i64_w, i32_w]; rfl
    refine pure_ (i := 5) (N := some 30) (v := ?_) (a' := ?_) #[true, true, true, true, true, true, false, false, false, false, false, false, false, false] rfl rfl (by kernel_rfl) (fun _ _ _ h => h) (Or.inl ⟨by rfl, ?_⟩) ?_ ?_
    rotate_left; · intro w'; go_simp; with_reducible rfl
    rotate_left; · simp only [Act.put, List.setIfInBounds_toArray, List.set_cons_zero, List.set_cons_succ, i64_w, i32_w]; rfl
    refine pure_ (i := 6) (N := some 31) (v := ?_) (a' := ?_) #[true, true, true, true, true, true, true, false, false, false, false, false, false, false] rfl rfl (by kernel_rfl) (fun _ _ _ h => h) (Or.inl ⟨by rfl, ?_⟩) ?_ ?_
    rotate_left; · intro w'; go_simp; with_reducible rfl
    rotate_left; · simp only [Act.put, List.setIfInBounds_toArray, List.set_cons_zero, List.set_cons_succ, i64_w, i32_w]; rfl
    refine take_ (i := 7) (N := some 32) (v := ?_) (a' := ?_) #[true, true, true, true, true, true, true, true, false, false, false, false, false, false] rfl rfl (by kernel_rfl) (fun _ _ _ h => h) (Or.inl ⟨by rfl, ?_⟩) hHeld ?_ ?_
    rotate_left; · rintro w' hS; obtain ⟨h1, h2, h3⟩ := hS; go_simp; with_reducible rfl
    rotate_left; · simp only [Act.put, List.setIfInBounds_toArray, List.set_cons_zero, List.set_cons_succ, i64_w, i32_w]; rfl
    refine pure_ (i := 8) (N := some 33) (v := ?_) (a' := ?_) #[true, true, true, true, true, true, true, true, true, false, false, false, false, false] rfl rfl (by kernel_rfl) (fun _ _ _ h => h) (Or.inl ⟨by rfl, ?_⟩) ?_ ?_
    rotate_left; · intro w'; go_simp; with_reducible rfl
    rotate_left; · simp only [Act.put, List.setIfInBounds_toArray, List.set_cons_zero, List.set_cons_succ, i64_w, i32_w]; rfl
    refine take_ (i := 9) (N := some 34) (v := ?_) (a' := ?_) #[true, true, true, true, true, true, true, true, true, true, false, false, false, false] rfl rfl (by kernel_rfl) (fun _ _ _ h => h) (Or.inl ⟨by rfl, ?_⟩) hHeld ?_ ?_
    rotate_left; · rintro w' hS; obtain ⟨h1, h2, h3⟩ := hS; go_simp; with_reducible rfl
    rotate_left; · simp only [Act.put, List.setIfInBounds_toArray, List.set_cons_zero, List.set_cons_succ, i64_w, i32_w]; rfl
    refine pure_ (i := 10) (N := some 35) (v := ?_) (a' := ?_) #[true, true, true, true, true, true, true, true, true, true, true, false, false, false] rfl rfl (by kernel_rfl) (fun _ _ _ h => h) (Or.inl ⟨by rfl, ?_⟩) ?_ ?_
    rotate_left; · intro w'; go_simp; with_reducible rfl
    rotate_left; · simp only [Act.put, List.setIfInBounds_toArray, List.set_cons_zero, List.set_cons_succ, i64_w, i32_w]; rfl
    refine pure_ (i := 11) (N := some 36) (v := ?_) (a' := ?_) #[true, true, true, true, true, true, true, true, true, true, true, true, false, false] rfl rfl (by kernel_rfl) (fun _ _ _ h => h) (Or.inl ⟨by rfl, ?_⟩) ?_ ?_
    rotate_left; · intro w'; go_simp; with_reducible rfl
    rotate_left; · simp only [Act.put, List.setIfInBounds_toArray, List.set_cons_zero, List.set_cons_succ, i64_w, i32_w]; rfl
    refine one_ (i := 12) (N := some 37) #[true, true, true, true, true, true, true, true, true, true, true, true, true, false] rfl rfl (by kernel_rfl) (by decide) (fun K hK => ?_)
    refine goes_ Tryz.func103 (by kernel_rfl) rfl #[.pointer (some ⟨v, 0, none⟩), .int .i64 (n0 : Int), .string top] (by rfl) rfl rfl (by (try simp only [List.map_toArray, List.map_cons, List.map_nil]); first | done | rfl) ?_
    refine (root_c wd v i bh bs N f n0 top HVD.out HN.out.1 (by have := HN.out.2; omega) HTOP.out).mono ?_
    rintro e w5 ⟨t, rfl, h1, h2, h3⟩
    have HE := Aside0.mk (And.intro h1 (And.intro h2 (HFD.out.trans h3)))
    have hS5 := SCL w5 h3 hHeld
    refine ⟨_, rfl, ?_⟩
    refine hK.out _ _ hS5 (fun hHeld => ?_)
    clear hK K h1 h2 h3 hS5
    refine norm_ (a' := ?_) ?_ ?_
    rotate_left; · show Act.put _ (some 37) _ = _; simp only [Act.put, List.setIfInBounds_toArray, List.set_cons_zero, List.set_cons_succ, i64_w, i32_w]; rfl
    refine pure_ (i := 13) (N := some 2) (v := ?_) (a' := ?_) #[true, true, true, true, true, true, true, true, true, true, true, true, true, true] rfl rfl (by kernel_rfl) (fun _ _ _ h => h) (Or.inl ⟨by rfl, ?_⟩) ?_ ?_
    rotate_left; · intro w'; go_simp; with_reducible rfl
    rotate_left; · simp only [Act.put, List.setIfInBounds_toArray, List.set_cons_zero, List.set_cons_succ, i64_w, i32_w]; rfl
    refine done_ (by kernel_rfl) ?_
    clear SCL
    go_wp2_with fail
    go_ret
    exact ⟨t, rfl, HE.out⟩
    -- END7A
  · have h0 : L = 0 := by omega
    subst h0
    clear hL0
    go_wp2_with fail
    have HTOP := Aside0.mk (show (⟨#[]⟩ : ByteArray).size ≤ 1000 by decide)
    generalize (⟨#[]⟩ : ByteArray) = top at HTOP ⊢
    -- REGION7B
    have HVD := Aside0.mk (HV.out.below (below_drew (Below.refl w0.heap.size w0)))
    have HFD := Aside0.mk (HF0.out.trans (Fr.below (S := VS bh bs) (below_drew (Below.refl w0.heap.size w0))))
    refine start_ (n := 14) (S := fun w' => w'.cell? ⟨gt, 0, none⟩ = some (.pointer (some ⟨v, 0, none⟩)) ∧ w'.cell? ⟨gt, 1, none⟩ = some (.slice (some ⟨gR, 0, none⟩) (m + 1) cR) ∧ w'.cell? ⟨gR, 0, none⟩ = some (.slice A0 n0 c0)) (ds := []) #[false, false, false, false, false, false, false, false, false, false, false, false, false, false] (by kernel_rfl) rfl rfl HCL.out (fun hHeld => ?_)
    have SCL : ∀ w5 : World, Fr (VS bh bs) w0.drew w5 → (w0.drew.cell? ⟨gt, 0, none⟩ = some (.pointer (some ⟨v, 0, none⟩)) ∧ w0.drew.cell? ⟨gt, 1, none⟩ = some (.slice (some ⟨gR, 0, none⟩) (m + 1) cR) ∧ w0.drew.cell? ⟨gR, 0, none⟩ = some (.slice A0 n0 c0)) → (w5.cell? ⟨gt, 0, none⟩ = some (.pointer (some ⟨v, 0, none⟩)) ∧ w5.cell? ⟨gt, 1, none⟩ = some (.slice (some ⟨gR, 0, none⟩) (m + 1) cR) ∧ w5.cell? ⟨gR, 0, none⟩ = some (.slice A0 n0 c0)) := fun w5 hf h => ⟨cells_fr HVD.out hf h.1, cells_fr HVD.out hf h.2.1, cells_fr HVD.out hf h.2.2⟩
    generalize w0.drew = wd at HVD HFD SCL hHeld ⊢
    refine pure_ (i := 0) (N := some 25) (v := ?_) (a' := ?_) #[true, false, false, false, false, false, false, false, false, false, false, false, false, false] rfl rfl (by kernel_rfl) (fun _ _ _ h => h) (Or.inl ⟨by rfl, ?_⟩) ?_ ?_
    rotate_left; · intro w'; go_simp; with_reducible rfl
    rotate_left; · simp only [Act.put, List.setIfInBounds_toArray, List.set_cons_zero, List.set_cons_succ, i64_w, i32_w]; rfl
    refine pure_ (i := 1) (N := some 26) (v := ?_) (a' := ?_) #[true, true, false, false, false, false, false, false, false, false, false, false, false, false] rfl rfl (by kernel_rfl) (fun _ _ _ h => h) (Or.inl ⟨by rfl, ?_⟩) ?_ ?_
    rotate_left; · intro w'; go_simp; with_reducible rfl
    rotate_left; · simp only [Act.put, List.setIfInBounds_toArray, List.set_cons_zero, List.set_cons_succ, i64_w, i32_w]; rfl
    refine pure_ (i := 2) (N := some 27) (v := ?_) (a' := ?_) #[true, true, true, false, false, false, false, false, false, false, false, false, false, false] rfl rfl (by kernel_rfl) (fun _ _ _ h => h) (Or.inl ⟨by rfl, ?_⟩) ?_ ?_
    rotate_left; · intro w'; go_simp; with_reducible rfl
    rotate_left; · simp only [Act.put, List.setIfInBounds_toArray, List.set_cons_zero, List.set_cons_succ, i64_w, i32_w]; rfl
    refine take_ (i := 3) (N := some 28) (v := ?_) (a' := ?_) #[true, true, true, true, false, false, false, false, false, false, false, false, false, false] rfl rfl (by kernel_rfl) (fun _ _ _ h => h) (Or.inl ⟨by rfl, ?_⟩) hHeld ?_ ?_
    rotate_left; · rintro w' hS; obtain ⟨h1, h2, h3⟩ := hS; go_simp; with_reducible rfl
    rotate_left; · simp only [Act.put, List.setIfInBounds_toArray, List.set_cons_zero, List.set_cons_succ, i64_w, i32_w]; rfl
    refine pure_ (i := 4) (N := some 29) (v := ?_) (a' := ?_) #[true, true, true, true, true, false, false, false, false, false, false, false, false, false] rfl rfl (by kernel_rfl) (fun _ _ _ h => h) (Or.inl ⟨by rfl, ?_⟩) ?_ ?_
    rotate_left; · intro w'; go_simp; with_reducible rfl
    rotate_left; · simp only [Act.put, List.setIfInBounds_toArray, List.set_cons_zero, List.set_cons_succ, i64_w, i32_w]; rfl
    refine pure_ (i := 5) (N := some 30) (v := ?_) (a' := ?_) #[true, true, true, true, true, true, false, false, false, false, false, false, false, false] rfl rfl (by kernel_rfl) (fun _ _ _ h => h) (Or.inl ⟨by rfl, ?_⟩) ?_ ?_
    rotate_left; · intro w'; go_simp; with_reducible rfl
    rotate_left; · simp only [Act.put, List.setIfInBounds_toArray, List.set_cons_zero, List.set_cons_succ, i64_w, i32_w]; rfl
    refine pure_ (i := 6) (N := some 31) (v := ?_) (a' := ?_) #[true, true, true, true, true, true, true, false, false, false, false, false, false, false] rfl rfl (by kernel_rfl) (fun _ _ _ h => h) (Or.inl ⟨by rfl, ?_⟩) ?_ ?_
    rotate_left; · intro w'; go_simp; with_reducible rfl
    rotate_left; · simp only [Act.put, List.setIfInBounds_toArray, List.set_cons_zero, List.set_cons_succ, i64_w, i32_w]; rfl
    refine take_ (i := 7) (N := some 32) (v := ?_) (a' := ?_) #[true, true, true, true, true, true, true, true, false, false, false, false, false, false] rfl rfl (by kernel_rfl) (fun _ _ _ h => h) (Or.inl ⟨by rfl, ?_⟩) hHeld ?_ ?_
    rotate_left; · rintro w' hS; obtain ⟨h1, h2, h3⟩ := hS; go_simp; with_reducible rfl
    rotate_left; · simp only [Act.put, List.setIfInBounds_toArray, List.set_cons_zero, List.set_cons_succ, i64_w, i32_w]; rfl
    refine pure_ (i := 8) (N := some 33) (v := ?_) (a' := ?_) #[true, true, true, true, true, true, true, true, true, false, false, false, false, false] rfl rfl (by kernel_rfl) (fun _ _ _ h => h) (Or.inl ⟨by rfl, ?_⟩) ?_ ?_
    rotate_left; · intro w'; go_simp; with_reducible rfl
    rotate_left; · simp only [Act.put, List.setIfInBounds_toArray, List.set_cons_zero, List.set_cons_succ, i64_w, i32_w]; rfl
    refine take_ (i := 9) (N := some 34) (v := ?_) (a' := ?_) #[true, true, true, true, true, true, true, true, true, true, false, false, false, false] rfl rfl (by kernel_rfl) (fun _ _ _ h => h) (Or.inl ⟨by rfl, ?_⟩) hHeld ?_ ?_
    rotate_left; · rintro w' hS; obtain ⟨h1, h2, h3⟩ := hS; go_simp; with_reducible rfl
    rotate_left; · simp only [Act.put, List.setIfInBounds_toArray, List.set_cons_zero, List.set_cons_succ, i64_w, i32_w]; rfl
    refine pure_ (i := 10) (N := some 35) (v := ?_) (a' := ?_) #[true, true, true, true, true, true, true, true, true, true, true, false, false, false] rfl rfl (by kernel_rfl) (fun _ _ _ h => h) (Or.inl ⟨by rfl, ?_⟩) ?_ ?_
    rotate_left; · intro w'; go_simp; with_reducible rfl
    rotate_left; · simp only [Act.put, List.setIfInBounds_toArray, List.set_cons_zero, List.set_cons_succ, i64_w, i32_w]; rfl
    refine pure_ (i := 11) (N := some 36) (v := ?_) (a' := ?_) #[true, true, true, true, true, true, true, true, true, true, true, true, false, false] rfl rfl (by kernel_rfl) (fun _ _ _ h => h) (Or.inl ⟨by rfl, ?_⟩) ?_ ?_
    rotate_left; · intro w'; go_simp; with_reducible rfl
    rotate_left; · simp only [Act.put, List.setIfInBounds_toArray, List.set_cons_zero, List.set_cons_succ, i64_w, i32_w]; rfl
    refine one_ (i := 12) (N := some 37) #[true, true, true, true, true, true, true, true, true, true, true, true, true, false] rfl rfl (by kernel_rfl) (by decide) (fun K hK => ?_)
    refine goes_ Tryz.func103 (by kernel_rfl) rfl #[.pointer (some ⟨v, 0, none⟩), .int .i64 (n0 : Int), .string top] (by rfl) rfl rfl (by (try simp only [List.map_toArray, List.map_cons, List.map_nil]); first | done | rfl) ?_
    refine (root_c wd v i bh bs N f n0 top HVD.out HN.out.1 (by have := HN.out.2; omega) HTOP.out).mono ?_
    rintro e w5 ⟨t, rfl, h1, h2, h3⟩
    have HE := Aside0.mk (And.intro h1 (And.intro h2 (HFD.out.trans h3)))
    have hS5 := SCL w5 h3 hHeld
    refine ⟨_, rfl, ?_⟩
    refine hK.out _ _ hS5 (fun hHeld => ?_)
    clear hK K h1 h2 h3 hS5
    refine norm_ (a' := ?_) ?_ ?_
    rotate_left; · show Act.put _ (some 37) _ = _; simp only [Act.put, List.setIfInBounds_toArray, List.set_cons_zero, List.set_cons_succ, i64_w, i32_w]; rfl
    refine pure_ (i := 13) (N := some 2) (v := ?_) (a' := ?_) #[true, true, true, true, true, true, true, true, true, true, true, true, true, true] rfl rfl (by kernel_rfl) (fun _ _ _ h => h) (Or.inl ⟨by rfl, ?_⟩) ?_ ?_
    rotate_left; · intro w'; go_simp; with_reducible rfl
    rotate_left; · simp only [Act.put, List.setIfInBounds_toArray, List.set_cons_zero, List.set_cons_succ, i64_w, i32_w]; rfl
    refine done_ (by kernel_rfl) ?_
    clear SCL
    go_wp2_with fail
    go_ret
    exact ⟨t, rfl, HE.out⟩
    -- END7B
end Go.Proofs.YtgpknomegleidaaGreatDoor.T
namespace Go.Proofs.YtgpknomegleidaaGreatDoor.T
open Go.RowKit Go.Proofs.YtgpknomegleidaaGreatDoorW.PrintWords Go.Proofs.YtgpknomegleidaaGreatDoorW.PrintLast Go.Proofs.YtgpknomegleidaaGreatDoorW.PrintMore Go.Proofs.YtgpknomegleidaaGreatDoor.PAll
open Go.Proofs.YtgpknomegleidaaGreatDoor.G (Gr byts Has_in size_calls inB)
set_option linter.unusedSimpArgs false
set_option linter.unusedVariables false

def boolL (f : Nat → Bool) (n : Nat) : List Value := (List.range n).map fun a => Value.bool (f a)
theorem boolL_succ (f : Nat → Bool) (n : Nat) : boolL f (n + 1) = boolL f n ++ [.bool (f n)] := by simp [boolL, List.range_succ]
theorem boolL_at (f : Nat → Bool) (n j : Nat) (hj : j < n) : (boolL f n)[j]? = some (.bool (f j)) := by simp [boolL, hj]
def UsedP (w : World) (n : Nat) (f : Nat → Bool) (e : Ending) (w' : World) : Prop := ∃ v, e = .returned v ∧ w'.ownsRow w.heap.size 4 1 v n (boolL f n) ∧ Below w.heap.size w w'
set_option maxHeartbeats 4000000 in
set_option maxRecDepth 100000 in
theorem vused_c (w : World) (base g b n : Nat) (f : Nat → Bool) (h : Gr w base g b (n : Int) (byts f)) (hn : n ≤ 1024) :
    Calls Tryz.prog 23 #[.pointer (some ⟨g, 0, none⟩)] w (UsedP w n f) := by
  have HG := Aside0.mk h
  have HN := Aside0.mk hn
  clear h hn
  go_enter Tryz.func23, Tryz.ntmps23
  go_wp2_with fail
  refine (size_calls w base g b (n : Int) _ HG.out).mono ?_
  rintro e w1 ⟨rfl, rfl⟩
  go_wp2_with fail
  go_loopw [3, 7] (fun v i wq => ∃ j : Nat, j ≤ n ∧ i = .int .i64 j ∧ Aside0 (wq.ownsRow w.heap.size 4 1 v j (boolL f j)) ∧ Aside0 (Below w.heap.size w wq)) (fun _ i _ => n - (intOf i).toNat)
  case atStart => exact ⟨0, Nat.zero_le _, rfl, ⟨World.ownsRow_nil _ _ _ _⟩, ⟨Below.refl _ _⟩⟩
  case round =>
    obtain ⟨j, hj, rfl, HR, HB⟩ := hrel
    by_cases hlt : j < n
    · have HJ := Aside0.mk hlt
      have hh := HN.out
      have HJ2 := Aside0.mk (show j ≤ 100000 by omega)
      have w4_ : wrap64 ((j : Int) + 1) = (j : Int) + 1 := w64 (by omega) (by omega)
      have e0 : decide ((j : Int) < (n : Int)) = true := decide_eq_true (by omega)
      have e1 : decide (j < n) = true := decide_eq_true (by omega)
      clear hlt hh hj
      obtain ⟨Ar, cr, er⟩ := own_sliceN HR.out
      subst er
      go_wp2_with fail
      refine (Has_in wr base g b (n : Int) (j : Int) f (HG.out.below HB.out) (by have := HN.out; omega)).mono ?_
      rintro e w2 ⟨rfl, rfl⟩
      have hin : (inB (n : Int) (j : Int) && f (j : Int).toNat) = f j := by
        have := HJ.out
        rw [Int.toNat_natCast, inB, decide_eq_true (by omega), decide_eq_true (by omega)]
        rfl
      rw [hin]
      clear hin
      generalize hu : f j = u
      have HU := Aside0.mk hu
      clear hu
      go_wp2_with (at_builtin; go_loud (refine wpList_app1 rfl (.tmp 10) (.tmp 14) 49 rfl w.heap.size 4 (.bool false) 1 Tryz.underlying49 infoBool3 rfl (by decide) wr (.slice Ar j cr) (.bool u) j _ rfl rfl HR.out rfl HJ2.out HB.out.size ?_); intro v1 w4 ho hg; have HQ := Aside0.mk ho; have HBQ := Aside0.mk ((HB.out.trans ((below_alloc (Below.refl wr.heap.size wr) (.cells #[.bool u] 4 (0, 0))).mono HB.out.size)).trans (below_own (pw_own_below HR.out (below_alloc (Below.refl wr.heap.size wr) (.cells #[.bool u] 4 (0, 0)))) hg (Nat.le_refl _) (by rw [alloc_sz]; have := HB.out.size; omega))); obtain ⟨A1, c1, e1'⟩ := own_sliceN ho; subst e1'; clear ho hg)
      go_roundw
      case rel => exact ⟨j + 1, HJ.out, by rw [w4_]; rfl, ⟨by rw [boolL_succ, HU.out]; exact HQ.out⟩, HBQ⟩
      case measure =>
        have := HJ.out
        rw [w4_]
        simp only [intOf]
        omega
    · have : j = n := by omega
      subst this
      have e0 : decide ((j : Int) < (j : Int)) = false := decide_eq_false (by omega)
      clear hlt hj
      obtain ⟨Ar, cr, er⟩ := own_sliceN HR.out
      subst er
      go_wp2_with fail
      go_ret
      exact ⟨_, rfl, HR.out, HB.out⟩
end Go.Proofs.YtgpknomegleidaaGreatDoor.T
namespace Go.Proofs.YtgpknomegleidaaGreatDoor.T
open Go.RowKit Go.Proofs.YtgpknomegleidaaGreatDoorW.PrintWords Go.Proofs.YtgpknomegleidaaGreatDoorW.PrintLast Go.Proofs.YtgpknomegleidaaGreatDoorW.PrintMore Go.Proofs.YtgpknomegleidaaGreatDoor.PAll
set_option linter.unusedSimpArgs false
set_option linter.unusedVariables false

def readC (h : Hd) (body : ByteArray) : Array Value := #[.bool true, .int .i64 (h.vol : Int), .int .i64 (h.addr : Int), .int .i64 (h.kind : Int), .int .i64 (h.ino : Int), .int .i64 (h.gen : Int), .int .i64 (h.index : Int), .int .i64 (h.ver : Int), .int .i64 (h.salt : Int), .string body]
def readZ : Array Value := #[.bool false, .int .i64 0, .int .i64 0, .int .i64 0, .int .i64 0, .int .i64 0, .int .i64 0, .int .i64 0, .int .i64 0, .string ⟨#[]⟩]
theorem infoRead : (Tryz.prog.info? 73).map (·.size) = some 10 := by kernel_rfl
set_option maxHeartbeats 4000000 in
set_option maxRecDepth 100000 in
theorem told_c (w : World) (v i bh bs N : Nat) (f : Lit → Nat) (h : Hd) (body raw : ByteArray) (kl : Lit) (hv : Vlt w v i bh bs N f) (hf : h.fits) (hN : N < 1000000) (hz : body.size = 448) (hk : KeyIs h body kl) (h0 : f kl ≠ 0) (hle : f kl ≤ N) (hr : raw = rawA h body (f kl)) :
    Calls Tryz.prog 32 #[.pointer (some ⟨v, 0, none⟩), .string raw, .int .i64 (h.addr : Int)] w fun e w' => e = .returned (.agg (readC h body)) ∧ Below w.heap.size w w' := by
  have hu71 := Tryz.underlying71
  have hu73 := Tryz.underlying73
  have hb0 := below_alloc (Below.refl w.heap.size w) (.cells readZ 73 (0, 0))
  have HO := Aside0.mk (bOpen_c _ v i bh bs N f h body raw kl (hv.below hb0) hf hN hz hk h0 hle hr)
  have HB0 := Aside0.mk hb0
  have HZ0 := Aside0.mk (heap_alloc_new w (.cells readZ 73 (0, 0)))
  clear hv hf hN hz hk h0 hle hr hb0
  unfold readZ at HO HB0 HZ0
  go_enter Tryz.func32, Tryz.ntmps32
  go_wp2_with fail
  refine HO.out.mono ?_
  rintro e w2 ⟨rfl, hb⟩
  have HB2 := Aside0.mk (below_then HB0.out HB0.out.size hb)
  have HZ2 := Aside0.mk (blk_below HZ0.out hb)
  clear hb HB0 HZ0 HO
  obtain ⟨g6, hg6⟩ : ∃ g, g = w.heap.size := ⟨_, rfl⟩
  have HG := Aside0.mk (Nat.le_of_eq hg6.symm)
  rw [← hg6] at HZ2 ⊢
  clear hg6
  rw [headV_C]
  unfold headC
  have ha := below_alloc (Below.refl w2.heap.size w2) (.cells (headC h) 71 (0, 0))
  have HB3 := Aside0.mk (below_then HB2.out HB2.out.size ha)
  have HZ3 := Aside0.mk (blk_below HZ2.out ha)
  clear ha HZ2 HB2
  unfold headC at HB3 HZ3
  go_wp2_with ((with_reducible refine gate_store (t := 73) rfl ?_); refine store_at rfl _ _ _ rfl g6 0 73 _ (readC h body).toList infoRead HZ3.out (Nat.le_of_ble_eq_true rfl) (by first | (go_simp; done) | (go_simp; rfl)) (by first | (go_simp; done) | (go_simp; rfl)) (by intro u hu; simp only [readC, List.mem_cons, List.not_mem_nil, or_false] at hu; rcases hu with rfl | rfl | rfl | rfl | rfl | rfl | rfl | rfl | rfl | rfl <;> rfl) ?_; intro ws hs hgr; have HW := Aside0.mk hs; have HBW := Aside0.mk (HB3.out.grown hgr HB3.out.size (fun k hk => by injection hk with hk; have := HG.out; omega)); clear hs hgr)
  (try simp only [Exit.inBlock, Exit.then])
  refine bodyPost_ret (results_c rfl _ _ g6 73 (readC h body) (0, 0) _ rfl HW.out hu73 rfl infoRead) rfl ?_
  exact ⟨rfl, HBW.out⟩
end Go.Proofs.YtgpknomegleidaaGreatDoor.T
namespace Go.Proofs.YtgpknomegleidaaGreatDoor.T
open Go.RowKit Go.Proofs.YtgpknomegleidaaGreatDoorW.PrintWords Go.Proofs.YtgpknomegleidaaGreatDoorW.PrintLast Go.Proofs.YtgpknomegleidaaGreatDoorW.PrintMore Go.Proofs.YtgpknomegleidaaGreatDoor.PAll
set_option linter.unusedSimpArgs false
set_option linter.unusedVariables false

set_option maxHeartbeats 4000000 in
set_option maxRecDepth 100000 in
theorem look_none (w : World) (v : Value) (a : Nat) :
    Calls Tryz.prog 21 #[v, .agg #[.slice none 0 0, .slice none 0 0], .int .i64 (a : Int)] w fun e w' => e = .returned (.agg readZ) ∧ Below w.heap.size w w' := by
  have hu37 := Tryz.underlying37
  have hu73 := Tryz.underlying73
  have hb0 := below_alloc (Below.refl w.heap.size w) (.cells #[.slice none 0 0, .slice none 0 0] 37 (0, 0))
  have hb1 := below_alloc hb0 (.cells readZ 73 (0, 0))
  have hz := heap_alloc_new (w.alloc (.cells #[.slice none 0 0, .slice none 0 0] 37 (0, 0))) (.cells readZ 73 (0, 0))
  rw [alloc_sz] at hz
  have HB0 := Aside0.mk hb1
  have HZ0 := Aside0.mk hz
  clear hb0 hb1 hz
  unfold readZ at HB0 HZ0
  go_enter Tryz.func21, Tryz.ntmps21
  go_wp2_with fail
  refine (at_none _ a).mono ?_
  rintro e w2 ⟨rfl, hb⟩
  have HB2 := Aside0.mk (below_then HB0.out HB0.out.size hb)
  have HZ2 := Aside0.mk (blk_below HZ0.out hb)
  clear hb HB0 HZ0
  obtain ⟨g6, hg6⟩ : ∃ g, g = w.heap.size + 1 := ⟨_, rfl⟩
  have HG := Aside0.mk (show w.heap.size ≤ g6 by omega)
  rw [← hg6] at HZ2 ⊢
  clear hg6
  go_wp2_with ((with_reducible refine gate_store (t := 73) rfl ?_); refine store_at rfl _ _ _ rfl g6 0 73 _ readZ.toList infoRead HZ2.out (Nat.le_of_ble_eq_true rfl) (by first | (go_simp; done) | (go_simp; rfl)) (by first | (go_simp; done) | (go_simp; rfl)) (by intro u hu; simp only [readZ, List.mem_cons, List.not_mem_nil, or_false] at hu; rcases hu with rfl | rfl | rfl | rfl | rfl | rfl | rfl | rfl | rfl | rfl <;> rfl) ?_; intro ws hs hgr; have HW := Aside0.mk hs; have HBW := Aside0.mk (HB2.out.grown hgr HB2.out.size (fun k hk => by injection hk with hk; have := HG.out; omega)); clear hs hgr)
  (try simp only [Exit.inBlock, Exit.then])
  refine bodyPost_ret (results_c rfl _ _ g6 73 readZ (0, 0) _ rfl HW.out hu73 rfl infoRead) rfl ?_
  exact ⟨rfl, HBW.out⟩
set_option maxHeartbeats 4000000 in
set_option maxRecDepth 100000 in
theorem look_c (w : World) (v i bh bs N : Nat) (f : Lit → Nat) (h : Hd) (body : ByteArray) (kl : Lit) (hv : Vlt w v i bh bs N f) (hf : h.fits) (hN : N < 1000000) (hz : body.size = 448) (hk : KeyIs h body kl) (h0 : f kl ≠ 0) (hle : f kl ≤ N)
    (base M : Nat) (vr vm : Value) (raw : Nat → ByteArray) (msk : Nat → Int) (k : ImgS w base vr vm M raw msk) (ha : h.addr < M) (hr : raw h.addr = rawA h body (f kl)) (hm : msk h.addr = 0) :
    Calls Tryz.prog 21 #[.pointer (some ⟨v, 0, none⟩), .agg #[vr, vm], .int .i64 (h.addr : Int)] w fun e w' => e = .returned (.agg (readC h body)) ∧ Below w.heap.size w w' := by
  have hu37 := Tryz.underlying37
  have hu73 := Tryz.underlying73
  have hrz : (raw h.addr).size = 512 := by rw [hr]; exact rawA_size h body _ hz
  obtain ⟨Ar, cr, er⟩ := own_sliceN k.raws
  subst er
  obtain ⟨Am, cm, em⟩ := own_sliceN k.msks
  subst em
  have hb0 := below_alloc (Below.refl w.heap.size w) (.cells #[.slice Ar M cr, .slice Am M cm] 37 (0, 0))
  have hb1 := below_alloc hb0 (.cells readZ 73 (0, 0))
  have hz6 := heap_alloc_new (w.alloc (.cells #[.slice Ar M cr, .slice Am M cm] 37 (0, 0))) (.cells readZ 73 (0, 0))
  rw [alloc_sz] at hz6
  have HB0 := Aside0.mk hb1
  have HZ0 := Aside0.mk hz6
  have HA := Aside0.mk (at_c _ base M _ _ raw msk (k.below hb1) h.addr ha hrz)
  have HV := Aside0.mk (hv.below hb1)
  have HT := Aside0.mk (fun W (hW : Vlt W v i bh bs N f) => told_c W v i bh bs N f h body (raw h.addr) kl hW hf hN hz hk h0 hle hr)
  rw [hm] at HA
  clear hb0 hb1 hz6 k hv hrz hr hm
  unfold readZ at HB0 HZ0 HA HV
  go_enter Tryz.func21, Tryz.ntmps21
  go_wp2_with fail
  refine HA.out.mono ?_
  rintro e w2 ⟨rfl, hb⟩
  have HB2 := Aside0.mk (below_then HB0.out HB0.out.size hb)
  have HZ2 := Aside0.mk (blk_below HZ0.out hb)
  have HV2 := Aside0.mk (HV.out.below hb)
  clear hb HB0 HZ0 HV HA
  obtain ⟨g6, hg6⟩ : ∃ g, g = w.heap.size + 1 := ⟨_, rfl⟩
  have HG := Aside0.mk (show w.heap.size ≤ g6 by omega)
  rw [← hg6] at HZ2 ⊢
  clear hg6
  go_wp2_with fail
  refine (HT.out _ HV2.out).mono ?_
  rintro e w3 ⟨rfl, hb⟩
  have HB3 := Aside0.mk (below_then HB2.out HB2.out.size hb)
  have HZ3 := Aside0.mk (blk_below HZ2.out hb)
  clear hb HB2 HZ2 HV2
  unfold readC
  go_wp2_with ((with_reducible refine gate_store (t := 73) rfl ?_); refine store_at rfl _ _ _ rfl g6 0 73 _ (readC h body).toList infoRead HZ3.out (Nat.le_of_ble_eq_true rfl) (by first | (go_simp; done) | (go_simp; rfl)) (by first | (go_simp; done) | (go_simp; rfl)) (by intro u hu; simp only [readC, List.mem_cons, List.not_mem_nil, or_false] at hu; rcases hu with rfl | rfl | rfl | rfl | rfl | rfl | rfl | rfl | rfl | rfl <;> rfl) ?_; intro ws hs hgr; have HW := Aside0.mk hs; have HBW := Aside0.mk (HB3.out.grown hgr HB3.out.size (fun k hk => by injection hk with hk; have := HG.out; omega)); clear hs hgr)
  (try simp only [Exit.inBlock, Exit.then])
  refine bodyPost_ret (results_c rfl _ _ g6 73 (readC h body) (0, 0) _ rfl HW.out hu73 rfl infoRead) rfl ?_
  exact ⟨rfl, HBW.out⟩
end Go.Proofs.YtgpknomegleidaaGreatDoor.T
namespace Go.Proofs.YtgpknomegleidaaGreatDoor.T
open Go.RowKit Go.Proofs.YtgpknomegleidaaGreatDoorW.PrintWords Go.Proofs.YtgpknomegleidaaGreatDoorW.PrintLast Go.Proofs.YtgpknomegleidaaGreatDoorW.PrintMore Go.Proofs.YtgpknomegleidaaGreatDoor.PAll
open Go.Proofs.YtgpknomegleidaaGreatDoor.G (Gr byts Has_in size_calls inB bitsOf of_ok OfR)
set_option linter.unusedSimpArgs false
set_option linter.unusedVariables false

def ScUsedP (w : World) (n : Nat) (u : Nat → Bool) (e : Ending) (w' : World) : Prop := ∃ b, e = .returned (.tuple #[.slice (some ⟨b, 0, none⟩) n n, .int .i64 0]) ∧ w'.heap[b]? = some (.cells (dumbC n u) 4 (0, 0)) ∧ w.heap.size ≤ b ∧ Below w.heap.size w w'
def fromTo (k : Nat) : Nat → Bool := fun a => decide (27 ≤ a ∧ a < k)
theorem dumbC_congr (n : Nat) (f g : Nat → Bool) (h : ∀ a, a < n → f a = g a) : dumbC n f = dumbC n g := by
  unfold dumbC
  congr 1
  apply List.map_congr_left
  intro a ha
  rw [h a (List.mem_range.1 ha)]
def layC (n : Int) (c6 c7 c8 c9 c10 c11 c12 c13 c14 c15 : Int) : Array Value := #[.int .i64 n, .int .i64 2, .int .i64 3, .int .i64 27, .int .i64 28, .int .i64 29, .int .i64 c6, .int .i64 c7, .int .i64 c8, .int .i64 c9, .int .i64 c10, .int .i64 c11, .int .i64 c12, .int .i64 c13, .int .i64 c14, .int .i64 c15]
theorem layC_ex (n : Nat) : ∃ c6 c7 c8 c9 c10 c11 c12 c13 c14 c15, numsA (layL n) = layC (n : Int) c6 c7 c8 c9 c10 c11 c12 c13 c14 c15 := ⟨_, _, _, _, _, _, _, _, _, _, rfl⟩
set_option maxHeartbeats 4000000 in
set_option maxRecDepth 100000 in
theorem used_g (w : World) (v : Value) (n : Nat) (h1 : 48 ≤ n) (h2 : n ≤ 1024) (Ar Am : Option Addr) (lr cr lm cm : Nat) (RC : Array Value) (u : Nat → Bool)
    (hlk : ∀ W, Below w.heap.size w W → Calls Tryz.prog 21 #[v, .agg #[.slice Ar lr cr, .slice Am lm cm], .int .i64 27] W fun e w' => e = .returned (.agg RC) ∧ Below W.heap.size W w')
    (hcs : RC = readZ ∧ u = fromTo n ∨ ∃ h body f, RC = readC h body ∧ h.kind = 3 ∧ body.size = 448 ∧ (∀ i, n ≤ i → i < 3584 → bitsOf body i = false) ∧ byts (bitsOf body) = byts f ∧ u = fun a => fromTo n a && f a) :
    Calls Tryz.prog 14 #[v, .int .i64 (n : Int), .agg #[.slice Ar lr cr, .slice Am lm cm]] w (ScUsedP w n u) := by
  have hu37 := Tryz.underlying37
  have hu26 := Tryz.underlying26
  have hu73 := Tryz.underlying73
  have HN := Aside0.mk (And.intro h1 h2)
  have HLK := Aside0.mk hlk
  have HCS := Aside0.mk hcs
  have HB0 := Aside0.mk (below_alloc (Below.refl w.heap.size w) (.cells #[.slice Ar lr cr, .slice Am lm cm] 37 (0, 0)))
  have HI0 := Aside0.mk (heap_alloc_new w (.cells #[.slice Ar lr cr, .slice Am lm cm] 37 (0, 0)))
  clear h1 h2 hlk hcs
  go_enter Tryz.func14, Tryz.ntmps14
  go_wp2_with fail
  refine (layout_c (n : Int) _).mono ?_
  rintro e w2 ⟨rfl, hb⟩
  rw [layR_ok HN.out.1 HN.out.2]
  obtain ⟨c6, c7, c8, c9, c10, c11, c12, c13, c14, c15, hlc⟩ := layC_ex n
  rw [hlc]
  clear hlc
  have HB2 := Aside0.mk (below_then HB0.out HB0.out.size hb)
  have HI2 := Aside0.mk (blk_below HI0.out hb)
  clear hb HB0 HI0
  obtain ⟨g5, hg5⟩ : ∃ g, g = w.heap.size := ⟨_, rfl⟩
  have HG5 := Aside0.mk (Nat.le_of_eq hg5.symm)
  rw [← hg5] at HI2 ⊢
  clear hg5
  have hb8 := below_alloc (Below.refl w2.heap.size w2) (.cells (layC (n : Int) c6 c7 c8 c9 c10 c11 c12 c13 c14 c15) 26 (0, 0))
  have HB3 := Aside0.mk (below_then HB2.out HB2.out.size hb8)
  have HI3 := Aside0.mk (blk_below HI2.out hb8)
  have HL3 := Aside0.mk (heap_alloc_new w2 (.cells (layC (n : Int) c6 c7 c8 c9 c10 c11 c12 c13 c14 c15) 26 (0, 0)))
  clear hb8 HB2 HI2
  unfold layC at HB3 HI3 HL3 ⊢
  go_upto_region 4 with fail
  generalize w2.alloc (.cells #[.int .i64 (n : Int), .int .i64 2, .int .i64 3, .int .i64 27, .int .i64 28, .int .i64 29, .int .i64 c6, .int .i64 c7, .int .i64 c8, .int .i64 c9, .int .i64 c10, .int .i64 c11, .int .i64 c12, .int .i64 c13, .int .i64 c14, .int .i64 c15] 26 (0, 0)) = w3 at HB3 HI3 HL3 ⊢
  generalize w2.heap.size = g8 at HL3 ⊢
  obtain ⟨w4, hr, hm, hb⟩ := made_d w3 n (by have := HN.out.2; omega)
  have HB4 := Aside0.mk (below_then HB3.out HB3.out.size hb)
  have HI4 := Aside0.mk (blk_below HI3.out hb)
  have HL4 := Aside0.mk (blk_below HL3.out hb)
  have HD4 := Aside0.mk hm
  have HG10 := Aside0.mk HB3.out.size
  clear hb hm HB3 HI3 HL3
  have x3 : w4.cell? ⟨g8, 3, none⟩ = some (.int .i64 27) := (blk_cell HL4.out 3).trans rfl
  go_wp2_with fail
  clear hr x3
  generalize w3.heap.size = bo at HD4 HG10 ⊢
  go_loopw [11] (fun i wq => ∃ j : Nat, 27 ≤ j ∧ j ≤ n ∧ i = .int .i64 j ∧ Aside0 (wq.heap[g5]? = some (.cells #[.slice Ar lr cr, .slice Am lm cm] 37 (0, 0))) ∧ Aside0 (wq.heap[g8]? = some (.cells #[.int .i64 (n : Int), .int .i64 2, .int .i64 3, .int .i64 27, .int .i64 28, .int .i64 29, .int .i64 c6, .int .i64 c7, .int .i64 c8, .int .i64 c9, .int .i64 c10, .int .i64 c11, .int .i64 c12, .int .i64 c13, .int .i64 c14, .int .i64 c15] 26 (0, 0))) ∧ Aside0 (wq.heap[bo]? = some (.cells (dumbC n (fromTo j)) 4 (0, 0))) ∧ Aside0 (Below w.heap.size w wq)) (fun i _ => n - (intOf i).toNat)
  case atStart => exact ⟨27, Nat.le_refl _, by have := HN.out.1; omega, rfl, HI4, HL4, ⟨by rw [HD4.out, dumbC_congr n (fromTo 27) (fun _ => false) (fun a _ => decide_eq_false (by omega))]⟩, HB4⟩
  case round =>
    clear HI4 HL4 HD4 HB4
    obtain ⟨j, hj0, hj, rfl, HI, HL, HD, HB⟩ := hrel
    by_cases hlt : j < n
    · have HJ := Aside0.mk (And.intro hj0 hlt)
      have hh := HN.out
      have w4_ : wrap64 ((j : Int) + 1) = (j : Int) + 1 := w64 (by omega) (by omega)
      have e0 : decide ((j : Int) < (n : Int)) = true := decide_eq_true (by omega)
      have e1 : decide (j < n) = true := decide_eq_true (by omega)
      have q1 : ((j : Int) < (n : Int)) = True := eq_true (by omega)
      have q2 : (j < n) = True := eq_true hlt
      have fd := blk_frozen HD.out j
      have xd : wr.cell? ⟨bo, j, none⟩ = some (.bool (fromTo j j)) := (blk_cell HD.out j).trans (dumbC_at n _ j hlt)
      clear hlt hh hj hj0
      go_wp2_with fail
      have hg := Lib.grownBy_setCell wr bo j (.bool true)
      have HD2 := Aside0.mk (blk_put HD.out j _ (dumbC_set n (fromTo j) j true))
      have HI2 := Aside0.mk (blk_grown HI.out hg (by intro e; injection e with e; exact blk_ne_type HI.out HD.out (by decide) e))
      have HL2 := Aside0.mk (blk_grown HL.out hg (by intro e; injection e with e; exact blk_ne_type HL.out HD.out (by decide) e))
      have HB2 := Aside0.mk (HB.out.setCell (p := ⟨bo, j, none⟩) HG10.out (.bool true))
      clear hg HD HI HL HB fd xd
      generalize wr.setCell ⟨bo, j, none⟩ (.bool true) = w5 at HD2 HI2 HL2 HB2 ⊢
      go_roundw
      case rel => exact ⟨j + 1, by have := HJ.out.1; omega, HJ.out.2, by rw [w4_]; rfl, HI2, HL2, ⟨by
        rw [HD2.out, dumbC_congr n (fromTo (j + 1)) (fun i => if i = j then true else fromTo j i) (fun a _ => ?_)]
        unfold fromTo
        have := HJ.out.1
        by_cases h : a = j
        · rw [if_pos h, decide_eq_true (by omega)]
        · rw [if_neg h]
          by_cases h2 : 27 ≤ a ∧ a < j
          · rw [decide_eq_true h2, decide_eq_true (by omega)]
          · rw [decide_eq_false h2, decide_eq_false (by omega)]⟩, HB2⟩
      case measure =>
        have := HJ.out
        rw [w4_]
        simp only [intOf]
        omega
    · have : j = n := by omega
      subst this
      have e0 : decide ((j : Int) < (j : Int)) = false := decide_eq_false (by omega)
      have y0 : wr.cell? ⟨g5, 0, none⟩ = some (.slice Ar lr cr) := (blk_cell HI.out 0).trans rfl
      have y1 : wr.cell? ⟨g5, 1, none⟩ = some (.slice Am lm cm) := (blk_cell HI.out 1).trans rfl
      have x3 : wr.cell? ⟨g8, 3, none⟩ = some (.int .i64 27) := (blk_cell HL.out 3).trans rfl
      clear hlt hj hj0
      go_wp2_with fail
      refine (HLK.out _ HB.out).mono ?_
      rintro e w6 ⟨rfl, hb⟩
      have HD6 := Aside0.mk (blk_below HD.out hb)
      have HB6 := Aside0.mk (below_then HB.out HB.out.size hb)
      clear hb HD HB HI HL x3 y0 y1
      rcases HCS.out with ⟨rfl, rfl⟩ | ⟨h, body, f, rfl, hk3, hbz, hbits, hbyts, rfl⟩
      · unfold readZ
        go_wp2_with fail
        go_ret2
        exact ⟨bo, rfl, blk_alloc HD6.out _, HG10.out, below_alloc HB6.out _⟩
      · unfold readC
        rw [show (h.kind : Int) = 3 by omega]
        have HB7 := Aside0.mk (below_alloc HB6.out (.cells #[.bool true, .int .i64 (h.vol : Int), .int .i64 (h.addr : Int), .int .i64 3, .int .i64 (h.ino : Int), .int .i64 (h.gen : Int), .int .i64 (h.index : Int), .int .i64 (h.ver : Int), .int .i64 (h.salt : Int), .string body] 73 (0, 0)))
        have HD7 := Aside0.mk (blk_alloc HD6.out (.cells #[.bool true, .int .i64 (h.vol : Int), .int .i64 (h.addr : Int), .int .i64 3, .int .i64 (h.ino : Int), .int .i64 (h.gen : Int), .int .i64 (h.index : Int), .int .i64 (h.ver : Int), .int .i64 (h.salt : Int), .string body] 73 (0, 0)))
        have HOF := Aside0.mk (And.intro hbz (And.intro hbits hbyts))
        clear hk3 hbz hbits hbyts HB6 HD6
        go_wp2_with fail
        refine (of_ok _ body (j : Int) (by omega) (by have := HN.out; omega) HOF.out.1).mono ?_
        rintro e w7 ⟨hb, ⟨⟨q, hq1, hq2, hq3⟩, _⟩ | ⟨_, g, b, rfl, hgr⟩⟩
        · exfalso
          have := HOF.out.2.1 q (by simpa using hq1) hq2
          rw [this] at hq3
          cases hq3
        rw [HOF.out.2.2] at hgr
        have HGR := Aside0.mk hgr
        have HB8 := Aside0.mk (below_then HB7.out HB7.out.size hb)
        have HD8 := Aside0.mk (blk_below HD7.out hb)
        clear hb hgr HB7 HD7
        go_wp2_with fail
        refine (vused_c w7 _ g b j f HGR.out HN.out.2).mono ?_
        rintro e w8 ⟨rv, rfl, hrow, hb⟩
        obtain ⟨A2, k2, e2⟩ := own_sliceN hrow
        subst e2
        obtain ⟨g2, rfl⟩ := own_some hrow (by have := HN.out.1; omega)
        have HR9 := Aside0.mk hrow
        have HB9 := Aside0.mk (below_then HB8.out HB8.out.size hb)
        have HD9 := Aside0.mk (blk_below HD8.out hb)
        have HNE : Aside0 (g2 ≠ bo ∧ bo < w7.heap.size) := ⟨by
          have h1 := blk_lt HD8.out
          rcases hrow.2 with ⟨e, _⟩ | ⟨q, cap, cur, e, e2, _⟩
          · cases e
          · injection e with e _ _
            injection e with e
            injection e with e
            exact ⟨by omega, h1⟩⟩
        clear hb hrow HB8 HD8
        go_wp2_with fail
        go_loopw [64] (fun i wq => ∃ k : Nat, k ≤ j ∧ i = .int .i64 k ∧ Aside0 (wq.ownsRow w7.heap.size 4 1 (.slice (some ⟨g2, 0, none⟩) j k2) j (boolL f j)) ∧ Aside0 (wq.heap[bo]? = some (.cells (dumbC j (fun a => fromTo j a && (decide (k ≤ a) || f a))) 4 (0, 0))) ∧ Aside0 (Below w.heap.size w wq)) (fun i _ => j - (intOf i).toNat)
        case atStart => exact ⟨0, Nat.zero_le _, rfl, HR9, ⟨by
          rw [HD9.out, dumbC_congr j (fun a => fromTo j a && (decide (0 ≤ a) || f a)) (fromTo j) (fun a _ => by simp)]⟩, HB9⟩
        case round =>
          clear HR9 HD9 HB9
          obtain ⟨k, hk, rfl, HR, HD, HB⟩ := hrel
          by_cases hlt : k < j
          · have HJ := Aside0.mk hlt
            have hh := HN.out
            have w4_ : wrap64 ((k : Int) + 1) = (k : Int) + 1 := w64 (by omega) (by omega)
            have e0' : decide ((k : Int) < (j : Int)) = true := decide_eq_true (by omega)
            have e1' : decide (k < j) = true := decide_eq_true (by omega)
            have q1 : ((k : Int) < (j : Int)) = True := eq_true (by omega)
            have q2 : (k < j) = True := eq_true hlt
            have fd := blk_frozen HD.out k
            have xd : wr.cell? ⟨bo, k, none⟩ = some (.bool (fromTo j k)) := (blk_cell HD.out k).trans (by rw [dumbC_at j _ k hlt, decide_eq_true (Nat.le_refl k), Bool.true_or, Bool.and_true])
            have xr := HR.out.cells (g := g2) rfl _ _ (boolL_at f j k hlt)
            rw [add_plain] at xr
            clear hlt hh hk
            have fin : ∀ v : Bool, v = (fromTo j k && f k) → dumbC j (fun i => if i = k then v else fromTo j i && (decide (k ≤ i) || f i)) = dumbC j (fun a => fromTo j a && (decide (k + 1 ≤ a) || f a)) := fun v hv => dumbC_congr j _ _ (fun a _ => by
              by_cases h : a = k
              · subst h
                rw [if_pos rfl, hv, decide_eq_false (by omega), Bool.false_or]
              · rw [if_neg h]
                by_cases h2 : k ≤ a
                · rw [decide_eq_true h2, decide_eq_true (by omega)]
                · rw [decide_eq_false h2, decide_eq_false (by omega)])
            have stp : ∀ v : Bool, v = (fromTo j k && f k) → (wr.setCell ⟨bo, k, none⟩ (.bool v)).heap[bo]? = some (.cells (dumbC j (fun a => fromTo j a && (decide (k + 1 ≤ a) || f a))) 4 (0, 0)) ∧ (wr.setCell ⟨bo, k, none⟩ (.bool v)).ownsRow w7.heap.size 4 1 (.slice (some ⟨g2, 0, none⟩) j k2) j (boolL f j) ∧ Below w.heap.size w (wr.setCell ⟨bo, k, none⟩ (.bool v)) := fun v hv => by
              refine ⟨by rw [blk_put HD.out k _ (dumbC_set j _ k v), fin v hv], HR.out.kept (Lib.grownBy_setCell wr bo k (.bool v)) (.inr ?_), HB.out.setCell (p := ⟨bo, k, none⟩) HG10.out (.bool v)⟩
              intro e
              injection e with e
              exact HNE.out.1 e
            have HSTP := Aside0.mk stp
            clear fin stp HD HR HB
            cases hft : fromTo j k
            · rw [hft] at xd HSTP
              have HS := Aside0.mk (HSTP.out false rfl)
              clear hft HSTP
              go_wp2_with fail
              clear fd xd xr
              generalize wr.setCell ⟨bo, k, none⟩ (.bool false) = w9 at HS ⊢
              go_roundw
              case rel => exact ⟨k + 1, HJ.out, by rw [w4_]; rfl, ⟨HS.out.2.1⟩, ⟨HS.out.1⟩, ⟨HS.out.2.2⟩⟩
              case measure =>
                have := HJ.out
                rw [w4_]
                simp only [intOf]
                omega
            · rw [hft] at xd HSTP
              have HS := Aside0.mk (HSTP.out (f k) rfl)
              clear hft HSTP
              generalize f k = fk at xr HS
              go_wp2_with fail
              clear fd xd xr
              generalize wr.setCell ⟨bo, k, none⟩ (.bool fk) = w9 at HS ⊢
              go_roundw
              case rel => exact ⟨k + 1, HJ.out, by rw [w4_]; rfl, ⟨HS.out.2.1⟩, ⟨HS.out.1⟩, ⟨HS.out.2.2⟩⟩
              case measure =>
                have := HJ.out
                rw [w4_]
                simp only [intOf]
                omega
          · have : k = j := by omega
            subst this
            have e0' : decide ((k : Int) < (k : Int)) = false := decide_eq_false (by omega)
            clear hlt hk
            go_wp2_with fail
            go_ret2
            exact ⟨bo, rfl, by rw [HD.out, dumbC_congr k (fun a => fromTo k a && (decide (k ≤ a) || f a)) (fun a => fromTo k a && f a) (fun a ha => by rw [decide_eq_false (by omega), Bool.false_or])], HG10.out, HB.out⟩
end Go.Proofs.YtgpknomegleidaaGreatDoor.T
namespace Go.Proofs.YtgpknomegleidaaGreatDoor.T
open Go.RowKit Go.Proofs.YtgpknomegleidaaGreatDoorW.PrintWords Go.Proofs.YtgpknomegleidaaGreatDoorW.PrintLast Go.Proofs.YtgpknomegleidaaGreatDoorW.PrintMore Go.Proofs.YtgpknomegleidaaGreatDoor.PAll
set_option linter.unusedSimpArgs false
set_option linter.unusedVariables false

/-- The head under which a page is laid. -/
def hdW (j : Nat) (x : Wn) : Hd := ⟨7, x.addr, x.kind, x.ino, x.gen, x.index, j + 1, 0⟩
theorem hdW_fits (j : Nat) (x : Wn) (h : WOk j x) (hj : j < 10) : (hdW j x).fits := by
  obtain ⟨h1, h2, h3, h4, h5, h6⟩ := h
  exact ⟨(by decide : (7 : Nat) < 281474976710656), by show x.addr < _; omega, h3, by show x.ino < _; omega, by show x.gen < _; omega, by show x.index < _; omega, by show j + 1 < _; omega, (by decide : (0 : Nat) < 281474976710656)⟩
/-- A page lies on the plate, sealed. -/
def BlkOk (f : Lit → Nat) (N : Nat) (F : Nat → ByteArray) (j : Nat) (x : Wn) : Prop :=
  ∃ kl, KeyIs (hdW j x) x.body kl ∧ f kl ≠ 0 ∧ f kl ≤ N ∧ ∀ q, q < 8 → F ((27 + j) * 8 + q) = piece (rawA (hdW j x) x.body (f kl)) q
theorem BlkOk.keep {f f' : Lit → Nat} {N N' : Nat} {F F' : Nat → ByteArray} {j : Nat} {x : Wn} (h : BlkOk f N F j x) (hf : ∀ y, f y ≠ 0 → f' y = f y) (hN : N ≤ N') (hF : ∀ q, q < 8 → F' ((27 + j) * 8 + q) = F ((27 + j) * 8 + q)) : BlkOk f' N' F' j x := by
  obtain ⟨kl, h1, h2, h3, h4⟩ := h
  have e := hf kl h2
  exact ⟨kl, h1, by rw [e]; exact h2, by rw [e]; omega, fun q hq => by rw [hF q hq, h4 q hq, e]⟩
theorem BlkOk.other {f : Lit → Nat} {N : Nat} {F : Nat → ByteArray} {j : Nat} {x : Wn} (h : BlkOk f N F j x) (a : Nat) (raw : ByteArray) (ha : a ≠ 27 + j) : BlkOk f N (putB F a raw) j x :=
  h.keep (fun _ _ => rfl) (Nat.le_refl _) (fun q hq => by unfold putB; rw [if_neg (by omega)])
theorem H64.put {F : Nat → ByteArray} (h : H64 F) (a : Nat) (raw : ByteArray) (hz : raw.size = 512) : H64 (putB F a raw) := by
  intro k
  unfold putB
  by_cases e : k / 8 = a
  · rw [if_pos e]
    exact .inr (piece_size raw hz _ (Nat.mod_lt _ (by decide)))
  · rw [if_neg e]
    exact h k
theorem getR_size {F : Nat → ByteArray} (d : Nat → Bool) (H : H64 F) (a : Nat) : (getR F d a).size = 512 := by
  rw [getR, mk_size, getL_len d a H]
theorem flatW_at : ∀ (ws : List Wn) (k : Nat) (x : Wn), ws[k]? = some x → ∀ q, q < 6 → (ws.flatMap encW)[k * 6 + q]? = (encW x)[q]?
  | [], k, x, hx, q, hq => by simp at hx
  | a :: r, 0, x, hx, q, hq => by
    simp only [List.getElem?_cons_zero, Option.some.injEq] at hx
    subst hx
    rw [List.flatMap_cons, Nat.zero_mul, Nat.zero_add, List.getElem?_append_left (by show q < 6; exact hq)]
  | a :: r, k + 1, x, hx, q, hq => by
    simp only [List.getElem?_cons_succ] at hx
    have := flatW_at r k x hx q hq
    rw [List.flatMap_cons, List.getElem?_append_right (by show 6 ≤ _; omega), show (k + 1) * 6 + q - (encW a).length = k * 6 + q by show _ - 6 = _; omega]
    exact this
/-- The plate with nothing pending stays where the vault's maps alone are changed. -/
theorem PlateS.frV {w w' : World} {p bh bd n : Nat} {h : Nat → ByteArray} {d : Nat → Bool} {rd wt : Int} {v i vh vs N : Nat} {f : Lit → Nat} (k : PlateS w p bh bd n h d (.slice none 0 0) rd wt []) (hv : Vlt w v i vh vs N f) (hf : FrP (VS vh vs) w w') : PlateS w' p bh bd n h d (.slice none 0 0) rd wt [] :=
  ⟨hf.cells k.pb (vs_cells hv _ _ _ _ k.pb) (by decide), hf.cells k.hb (vs_cells hv _ _ _ _ k.hb) (by decide), hf.cells k.db (vs_cells hv _ _ _ _ k.db) (by decide), World.ownsRow_nil _ _ _ _⟩
/-- What stands while the pages are laid. -/
structure MakeI (w wq : World) (p bh bd v i vh vs N : Nat) (f : Lit → Nat) (F : Nat → ByteArray) (K k : Nat) (ws : List Wn) : Prop where
  pl : PlateP wq p bh bd 784 K F
  vlt : Vlt wq v i vh vs N f
  h64 : H64 F
  ok : ∀ j x, j < k → ws[j]? = some x → BlkOk f N F j x
  fr : FrP (AS p bh bd vh vs) w wq
def MakeP (w : World) (p bh bd v i vh vs N : Nat) (e : Ending) (w' : World) : Prop :=
  ∃ f F ws rd wr, e = .returned (.int .i64 0) ∧ Vlt w' v i vh vs (N + 400) f ∧ ws.length = 10 ∧ WsOk ws ∧ (∀ j x, ws[j]? = some x → BlkOk f (N + 400) F j x) ∧ H64 F ∧
    PlateS w' p bh bd 784 F (fun _ => false) (.slice none 0 0) rd wr [] ∧ FrP (AS p bh bd vh vs) w w'
set_option maxHeartbeats 4000000 in
set_option maxRecDepth 100000 in
theorem make_c (w : World) (p bh bd v i vh vs N : Nat) (f : Lit → Nat) (rd wt : Int) (hp : PlateS w p bh bd 784 (fun _ => ⟨#[]⟩) (fun _ => false) (.slice none 0 0) rd wt []) (hv : Vlt w v i vh vs N f) (hN : N < 100000) :
    Calls Tryz.prog 46 #[.pointer (some ⟨p, 0, none⟩), .pointer (some ⟨v, 0, none⟩), .int .i64 7] w (MakeP w p bh bd v i vh vs N) := by
  have hu26 := Tryz.underlying26
  have hu139 := Tryz.underlying139
  have hu71 := Tryz.underlying71
  have HP := Aside0.mk hp
  have HV := Aside0.mk hv
  have HN := Aside0.mk hN
  clear hp hv hN
  go_enter Tryz.func46, Tryz.ntmps46
  go_wp2_with fail
  refine (up_c HP.out).mono ?_
  rintro e w1 ⟨rfl, rfl⟩
  go_wp2_with fail
  refine (jlive_c HP.out).mono ?_
  rintro e w2 ⟨rfl, hb⟩
  have HP2 := Aside0.mk (HP.out.below hb)
  have HV2 := Aside0.mk (HV.out.below hb)
  have HF2 := Aside0.mk (FrP.below (S := AS p bh bd vh vs) hb)
  clear hb HP HV
  go_wp2_with fail
  refine (vHash_c w2 v i vh vs N f ⟨#[]⟩ HV2.out (by have := HN.out; omega) (by decide)).mono ?_
  rintro e w3 ⟨t, rfl, ht, hv3, hf3⟩
  have HP3 := Aside0.mk (HP2.out.fr hf3 (vs_cells HV2.out))
  have HV3 := Aside0.mk hv3
  have HF3 := Aside0.mk (HF2.out.trans ((FrP.of hf3).mono (fun _ h => .inr h)))
  have e1 : (t.toList = []) = False := eq_false (fun e => by rw [← pb_len, ← toL, e] at ht; cases ht)
  have e2 : (t.toList == ([] : List UInt8)) = false := beq_eq_false_iff_ne.mpr (fun e => by rw [e] at e1; exact (e1 ▸ rfl : False))
  clear ht hv3 hf3 HP2 HV2 HF2
  go_wp2_with fail
  refine (layout_c 48 _).mono ?_
  rintro e w4 ⟨rfl, hb⟩
  rw [show layR 48 = (layL 48, 0) from layR_ok (n := 48) (by decide) (by decide), lay48_eq]
  have hb9 := below_then hb hb.size (below_alloc (Below.refl w4.heap.size w4) (.cells lay48 26 (0, 0)))
  have HP5 := Aside0.mk (HP3.out.below hb9)
  have HV5 := Aside0.mk (HV3.out.below hb9)
  have HF5 := Aside0.mk (HF3.out.trans (FrP.below hb9))
  have HL5 := Aside0.mk (heap_alloc_new w4 (.cells lay48 26 (0, 0)))
  clear hb hb9 HP3 HV3 HF3 e1 e2
  unfold lay48 at HP5 HV5 HF5 HL5 ⊢
  go_upto_region 9 with fail
  generalize w4.heap.size = g9 at HL5 ⊢
  generalize w4.alloc (.cells #[.int .i64 48, .int .i64 2, .int .i64 3, .int .i64 27, .int .i64 28, .int .i64 29, .int .i64 6, .int .i64 35, .int .i64 1, .int .i64 36, .int .i64 37, .int .i64 48, .int .i64 49, .int .i64 1, .int .i64 50, .int .i64 98] 26 (0, 0)) = w5 at HP5 HV5 HF5 HL5 ⊢
  have HL5' : Aside0 (w5.heap[g9]? = some (.cells lay48 26 (0, 0))) := ⟨HL5.out⟩
  clear HL5
  have HL5 := HL5'
  clear HL5'
  go_wp2_with ((with_reducible refine gate_dst (N := 49) rfl ?_); refine load_blk rfl 26 (.tmp 9) rfl g9 26 lay48 (0, 0) _ rfl HL5.out hu26 rfl infoLay ?_)
  refine (first_c w5).mono ?_
  rintro e w6 ⟨A, c, ws, rfl, hwl, hwo, hwr, hb⟩
  obtain ⟨gw, rfl⟩ := own_some hwr (by decide)
  have HWS := Aside0.mk (And.intro hwl hwo)
  have HI6 : Aside0 (MakeI w1 w6 p bh bd v i vh vs (N + 1) f (fun _ => ⟨#[]⟩) 0 0 ws) := ⟨⟨PlateP.of (HP5.out.below hb) 0, HV5.out.below hb, fun _ => .inl rfl, fun j x h => by omega, HF5.out.trans (FrP.below hb)⟩⟩
  have HL6 := Aside0.mk (blk_below HL5.out hb)
  obtain ⟨cur, hcur, hcat⟩ : ∃ cur, w6.heap[gw]? = some (.cells cur 139 (0, 0)) ∧ ∀ q, q < 60 → cur[q]? = (ws.flatMap encW)[q]? := by
    rcases hwr.2 with ⟨h, _⟩ | ⟨g, cap, cur, e1, e2, e3, _, _, hs, ht⟩
    · cases h
    · injection e1 with e1 _ _
      injection e1 with e1
      injection e1 with e1
      subst e1
      refine ⟨cur, e3, fun q hq => ?_⟩
      have h1 : (cur.toList.take (10 * 6))[q]? = (ws.flatMap encW)[q]? := by rw [ht]
      rw [List.getElem?_take, if_pos (by omega), Array.getElem?_toList] at h1
      exact h1
  have HC6 := Aside0.mk hcur
  have HCAT := Aside0.mk hcat
  clear hwl hwo hwr hb HP5 HV5 HF5 HL5 hcur hcat
  go_wp2_with fail
  go_loopw [11, 52] (fun nx i' wq => ∃ (k : Nat) (f : Lit → Nat) (F : Nat → ByteArray), k ≤ 10 ∧ nx = .int .i64 ((k + 1 : Nat) : Int) ∧ i' = .int .i64 (k : Int) ∧ Aside0 (MakeI w1 wq p bh bd v i vh vs (N + 1 + k) f F (8 * k) k ws) ∧ Aside0 (wq.heap[g9]? = some (.cells lay48 26 (0, 0))) ∧ Aside0 (wq.heap[gw]? = some (.cells cur 139 (0, 0)))) (fun _ i' _ => 10 - (intOf i').toNat)
  case atStart => exact ⟨0, f, _, by decide, rfl, rfl, HI6, HL6, HC6⟩
  case round =>
    clear HI6 HL6 HC6
    obtain ⟨k, f, F, hk, rfl, rfl, HI, HL, HC⟩ := hrel
    obtain ⟨r, hr⟩ : ∃ r, r = k + 1 := ⟨_, rfl⟩
    rw [← hr]
    have HRK := Aside0.mk (And.intro hr hk)
    by_cases hlt : k < 10
    · have HJ := Aside0.mk hlt
      obtain ⟨x, hx⟩ : ∃ x, ws[k]? = some x := ⟨_, List.getElem?_eq_getElem (by rw [HWS.out.1]; exact hlt)⟩
      have hok := HWS.out.2.1 k x hx
      have HX := Aside0.mk (And.intro hx hok)
      have hat (q : Nat) (hq : q < 6) : cur[k * 6 + q]? = (encW x)[q]? := by rw [HCAT.out _ (by omega)]; exact flatW_at ws k x hx q hq
      have x0 : wr.cell? ⟨gw, k * 6, none⟩ = some (.int .i64 (x.addr : Int)) := (blk_cell HC.out _).trans (hat 0 (by decide))
      have x1 : wr.cell? ⟨gw, k * 6 + 1, none⟩ = some (.int .i64 (x.kind : Int)) := (blk_cell HC.out _).trans (hat 1 (by decide))
      have x2 : wr.cell? ⟨gw, k * 6 + 2, none⟩ = some (.int .i64 (x.ino : Int)) := (blk_cell HC.out _).trans (hat 2 (by decide))
      have x3 : wr.cell? ⟨gw, k * 6 + 3, none⟩ = some (.int .i64 (x.gen : Int)) := (blk_cell HC.out _).trans (hat 3 (by decide))
      have x4 : wr.cell? ⟨gw, k * 6 + 4, none⟩ = some (.int .i64 (x.index : Int)) := (blk_cell HC.out _).trans (hat 4 (by decide))
      have x5 : wr.cell? ⟨gw, k * 6 + 5, none⟩ = some (.string x.body) := (blk_cell HC.out _).trans (hat 5 (by decide))
      have e0 : decide ((k : Int) < 10) = true := decide_eq_true (by omega)
      have q1 : ((k : Int) < 10) = True := eq_true (by omega)
      have q2 : (k < 10) = True := eq_true hlt
      have w4_ : wrap64 ((k : Int) + 1) = (k : Int) + 1 := w64 (by omega) (by omega)
      have w5_ : wrap64 ((r : Int) + 1) = (r : Int) + 1 := w64 (by omega) (by omega)
      clear hlt hk hx hok hr
      obtain ⟨xa, xk, xi, xg, xn, xb⟩ := x
      simp only at x0 x1 x2 x3 x4 x5
      go_wp2_with fail
      clear x0 x1 x2 x3 x4 x5
      have hba := below_alloc (Below.refl wr.heap.size wr) (.cells #[.int .i64 (xa : Int), .int .i64 (xk : Int), .int .i64 (xi : Int), .int .i64 (xg : Int), .int .i64 (xn : Int), .string xb] 139 (0, 0))
      have hgx := blk_alloc (heap_alloc_new wr (.cells #[.int .i64 (xa : Int), .int .i64 (xk : Int), .int .i64 (xi : Int), .int .i64 (xg : Int), .int .i64 (xn : Int), .string xb] 139 (0, 0))) (.cells #[.int .i64 7, .int .i64 (xa : Int), .int .i64 (xk : Int), .int .i64 (xi : Int), .int .i64 (xg : Int), .int .i64 (xn : Int), .int .i64 (r : Int), .int .i64 0] 71 (0, 0))
      have hbb := below_alloc hba (.cells #[.int .i64 7, .int .i64 (xa : Int), .int .i64 (xk : Int), .int .i64 (xi : Int), .int .i64 (xg : Int), .int .i64 (xn : Int), .int .i64 (r : Int), .int .i64 0] 71 (0, 0))
      have HPA := Aside0.mk (HI.out.pl.below hbb)
      have HVA := Aside0.mk (HI.out.vlt.below hbb)
      have HFA := Aside0.mk (HI.out.fr.trans (FrP.below hbb))
      have HLA := Aside0.mk (And.intro (blk_below HL.out hbb) (And.intro (blk_below HC.out hbb) hgx))
      have HOA := Aside0.mk (And.intro HI.out.ok HI.out.h64)
      clear hba hgx hbb HI HL HC
      generalize wr.heap.size = gx at HLA ⊢
      generalize (wr.alloc (.cells #[.int .i64 (xa : Int), .int .i64 (xk : Int), .int .i64 (xi : Int), .int .i64 (xg : Int), .int .i64 (xn : Int), .string xb] 139 (0, 0))).alloc (.cells #[.int .i64 7, .int .i64 (xa : Int), .int .i64 (xk : Int), .int .i64 (xi : Int), .int .i64 (xg : Int), .int .i64 (xn : Int), .int .i64 (r : Int), .int .i64 0] 71 (0, 0)) = wa at HPA HVA HFA HLA ⊢
      obtain ⟨kl, hkl⟩ := keyIs_ex (hdW k ⟨xa, xk, xi, xg, xn, xb⟩) xb HX.out.2.2.1 (show (0 : Nat) < 281474976710656 from by decide)
      have HKL := Aside0.mk hkl
      have hfits := hdW_fits k _ HX.out.2 HJ.out
      have hhd : hdW k ⟨xa, xk, xi, xg, xn, xb⟩ = ⟨7, xa, xk, xi, xg, xn, r, 0⟩ := by rw [HRK.out.1]; rfl
      rw [hhd] at hkl hfits
      refine (bSeal_c wa v i vh vs (N + 1 + k) f ⟨7, xa, xk, xi, xg, xn, r, 0⟩ xb kl HVA.out hfits (by have := HN.out; have := HJ.out; omega) HX.out.2.2.1 hkl).mono ?_
      rintro e w7 ⟨m, f1, rfl, s1, s2, s3, s4, s5, s6⟩
      rw [← hhd]
      have HRZ := Aside0.mk (rawA_size (hdW k ⟨xa, xk, xi, xg, xn, xb⟩) xb m HX.out.2.2.1)
      obtain ⟨raw, hraw⟩ : ∃ raw, raw = rawA (hdW k ⟨xa, xk, xi, xg, xn, xb⟩) xb m := ⟨_, rfl⟩
      rw [← hraw] at HRZ ⊢
      have HRAW := Aside0.mk hraw
      have HP7 := Aside0.mk (HPA.out.fr s6 (vs_cells HVA.out))
      have HV7 := Aside0.mk s1
      have HF7 := Aside0.mk (HFA.out.trans ((FrP.of s6).mono (fun _ h => .inr h)))
      have HL7 := Aside0.mk (And.intro (s6.cells HLA.out.1 (vs_cells HVA.out _ _ _ _ HLA.out.1)) (And.intro (s6.cells HLA.out.2.1 (vs_cells HVA.out _ _ _ _ HLA.out.2.1)) (s6.cells HLA.out.2.2 (vs_cells HVA.out _ _ _ _ HLA.out.2.2))))
      have HM := Aside0.mk (And.intro s2 (And.intro s3 (And.intro s4 s5)))
      clear s1 s2 s3 s4 s5 s6 hkl hfits hhd hraw HPA HVA HFA HLA
      have x0 : w7.cell? ⟨gx, 0, none⟩ = some (.int .i64 (xa : Int)) := (blk_cell HL7.out.2.2 0).trans rfl
      go_wp2_with fail
      clear x0
      refine (bPut_c HP7.out (by have := HJ.out; omega) xa (by have h1 : xa = 27 + k := HX.out.2.1; have := HJ.out; omega) (by decide) raw HRZ.out).mono ?_
      rintro e w8 ⟨rfl, k8, h8⟩
      have HI8 : Aside0 (MakeI w1 w8 p bh bd v i vh vs (N + 1 + (k + 1)) f1 (putB F xa raw) (8 * (k + 1)) (k + 1) ws) := ⟨⟨k8, HV7.out.frpP HP7.out h8, HOA.out.2.put xa raw HRZ.out, fun j y hj hy => by
        have ha : xa = 27 + k := HX.out.2.1
        rcases Nat.lt_or_ge j k with hjk | hjk
        · exact ((HOA.out.1 j y hjk hy).keep HM.out.2.2.2 (Nat.le_succ _) (fun _ _ => rfl)).other xa raw (by omega)
        · have : j = k := by omega
          subst this
          rw [HX.out.1] at hy
          cases hy
          refine ⟨kl, HKL.out, by rw [HM.out.1]; have := HM.out.2.1; omega, by rw [HM.out.1]; exact HM.out.2.2.1, fun q hq => ?_⟩
          unfold putB
          rw [if_pos (by omega), HM.out.1, ← HRAW.out]
          congr 1
          omega, HF7.out.trans (h8.mono (fun _ h => .inl h))⟩⟩
      have HL8 := Aside0.mk (h8.cells HL7.out.1 (HP7.out.notT HL7.out.1 (by decide)) (by decide))
      have HC8 := Aside0.mk (h8.cells HL7.out.2.1 (HP7.out.notT HL7.out.2.1 (by decide)) (by decide))
      clear k8 h8 HP7 HV7 HF7 HL7 HOA
      go_wp2_with fail
      go_roundw
      case rel => exact ⟨k + 1, f1, _, HJ.out, by rw [w5_, HRK.out.1]; rfl, by rw [w4_]; rfl, HI8, HL8, HC8⟩
      case measure =>
        have := HJ.out
        rw [w4_]
        simp only [intOf]
        omega
    · have hk10 : k = 10 := by omega
      have hr11 : r = 11 := by omega
      subst hk10
      subst hr11
      have e0 : decide (((10 : Nat) : Int) < 10) = false := rfl
      clear hlt hk hr
      rw [show ((11 : Nat) : Int) = 11 from rfl]
      go_wp2_with fail
      refine (flush_p HI.out.pl (by decide)).mono ?_
      rintro e w8 ⟨rfl, ⟨rd1, wr1, k8⟩, h8⟩
      have HP8 := Aside0.mk k8
      have HV8 := Aside0.mk (HI.out.vlt.frpP HI.out.pl h8)
      have HL8 := Aside0.mk (h8.cells HL.out (HI.out.pl.notT HL.out (by decide)) (by decide))
      have HF8 := Aside0.mk (HI.out.fr.trans (h8.mono (fun _ h => .inl h)))
      have HOK := Aside0.mk (And.intro HI.out.h64 HI.out.ok)
      clear k8 h8 HI HL HC
      obtain ⟨w9, hr9, hm9, hb9⟩ := made_d w8 37 (by decide)
      rw [show ((37 : Nat) : Int) = 37 from rfl] at hr9
      have x10 : w8.cell? ⟨g9, 10, none⟩ = some (.int .i64 37) := (blk_cell HL8.out 10).trans rfl
      have HB9 := Aside0.mk hb9
      have HD9 : Aside0 (w9.heap[w8.heap.size]? = some (.cells (dumbC 37 (low 0)) 4 (0, 0))) := ⟨by rw [hm9, dumbC_congr 37 (fun _ => false) (low 0) (fun a _ => (decide_eq_false (by omega)).symm)]⟩
      clear hm9 hb9
      go_wp2_with fail
      clear hr9 x10
      obtain ⟨bo, hbo⟩ : ∃ b, b = w8.heap.size := ⟨_, rfl⟩
      have HUL := Aside0.mk (show w8.heap.size ≤ bo by omega)
      rw [← hbo] at HD9 ⊢
      clear hbo
      go_loopw [101] (fun i' wq => ∃ j : Nat, j ≤ 37 ∧ i' = .int .i64 (j : Int) ∧ Aside0 (wq.heap[bo]? = some (.cells (dumbC 37 (low j)) 4 (0, 0))) ∧ Aside0 (Below w8.heap.size w8 wq)) (fun i' _ => 37 - (intOf i').toNat)
      case atStart => exact ⟨0, by decide, rfl, HD9, HB9⟩
      case round =>
        clear HD9 HB9
        obtain ⟨j, hj, rfl, HD, HB⟩ := hrel
        by_cases hlt : j < 37
        · have HJ := Aside0.mk hlt
          have w4_ : wrap64 ((j : Int) + 1) = (j : Int) + 1 := w64 (by omega) (by omega)
          have e0 : decide ((j : Int) < 37) = true := decide_eq_true (by omega)
          have q1 : ((j : Int) < 37) = True := eq_true (by omega)
          have q2 : (j < 37) = True := eq_true hlt
          have fd := blk_frozen HD.out j
          have xd : wr.cell? ⟨bo, j, none⟩ = some (.bool (low j j)) := (blk_cell HD.out j).trans (dumbC_at 37 _ j hlt)
          clear hlt hj
          go_wp2_with fail
          have HD2 : Aside0 ((wr.setCell ⟨bo, j, none⟩ (.bool true)).heap[bo]? = some (.cells (dumbC 37 (low (j + 1))) 4 (0, 0))) := ⟨by
            rw [blk_put HD.out j _ (dumbC_set 37 (low j) j true), dumbC_congr 37 (fun i => if i = j then true else low j i) (low (j + 1)) (fun a _ => ?_)]
            unfold low
            by_cases h : a = j
            · rw [if_pos h, decide_eq_true (by omega)]
            · rw [if_neg h]
              by_cases h2 : a < j
              · rw [decide_eq_true h2, decide_eq_true (by omega)]
              · rw [decide_eq_false h2, decide_eq_false (by omega)]⟩
          have HB2 := Aside0.mk (HB.out.setCell (p := ⟨bo, j, none⟩) HUL.out (.bool true))
          clear HD HB fd xd
          generalize wr.setCell ⟨bo, j, none⟩ (.bool true) = w10 at HD2 HB2 ⊢
          go_roundw
          case rel => exact ⟨j + 1, HJ.out, by rw [w4_]; rfl, HD2, HB2⟩
          case measure =>
            have := HJ.out
            rw [w4_]
            simp only [intOf]
            omega
        · have : j = 37 := by omega
          subst this
          have e0 : decide (((37 : Nat) : Int) < 37) = false := rfl
          clear hlt hj
          go_wp2_with fail
          -- REGION31
          refine start_ (n := 9) (S := fun w' => w'.heap[g9]? = some (.cells lay48 26 (0, 0))) (ds := []) #[false, false, false, false, false, false, false, false, false] (by kernel_rfl) rfl rfl (show wr.drew.heap[g9]? = _ from blk_below HL8.out (below_drew HB.out)) (fun hHeld => ?_)
          have hbz : Below w8.heap.size w8 wr.drew := below_drew HB.out
          have HPz := Aside0.mk (HP8.out.below hbz)
          have HPz0 := Aside0.mk HP8.out.lt
          have HVz := Aside0.mk (HV8.out.below hbz)
          have HFz := Aside0.mk (HF8.out.trans (FrP.below hbz))
          have HUz : Aside0 (wr.drew.heap[bo]? = some (.cells (dumbC 37 fun _ => true) 4 (0, 0))) := ⟨by
            rw [dumbC_congr 37 (fun _ => true) (low 37) (fun a ha => (decide_eq_true ha).symm)]
            exact HD.out⟩
          clear hbz HB HD HP8 HV8 HF8 HL8
          generalize wr.drew = wz at HPz HVz HFz HUz hHeld ⊢
          refine pure_ (i := 0) (N := some 108) (v := ?_) (a' := ?_) #[true, false, false, false, false, false, false, false, false] rfl rfl (by kernel_rfl) (fun _ _ _ h => h) (Or.inl ⟨by rfl, ?_⟩) ?_ ?_
          rotate_left; · intro w'; go_simp; with_reducible rfl
          rotate_left; · simp only [Act.put, List.setIfInBounds_toArray, List.set_cons_zero, List.set_cons_succ, i64_w, i32_w]; rfl
          refine take_ (i := 1) (N := some 109) (v := .agg lay48) (a' := ?_) #[true, true, false, false, false, false, false, false, false] rfl rfl (by kernel_rfl) (fun _ _ _ h => h) (yieldsIf_load_mid (by rfl) 26 (.tmp 9) rfl g9 0 (by rfl) lay48.toList _ (fun W hW j q hq => by rw [Nat.zero_add, blk_cell hW j, ← hq, Array.getElem?_toList]) hu26 rfl infoLay) hHeld ?_ ?_
          rotate_left; · simp only [Act.put, List.setIfInBounds_toArray, List.set_cons_zero, List.set_cons_succ, i64_w, i32_w]; rfl
          refine pure_ (i := 2) (N := some 110) (v := ?_) (a' := ?_) #[true, true, true, false, false, false, false, false, false] rfl rfl (by kernel_rfl) (fun _ _ _ h => h) (Or.inl ⟨by rfl, ?_⟩) ?_ ?_
          rotate_left; · intro w'; go_simp; with_reducible rfl
          rotate_left; · simp only [Act.put, List.setIfInBounds_toArray, List.set_cons_zero, List.set_cons_succ, i64_w, i32_w]; rfl
          refine pure_ (i := 3) (N := some 111) (v := ?_) (a' := ?_) #[true, true, true, true, false, false, false, false, false] rfl rfl (by kernel_rfl) (fun _ _ _ h => h) (Or.inl ⟨by rfl, ?_⟩) ?_ ?_
          rotate_left; · intro w'; go_simp; with_reducible rfl
          rotate_left; · simp only [Act.put, List.setIfInBounds_toArray, List.set_cons_zero, List.set_cons_succ, i64_w, i32_w]; rfl
          refine one_ (i := 4) (N := some 112) #[true, true, true, true, true, false, false, false, false] rfl rfl (by kernel_rfl) (by decide) (fun K hK => ?_)
          refine goes_ Tryz.func19 (by kernel_rfl) rfl #[.pointer (some ⟨p, 0, none⟩)] (by rfl) rfl rfl (by (try simp only [List.map_toArray, List.map_cons, List.map_nil]); first | done | rfl) ?_
          refine (all_c HPz.out HOK.out.1 (by decide) (fun q hq => by cases hq)).mono ?_
          rintro e wA ⟨vr, vm, r1, rfl, himg, hpl, hfr⟩
          have HIM := Aside0.mk himg
          have HPA := Aside0.mk hpl
          have HVA := Aside0.mk (HVz.out.frp HPz.out hfr)
          have HUA := Aside0.mk (hfr.cells HUz.out (by intro e; have := HUL.out; have h2 := HPz0.out _ e; omega) (by decide))
          have HFA := Aside0.mk (HFz.out.trans (hfr.mono (fun _ h => .inl h)))
          have hHeld := hfr.cells hHeld (HPz.out.notT hHeld (by decide)) (by decide)
          refine ⟨_, rfl, ?_⟩
          refine hK.out _ _ hHeld (fun hHeld => ?_)
          clear hK K himg hpl hfr HPz HVz HUz HFz
          refine norm_ (a' := ?_) ?_ ?_
          rotate_left; · show Act.put _ (some 112) _ = _; simp only [Act.put, List.setIfInBounds_toArray, List.set_cons_zero, List.set_cons_succ, i64_w, i32_w]; rfl
          refine one_ (i := 5) (N := some 113) #[true, true, true, true, true, true, false, false, false] rfl rfl (by kernel_rfl) (by decide) (fun K hK => ?_)
          refine goes_ Tryz.func71 (by kernel_rfl) rfl #[.agg lay48, .slice (some ⟨bo, 0, none⟩) 37 37, .agg #[vr, vm]] (by rfl) rfl rfl (by (try simp only [List.map_toArray, List.map_cons, List.map_nil]); first | done | rfl) ?_
          refine (leaves_c wA bo 37 _ (784 / 8) vr vm _ _ HIM.out (by decide) (fun a _ _ => getR_size _ HOK.out.1 a) HUA.out).mono ?_
          rintro e wB ⟨gl, cl, cs, rfl, hgl, hcs, hb⟩
          have HGL := Aside0.mk (And.intro hgl hcs)
          have HPB := Aside0.mk (HPA.out.below hb)
          have HVB := Aside0.mk (HVA.out.below hb)
          have HFB := Aside0.mk (HFA.out.trans (FrP.below hb))
          have hHeld := blk_below hHeld hb
          refine ⟨_, rfl, ?_⟩
          refine hK.out _ _ hHeld (fun hHeld => ?_)
          clear hK K hgl hcs hb HPA HVA HUA HFA HIM
          refine norm_ (a' := ?_) ?_ ?_
          rotate_left; · show Act.put _ (some 113) _ = _; simp only [Act.put, List.setIfInBounds_toArray, List.set_cons_zero, List.set_cons_succ, i64_w, i32_w]; rfl
          refine one_ (i := 6) (N := some 114) #[true, true, true, true, true, true, true, false, false] rfl rfl (by kernel_rfl) (by decide) (fun K hK => ?_)
          refine goes_ Tryz.func70 (by kernel_rfl) rfl #[.pointer (some ⟨v, 0, none⟩), .slice (some ⟨gl, 0, none⟩) 48 cl] (by rfl) rfl rfl (by (try simp only [List.map_toArray, List.map_cons, List.map_nil]); first | done | rfl) ?_
          refine (tree_new wB v i vh vs (N + 1 + 10) f gl 48 cl cs HVB.out (by have := HN.out; omega) (by decide) HGL.out.1 HGL.out.2).mono ?_
          rintro e wC ⟨gt, rfl, hts, hvt, hfr⟩
          have HTS := Aside0.mk hts
          have HPC := Aside0.mk (HPB.out.frV HVB.out hfr)
          have hHeld := hfr.cells hHeld (vs_cells HVB.out _ _ _ _ hHeld) (by decide)
          have HVC := Aside0.mk hvt
          have HFC := Aside0.mk (HFB.out.trans (hfr.mono (fun _ h => .inr h)))
          refine ⟨_, rfl, ?_⟩
          refine hK.out _ _ hHeld (fun hHeld => ?_)
          clear hK K hts hvt hfr HPB HVB HFB HGL
          refine norm_ (a' := ?_) ?_ ?_
          rotate_left; · show Act.put _ (some 114) _ = _; simp only [Act.put, List.setIfInBounds_toArray, List.set_cons_zero, List.set_cons_succ, i64_w, i32_w]; rfl
          refine one_ (i := 7) (N := some 115) #[true, true, true, true, true, true, true, true, false] rfl rfl (by kernel_rfl) (by decide) (fun K hK => ?_)
          refine goes_ Tryz.func72 (by kernel_rfl) rfl #[.pointer (some ⟨gt, 0, none⟩)] (by rfl) rfl rfl (by (try simp only [List.map_toArray, List.map_cons, List.map_nil]); first | done | rfl) ?_
          refine (troot_c wC v i vh vs (N + 1 + 10 + 3 * 48) f gt HVC.out (by have := HN.out; omega) HTS.out).mono ?_
          rintro e wD ⟨root, rfl, hrz, hvt, hfr⟩
          have HRT := Aside0.mk hrz
          have HPD := Aside0.mk (HPC.out.frV HVC.out (FrP.of hfr))
          have hHeld := hfr.cells hHeld (vs_cells HVC.out _ _ _ _ hHeld)
          have HVD := Aside0.mk hvt
          have HFD := Aside0.mk (HFC.out.trans ((FrP.of hfr).mono (fun _ h => .inr h)))
          refine ⟨_, rfl, ?_⟩
          refine hK.out _ _ hHeld (fun hHeld => ?_)
          clear hK K hrz hvt hfr HPC HVC HFC HTS
          refine norm_ (a' := ?_) ?_ ?_
          rotate_left; · show Act.put _ (some 115) _ = _; simp only [Act.put, List.setIfInBounds_toArray, List.set_cons_zero, List.set_cons_succ, i64_w, i32_w]; rfl
          refine pure_ (i := 8) (N := some 21) (v := ?_) (a' := ?_) #[true, true, true, true, true, true, true, true, true] rfl rfl (by kernel_rfl) (fun _ _ _ h => h) (Or.inl ⟨by rfl, ?_⟩) ?_ ?_
          rotate_left; · intro w'; go_simp; with_reducible rfl
          rotate_left; · simp only [Act.put, List.setIfInBounds_toArray, List.set_cons_zero, List.set_cons_succ, i64_w, i32_w]; rfl
          refine done_ (by kernel_rfl) ?_
          go_wp2_with fail
          refine (format_c wD v i vh vs (N + 1 + 10 + 3 * 48 + 1) f HVD.out (by have := HN.out; omega) p bh bd F _ _ HPD.out 7 11 root (by decide) (by decide) HRT.out).mono ?_
          rintro e wE ⟨raw, f2, rd2, wr2, rfl, hz2, hv2, hk2, hp2, hf2⟩
          have HE := Aside0.mk (And.intro hz2 (And.intro hv2 (And.intro hk2 (And.intro hp2 hf2))))
          clear hz2 hv2 hk2 hp2 hf2
          go_wp2_with fail
          go_ret
          refine ⟨f2, _, ws, rd2, wr2, rfl, HE.out.2.1.mono (by omega), HWS.out.1, HWS.out.2, fun j x hj => ?_, ((HOK.out.1.put 1 z512 z512_size).put 2 z512 z512_size).put 0 raw HE.out.1, HE.out.2.2.2.1, HFD.out.trans HE.out.2.2.2.2⟩
          have hj10 : j < 10 := by
            rcases Nat.lt_or_ge j 10 with h | h
            · exact h
            · rw [List.getElem?_eq_none (by rw [HWS.out.1]; exact h)] at hj; cases hj
          exact ((((HOK.out.2 j x hj10 hj).keep HE.out.2.2.1 (by omega) (fun _ _ => rfl)).other 1 z512 (by omega)).other 2 z512 (by omega)).other 0 raw (by omega)
          -- END31
end Go.Proofs.YtgpknomegleidaaGreatDoor.T
