/- Printed by the kit's print.py, made shorter and regrouped by wip/tools/regroup.py. -/
import Derived.Test.YtkhblpmjmkhiiaaGreatDoorQK0
namespace Go.Proofs.YtkhblpmjmkhiiaaGreatDoor.PAll
open Go.RowKit Go.Proofs.YtkhblpmjmkhiiaaGreatDoorW.PrintWords Go.Proofs.YtkhblpmjmkhiiaaGreatDoorW.PrintLast Go.Proofs.YtkhblpmjmkhiiaaGreatDoorW.PrintMore
attribute [local go_sem] max2_int min2_int max_two min_two max_three min_three max_four min_four
set_option linter.unusedVariables false
set_option linter.unusedSimpArgs false
set_option maxHeartbeats 8000000 in
set_option maxRecDepth 100000 in
theorem r1_Noughts.calls (a0 : Int) (r : ByteArray) (w : World) (h : r1_Noughts.f a0 = some r) :
  Calls Tryz.prog 49 #[.int .i64 a0] w fun e w' => e = .returned (.string r) ∧ Below w.heap.size w w' := by
 have HB := Aside0.mk (Below.refl w.heap.size w)
 have H : (if 0 ≤ a0 then (if (a0 : Int).toNat ≤ 281474976710656 then (some (strOfNums (List.replicate (a0 : Int).toNat 0))) else (none)) else (none)) = some r := h
 clear h
 by_cases c2 : 0 ≤ a0
 ·
  rw [if_pos c2] at H
  have c2b0 := eq_true c2
  have c2b1 : decide (0 ≤ a0) = true := decide_eq_true c2
  clear c2
  by_cases c3 : (a0 : Int).toNat ≤ 281474976710656
  ·
   rw [if_pos c3] at H
   have c3b0 := eq_true c3
   have c3b1 : decide ((a0 : Int).toNat ≤ 281474976710656) = true := decide_eq_true c3
   clear c3
   obtain ⟨y196, hy196⟩ : ∃ y_ : List Int, y_ = (List.replicate (a0 : Int).toNat 0) := ⟨_, rfl⟩
   replace H : (some (strOfNums y196)) = some r := by first | (rw [hy196]; with_reducible exact H) | (have H2_ := (Option.bind_some _ _).symm.trans H; rw [hy196]; with_reducible exact H2_) | (have H2_ := (Option.bind_some _ _).symm.trans H; with_reducible exact H2_) | with_reducible exact H | (rw [hy196]; exact H) | exact H
   have Ny196 := Aside0.mk hy196
   clear hy196
   obtain rfl := Option.some.inj H
   go_enter Tryz.func49, Tryz.ntmps49
   go_wp2_with (first | ((with_reducible refine gate_dst (N := 5) rfl ?_); refine Kd.R_make (Kd.int .u8) _ 5 rfl (N := 5) rfl 31 _ _ rfl a0 rfl rfl Tryz.underlying31 (.int .u8 0) 1 info5 rfl Z11 Z3 0 (ok := fun _ => True) (okp := fun _ => True) rfl (fun _ hk => hk) trivial (of_decide_eq_true Z2) (Nat.le_trans (Nat.mul_le_mul_right _ (of_decide_eq_true Z2 : a0.toNat ≤ 281474976710656)) Z3) (Below.refl _ _) (Nat.le_refl _) ?_; intro v197 w4 ho5 hb hg_ hnew_; clear hg_ hnew_; (first | rw [← Ny196.out] at ho5 | (simp only [Int.reduceToNat] at ho5; rw [← Ny196.out] at ho5)); have n0_ := Aside0.mk (Kd.R_lower ho5 (below_size Z1)); have n1_ := Aside0.mk (below_step Z1 hb); clear HB; have HO198 := n0_; have HB := n1_; clear n0_ n1_; clear hb ho5; have hcv6 := own_string (P := Tryz.prog) Tryz.underlying31 Tryz.underlying5 Tryz.underlying9 (Kd.own_of_R HO198.out)))
   go_ret
   exact ⟨Z12, Z1⟩
  ·
   rw [if_neg c3] at H
   exact absurd H Z23
 ·
  rw [if_neg c2] at H
  exact absurd H Z23
set_option maxHeartbeats 8000000 in
set_option maxRecDepth 100000 in
theorem r2_keys.calls  (r : List Int) (w : World) (h : r2_keys.f  = some r) :
  Calls Tryz.prog 51 #[] w fun e w' => ∃ v0_ : Value, e = .returned (v0_) ∧ Kd.R (Kd.int .i64) 3 w' w.heap.size (fun _ => True) v0_ r ∧ Below w.heap.size w w' := by
 have HB := Aside0.mk (Below.refl w.heap.size w)
 have H : (some (([1116352408, 1899447441, 3049323471, 3921009573, 961987163, 1508970993, 2453635748, 2870763221, 3624381080, 310598401, 607225278, 1426881987, 1925078388, 2162078206, 2614888103, 3248222580, 3835390401, 4022224774, 264347078, 604807628, 770255983, 1249150122, 1555081692, 1996064986, 2554220882, 2821834349, 2952996808, 3210313671, 3336571891, 3584528711, 113926993, 338241895, 666307205, 773529912, 1294757372, 1396182291, 1695183700, 1986661051, 2177026350, 2456956037, 2730485921, 2820302411, 3259730800, 3345764771, 3516065817, 3600352804, 4094571909, 275423344, 430227734, 506948616, 659060556, 883997877, 958139571, 1322822218, 1537002063, 1747873779, 1955562222, 2024104815, 2227730452, 2361852424, 2428436474, 2756734187, 3204031479, 3329325298] : List Int))) = some r := h
 clear h
 obtain ⟨y203, hy203⟩ : ∃ y_ : List Int, y_ = (([1116352408, 1899447441, 3049323471, 3921009573, 961987163, 1508970993, 2453635748, 2870763221, 3624381080, 310598401, 607225278, 1426881987, 1925078388, 2162078206, 2614888103, 3248222580, 3835390401, 4022224774, 264347078, 604807628, 770255983, 1249150122, 1555081692, 1996064986, 2554220882, 2821834349, 2952996808, 3210313671, 3336571891, 3584528711, 113926993, 338241895, 666307205, 773529912, 1294757372, 1396182291, 1695183700, 1986661051, 2177026350, 2456956037, 2730485921, 2820302411, 3259730800, 3345764771, 3516065817, 3600352804, 4094571909, 275423344, 430227734, 506948616, 659060556, 883997877, 958139571, 1322822218, 1537002063, 1747873779, 1955562222, 2024104815, 2227730452, 2361852424, 2428436474, 2756734187, 3204031479, 3329325298] : List Int)) := ⟨_, rfl⟩
 replace H : (some y203) = some r := by first | (rw [hy203]; with_reducible exact H) | (have H2_ := (Option.bind_some _ _).symm.trans H; rw [hy203]; with_reducible exact H2_) | (have H2_ := (Option.bind_some _ _).symm.trans H; with_reducible exact H2_) | with_reducible exact H | (rw [hy203]; exact H) | exact H
 have Ny203 := Aside0.mk hy203
 clear hy203
 obtain rfl := Option.some.inj H
 go_enter Tryz.func51, Tryz.ntmps51
 go_wp2_with (first | ((with_reducible refine gate_dst (N := 1) rfl ?_); refine Kd.R_lit (Kd.int .i64) _ 3 ?hg (N := 1) ?hd (xs := ([1116352408, 1899447441, 3049323471, 3921009573, 961987163, 1508970993, 2453635748, 2870763221, 3624381080, 310598401, 607225278, 1426881987, 1925078388, 2162078206, 2614888103, 3248222580, 3835390401, 4022224774, 264347078, 604807628, 770255983, 1249150122, 1555081692, 1996064986, 2554220882, 2821834349, 2952996808, 3210313671, 3336571891, 3584528711, 113926993, 338241895, 666307205, 773529912, 1294757372, 1396182291, 1695183700, 1986661051, 2177026350, 2456956037, 2730485921, 2820302411, 3259730800, 3345764771, 3516065817, 3600352804, 4094571909, 275423344, 430227734, 506948616, 659060556, 883997877, 958139571, 1322822218, 1537002063, 1747873779, 1955562222, 2024104815, 2227730452, 2361852424, 2428436474, 2756734187, 3204031479, 3329325298] : List Int)) (inner := [.int .i64 1116352408, .int .i64 1899447441, .int .i64 3049323471, .int .i64 3921009573, .int .i64 961987163, .int .i64 1508970993, .int .i64 2453635748, .int .i64 2870763221, .int .i64 3624381080, .int .i64 310598401, .int .i64 607225278, .int .i64 1426881987, .int .i64 1925078388, .int .i64 2162078206, .int .i64 2614888103, .int .i64 3248222580, .int .i64 3835390401, .int .i64 4022224774, .int .i64 264347078, .int .i64 604807628, .int .i64 770255983, .int .i64 1249150122, .int .i64 1555081692, .int .i64 1996064986, .int .i64 2554220882, .int .i64 2821834349, .int .i64 2952996808, .int .i64 3210313671, .int .i64 3336571891, .int .i64 3584528711, .int .i64 113926993, .int .i64 338241895, .int .i64 666307205, .int .i64 773529912, .int .i64 1294757372, .int .i64 1396182291, .int .i64 1695183700, .int .i64 1986661051, .int .i64 2177026350, .int .i64 2456956037, .int .i64 2730485921, .int .i64 2820302411, .int .i64 3259730800, .int .i64 3345764771, .int .i64 3516065817, .int .i64 3600352804, .int .i64 4094571909, .int .i64 275423344, .int .i64 430227734, .int .i64 506948616, .int .i64 659060556, .int .i64 883997877, .int .i64 958139571, .int .i64 1322822218, .int .i64 1537002063, .int .i64 1747873779, .int .i64 1955562222, .int .i64 2024104815, .int .i64 2227730452, .int .i64 2361852424, .int .i64 2428436474, .int .i64 2756734187, .int .i64 3204031479, .int .i64 3329325298]) (ok := fun _ => True) (okp := fun _ => True) ?hr ?hp (fun _ hk => hk) trivial (Below.refl _ _) (Nat.le_refl _) Z23 ?_; (case hd => rfl); (case hg => rfl); (case hr => first | (go_simp; done) | (go_simp; rfl)); (case hp => exact (Reps.one (show Kd.M (Kd.int .i64) _ _ _ 1116352408 [.int .i64 1116352408] from rfl) (Reps.one (show Kd.M (Kd.int .i64) _ _ _ 1899447441 [.int .i64 1899447441] from rfl) (Reps.one (show Kd.M (Kd.int .i64) _ _ _ 3049323471 [.int .i64 3049323471] from rfl) (Reps.one (show Kd.M (Kd.int .i64) _ _ _ 3921009573 [.int .i64 3921009573] from rfl) (Reps.one (show Kd.M (Kd.int .i64) _ _ _ 961987163 [.int .i64 961987163] from rfl) (Reps.one (show Kd.M (Kd.int .i64) _ _ _ 1508970993 [.int .i64 1508970993] from rfl) (Reps.one (show Kd.M (Kd.int .i64) _ _ _ 2453635748 [.int .i64 2453635748] from rfl) (Reps.one (show Kd.M (Kd.int .i64) _ _ _ 2870763221 [.int .i64 2870763221] from rfl) (Reps.one (show Kd.M (Kd.int .i64) _ _ _ 3624381080 [.int .i64 3624381080] from rfl) (Reps.one (show Kd.M (Kd.int .i64) _ _ _ 310598401 [.int .i64 310598401] from rfl) (Reps.one (show Kd.M (Kd.int .i64) _ _ _ 607225278 [.int .i64 607225278] from rfl) (Reps.one (show Kd.M (Kd.int .i64) _ _ _ 1426881987 [.int .i64 1426881987] from rfl) (Reps.one (show Kd.M (Kd.int .i64) _ _ _ 1925078388 [.int .i64 1925078388] from rfl) (Reps.one (show Kd.M (Kd.int .i64) _ _ _ 2162078206 [.int .i64 2162078206] from rfl) (Reps.one (show Kd.M (Kd.int .i64) _ _ _ 2614888103 [.int .i64 2614888103] from rfl) (Reps.one (show Kd.M (Kd.int .i64) _ _ _ 3248222580 [.int .i64 3248222580] from rfl) (Reps.one (show Kd.M (Kd.int .i64) _ _ _ 3835390401 [.int .i64 3835390401] from rfl) (Reps.one (show Kd.M (Kd.int .i64) _ _ _ 4022224774 [.int .i64 4022224774] from rfl) (Reps.one (show Kd.M (Kd.int .i64) _ _ _ 264347078 [.int .i64 264347078] from rfl) (Reps.one (show Kd.M (Kd.int .i64) _ _ _ 604807628 [.int .i64 604807628] from rfl) (Reps.one (show Kd.M (Kd.int .i64) _ _ _ 770255983 [.int .i64 770255983] from rfl) (Reps.one (show Kd.M (Kd.int .i64) _ _ _ 1249150122 [.int .i64 1249150122] from rfl) (Reps.one (show Kd.M (Kd.int .i64) _ _ _ 1555081692 [.int .i64 1555081692] from rfl) (Reps.one (show Kd.M (Kd.int .i64) _ _ _ 1996064986 [.int .i64 1996064986] from rfl) (Reps.one (show Kd.M (Kd.int .i64) _ _ _ 2554220882 [.int .i64 2554220882] from rfl) (Reps.one (show Kd.M (Kd.int .i64) _ _ _ 2821834349 [.int .i64 2821834349] from rfl) (Reps.one (show Kd.M (Kd.int .i64) _ _ _ 2952996808 [.int .i64 2952996808] from rfl) (Reps.one (show Kd.M (Kd.int .i64) _ _ _ 3210313671 [.int .i64 3210313671] from rfl) (Reps.one (show Kd.M (Kd.int .i64) _ _ _ 3336571891 [.int .i64 3336571891] from rfl) (Reps.one (show Kd.M (Kd.int .i64) _ _ _ 3584528711 [.int .i64 3584528711] from rfl) (Reps.one (show Kd.M (Kd.int .i64) _ _ _ 113926993 [.int .i64 113926993] from rfl) (Reps.one (show Kd.M (Kd.int .i64) _ _ _ 338241895 [.int .i64 338241895] from rfl) (Reps.one (show Kd.M (Kd.int .i64) _ _ _ 666307205 [.int .i64 666307205] from rfl) (Reps.one (show Kd.M (Kd.int .i64) _ _ _ 773529912 [.int .i64 773529912] from rfl) (Reps.one (show Kd.M (Kd.int .i64) _ _ _ 1294757372 [.int .i64 1294757372] from rfl) (Reps.one (show Kd.M (Kd.int .i64) _ _ _ 1396182291 [.int .i64 1396182291] from rfl) (Reps.one (show Kd.M (Kd.int .i64) _ _ _ 1695183700 [.int .i64 1695183700] from rfl) (Reps.one (show Kd.M (Kd.int .i64) _ _ _ 1986661051 [.int .i64 1986661051] from rfl) (Reps.one (show Kd.M (Kd.int .i64) _ _ _ 2177026350 [.int .i64 2177026350] from rfl) (Reps.one (show Kd.M (Kd.int .i64) _ _ _ 2456956037 [.int .i64 2456956037] from rfl) (Reps.one (show Kd.M (Kd.int .i64) _ _ _ 2730485921 [.int .i64 2730485921] from rfl) (Reps.one (show Kd.M (Kd.int .i64) _ _ _ 2820302411 [.int .i64 2820302411] from rfl) (Reps.one (show Kd.M (Kd.int .i64) _ _ _ 3259730800 [.int .i64 3259730800] from rfl) (Reps.one (show Kd.M (Kd.int .i64) _ _ _ 3345764771 [.int .i64 3345764771] from rfl) (Reps.one (show Kd.M (Kd.int .i64) _ _ _ 3516065817 [.int .i64 3516065817] from rfl) (Reps.one (show Kd.M (Kd.int .i64) _ _ _ 3600352804 [.int .i64 3600352804] from rfl) (Reps.one (show Kd.M (Kd.int .i64) _ _ _ 4094571909 [.int .i64 4094571909] from rfl) (Reps.one (show Kd.M (Kd.int .i64) _ _ _ 275423344 [.int .i64 275423344] from rfl) (Reps.one (show Kd.M (Kd.int .i64) _ _ _ 430227734 [.int .i64 430227734] from rfl) (Reps.one (show Kd.M (Kd.int .i64) _ _ _ 506948616 [.int .i64 506948616] from rfl) (Reps.one (show Kd.M (Kd.int .i64) _ _ _ 659060556 [.int .i64 659060556] from rfl) (Reps.one (show Kd.M (Kd.int .i64) _ _ _ 883997877 [.int .i64 883997877] from rfl) (Reps.one (show Kd.M (Kd.int .i64) _ _ _ 958139571 [.int .i64 958139571] from rfl) (Reps.one (show Kd.M (Kd.int .i64) _ _ _ 1322822218 [.int .i64 1322822218] from rfl) (Reps.one (show Kd.M (Kd.int .i64) _ _ _ 1537002063 [.int .i64 1537002063] from rfl) (Reps.one (show Kd.M (Kd.int .i64) _ _ _ 1747873779 [.int .i64 1747873779] from rfl) (Reps.one (show Kd.M (Kd.int .i64) _ _ _ 1955562222 [.int .i64 1955562222] from rfl) (Reps.one (show Kd.M (Kd.int .i64) _ _ _ 2024104815 [.int .i64 2024104815] from rfl) (Reps.one (show Kd.M (Kd.int .i64) _ _ _ 2227730452 [.int .i64 2227730452] from rfl) (Reps.one (show Kd.M (Kd.int .i64) _ _ _ 2361852424 [.int .i64 2361852424] from rfl) (Reps.one (show Kd.M (Kd.int .i64) _ _ _ 2428436474 [.int .i64 2428436474] from rfl) (Reps.one (show Kd.M (Kd.int .i64) _ _ _ 2756734187 [.int .i64 2756734187] from rfl) (Reps.one (show Kd.M (Kd.int .i64) _ _ _ 3204031479 [.int .i64 3204031479] from rfl) (Reps.one (show Kd.M (Kd.int .i64) _ _ _ 3329325298 [.int .i64 3329325298] from rfl) (Reps.none _ _)))))))))))))))))))))))))))))))))))))))))))))))))))))))))))))))))); intro v204 w1 ho2 hb hg_ hnew_; clear hg_ hnew_; (first | rw [← Ny203.out] at ho2 | (simp only [Int.reduceToNat] at ho2; rw [← Ny203.out] at ho2)); have n0_ := Aside0.mk (Kd.R_lower ho2 (below_size Z1)); have n1_ := Aside0.mk (below_step Z1 hb); clear HB; have HO205 := n0_; have HB := n1_; clear n0_ n1_; clear hb ho2))
 go_ret
 exact ⟨_, Z12, by (with_reducible repeat (first | apply Kd.R_alloc | apply Kd.R_drewN | apply Kd.R_drew)); exact HO205.out, Z1⟩
set_option maxHeartbeats 8000000 in
set_option maxRecDepth 100000 in
theorem r2_low.calls (a0 : Int) (r : Int) (w : World) (h : r2_low.f a0 = some r) :
  Calls Tryz.prog 54 #[.int .i64 a0] w fun e w' => e = .returned (.int .i64 r) ∧ Drawn0 w w' := by
 have H : (some (Go.bits .and .i64 a0 4294967295)) = some r := h
 clear h
 obtain rfl := Option.some.inj H
 go_enter Tryz.func54, Tryz.ntmps54
 go_wp2
 go_ret
 exact ⟨Z4, Z9⟩
set_option maxHeartbeats 8000000 in
set_option maxRecDepth 100000 in
theorem r2_right.calls (a0 : Int) (a1 : Int) (r : Int) (w : World) (h : r2_right.f a0 a1 = some r) :
  Calls Tryz.prog 53 #[.int .i64 a0, .int .i64 a1] w fun e w' => e = .returned (.int .i64 r) ∧ Drawn0 w w' := by
 have H : (if 0 ≤ a1 then (if 0 ≤ (wrap64 (32 - a1)) then ((r2_low.f (Go.bits .or .i64 (shr .i64 a0 a1) (shl .i64 a0 (wrap64 (32 - a1))))).bind fun t206 => (some t206)) else (none)) else (none)) = some r := h
 clear h
 by_cases c3 : 0 ≤ a1
 ·
  rw [if_pos c3] at H
  have c3b0 := eq_true c3
  have c3b1 : decide (0 ≤ a1) = true := decide_eq_true c3
  clear c3
  obtain ⟨ji4, hji4⟩ : ∃ j_ : Int, (shr .i64 a0 a1) = j_ := ⟨_, rfl⟩
  replace H : (if 0 ≤ (wrap64 (32 - a1)) then ((r2_low.f (Go.bits .or .i64 (ji4) (shl .i64 a0 (wrap64 (32 - a1))))).bind fun t206 => (some t206)) else (none)) = some r := by first | (rw [hji4] at H; exact H) | (simp only [hji4] at H ⊢; exact H)
  have hji4_ : (a0 / 2 ^ min a1.toNat 64) = ji4 := hji4
  have hji4z : a1 ≤ 64 → (a0 / 2 ^ a1.toNat) = ji4 := shr_small hji4
  obtain ⟨ji5, hji5⟩ : ∃ j_ : Int, (wrap64 (32 - a1)) = j_ := ⟨_, rfl⟩
  replace H : (if 0 ≤ (ji5) then ((r2_low.f (Go.bits .or .i64 (ji4) (shl .i64 a0 (ji5)))).bind fun t206 => (some t206)) else (none)) = some r := by first | (rw [hji5] at H; exact H) | (simp only [hji5] at H ⊢; exact H)
  have hji5w : (IntKind.i64.wrap (32 - a1)) = ji5 := (i64_w _).trans hji5
  by_cases c6 : 0 ≤ (ji5)
  ·
   rw [if_pos c6] at H
   have c6b0 := eq_true c6
   have c6b1 : decide (0 ≤ (ji5)) = true := decide_eq_true c6
   clear c6
   obtain ⟨ji7, hji7⟩ : ∃ j_ : Int, (shl .i64 a0 (ji5)) = j_ := ⟨_, rfl⟩
   replace H : ((r2_low.f (Go.bits .or .i64 (ji4) (ji7))).bind fun t206 => (some t206)) = some r := by first | (rw [hji7] at H; exact H) | (simp only [hji7] at H ⊢; exact H)
   have hji7_ : (IntKind.i64.wrap (a0 * 2 ^ min (ji5).toNat 64)) = ji7 := hji7
   have hji7z : (ji5) ≤ 64 → (IntKind.i64.wrap (a0 * 2 ^ (ji5).toNat)) = ji7 := shl_small hji7
   have hji7y : (wrap64 (a0 * 2 ^ min (ji5).toNat 64)) = ji7 := (i64_w _).symm.trans hji7_
   have hji7x : (ji5) ≤ 64 → (wrap64 (a0 * 2 ^ (ji5).toNat)) = ji7 := fun h_ => (i64_w _).symm.trans (hji7z h_)
   replace H := Option.bind_eq_some_iff.mp H
   obtain ⟨t206, A80, H⟩ := H
   replace H : (some t206) = some r := H
   have A8 := Aside0.mk A80
   clear A80
   obtain rfl := Option.some.inj H
   go_enter Tryz.func53, Tryz.ntmps53
   go_wp2_with (first | (go_at_call 54; (with_reducible refine (r2_low.calls (Go.bits .or .i64 (ji4) (ji7)) t206 _ A8.out).mono ?_); rintro e w' ⟨rfl, ⟨nd, rfl⟩⟩; (try first | exact ⟨rfl, _, World.drewN_drewN _ _ _⟩ | exact ⟨rfl, _, Eq.trans (World.drewN_drewN _ _ _) (congrArg (World.drewN _) (Nat.add_assoc _ _ _))⟩)))
   repeat (go_quiet (first | (go_at_call 54; (with_reducible refine (r2_low.calls (Go.bits .or .i64 (ji4) (ji7)) t206 _ A8.out).mono ?_); rintro e w' ⟨rfl, ⟨nd, rfl⟩⟩; (try first | exact ⟨rfl, _, World.drewN_drewN _ _ _⟩ | exact ⟨rfl, _, Eq.trans (World.drewN_drewN _ _ _) (congrArg (World.drewN _) (Nat.add_assoc _ _ _))⟩))); try go_wp2_with (first | (go_at_call 54; (with_reducible refine (r2_low.calls (Go.bits .or .i64 (ji4) (ji7)) t206 _ A8.out).mono ?_); rintro e w' ⟨rfl, ⟨nd, rfl⟩⟩; (try first | exact ⟨rfl, _, World.drewN_drewN _ _ _⟩ | exact ⟨rfl, _, Eq.trans (World.drewN_drewN _ _ _) (congrArg (World.drewN _) (Nat.add_assoc _ _ _))⟩))))
   go_ret
   exact ⟨by first | rfl | (simp; done) | (simp only [← hji4, ← hji5, ← hji7] <;> (first | rfl | simp)) | (simp [*]; done), Z9⟩
  ·
   rw [if_neg c6] at H
   exact absurd H Z23
 ·
  rw [if_neg c3] at H
  exact absurd H Z23
def r2_words.T5 : Bool × List (List Nat × List Nat) := (true, [([], []), ([], []), ([], []), ([2], [2]), ([1, 3], [1, 3]), ([4], [4]), ([5], [5]), ([6], [6]), ([], []), ([], []), ([9], [9]), ([10], [10]), ([8, 11], [8, 11]), ([12], [12]), ([13], [13]), ([14], [14]), ([7, 15], [7, 15]), ([], []), ([], []), ([18], [18]), ([19], [19]), ([17, 20], [17, 20]), ([21], [21]), ([22], [22]), ([23], [23]), ([16, 24], [16, 24]), ([], []), ([], []), ([27], [27]), ([28], [28]), ([26, 29], [26, 29]), ([30], [30]), ([31], [31]), ([25, 32], [25, 32]), ([33], [33]), ([0, 34], [0, 34]), ([35, 35, 0, 1, 2, 3, 4, 5, 6, 7, 8, 9, 10, 11, 12, 13, 14, 15, 16, 17, 18, 19, 20, 21, 22, 23, 24, 25, 26, 27, 28, 29, 30, 31, 32, 33, 34, 35], [0, 35])])
def r2_words.B5 : List Nat := [0, 0, 0, 4, 14, 30, 62, 126, 0, 0, 512, 1536, 3840, 7936, 16128, 32512, 65534, 0, 0, 262144, 786432, 1966080, 4063232, 8257536, 16646144, 33554430, 0, 0, 134217728, 402653184, 1006632960, 2080374784, 4227858432, 8589934590, 17179869182, 34359738367, 68719476735]
theorem r2_words.tab5 : rtab .any (opsOf Tryz.f52 5) = r2_words.T5 := by kernel_rfl
theorem r2_words.bits5 : waitsOk r2_words.T5.2 r2_words.B5 = true := by kernel_rfl
def r2_words.T11 : Bool × List (List Nat × List Nat) := (true, [([], []), ([], []), ([], []), ([2], [2]), ([1, 3], [1, 3]), ([4], [4]), ([], []), ([6], [6]), ([], []), ([8, 7], [8]), ([7, 9], [7, 9]), ([], []), ([11], [11]), ([10, 12], [10, 12]), ([5, 13], [5, 13]), ([], []), ([], []), ([16], [16]), ([15, 17], [15, 17]), ([18], [18]), ([14, 19], [14, 19]), ([], []), ([21, 9], [21]), ([], []), ([23, 22], [23]), ([22, 24], [22, 24]), ([], []), ([26], [26]), ([25, 27], [25, 27]), ([20, 28], [20, 28]), ([29, 24], [29]), ([30], [30]), ([0, 31, 30], [0, 31]), ([32, 32, 0, 1, 2, 3, 4, 5, 6, 7, 8, 9, 10, 11, 12, 13, 14, 15, 16, 17, 18, 19, 20, 21, 22, 23, 24, 25, 26, 27, 28, 29, 30, 31, 32], [0, 1, 15, 32])])
def r2_words.B11 : List Nat := [0, 0, 0, 4, 14, 30, 0, 64, 0, 448, 960, 0, 2048, 8128, 16382, 0, 0, 65536, 229376, 491520, 1048574, 0, 2098112, 0, 14681024, 31458240, 0, 67108864, 266339264, 536870910, 1073741822, 2147483646, 4294967295, 8589934591]
theorem r2_words.tab11 : rtab .any (opsOf Tryz.f52 11) = r2_words.T11 := by kernel_rfl
theorem r2_words.bits11 : waitsOk r2_words.T11.2 r2_words.B11 = true := by kernel_rfl
set_option maxHeartbeats 8000000 in
set_option maxRecDepth 100000 in
theorem r2_words.calls (k : Nat) (A0 : Option Addr) (c0 : Nat) (l0 : List Int) (r : List Int) (w : World) (hr0 : Kd.C (Kd.int .u8) w A0 l0.length l0) (hc0 : l0.length ≤ c0) (h : r2_words.f k l0 = some r) :
  Calls Tryz.prog 52 #[.slice A0 l0.length c0] w fun e w' => ∃ v0_ : Value, e = .returned (v0_) ∧ Kd.R (Kd.int .i64) 3 w' w.heap.size (fun _ => True) v0_ r ∧ Below w.heap.size w w' := by
 have HR0 := Aside0.mk hr0
 have HC0 := Aside0.mk hc0
 clear hr0 hc0
 have HB := Aside0.mk (Below.refl w.heap.size w)
 have H : (r2_words.l0 k l0 ([] : List Int) 0) = some r := h
 clear h
 have H' := Aside0.mk H
 clear H
 go_enter Tryz.func52, Tryz.ntmps52
 go_wp2
 go_loopg [3, 4] k (fun kq v3 v4 w' => ∃ (x3_1 : List Int) (x4_1 : Int), v4 = .int .i64 x4_1 ∧ Aside0 (r2_words.l0 kq l0 x3_1 x4_1 = some r) ∧ Aside0 (kq ≤ k) ∧ Aside0 (Kd.R (Kd.int .i64) 3 w' w.heap.size (fun _ => True) v3 x3_1) ∧ Aside0 (Below w.heap.size w w'))
 case atStart => exact ⟨(([] : List Int)), (0), Z4, H', ⟨Nat.le_refl _⟩, ⟨Z17⟩, ⟨Z1⟩⟩
 case round =>
  clear H'
  obtain ⟨x3_1, x4_1, rfl, HA, HK1, HO_3, HB⟩ := hrel
  cases gk with
  | zero => exact absurd HA.out (by simp [r2_words.l0])
  | succ k1 =>
   have H := HA.out
   clear HA
   simp only [r2_words.l0] at H
   by_cases c2 : x4_1 < 16
   ·
    rw [if_pos c2] at H
    have c2b0 : decide (x4_1 < 16) = true := decide_eq_true c2
    clear c2
    obtain ⟨ji3, hji3⟩ : ∃ j_ : Int, (wrap64 (4 * x4_1)) = j_ := ⟨_, rfl⟩
    replace H : (if 0 ≤ (ji3) then (if (ji3) < (l0.length : Int) then (if 0 ≤ (wrap64 ((ji3) + 1)) then (if (wrap64 ((ji3) + 1)) < (l0.length : Int) then (if 0 ≤ (wrap64 ((ji3) + 2)) then (if (wrap64 ((ji3) + 2)) < (l0.length : Int) then (if 0 ≤ (wrap64 ((ji3) + 3)) then (if (wrap64 ((ji3) + 3)) < (l0.length : Int) then (if x3_1.length < 17592186044416 then (r2_words.l0 k1 l0 (x3_1 ++ [wrap64 ((wrap64 ((wrap64 ((wrap64 ((wrap64 (rd l0 (ji3))) * 16777216)) + (wrap64 ((wrap64 (rd l0 (wrap64 ((ji3) + 1)))) * 65536)))) + (wrap64 ((wrap64 (rd l0 (wrap64 ((ji3) + 2)))) * 256)))) + (wrap64 (rd l0 (wrap64 ((ji3) + 3)))))]) (wrap64 (x4_1 + 1))) else (none)) else (none)) else (none)) else (none)) else (none)) else (none)) else (none)) else (none)) else (none)) = some r := by first | (rw [hji3] at H; exact H) | (simp only [hji3] at H ⊢; exact H)
    have hji3w : (IntKind.i64.wrap (4 * x4_1)) = ji3 := (i64_w _).trans hji3
    by_cases c4 : 0 ≤ (ji3)
    ·
     rw [if_pos c4] at H
     have c4b0 : decide (0 ≤ (ji3)) = true := decide_eq_true c4
     clear c4
     by_cases c5 : (ji3) < (l0.length : Int)
     ·
      rw [if_pos c5] at H
      have c5b0 : decide ((ji3) < (l0.length : Int)) = true := decide_eq_true c5
      clear c5
      obtain ⟨ji6, hji6⟩ : ∃ j_ : Int, (wrap64 ((ji3) + 1)) = j_ := ⟨_, rfl⟩
      replace H : (if 0 ≤ (ji6) then (if (ji6) < (l0.length : Int) then (if 0 ≤ (wrap64 ((ji3) + 2)) then (if (wrap64 ((ji3) + 2)) < (l0.length : Int) then (if 0 ≤ (wrap64 ((ji3) + 3)) then (if (wrap64 ((ji3) + 3)) < (l0.length : Int) then (if x3_1.length < 17592186044416 then (r2_words.l0 k1 l0 (x3_1 ++ [wrap64 ((wrap64 ((wrap64 ((wrap64 ((wrap64 (rd l0 (ji3))) * 16777216)) + (wrap64 ((wrap64 (rd l0 (ji6))) * 65536)))) + (wrap64 ((wrap64 (rd l0 (wrap64 ((ji3) + 2)))) * 256)))) + (wrap64 (rd l0 (wrap64 ((ji3) + 3)))))]) (wrap64 (x4_1 + 1))) else (none)) else (none)) else (none)) else (none)) else (none)) else (none)) else (none)) = some r := by first | (rw [hji6] at H; exact H) | (simp only [hji6] at H ⊢; exact H)
      have hji6w : (IntKind.i64.wrap ((ji3) + 1)) = ji6 := (i64_w _).trans hji6
      by_cases c7 : 0 ≤ (ji6)
      ·
       rw [if_pos c7] at H
       have c7b0 : decide (0 ≤ (ji6)) = true := decide_eq_true c7
       clear c7
       by_cases c8 : (ji6) < (l0.length : Int)
       ·
        rw [if_pos c8] at H
        have c8b0 : decide ((ji6) < (l0.length : Int)) = true := decide_eq_true c8
        clear c8
        obtain ⟨ji9, hji9⟩ : ∃ j_ : Int, (wrap64 ((ji3) + 2)) = j_ := ⟨_, rfl⟩
        replace H : (if 0 ≤ (ji9) then (if (ji9) < (l0.length : Int) then (if 0 ≤ (wrap64 ((ji3) + 3)) then (if (wrap64 ((ji3) + 3)) < (l0.length : Int) then (if x3_1.length < 17592186044416 then (r2_words.l0 k1 l0 (x3_1 ++ [wrap64 ((wrap64 ((wrap64 ((wrap64 ((wrap64 (rd l0 (ji3))) * 16777216)) + (wrap64 ((wrap64 (rd l0 (ji6))) * 65536)))) + (wrap64 ((wrap64 (rd l0 (ji9))) * 256)))) + (wrap64 (rd l0 (wrap64 ((ji3) + 3)))))]) (wrap64 (x4_1 + 1))) else (none)) else (none)) else (none)) else (none)) else (none)) = some r := by first | (rw [hji9] at H; exact H) | (simp only [hji9] at H ⊢; exact H)
        have hji9w : (IntKind.i64.wrap ((ji3) + 2)) = ji9 := (i64_w _).trans hji9
        by_cases c10 : 0 ≤ (ji9)
        ·
         rw [if_pos c10] at H
         have c10b0 : decide (0 ≤ (ji9)) = true := decide_eq_true c10
         clear c10
         by_cases c11 : (ji9) < (l0.length : Int)
         ·
          rw [if_pos c11] at H
          have c11b0 : decide ((ji9) < (l0.length : Int)) = true := decide_eq_true c11
          clear c11
          obtain ⟨ji12, hji12⟩ : ∃ j_ : Int, (wrap64 ((ji3) + 3)) = j_ := ⟨_, rfl⟩
          replace H : (if 0 ≤ (ji12) then (if (ji12) < (l0.length : Int) then (if x3_1.length < 17592186044416 then (r2_words.l0 k1 l0 (x3_1 ++ [wrap64 ((wrap64 ((wrap64 ((wrap64 ((wrap64 (rd l0 (ji3))) * 16777216)) + (wrap64 ((wrap64 (rd l0 (ji6))) * 65536)))) + (wrap64 ((wrap64 (rd l0 (ji9))) * 256)))) + (wrap64 (rd l0 (ji12))))]) (wrap64 (x4_1 + 1))) else (none)) else (none)) else (none)) = some r := by first | (rw [hji12] at H; exact H) | (simp only [hji12] at H ⊢; exact H)
          have hji12w : (IntKind.i64.wrap ((ji3) + 3)) = ji12 := (i64_w _).trans hji12
          by_cases c13 : 0 ≤ (ji12)
          ·
           rw [if_pos c13] at H
           have c13b0 : decide (0 ≤ (ji12)) = true := decide_eq_true c13
           clear c13
           by_cases c14 : (ji12) < (l0.length : Int)
           ·
            rw [if_pos c14] at H
            have c14b0 : decide ((ji12) < (l0.length : Int)) = true := decide_eq_true c14
            clear c14
            by_cases c15 : x3_1.length < 17592186044416
            ·
             rw [if_pos c15] at H
             have LMc15 := Aside0.mk c15
             clear c15
             obtain ⟨y211, hy211⟩ : ∃ y_ : List Int, y_ = (x3_1 ++ [wrap64 ((wrap64 ((wrap64 ((wrap64 ((wrap64 (rd l0 (ji3))) * 16777216)) + (wrap64 ((wrap64 (rd l0 (ji6))) * 65536)))) + (wrap64 ((wrap64 (rd l0 (ji9))) * 256)))) + (wrap64 (rd l0 (ji12))))]) := ⟨_, rfl⟩
             replace H : (r2_words.l0 k1 l0 y211 (wrap64 (x4_1 + 1))) = some r := by first | (rw [hy211]; with_reducible exact H) | (have H2_ := (Option.bind_some _ _).symm.trans H; rw [hy211]; with_reducible exact H2_) | (have H2_ := (Option.bind_some _ _).symm.trans H; with_reducible exact H2_) | with_reducible exact H | (rw [hy211]; exact H) | exact H
             have Ny211 := Aside0.mk hy211
             clear hy211
             have H' := Aside0.mk H
             clear H
             try go_wp2
             have n0_ := Aside0.mk (Kd.R_drew HO_3.out)
             have n1_ := Aside0.mk (below_drew1 HB.out)
             clear HO_3; clear HB
             have HO_3 := n0_
             have HB := n1_
             clear n0_ n1_
             have p207 : 0 ≤ ((ji3) : Int) := of_decide_eq_true Z2
             have q207 : (ji3) < (l0.length : Int) := of_decide_eq_true Z2
             obtain ⟨ad207, e207, hx207_0⟩ := Kd.at_int HR0.out (ji3) p207 q207
             have hw207_0 := hx207_0
             cases e207
             replace hx207_0 := (HB.out.cell (World.block_lt_of_cell? w _ hx207_0)).trans hx207_0
             replace p207 := eq_true p207
             replace q207 := eq_true q207
             have p208 : 0 ≤ ((ji6) : Int) := of_decide_eq_true Z2
             have q208 : (ji6) < (l0.length : Int) := of_decide_eq_true Z2
             obtain ⟨ad208, e208, hx208_0⟩ := Kd.at_int HR0.out (ji6) p208 q208
             have hw208_0 := hx208_0
             obtain rfl : ad207 = ad208 := (by injection e208)
             replace hx208_0 := (HB.out.cell (World.block_lt_of_cell? w _ hx208_0)).trans hx208_0
             replace p208 := eq_true p208
             replace q208 := eq_true q208
             have p209 : 0 ≤ ((ji9) : Int) := of_decide_eq_true Z2
             have q209 : (ji9) < (l0.length : Int) := of_decide_eq_true Z2
             obtain ⟨ad209, e209, hx209_0⟩ := Kd.at_int HR0.out (ji9) p209 q209
             have hw209_0 := hx209_0
             obtain rfl : ad207 = ad209 := (by injection e209)
             replace hx209_0 := (HB.out.cell (World.block_lt_of_cell? w _ hx209_0)).trans hx209_0
             replace p209 := eq_true p209
             replace q209 := eq_true q209
             have p210 : 0 ≤ ((ji12) : Int) := of_decide_eq_true Z2
             have q210 : (ji12) < (l0.length : Int) := of_decide_eq_true Z2
             obtain ⟨ad210, e210, hx210_0⟩ := Kd.at_int HR0.out (ji12) p210 q210
             have hw210_0 := hx210_0
             obtain rfl : ad207 = ad210 := (by injection e210)
             replace hx210_0 := (HB.out.cell (World.block_lt_of_cell? w _ hx210_0)).trans hx210_0
             replace p210 := eq_true p210
             replace q210 := eq_true q210
             refine start_ (n := 37) (S := fun w' => w'.cell? (ad207.add ((ji3)).toNat) = some (.int .u8 (rd l0 (ji3))) ∧ w'.cell? (ad207.add ((ji6)).toNat) = some (.int .u8 (rd l0 (ji6))) ∧ w'.cell? (ad207.add ((ji9)).toNat) = some (.int .u8 (rd l0 (ji9))) ∧ w'.cell? (ad207.add ((ji12)).toNat) = some (.int .u8 (rd l0 (ji12)))) (ds := []) #[false, false, false, false, false, false, false, false, false, false, false, false, false, false, false, false, false, false, false, false, false, false, false, false, false, false, false, false, false, false, false, false, false, false, false, false, false] Z13 rfl rfl ⟨((HB.out.cell (World.block_lt_of_cell? w _ hw207_0)).trans hw207_0), ((HB.out.cell (World.block_lt_of_cell? w _ hw208_0)).trans hw208_0), ((HB.out.cell (World.block_lt_of_cell? w _ hw209_0)).trans hw209_0), ((HB.out.cell (World.block_lt_of_cell? w _ hw210_0)).trans hw210_0)⟩ (fun hHeld => ?_); refine with_tabW r2_words.tab5 r2_words.bits5 (fun HT_ HW_ => ?_)
             generalize wr.drew = w16 at HO_3 HB hx207_0 hx208_0 hx209_0 hx210_0 hHeld ⊢
             refine pu 0 12 (bl 37 1) HT_ ?_
             refine pu 1 13 (bl 37 3) HT_ ?_
             refine pu 2 14 (bl 37 7) HT_ ?_
             refine pu 3 15 (bl 37 15) HT_ ?_
             refine pu 4 16 (bl 37 31) HT_ ?_
             refine pu 8 20 (bl 37 287) HT_ ?_
             refine pu 9 21 (bl 37 799) HT_ ?_
             refine pu 10 22 (bl 37 1823) HT_ ?_
             refine pu 11 23 (bl 37 3871) HT_ ?_
             refine pu 12 24 (bl 37 7967) HT_ ?_
             refine pu 17 29 (bl 37 139039) HT_ ?_
             refine pu 18 30 (bl 37 401183) HT_ ?_
             refine pu 19 31 (bl 37 925471) HT_ ?_
             refine pu 20 32 (bl 37 1974047) HT_ ?_
             refine pu 21 33 (bl 37 4071199) HT_ ?_
             refine pu 26 38 (bl 37 71180063) HT_ ?_
             refine pu 27 39 (bl 37 205397791) HT_ ?_
             refine pu 28 40 (bl 37 473833247) HT_ ?_
             refine pu 29 41 (bl 37 1010704159) HT_ ?_
             refine pu 30 42 (bl 37 2084445983) HT_ ?_
             refine tk 5 17 (bl 37 2084446015) HT_ HW_ hHeld ?_ (hy := by rintro w' ⟨s0, s1, s2, s3⟩; go_simp; with_reducible rfl)
             refine pu 6 18 (bl 37 2084446079) HT_ ?_
             refine pu 7 19 (bl 37 2084446207) HT_ ?_
             refine tk 13 25 (bl 37 2084454399) HT_ HW_ hHeld ?_ (hy := by rintro w' ⟨s0, s1, s2, s3⟩; go_simp; with_reducible rfl)
             refine pu 14 26 (bl 37 2084470783) HT_ ?_
             refine pu 15 27 (bl 37 2084503551) HT_ ?_
             refine pu 16 28 (bl 37 2084569087) HT_ ?_
             refine tk 22 34 (bl 37 2088763391) HT_ HW_ hHeld ?_ (hy := by rintro w' ⟨s0, s1, s2, s3⟩; go_simp; with_reducible rfl)
             refine pu 23 35 (bl 37 2097151999) HT_ ?_
             refine pu 24 36 (bl 37 2113929215) HT_ ?_
             refine pu 25 37 (bl 37 2147483647) HT_ ?_
             refine tk 31 43 (bl 37 4294967295) HT_ HW_ hHeld ?_ (hy := by rintro w' ⟨s0, s1, s2, s3⟩; go_simp; with_reducible rfl)
             refine pu 32 44 (bl 37 8589934591) HT_ ?_
             refine pu 33 45 (bl 37 17179869183) HT_ ?_
             refine one_ (i := 34) (N := some 46) (bl 37 34359738367) rfl rfl (one_of HT_.out Z13) Z11 (fun K hK => ?_)
             refine value_ (w1 := ?_) (v := ?_) (by rfl) rfl ?_ ?_
             rotate_left 2
             ·
              go_simp
              constructor
              · rfl
              · rfl
             refine hK.out _ _ ⟨(World.cell?_alloc_lt _ _ _ (World.block_lt_of_cell? _ _ (((HB.out.cell (World.block_lt_of_cell? w _ hw207_0)).trans hw207_0)))).trans (((HB.out.cell (World.block_lt_of_cell? w _ hw207_0)).trans hw207_0)), (World.cell?_alloc_lt _ _ _ (World.block_lt_of_cell? _ _ (((HB.out.cell (World.block_lt_of_cell? w _ hw208_0)).trans hw208_0)))).trans (((HB.out.cell (World.block_lt_of_cell? w _ hw208_0)).trans hw208_0)), (World.cell?_alloc_lt _ _ _ (World.block_lt_of_cell? _ _ (((HB.out.cell (World.block_lt_of_cell? w _ hw209_0)).trans hw209_0)))).trans (((HB.out.cell (World.block_lt_of_cell? w _ hw209_0)).trans hw209_0)), (World.cell?_alloc_lt _ _ _ (World.block_lt_of_cell? _ _ (((HB.out.cell (World.block_lt_of_cell? w _ hw210_0)).trans hw210_0)))).trans (((HB.out.cell (World.block_lt_of_cell? w _ hw210_0)).trans hw210_0))⟩ (fun hHeld => ?_)
             clear hK K
             refine norm_ (a' := ?_) ?_ ?_
             rotate_left
             ·
              show Act.put _ (some 46) _ = _
              simp only [Act.put, List.setIfInBounds_toArray, List.set_cons_zero, List.set_cons_succ, i64_w, i32_w]
              rfl
             refine one_ (i := 35) (N := some 47) (bl 37 68719476735) rfl rfl (one_of HT_.out Z13) Z11 (fun K hK => ?_)
             refine Kd.R_append_step (Kd.int .i64) (w0 := w) w.heap.size (by rfl) (.tmp 12) (.tmp 46) 80 3 (.int .i64 0) 8 rfl Tryz.underlying80 info3 rfl Z11 Z3 u3 x3_1 (wrap64 ((wrap64 ((wrap64 ((wrap64 ((wrap64 (rd l0 (ji3))) * 16777216)) + (wrap64 ((wrap64 (rd l0 (ji6))) * 65536)))) + (wrap64 ((wrap64 (rd l0 (ji9))) * 256)))) + (wrap64 (rd l0 (ji12))))) [.int .i64 (wrap64 ((wrap64 ((wrap64 ((wrap64 ((wrap64 (rd l0 (ji3))) * 16777216)) + (wrap64 ((wrap64 (rd l0 (ji6))) * 65536)))) + (wrap64 ((wrap64 (rd l0 (ji9))) * 256)))) + (wrap64 (rd l0 (ji12)))))] (fun _ => True) (fun _ => False) rfl rfl ?aP (fun _ hk => hk.elim) ?aF ?aO ?aB ?aS ?aL ?_
             (case aP => exact rfl)
             (case aB => exact Z1)
             (case aF => exact (fun _ _ => trivial))
             (case aO => exact Z24)
             (case aS => exact (below_size Z1))
             (case aL => have := LMc15.out; omega)
             intro v212 w17 ho hb hg hat
             rw [← Ny211.out] at ho
             have n0_ := Aside0.mk (hb)
             have n1_ := Aside0.mk (ho)
             clear HB; clear HO_3
             have HB := n0_
             have HO213 := n1_
             clear n0_ n1_; clear ho hb hg hat
             refine hK.out _ _ ⟨((HB.out.cell (World.block_lt_of_cell? w _ hw207_0)).trans hw207_0), ((HB.out.cell (World.block_lt_of_cell? w _ hw208_0)).trans hw208_0), ((HB.out.cell (World.block_lt_of_cell? w _ hw209_0)).trans hw209_0), ((HB.out.cell (World.block_lt_of_cell? w _ hw210_0)).trans hw210_0)⟩ (fun hHeld => ?_)
             clear hK K
             refine norm_ (a' := ?_) ?_ ?_
             rotate_left
             ·
              show Act.put _ (some 47) _ = _
              simp only [Act.put, List.setIfInBounds_toArray, List.set_cons_zero, List.set_cons_succ, i64_w, i32_w]
              rfl
             refine pu 36 3 (bl 37 137438953471) HT_ ?_
             refine done_ (done_of HT_.out Z13) ?_
             try go_wp2
             go_roundg k1
             case measure => have := HK1.out; omega
             case rel => exact ⟨(y211), (wrap64 (x4_1 + 1)), Z4, H', ⟨by have := HK1.out; omega⟩, ⟨by (with_reducible repeat (first | apply Kd.R_alloc | apply Kd.R_drewN | apply Kd.R_drew)); exact HO213.out⟩, ⟨Z1⟩⟩
            ·
             rw [if_neg c15] at H
             exact absurd H Z23
           ·
            rw [if_neg c14] at H
            exact absurd H Z23
          ·
           rw [if_neg c13] at H
           exact absurd H Z23
         ·
          rw [if_neg c11] at H
          exact absurd H Z23
        ·
         rw [if_neg c10] at H
         exact absurd H Z23
       ·
        rw [if_neg c8] at H
        exact absurd H Z23
      ·
       rw [if_neg c7] at H
       exact absurd H Z23
     ·
      rw [if_neg c5] at H
      exact absurd H Z23
    ·
     rw [if_neg c4] at H
     exact absurd H Z23
   ·
    rw [if_neg c2] at H
    have c2b0 : decide (x4_1 < 16) = false := decide_eq_false c2
    clear c2
    have H' := Aside0.mk H
    clear H
    go_wp2
    go_loopg [3, 5] k1 (fun kq v3 v5 w' => ∃ (x3_2 : List Int) (x5_2 : Int), v5 = .int .i64 x5_2 ∧ Aside0 (r2_words.l1 kq x3_2 x5_2 = some r) ∧ Aside0 (kq ≤ k1) ∧ Aside0 (Kd.R (Kd.int .i64) 3 w' w.heap.size (fun _ => True) v3 x3_2) ∧ Aside0 (Below w.heap.size w w'))
    case atStart => exact ⟨(x3_1), (16), Z4, H', ⟨Nat.le_refl _⟩, ⟨Z24⟩, ⟨Z1⟩⟩
    case round =>
     clear H'
     try clear c1; try clear c2; try clear c2b0; try clear p2; try clear q2; try clear hx2; try clear c4; try clear c4b0; try clear c5; try clear c5b0; try clear p6; try clear c7; try clear c7b0; try clear c8; try clear c8b0; try clear c10; try clear c10b0; try clear c11; try clear c11b0; try clear c13; try clear c13b0; try clear c14; try clear c14b0; try clear c15; try clear hx207_0; try clear hx208_0; try clear hx209_0; try clear hx210_0; try clear p207; try clear p208; try clear p209; try clear p210; try clear q207; try clear q208; try clear q209; try clear q210
     obtain ⟨x3_2, x5_2, rfl, HA, HK2, HO_3, HB⟩ := hrel
     cases gk with
     | zero => exact absurd HA.out (by simp [r2_words.l1])
     | succ k2 =>
      have H := HA.out
      clear HA
      simp only [r2_words.l1] at H
      by_cases c18 : x5_2 < 64
      ·
       rw [if_pos c18] at H
       have c18b0 : decide (x5_2 < 64) = true := decide_eq_true c18
       clear c18
       obtain ⟨ji19, hji19⟩ : ∃ j_ : Int, (wrap64 (x5_2 - 15)) = j_ := ⟨_, rfl⟩
       replace H : (if 0 ≤ (ji19) then (if (ji19) < (x3_2.length : Int) then (if 0 ≤ (wrap64 (x5_2 - 2)) then (if (wrap64 (x5_2 - 2)) < (x3_2.length : Int) then (if 0 ≤ (wrap64 (x5_2 - 16)) then (if (wrap64 (x5_2 - 16)) < (x3_2.length : Int) then ((r2_right.f (rd x3_2 (ji19)) 7).bind fun t217 => ((r2_right.f (rd x3_2 (ji19)) 18).bind fun t218 => (if 0 ≤ (wrap64 (x5_2 - 7)) then (if (wrap64 (x5_2 - 7)) < (x3_2.length : Int) then ((r2_right.f (rd x3_2 (wrap64 (x5_2 - 2))) 17).bind fun t220 => ((r2_right.f (rd x3_2 (wrap64 (x5_2 - 2))) 19).bind fun t221 => ((r2_low.f (wrap64 ((wrap64 ((wrap64 ((rd x3_2 (wrap64 (x5_2 - 16))) + (Go.bits .xor .i64 (Go.bits .xor .i64 t217 t218) ((rd x3_2 (ji19)) / 8)))) + (rd x3_2 (wrap64 (x5_2 - 7))))) + (Go.bits .xor .i64 (Go.bits .xor .i64 t220 t221) ((rd x3_2 (wrap64 (x5_2 - 2))) / 1024))))).bind fun t222 => (if x3_2.length < 17592186044416 then (r2_words.l1 k2 (x3_2 ++ [t222]) (wrap64 (x5_2 + 1))) else (none))))) else (none)) else (none)))) else (none)) else (none)) else (none)) else (none)) else (none)) else (none)) = some r := by first | (rw [hji19] at H; exact H) | (simp only [hji19] at H ⊢; exact H)
       have hji19w : (IntKind.i64.wrap (x5_2 - 15)) = ji19 := (i64_w _).trans hji19
       by_cases c20 : 0 ≤ (ji19)
       ·
        rw [if_pos c20] at H
        have c20b0 : decide (0 ≤ (ji19)) = true := decide_eq_true c20
        clear c20
        by_cases c21 : (ji19) < (x3_2.length : Int)
        ·
         rw [if_pos c21] at H
         have c21b0 : decide ((ji19) < (x3_2.length : Int)) = true := decide_eq_true c21
         clear c21
         obtain ⟨ji22, hji22⟩ : ∃ j_ : Int, (wrap64 (x5_2 - 2)) = j_ := ⟨_, rfl⟩
         replace H : (if 0 ≤ (ji22) then (if (ji22) < (x3_2.length : Int) then (if 0 ≤ (wrap64 (x5_2 - 16)) then (if (wrap64 (x5_2 - 16)) < (x3_2.length : Int) then ((r2_right.f (rd x3_2 (ji19)) 7).bind fun t217 => ((r2_right.f (rd x3_2 (ji19)) 18).bind fun t218 => (if 0 ≤ (wrap64 (x5_2 - 7)) then (if (wrap64 (x5_2 - 7)) < (x3_2.length : Int) then ((r2_right.f (rd x3_2 (ji22)) 17).bind fun t220 => ((r2_right.f (rd x3_2 (ji22)) 19).bind fun t221 => ((r2_low.f (wrap64 ((wrap64 ((wrap64 ((rd x3_2 (wrap64 (x5_2 - 16))) + (Go.bits .xor .i64 (Go.bits .xor .i64 t217 t218) ((rd x3_2 (ji19)) / 8)))) + (rd x3_2 (wrap64 (x5_2 - 7))))) + (Go.bits .xor .i64 (Go.bits .xor .i64 t220 t221) ((rd x3_2 (ji22)) / 1024))))).bind fun t222 => (if x3_2.length < 17592186044416 then (r2_words.l1 k2 (x3_2 ++ [t222]) (wrap64 (x5_2 + 1))) else (none))))) else (none)) else (none)))) else (none)) else (none)) else (none)) else (none)) = some r := by first | (rw [hji22] at H; exact H) | (simp only [hji22] at H ⊢; exact H)
         have hji22w : (IntKind.i64.wrap (x5_2 - 2)) = ji22 := (i64_w _).trans hji22
         by_cases c23 : 0 ≤ (ji22)
         ·
          rw [if_pos c23] at H
          have c23b0 : decide (0 ≤ (ji22)) = true := decide_eq_true c23
          clear c23
          by_cases c24 : (ji22) < (x3_2.length : Int)
          ·
           rw [if_pos c24] at H
           have c24b0 : decide ((ji22) < (x3_2.length : Int)) = true := decide_eq_true c24
           clear c24
           obtain ⟨ji25, hji25⟩ : ∃ j_ : Int, (wrap64 (x5_2 - 16)) = j_ := ⟨_, rfl⟩
           replace H : (if 0 ≤ (ji25) then (if (ji25) < (x3_2.length : Int) then ((r2_right.f (rd x3_2 (ji19)) 7).bind fun t217 => ((r2_right.f (rd x3_2 (ji19)) 18).bind fun t218 => (if 0 ≤ (wrap64 (x5_2 - 7)) then (if (wrap64 (x5_2 - 7)) < (x3_2.length : Int) then ((r2_right.f (rd x3_2 (ji22)) 17).bind fun t220 => ((r2_right.f (rd x3_2 (ji22)) 19).bind fun t221 => ((r2_low.f (wrap64 ((wrap64 ((wrap64 ((rd x3_2 (ji25)) + (Go.bits .xor .i64 (Go.bits .xor .i64 t217 t218) ((rd x3_2 (ji19)) / 8)))) + (rd x3_2 (wrap64 (x5_2 - 7))))) + (Go.bits .xor .i64 (Go.bits .xor .i64 t220 t221) ((rd x3_2 (ji22)) / 1024))))).bind fun t222 => (if x3_2.length < 17592186044416 then (r2_words.l1 k2 (x3_2 ++ [t222]) (wrap64 (x5_2 + 1))) else (none))))) else (none)) else (none)))) else (none)) else (none)) = some r := by first | (rw [hji25] at H; exact H) | (simp only [hji25] at H ⊢; exact H)
           have hji25w : (IntKind.i64.wrap (x5_2 - 16)) = ji25 := (i64_w _).trans hji25
           by_cases c26 : 0 ≤ (ji25)
           ·
            rw [if_pos c26] at H
            have c26b0 : decide (0 ≤ (ji25)) = true := decide_eq_true c26
            clear c26
            by_cases c27 : (ji25) < (x3_2.length : Int)
            ·
             rw [if_pos c27] at H
             have c27b0 : decide ((ji25) < (x3_2.length : Int)) = true := decide_eq_true c27
             clear c27
             replace H := Option.bind_eq_some_iff.mp H
             obtain ⟨t217, A280, H⟩ := H
             replace H : ((r2_right.f (rd x3_2 (ji19)) 18).bind fun t218 => (if 0 ≤ (wrap64 (x5_2 - 7)) then (if (wrap64 (x5_2 - 7)) < (x3_2.length : Int) then ((r2_right.f (rd x3_2 (ji22)) 17).bind fun t220 => ((r2_right.f (rd x3_2 (ji22)) 19).bind fun t221 => ((r2_low.f (wrap64 ((wrap64 ((wrap64 ((rd x3_2 (ji25)) + (Go.bits .xor .i64 (Go.bits .xor .i64 t217 t218) ((rd x3_2 (ji19)) / 8)))) + (rd x3_2 (wrap64 (x5_2 - 7))))) + (Go.bits .xor .i64 (Go.bits .xor .i64 t220 t221) ((rd x3_2 (ji22)) / 1024))))).bind fun t222 => (if x3_2.length < 17592186044416 then (r2_words.l1 k2 (x3_2 ++ [t222]) (wrap64 (x5_2 + 1))) else (none))))) else (none)) else (none))) = some r := H
             have A28 := Aside0.mk A280
             clear A280
             replace H := Option.bind_eq_some_iff.mp H
             obtain ⟨t218, A290, H⟩ := H
             replace H : (if 0 ≤ (wrap64 (x5_2 - 7)) then (if (wrap64 (x5_2 - 7)) < (x3_2.length : Int) then ((r2_right.f (rd x3_2 (ji22)) 17).bind fun t220 => ((r2_right.f (rd x3_2 (ji22)) 19).bind fun t221 => ((r2_low.f (wrap64 ((wrap64 ((wrap64 ((rd x3_2 (ji25)) + (Go.bits .xor .i64 (Go.bits .xor .i64 t217 t218) ((rd x3_2 (ji19)) / 8)))) + (rd x3_2 (wrap64 (x5_2 - 7))))) + (Go.bits .xor .i64 (Go.bits .xor .i64 t220 t221) ((rd x3_2 (ji22)) / 1024))))).bind fun t222 => (if x3_2.length < 17592186044416 then (r2_words.l1 k2 (x3_2 ++ [t222]) (wrap64 (x5_2 + 1))) else (none))))) else (none)) else (none)) = some r := H
             have A29 := Aside0.mk A290
             clear A290
             obtain ⟨ji30, hji30⟩ : ∃ j_ : Int, (wrap64 (x5_2 - 7)) = j_ := ⟨_, rfl⟩
             replace H : (if 0 ≤ (ji30) then (if (ji30) < (x3_2.length : Int) then ((r2_right.f (rd x3_2 (ji22)) 17).bind fun t220 => ((r2_right.f (rd x3_2 (ji22)) 19).bind fun t221 => ((r2_low.f (wrap64 ((wrap64 ((wrap64 ((rd x3_2 (ji25)) + (Go.bits .xor .i64 (Go.bits .xor .i64 t217 t218) ((rd x3_2 (ji19)) / 8)))) + (rd x3_2 (ji30)))) + (Go.bits .xor .i64 (Go.bits .xor .i64 t220 t221) ((rd x3_2 (ji22)) / 1024))))).bind fun t222 => (if x3_2.length < 17592186044416 then (r2_words.l1 k2 (x3_2 ++ [t222]) (wrap64 (x5_2 + 1))) else (none))))) else (none)) else (none)) = some r := by first | (rw [hji30] at H; exact H) | (simp only [hji30] at H ⊢; exact H)
             (try rw [hji30] at A28)
             (try rw [hji30] at A29)
             have hji30w : (IntKind.i64.wrap (x5_2 - 7)) = ji30 := (i64_w _).trans hji30
             by_cases c31 : 0 ≤ (ji30)
             ·
              rw [if_pos c31] at H
              have c31b0 : decide (0 ≤ (ji30)) = true := decide_eq_true c31
              clear c31
              by_cases c32 : (ji30) < (x3_2.length : Int)
              ·
               rw [if_pos c32] at H
               have c32b0 : decide ((ji30) < (x3_2.length : Int)) = true := decide_eq_true c32
               clear c32
               replace H := Option.bind_eq_some_iff.mp H
               obtain ⟨t220, A330, H⟩ := H
               replace H : ((r2_right.f (rd x3_2 (ji22)) 19).bind fun t221 => ((r2_low.f (wrap64 ((wrap64 ((wrap64 ((rd x3_2 (ji25)) + (Go.bits .xor .i64 (Go.bits .xor .i64 t217 t218) ((rd x3_2 (ji19)) / 8)))) + (rd x3_2 (ji30)))) + (Go.bits .xor .i64 (Go.bits .xor .i64 t220 t221) ((rd x3_2 (ji22)) / 1024))))).bind fun t222 => (if x3_2.length < 17592186044416 then (r2_words.l1 k2 (x3_2 ++ [t222]) (wrap64 (x5_2 + 1))) else (none)))) = some r := H
               have A33 := Aside0.mk A330
               clear A330
               replace H := Option.bind_eq_some_iff.mp H
               obtain ⟨t221, A340, H⟩ := H
               replace H : ((r2_low.f (wrap64 ((wrap64 ((wrap64 ((rd x3_2 (ji25)) + (Go.bits .xor .i64 (Go.bits .xor .i64 t217 t218) ((rd x3_2 (ji19)) / 8)))) + (rd x3_2 (ji30)))) + (Go.bits .xor .i64 (Go.bits .xor .i64 t220 t221) ((rd x3_2 (ji22)) / 1024))))).bind fun t222 => (if x3_2.length < 17592186044416 then (r2_words.l1 k2 (x3_2 ++ [t222]) (wrap64 (x5_2 + 1))) else (none))) = some r := H
               have A34 := Aside0.mk A340
               clear A340
               replace H := Option.bind_eq_some_iff.mp H
               obtain ⟨t222, A350, H⟩ := H
               replace H : (if x3_2.length < 17592186044416 then (r2_words.l1 k2 (x3_2 ++ [t222]) (wrap64 (x5_2 + 1))) else (none)) = some r := H
               have A35 := Aside0.mk A350
               clear A350
               by_cases c36 : x3_2.length < 17592186044416
               ·
                rw [if_pos c36] at H
                have LMc36 := Aside0.mk c36
                clear c36
                obtain ⟨y223, hy223⟩ : ∃ y_ : List Int, y_ = (x3_2 ++ [t222]) := ⟨_, rfl⟩
                replace H : (r2_words.l1 k2 y223 (wrap64 (x5_2 + 1))) = some r := by first | (rw [hy223]; with_reducible exact H) | (have H2_ := (Option.bind_some _ _).symm.trans H; rw [hy223]; with_reducible exact H2_) | (have H2_ := (Option.bind_some _ _).symm.trans H; with_reducible exact H2_) | with_reducible exact H | (rw [hy223]; exact H) | exact H
                have Ny223 := Aside0.mk hy223
                clear hy223
                have H' := Aside0.mk H
                clear H
                obtain ⟨Ao37, co37, eo37⟩ := Kd.R_slice HO_3.out
                subst eo37
                have p214 : 0 ≤ ((ji19) : Int) := of_decide_eq_true Z2
                have q214 : (ji19) < (x3_2.length : Int) := of_decide_eq_true Z2
                obtain ⟨ad214, e214, hx214_0⟩ := Kd.at_int (Kd.R_reads' HO_3.out).2.2 (ji19) p214 q214
                cases e214
                replace p214 := eq_true p214
                replace q214 := eq_true q214
                have p215 : 0 ≤ ((ji22) : Int) := of_decide_eq_true Z2
                have q215 : (ji22) < (x3_2.length : Int) := of_decide_eq_true Z2
                obtain ⟨ad215, e215, hx215_0⟩ := Kd.at_int (Kd.R_reads' HO_3.out).2.2 (ji22) p215 q215
                obtain rfl : ad214 = ad215 := (by injection e215)
                replace p215 := eq_true p215
                replace q215 := eq_true q215
                try go_wp2
                have n0_ := Aside0.mk (Kd.R_drew HO_3.out)
                have n1_ := Aside0.mk (below_drew1 HB.out)
                clear HO_3; clear HB
                have HO_3 := n0_
                have HB := n1_
                clear n0_ n1_
                have p216 : 0 ≤ ((ji25) : Int) := of_decide_eq_true Z2
                have q216 : (ji25) < (x3_2.length : Int) := of_decide_eq_true Z2
                obtain ⟨ad216, e216, hx216_0⟩ := Kd.at_int (Kd.R_reads' HO_3.out).2.2 (ji25) p216 q216
                obtain rfl : ad214 = ad216 := (by injection e216)
                replace p216 := eq_true p216
                replace q216 := eq_true q216
                have p219 : 0 ≤ ((ji30) : Int) := of_decide_eq_true Z2
                have q219 : (ji30) < (x3_2.length : Int) := of_decide_eq_true Z2
                obtain ⟨ad219, e219, hx219_0⟩ := Kd.at_int (Kd.R_reads' HO_3.out).2.2 (ji30) p219 q219
                obtain rfl : ad214 = ad219 := (by injection e219)
                replace p219 := eq_true p219
                replace q219 := eq_true q219
                refine start_ (n := 34) (S := fun w' => w'.cell? (ad214.add ((ji25)).toNat) = some (.int .i64 (rd x3_2 (ji25))) ∧ w'.cell? (ad214.add ((ji30)).toNat) = some (.int .i64 (rd x3_2 (ji30)))) (ds := [31, 32]) #[false, false, false, false, false, false, false, false, false, false, false, false, false, false, false, false, false, false, false, false, false, false, false, false, false, false, false, false, false, false, false, false, false, false] Z13 rfl rfl ⟨hx216_0, hx219_0⟩ (fun hHeld => ?_); refine with_tabW r2_words.tab11 r2_words.bits11 (fun HT_ HW_ => ?_)
                generalize wr.drew = w38 at HO_3 HB hx216_0 hx219_0 hHeld ⊢
                refine pu 0 62 (bl 34 1) HT_ ?_
                refine pu 1 63 (bl 34 3) HT_ ?_
                refine pu 2 64 (bl 34 7) HT_ ?_
                refine pu 3 65 (bl 34 15) HT_ ?_
                refine pu 4 66 (bl 34 31) HT_ ?_
                refine pu 6 68 (bl 34 95) HT_ ?_
                refine pu 8 70 (bl 34 351) HT_ ?_
                refine pu 11 73 (bl 34 2399) HT_ ?_
                refine pu 12 74 (bl 34 6495) HT_ ?_
                refine pu 15 77 (bl 34 39263) HT_ ?_
                refine pu 16 78 (bl 34 104799) HT_ ?_
                refine pu 17 79 (bl 34 235871) HT_ ?_
                refine pu 18 80 (bl 34 498015) HT_ ?_
                refine pu 21 83 (bl 34 2595167) HT_ ?_
                refine pu 23 85 (bl 34 10983775) HT_ ?_
                refine pu 26 88 (bl 34 78092639) HT_ ?_
                refine pu 27 89 (bl 34 212310367) HT_ ?_
                refine tk 5 67 (bl 34 212310399) HT_ HW_ hHeld ?_ (hy := by rintro w' ⟨s0, s1⟩; go_simp; with_reducible rfl)
                refine tk 19 81 (bl 34 212834687) HT_ HW_ hHeld ?_ (hy := by rintro w' ⟨s0, s1⟩; go_simp; with_reducible rfl)
                refine one_ (i := 7) (N := some 69) (bl 34 212834815) rfl rfl (one_of HT_.out Z13) Z11 (fun K hK => ?_)
                refine goes_ Tryz.func53 Z13 rfl #[.int .i64 (rd x3_2 (ji19)), .int .i64 7] (by rfl) rfl rfl (by (try simp only [List.map_toArray, List.map_cons, List.map_nil]); first | done | (simp only [hji19]; rfl) | rfl | (simp only [List.length_drop, List.length_take]; rfl)) ?_
                with_reducible refine (r2_right.calls (rd x3_2 (ji19)) 7 t217 _ A28.out).mono ?_
                rintro e w' ⟨rfl, ⟨nd, rfl⟩⟩
                refine ⟨_, rfl, ?_⟩
                refine hK.out _ _ ⟨hHeld.1, hHeld.2⟩ (fun hHeld => ?_)
                clear hK K
                refine norm_ (a' := ?_) ?_ ?_
                rotate_left
                ·
                 show Act.put _ (some 69) _ = _
                 simp only [Act.put, List.setIfInBounds_toArray, List.set_cons_zero, List.set_cons_succ, i64_w, i32_w]
                 rfl
                refine one_ (i := 9) (N := some 71) (bl 34 212835327) rfl rfl (one_of HT_.out Z13) Z11 (fun K hK => ?_)
                refine goes_ Tryz.func53 Z13 rfl #[.int .i64 (rd x3_2 (ji19)), .int .i64 18] (by rfl) rfl rfl (by (try simp only [List.map_toArray, List.map_cons, List.map_nil]); first | done | (simp only [hji19]; rfl) | rfl | (simp only [List.length_drop, List.length_take]; rfl)) ?_
                with_reducible refine (r2_right.calls (rd x3_2 (ji19)) 18 t218 _ A29.out).mono ?_
                rintro e w' ⟨rfl, ⟨nd, rfl⟩⟩
                refine ⟨_, rfl, ?_⟩
                refine hK.out _ _ ⟨hHeld.1, hHeld.2⟩ (fun hHeld => ?_)
                clear hK K
                refine norm_ (a' := ?_) ?_ ?_
                rotate_left
                ·
                 show Act.put _ (some 71) _ = _
                 simp only [Act.put, List.setIfInBounds_toArray, List.set_cons_zero, List.set_cons_succ, i64_w, i32_w]
                 rfl
                refine pu 10 72 (bl 34 212836351) HT_ ?_
                refine pu 13 75 (bl 34 212844543) HT_ ?_
                refine pu 14 76 (bl 34 212860927) HT_ ?_
                refine pu 20 82 (bl 34 213909503) HT_ ?_
                refine one_ (i := 22) (N := some 84) (bl 34 218103807) rfl rfl (one_of HT_.out Z13) Z11 (fun K hK => ?_)
                refine goes_ Tryz.func53 Z13 rfl #[.int .i64 (rd x3_2 (ji22)), .int .i64 17] (by rfl) rfl rfl (by (try simp only [List.map_toArray, List.map_cons, List.map_nil]); first | done | (simp only [hji22]; rfl) | rfl | (simp only [List.length_drop, List.length_take]; rfl)) ?_
                with_reducible refine (r2_right.calls (rd x3_2 (ji22)) 17 t220 _ A33.out).mono ?_
                rintro e w' ⟨rfl, ⟨nd, rfl⟩⟩
                refine ⟨_, rfl, ?_⟩
                refine hK.out _ _ ⟨hHeld.1, hHeld.2⟩ (fun hHeld => ?_)
                clear hK K
                refine norm_ (a' := ?_) ?_ ?_
                rotate_left
                ·
                 show Act.put _ (some 84) _ = _
                 simp only [Act.put, List.setIfInBounds_toArray, List.set_cons_zero, List.set_cons_succ, i64_w, i32_w]
                 rfl
                refine one_ (i := 24) (N := some 86) (bl 34 234881023) rfl rfl (one_of HT_.out Z13) Z11 (fun K hK => ?_)
                refine goes_ Tryz.func53 Z13 rfl #[.int .i64 (rd x3_2 (ji22)), .int .i64 19] (by rfl) rfl rfl (by (try simp only [List.map_toArray, List.map_cons, List.map_nil]); first | done | (simp only [hji22]; rfl) | rfl | (simp only [List.length_drop, List.length_take]; rfl)) ?_
                with_reducible refine (r2_right.calls (rd x3_2 (ji22)) 19 t221 _ A34.out).mono ?_
                rintro e w' ⟨rfl, ⟨nd, rfl⟩⟩
                refine ⟨_, rfl, ?_⟩
                refine hK.out _ _ ⟨hHeld.1, hHeld.2⟩ (fun hHeld => ?_)
                clear hK K
                refine norm_ (a' := ?_) ?_ ?_
                rotate_left
                ·
                 show Act.put _ (some 86) _ = _
                 simp only [Act.put, List.setIfInBounds_toArray, List.set_cons_zero, List.set_cons_succ, i64_w, i32_w]
                 rfl
                refine pu 25 87 (bl 34 268435455) HT_ ?_
                refine pu 28 90 (bl 34 536870911) HT_ ?_
                refine pu 29 91 (bl 34 1073741823) HT_ ?_
                refine one_ (i := 30) (N := some 92) (bl 34 2147483647) rfl rfl (one_of HT_.out Z13) Z11 (fun K hK => ?_)
                refine goes_ Tryz.func54 Z13 rfl #[.int .i64 (wrap64 ((wrap64 ((wrap64 ((rd x3_2 (ji25)) + (Go.bits .xor .i64 (Go.bits .xor .i64 t217 t218) ((rd x3_2 (ji19)) / 8)))) + (rd x3_2 (ji30)))) + (Go.bits .xor .i64 (Go.bits .xor .i64 t220 t221) ((rd x3_2 (ji22)) / 1024))))] (by rfl) rfl rfl (by (try simp only [List.map_toArray, List.map_cons, List.map_nil]); first | done | (simp only [hji19, hji22, hji25, hji30]; rfl) | rfl | (simp only [List.length_drop, List.length_take]; rfl)) ?_
                with_reducible refine (r2_low.calls (wrap64 ((wrap64 ((wrap64 ((rd x3_2 (ji25)) + (Go.bits .xor .i64 (Go.bits .xor .i64 t217 t218) ((rd x3_2 (ji19)) / 8)))) + (rd x3_2 (ji30)))) + (Go.bits .xor .i64 (Go.bits .xor .i64 t220 t221) ((rd x3_2 (ji22)) / 1024)))) t222 _ A35.out).mono ?_
                rintro e w' ⟨rfl, ⟨nd, rfl⟩⟩
                refine ⟨_, rfl, ?_⟩
                refine hK.out _ _ ⟨hHeld.1, hHeld.2⟩ (fun hHeld => ?_)
                clear hK K
                refine norm_ (a' := ?_) ?_ ?_
                rotate_left
                ·
                 show Act.put _ (some 92) _ = _
                 simp only [Act.put, List.setIfInBounds_toArray, List.set_cons_zero, List.set_cons_succ, i64_w, i32_w]
                 rfl
                refine last_ (i := 31) (N := some 93) (bl 34 4294967295) rfl rfl (one_of HT_.out Z13) Z11 (fun K hK => ?_)
                refine value_ (w1 := ?_) (v := ?_) (by rfl) rfl ?_ ?_
                rotate_left 2
                ·
                 go_simp
                 constructor
                 · rfl
                 · rfl
                refine hK.out _ _ ?_
                clear hK K
                refine norm_ (a' := ?_) ?_ ?_
                rotate_left
                ·
                 show Act.put _ (some 93) _ = _
                 simp only [Act.put, List.setIfInBounds_toArray, List.set_cons_zero, List.set_cons_succ, i64_w, i32_w]
                 rfl
                refine last_ (i := 32) (N := some 94) (bl 34 8589934591) rfl rfl (one_of HT_.out Z13) Z11 (fun K hK => ?_)
                refine Kd.R_append_step (Kd.int .i64) (w0 := w) w.heap.size (by rfl) (.tmp 62) (.tmp 93) 80 3 (.int .i64 0) 8 rfl Tryz.underlying80 info3 rfl Z11 Z3 (.slice (some ad214) x3_2.length co37) x3_2 t222 [.int .i64 t222] (fun _ => True) (fun _ => False) rfl rfl ?aP (fun _ hk => hk.elim) ?aF ?aO ?aB ?aS ?aL ?_
                (case aP => exact rfl)
                (case aB => exact Z1)
                (case aF => exact (fun _ _ => trivial))
                (case aO => exact Z24)
                (case aS => exact (below_size Z1))
                (case aL => have := LMc36.out; omega)
                intro v224 w39 ho hb hg hat
                rw [← Ny223.out] at ho
                have n0_ := Aside0.mk (hb)
                have n1_ := Aside0.mk (ho)
                clear HB; clear HO_3
                have HB := n0_
                have HO225 := n1_
                clear n0_ n1_; clear ho hb hg hat
                refine hK.out _ _ ?_
                clear hK K
                refine norm_ (a' := ?_) ?_ ?_
                rotate_left
                ·
                 show Act.put _ (some 94) _ = _
                 simp only [Act.put, List.setIfInBounds_toArray, List.set_cons_zero, List.set_cons_succ, i64_w, i32_w]
                 rfl
                refine pu 33 3 (bl 34 17179869183) HT_ ?_
                refine done_ (done_of HT_.out Z13) ?_
                try go_wp2
                go_roundg k2
                case measure => have := HK1.out; have := HK2.out; omega
                case rel => exact ⟨(y223), (wrap64 (x5_2 + 1)), Z4, H', ⟨by have := HK1.out; have := HK2.out; omega⟩, ⟨by (with_reducible repeat (first | apply Kd.R_alloc | apply Kd.R_drewN | apply Kd.R_drew)); exact HO225.out⟩, ⟨Z1⟩⟩
               ·
                rw [if_neg c36] at H
                exact absurd H Z23
              ·
               rw [if_neg c32] at H
               exact absurd H Z23
             ·
              rw [if_neg c31] at H
              exact absurd H Z23
            ·
             rw [if_neg c27] at H
             exact absurd H Z23
           ·
            rw [if_neg c26] at H
            exact absurd H Z23
          ·
           rw [if_neg c24] at H
           exact absurd H Z23
         ·
          rw [if_neg c23] at H
          exact absurd H Z23
        ·
         rw [if_neg c21] at H
         exact absurd H Z23
       ·
        rw [if_neg c20] at H
        exact absurd H Z23
      ·
       rw [if_neg c18] at H
       have c18b0 : decide (x5_2 < 64) = false := decide_eq_false c18
       clear c18
       obtain rfl := Option.some.inj H
       go_wp2
       go_ret
       exact ⟨_, Z12, Z24, Z1⟩
end Go.Proofs.YtkhblpmjmkhiiaaGreatDoor.PAll
