/- Printed by the kit's print.py, made shorter and regrouped by wip/tools/regroup.py. -/
import Derived.Test.YtkhblpmjmkhiiaaGreatDoorQK1
namespace Go.Proofs.YtkhblpmjmkhiiaaGreatDoor.PAll
open Go.RowKit Go.Proofs.YtkhblpmjmkhiiaaGreatDoorW.PrintWords Go.Proofs.YtkhblpmjmkhiiaaGreatDoorW.PrintLast Go.Proofs.YtkhblpmjmkhiiaaGreatDoorW.PrintMore
attribute [local go_sem] max2_int min2_int max_two min_two max_three min_three max_four min_four
set_option linter.unusedVariables false
set_option linter.unusedSimpArgs false
def r8_Normal.T12 : Bool × List (List Nat × List Nat) := (true, [([], []), ([0], [0]), ([1], [1]), ([2], [2]), ([2], [2]), ([3, 4, 2], [2, 3, 4]), ([5, 2], [2, 5]), ([6, 2], [2, 6]), ([2], [2]), ([2], [2]), ([8, 9, 2], [2, 8, 9]), ([10, 2], [2, 10]), ([11, 2], [2, 11]), ([7, 12, 2, 2], [2, 7, 12]), ([2, 13], [2, 13])])
def r8_Normal.B12 : List Nat := [0, 1, 3, 7, 7, 31, 63, 127, 7, 7, 775, 1799, 3847, 8191, 16383]
theorem r8_Normal.tab12 : rtab .any (opsOf Tryz.f6 12) = r8_Normal.T12 := by kernel_rfl
theorem r8_Normal.bits12 : waitsOk r8_Normal.T12.2 r8_Normal.B12 = true := by kernel_rfl
def r8_Normal.T34 : Bool × List (List Nat × List Nat) := (true, [([], []), ([], []), ([0, 1], [0, 1]), ([2], [2]), ([3], [3]), ([4], [4]), ([], []), ([], []), ([6, 7], [6, 7]), ([8], [8]), ([9], [9]), ([10], [10]), ([5, 11], [5, 11])])
def r8_Normal.B34 : List Nat := [0, 0, 3, 7, 15, 31, 0, 0, 192, 448, 960, 1984, 4095]
theorem r8_Normal.tab34 : rtab .any (opsOf Tryz.f6 34) = r8_Normal.T34 := by kernel_rfl
theorem r8_Normal.bits34 : waitsOk r8_Normal.T34.2 r8_Normal.B34 = true := by kernel_rfl
def r8_Normal.T35 : Bool × List (List Nat × List Nat) := (true, [([], []), ([], []), ([0, 1], [0, 1]), ([2], [2]), ([3], [3]), ([3], [3]), ([4, 5, 3], [3, 4, 5]), ([6, 3], [3, 6]), ([7, 3], [3, 7]), ([8, 3], [3, 8]), ([9, 3], [3, 9]), ([10, 3, 3], [3, 10]), ([11], [11]), ([11], [11]), ([12, 13, 11], [11, 12, 13]), ([14, 11], [11, 14]), ([15, 11], [11, 15]), ([16, 11], [11, 16]), ([17, 11], [11, 17]), ([11, 18, 3], [3, 11, 18]), ([19, 11, 3], [3, 19]), ([20], [20]), ([20], [20]), ([21, 22, 20], [20, 21, 22]), ([23, 20], [20, 23]), ([24, 20], [20, 24]), ([20], [20]), ([20], [20]), ([26, 27, 20], [20, 26, 27]), ([28, 20], [20, 28]), ([29, 20], [20, 29]), ([25, 30, 20], [20, 25, 30]), ([20, 31, 3], [3, 20, 31]), ([3, 32], [3, 32])])
def r8_Normal.B35 : List Nat := [0, 0, 3, 7, 15, 15, 63, 127, 255, 511, 1023, 2047, 4095, 4095, 16383, 32767, 65535, 131071, 262143, 524287, 1048575, 2097151, 2097151, 8388607, 16777215, 33554431, 2097151, 2097151, 203423743, 471859199, 1008730111, 2147483647, 4294967295, 8589934591]
theorem r8_Normal.tab35 : rtab .any (opsOf Tryz.f6 35) = r8_Normal.T35 := by kernel_rfl
theorem r8_Normal.bits35 : waitsOk r8_Normal.T35.2 r8_Normal.B35 = true := by kernel_rfl
def r8_Normal.T40 : Bool × List (List Nat × List Nat) := (true, [([], []), ([], []), ([], []), ([2], [2]), ([], []), ([], []), ([4, 5], [4, 5]), ([6], [6]), ([7], [7]), ([8], [8]), ([], []), ([], []), ([], []), ([11, 12], [11, 12]), ([13], [13]), ([14], [14]), ([15], [15]), ([3, 9, 10, 16], [3, 9, 10, 16]), ([0, 1, 0, 1, 2, 3, 4, 5, 6, 7, 8, 9, 10, 11, 12, 13, 14, 15, 16, 17], [0, 1]), ([18, 17, 0, 1, 2, 3, 4, 5, 6, 7, 8, 9, 10, 11, 12, 13, 14, 15, 16, 17], [17, 18])])
def r8_Normal.B40 : List Nat := [0, 0, 0, 4, 0, 0, 48, 112, 240, 496, 0, 0, 0, 6144, 14336, 30720, 63488, 131068, 262143, 524287]
theorem r8_Normal.tab40 : rtab .any (opsOf Tryz.f6 40) = r8_Normal.T40 := by kernel_rfl
theorem r8_Normal.bits40 : waitsOk r8_Normal.T40.2 r8_Normal.B40 = true := by kernel_rfl
def sndC : Code → Code
  | .seq _ b => b
  | c => c
def bodyC (f : Func) : Code := f.body.getD .skip
set_option maxHeartbeats 8000000 in
set_option maxRecDepth 100000 in
theorem r8_Normal.half (k k1 kj40 : Nat) (u0 u1 u2 u3 u4 u5 u6 u7 u8 u9 u10 u11 u12 u13 u14 u15 u16 u17 u18 u19 u20 u21 u22 u23 u24 u25 u26 u27 u28 u29 u30 u31 u32 u33 u34 u35 u36 u37 u38 u39 u40 u41 u42 u43 u44 u45 u46 u47 u48 u49 u50 u51 u52 u53 u54 u55 u56 u57 u58 u59 u60 u61 u62 u63 u64 u65 u66 u67 u68 u69 u70 u71 u72 u73 u74 u75 u76 u77 u78 u79 u80 u81 u82 u83 u84 u85 u86 u87 u88 u89 u90 u91 u92 u93 u94 u95 u96 u97 u98 u99 u100 u101 u102 u103 u104 u105 u106 u107 u108 u109 u110 u111 u112 u113 u114 u115 u116 u117 u118 u119 u120 u121 u122 u123 u124 u125 u126 u127 u128 u129 u130 u131 u132 u133 u134 u135 u136 u137 u138 u139 u140 u141 u142 u143 u144 u145 u146 u147 u148 u149 u150 u151 u152 u153 u154 u155 u156 u157 u158 u159 u160 u161 u162 u163 u164 u165 u166 u167 u168 u169 u170 u171 u172 u173 u174 u175 u176 u177 u178 u179 u180 u181 u182 u183 u184 u185 u186 u187 u188 u189 u190 u191 u192 u193 u194 u195 u196 u197 u198 u199 u200 u201 u202 u203 u204 u205 u206 u207 u208 u209 u210 u211 u212 u213 u214 u215 u216 u217 u218 u219 u220 u221 u222 : Value) (x4_1 : List S38) (r1 : List S38) (r2 : Int) (w wc : World)
    (HK1 : Aside0 (k1 + 1 ≤ k)) (HJ40 : Aside0 (kj40 + 1 ≤ k1)) (HO_4 : Aside0 (Kd.R k38 38 wc w.heap.size (fun _ => True) u4 x4_1)) (HB : Aside0 (Below w.heap.size w wc))
    (H0 : Aside0 ((if 0 ≤ (x4_1.length : Int) then (if ((x4_1.length : Int) : Int).toNat ≤ 7036874417766 then (r8_Normal.l2 kj40 x4_1 (List.replicate ((x4_1.length : Int) : Int).toNat z36) 0) else (none)) else (none)) = some (r1, r2))) :
    Code.wp Tryz.prog (sndC (sndC (sndC (sndC (bodyC Tryz.f6))))) (bodyPost Tryz.prog Tryz.f6 fun e w' => ∃ v0_ : Value, e = .returned (.tuple #[v0_, .int .i64 r2]) ∧ Kd.R k38 38 w' w.heap.size (fun _ => True) v0_ r1 ∧ Below w.heap.size w w') { tmps := #[u0, u1, u2, u3, u4, u5, u6, u7, u8, u9, u10, u11, u12, u13, u14, u15, u16, u17, u18, u19, u20, u21, u22, u23, u24, u25, u26, u27, u28, u29, u30, u31, u32, u33, u34, u35, u36, u37, u38, u39, u40, u41, u42, u43, u44, u45, u46, u47, u48, u49, u50, u51, u52, u53, u54, u55, u56, u57, u58, u59, u60, u61, u62, u63, u64, u65, u66, u67, u68, u69, u70, u71, u72, u73, u74, u75, u76, u77, u78, u79, u80, u81, u82, u83, u84, u85, u86, u87, u88, u89, u90, u91, u92, u93, u94, u95, u96, u97, u98, u99, u100, u101, u102, u103, u104, u105, u106, u107, u108, u109, u110, u111, u112, u113, u114, u115, u116, u117, u118, u119, u120, u121, u122, u123, u124, u125, u126, u127, u128, u129, u130, u131, u132, u133, u134, u135, u136, u137, u138, u139, u140, u141, u142, u143, u144, u145, u146, u147, u148, u149, u150, u151, u152, u153, u154, u155, u156, u157, u158, u159, u160, u161, u162, u163, u164, u165, u166, u167, u168, u169, u170, u171, u172, u173, u174, u175, u176, u177, u178, u179, u180, u181, u182, u183, u184, u185, u186, u187, u188, u189, u190, u191, u192, u193, u194, u195, u196, u197, u198, u199, u200, u201, u202, u203, u204, u205, u206, u207, u208, u209, u210, u211, u212, u213, u214, u215, u216, u217, u218, u219, u220, u221, u222], defers := [] } wc := by
 have hu38 := Tryz.underlying38
 have hu36 := Tryz.underlying36
 have H := H0.out
 clear H0
 conv in (sndC _) => whnf
 by_cases c49 : 0 ≤ (x4_1.length : Int)
 ·
  rw [if_pos c49] at H
  have c49b0 := eq_true c49
  have c49b1 : decide (0 ≤ (x4_1.length : Int)) = true := decide_eq_true c49
  clear c49
  by_cases c50 : ((x4_1.length : Int) : Int).toNat ≤ 7036874417766
  ·
   rw [if_pos c50] at H
   have c50b0 := eq_true c50
   have c50b1 : decide (((x4_1.length : Int) : Int).toNat ≤ 7036874417766) = true := decide_eq_true c50
   clear c50
   obtain ⟨y152, hy152⟩ : ∃ y_ : List (S36), y_ = (List.replicate ((x4_1.length : Int) : Int).toNat z36) := ⟨_, rfl⟩
   replace H : (r8_Normal.l2 kj40 x4_1 y152 0) = some (r1, r2) := by first | (rw [hy152]; with_reducible exact H) | (have H2_ := (Option.bind_some _ _).symm.trans H; rw [hy152]; with_reducible exact H2_) | (have H2_ := (Option.bind_some _ _).symm.trans H; with_reducible exact H2_) | with_reducible exact H | (rw [hy152]; exact H) | exact H
   have Ny152 := Aside0.mk hy152
   clear hy152
   have H' := Aside0.mk H
   clear H
   obtain ⟨Ao51, co51, eo51⟩ := Kd.R_slice HO_4.out
   subst eo51
   go_wp2_with (first | ((with_reducible refine gate_dst (N := 103) rfl ?_); refine Kd.R_make k36 _ 36 rfl (N := 103) rfl 42 _ _ rfl (x4_1.length : Int) rfl rfl Tryz.underlying42 (.agg #[(.int .i64 0), (.int .i64 0), (.int .i64 0), (.int .i64 0), (.int .i64 0)]) 40 info36 rfl Z11 Z3 z36 (ok := fun _ => True) (okp := fun _ => True) (k36_mkM _ _ _ z36 ) (fun _ hk => hk) trivial (of_decide_eq_true Z2) (Nat.le_trans (Nat.mul_le_mul_right _ (of_decide_eq_true Z2 : (x4_1.length : Int).toNat ≤ 7036874417766)) Z3) (Below.refl _ _) (Nat.le_refl _) ?_; intro v153 w52 ho53 hb hg_ hnew_; clear hg_ hnew_; (first | rw [← Ny152.out] at ho53 | (simp only [Int.reduceToNat] at ho53; rw [← Ny152.out] at ho53)); have n0_ := Aside0.mk (Kd.R_below Z10 hb); have n1_ := Aside0.mk (Kd.R_lower ho53 (below_size Z1)); have n2_ := Aside0.mk (below_step Z1 hb); clear HO_4; clear HB; have HO_4 := n0_; have HO154 := n1_; have HB := n2_; clear n0_ n1_ n2_; clear hb ho53))
   go_loopg [10] kj40 (fun kq v10 w' => ∃ (x9_3 : List (S36)) (x10_3 : Int), v10 = .int .i64 x10_3 ∧ Aside0 (r8_Normal.l2 kq x4_1 x9_3 x10_3 = some (r1, r2)) ∧ Aside0 (kq ≤ kj40) ∧ Aside0 (Kd.R k38 38 w' w.heap.size (fun _ => True) (.slice Ao51 x4_1.length co51) x4_1) ∧ Aside0 (Kd.R k36 36 w' w.heap.size (fun _ => True) v153 x9_3) ∧ Aside0 (Below w.heap.size w w'))
   case atStart => exact ⟨(y152), (0), Z4, H', ⟨Nat.le_refl _⟩, ⟨Z10⟩, ⟨by (with_reducible repeat (first | apply Kd.R_alloc | apply Kd.R_drewN | apply Kd.R_drew)); exact HO154.out⟩, ⟨Z1⟩⟩
   case round =>
    clear H'
    try clear c1; try clear p1; try clear q1; try clear hx1; try clear qi1; try clear c2; try clear c2b0; try clear p2; try clear c3; try clear c4; try clear c5; try clear p6; try clear c12; try clear c12b0; try clear p13; try clear q13; try clear hx13; try clear p14; try clear q14; try clear hx14; try clear p15; try clear q15; try clear hx15; try clear qi15; try clear c16; try clear c19; try clear c20; try clear c21; try clear c23; try clear c24; try clear c25; try clear c30; try clear c34; try clear c36; try clear c36b0; try clear c37; try clear c37b0; try clear c38; try clear c42; try clear c42b0; try clear c42b1; try clear c42b2; try clear c44; try clear c44b0; try clear c44b1; try clear c45; try clear c45b0; try clear c45b1; try clear c48; try clear c49; try clear c49b0; try clear c49b1; try clear c50; try clear c50b0; try clear c50b1; try clear hx131_0; try clear hx131_1; try clear hx131_2; try clear hx131_3; try clear hx131_4; try clear hx131_5; try clear hx131_6; try clear hx132_0; try clear hx132_1; try clear hx132_2; try clear hx132_3; try clear hx132_4; try clear hx132_5; try clear hx132_6; try clear hx134_0; try clear hx134_1; try clear hx134_2; try clear hx134_3; try clear hx134_4; try clear hx134_5; try clear hx134_6; try clear hx138_0; try clear hx138_1; try clear hx138_2; try clear hx138_3; try clear hx138_4; try clear hx138_5; try clear hx138_6; try clear hx142_0; try clear hx142_1; try clear hx142_2; try clear hx142_3; try clear hx142_4; try clear hx142_5; try clear hx142_6; try clear hx146_0; try clear hx146_1; try clear hx146_2; try clear hx146_3; try clear hx146_4; try clear hx146_5; try clear hx146_6; try clear hx150_0; try clear hx150_1; try clear hx150_2; try clear hx150_3; try clear hx150_4; try clear hx150_5; try clear hx150_6; try clear hx151_0; try clear hx151_1; try clear hx151_2; try clear hx151_3; try clear hx151_4; try clear hx151_5; try clear hx151_6; try clear p1; try clear p13; try clear p131; try clear p132; try clear p134; try clear p138; try clear p14; try clear p142; try clear p146; try clear p15; try clear p150; try clear p151; try clear p2; try clear p6; try clear q1; try clear q13; try clear q131; try clear q132; try clear q134; try clear q138; try clear q14; try clear q142; try clear q146; try clear q15; try clear q150; try clear q151
    obtain ⟨x9_3, x10_3, rfl, HA, HK3, HO_4, HO_9, HB⟩ := hrel
    cases gk with
    | zero => exact absurd HA.out (by simp [r8_Normal.l2])
    | succ k3 =>
     have H := HA.out
     clear HA
     simp only [r8_Normal.l2] at H
     by_cases c54 : x10_3 < (x4_1.length : Int)
     ·
      rw [if_pos c54] at H
      have c54b0 : decide (x10_3 < (x4_1.length : Int)) = true := decide_eq_true c54
      clear c54
      have HC55 := Aside0.mk H
      clear H
      go_upto_if 111 with (fail)
      go_cut [] (fun wc => ∃ (kq : Nat), Aside0 (r8_Normal.j5 kq x4_1 x9_3 x10_3 = some (r1, r2)) ∧ Aside0 (kq ≤ k3) ∧ Aside0 (Kd.R k38 38 wc w.heap.size (fun _ => True) (.slice Ao51 x4_1.length co51) x4_1) ∧ Aside0 (Kd.R k36 36 wc w.heap.size (fun _ => True) v153 x9_3) ∧ Aside0 (Below w.heap.size w wc))
      case first =>
       have H := HC55.out
       clear HC55
       by_cases c56 : x10_3 > 0
       ·
        rw [if_pos c56] at H
        have c56b0 : decide (0 < x10_3) = true := decide_eq_true c56
        clear c56
        (first | rw [c56b0] | (simp only [i64_w, i32_w]; rw [c56b0]) | skip)
        by_cases c57 : 0 ≤ x10_3
        ·
         rw [if_pos c57] at H
         have c57b0 : decide (0 ≤ x10_3) = true := decide_eq_true c57
         clear c57
         replace H := Option.bind_eq_some_iff.mp H
         obtain ⟨t156, A580, H⟩ := H
         replace H : ((r8_Find.f k3 x4_1 t156).bind fun t157 => (if t157 < 0 then (some (([] : List (S38)), 5)) else (if 0 ≤ t157 then (if t157 < (x4_1.length : Int) then (if ((rd_T38 x4_1 t157).f1.f2) = 2 then (r8_Normal.j5 k3 x4_1 x9_3 x10_3) else (some (([] : List (S38)), 5))) else (none)) else (none)))) = some (r1, r2) := H
         have A58 := Aside0.mk A580
         clear A580
         replace H := Option.bind_eq_some_iff.mp H
         obtain ⟨t157, A590, H⟩ := H
         replace H : (if t157 < 0 then (some (([] : List (S38)), 5)) else (if 0 ≤ t157 then (if t157 < (x4_1.length : Int) then (if ((rd_T38 x4_1 t157).f1.f2) = 2 then (r8_Normal.j5 k3 x4_1 x9_3 x10_3) else (some (([] : List (S38)), 5))) else (none)) else (none))) = some (r1, r2) := H
         have A59 := Aside0.mk A590
         clear A590
         by_cases c60 : t157 < 0
         ·
          rw [if_pos c60] at H
          have c60b0 : decide (t157 < 0) = true := decide_eq_true c60
          clear c60
          simp only [Option.some.injEq, Prod.mk.injEq] at H
          obtain ⟨rfl, rfl⟩ := H
          have p155 : 0 ≤ (x10_3 : Int) := of_decide_eq_true Z2
          have q155 : x10_3 < (x4_1.length : Int) := of_decide_eq_true Z2
          obtain ⟨ad155, e155, hx155_0, hx155_1, hx155_2, hx155_3, hx155_4, hx155_5, hx155_6⟩ := at_T38 (Kd.R_reads' HO_4.out).2.2 x10_3 p155 q155
          cases e155
          replace p155 := eq_true p155
          replace q155 := eq_true q155
          go_wp2_with (first | ((with_reducible refine gate_callee (f := 17) rfl ?_); refine goesL_ (some 118) rfl rfl Tryz.func17 Z13 rfl #[.string ((rd_T38 x4_1 x10_3).f0)] rfl Z7 ?_; (with_reducible refine (r8_Above.calls k3 ((rd_T38 x4_1 x10_3).f0) t156 _ A58.out).mono ?_); rintro e w' ⟨rfl, ⟨nd, rfl⟩⟩; refine ⟨_, rfl, ?_⟩) | ((with_reducible refine gate_callee (f := 15) rfl ?_); refine goesL_ (some 119) rfl rfl Tryz.func15 Z13 rfl #[.slice (some ad155) x4_1.length co51, .string t156] rfl Z7 ?_; (with_reducible refine (r8_Find.calls k3 _ _ x4_1 t156 t157 _ ?side1 ?side2 A59.out).mono ?_); (case side1 => repeat (first | exact (Kd.R_reads' HO_4.out).2.2 | (with_reducible refine Kd.C_alloc ?_ _) | (with_reducible refine Kd.C_drewN ?_ _) | (with_reducible refine Kd.C_drew ?_))); (case side2 => exact (Kd.R_reads' HO_4.out).2.1); rintro e w' ⟨rfl, ⟨nd, rfl⟩⟩; refine ⟨_, rfl, ?_⟩))
          go_ret2
          exact ⟨_, Z12, Z17, Z1⟩
         ·
          rw [if_neg c60] at H
          have c60b0 : decide (t157 < 0) = false := decide_eq_false c60
          clear c60
          by_cases c61 : 0 ≤ t157
          ·
           rw [if_pos c61] at H
           have c61b0 : decide (0 ≤ t157) = true := decide_eq_true c61
           clear c61
           by_cases c62 : t157 < (x4_1.length : Int)
           ·
            rw [if_pos c62] at H
            have c62b0 : decide (t157 < (x4_1.length : Int)) = true := decide_eq_true c62
            clear c62
            by_cases c63 : ((rd_T38 x4_1 t157).f1.f2) = 2
            ·
             rw [if_pos c63] at H
             have c63b0 : (((rd_T38 x4_1 t157).f1.f2) == 2) = true := beq_iff_eq.mpr c63
             have c63b1 : (((rd_T38 x4_1 t157).f1.f2) != 2) = false := bne_eq_false_iff_eq.mpr c63
             clear c63
             have H' := Aside0.mk H
             clear H
             have p155 : 0 ≤ (x10_3 : Int) := of_decide_eq_true Z2
             have q155 : x10_3 < (x4_1.length : Int) := of_decide_eq_true Z2
             obtain ⟨ad155, e155, hx155_0, hx155_1, hx155_2, hx155_3, hx155_4, hx155_5, hx155_6⟩ := at_T38 (Kd.R_reads' HO_4.out).2.2 x10_3 p155 q155
             cases e155
             replace p155 := eq_true p155
             replace q155 := eq_true q155
             go_wp2_with (first | ((with_reducible refine gate_callee (f := 17) rfl ?_); refine goesL_ (some 118) rfl rfl Tryz.func17 Z13 rfl #[.string ((rd_T38 x4_1 x10_3).f0)] rfl Z7 ?_; (with_reducible refine (r8_Above.calls k3 ((rd_T38 x4_1 x10_3).f0) t156 _ A58.out).mono ?_); rintro e w' ⟨rfl, ⟨nd, rfl⟩⟩; refine ⟨_, rfl, ?_⟩) | ((with_reducible refine gate_callee (f := 15) rfl ?_); refine goesL_ (some 119) rfl rfl Tryz.func15 Z13 rfl #[.slice (some ad155) x4_1.length co51, .string t156] rfl Z7 ?_; (with_reducible refine (r8_Find.calls k3 _ _ x4_1 t156 t157 _ ?side1 ?side2 A59.out).mono ?_); (case side1 => repeat (first | exact (Kd.R_reads' HO_4.out).2.2 | (with_reducible refine Kd.C_alloc ?_ _) | (with_reducible refine Kd.C_drewN ?_ _) | (with_reducible refine Kd.C_drew ?_))); (case side2 => exact (Kd.R_reads' HO_4.out).2.1); rintro e w' ⟨rfl, ⟨nd, rfl⟩⟩; refine ⟨_, rfl, ?_⟩; have p158 : 0 ≤ (t157 : Int) := of_decide_eq_true Z2; have q158 : t157 < (x4_1.length : Int) := of_decide_eq_true Z2; obtain ⟨ad158, e158, hx158_0, hx158_1, hx158_2, hx158_3, hx158_4, hx158_5, hx158_6⟩ := at_T38 (Kd.R_reads' HO_4.out).2.2 t157 p158 q158; obtain rfl : ad155 = ad158 := (by injection e158); replace p158 := eq_true p158; replace q158 := eq_true q158))
             go_meet
             case rel => exact ⟨_, H', ⟨by have := HK1.out; have := HJ40.out; have := HK3.out; first | omega | exact Nat.le_refl _⟩, ⟨Z10⟩, ⟨Z21⟩, ⟨Z1⟩⟩
            ·
             rw [if_neg c63] at H
             have c63b0 : (((rd_T38 x4_1 t157).f1.f2) == 2) = false := beq_eq_false_iff_ne.mpr c63
             have c63b1 : (((rd_T38 x4_1 t157).f1.f2) != 2) = true := bne_iff_ne.mpr c63
             simp only [Option.some.injEq, Prod.mk.injEq] at H
             obtain ⟨rfl, rfl⟩ := H
             have p155 : 0 ≤ (x10_3 : Int) := of_decide_eq_true Z2
             have q155 : x10_3 < (x4_1.length : Int) := of_decide_eq_true Z2
             obtain ⟨ad155, e155, hx155_0, hx155_1, hx155_2, hx155_3, hx155_4, hx155_5, hx155_6⟩ := at_T38 (Kd.R_reads' HO_4.out).2.2 x10_3 p155 q155
             cases e155
             replace p155 := eq_true p155
             replace q155 := eq_true q155
             go_wp2_with (first | ((with_reducible refine gate_callee (f := 17) rfl ?_); refine goesL_ (some 118) rfl rfl Tryz.func17 Z13 rfl #[.string ((rd_T38 x4_1 x10_3).f0)] rfl Z7 ?_; (with_reducible refine (r8_Above.calls k3 ((rd_T38 x4_1 x10_3).f0) t156 _ A58.out).mono ?_); rintro e w' ⟨rfl, ⟨nd, rfl⟩⟩; refine ⟨_, rfl, ?_⟩) | ((with_reducible refine gate_callee (f := 15) rfl ?_); refine goesL_ (some 119) rfl rfl Tryz.func15 Z13 rfl #[.slice (some ad155) x4_1.length co51, .string t156] rfl Z7 ?_; (with_reducible refine (r8_Find.calls k3 _ _ x4_1 t156 t157 _ ?side1 ?side2 A59.out).mono ?_); (case side1 => repeat (first | exact (Kd.R_reads' HO_4.out).2.2 | (with_reducible refine Kd.C_alloc ?_ _) | (with_reducible refine Kd.C_drewN ?_ _) | (with_reducible refine Kd.C_drew ?_))); (case side2 => exact (Kd.R_reads' HO_4.out).2.1); rintro e w' ⟨rfl, ⟨nd, rfl⟩⟩; refine ⟨_, rfl, ?_⟩; have p158 : 0 ≤ (t157 : Int) := of_decide_eq_true Z2; have q158 : t157 < (x4_1.length : Int) := of_decide_eq_true Z2; obtain ⟨ad158, e158, hx158_0, hx158_1, hx158_2, hx158_3, hx158_4, hx158_5, hx158_6⟩ := at_T38 (Kd.R_reads' HO_4.out).2.2 t157 p158 q158; obtain rfl : ad155 = ad158 := (by injection e158); replace p158 := eq_true p158; replace q158 := eq_true q158))
             go_ret2
             exact ⟨_, Z12, Z17, Z1⟩
           ·
            rw [if_neg c62] at H
            exact absurd H Z23
          ·
           rw [if_neg c61] at H
           exact absurd H Z23
        ·
         rw [if_neg c57] at H
         exact absurd H Z23
       ·
        rw [if_neg c56] at H
        have c56b0 : decide (0 < x10_3) = false := decide_eq_false c56
        clear c56
        (first | rw [c56b0] | (simp only [i64_w, i32_w]; rw [c56b0]) | skip)
        have H' := Aside0.mk H
        clear H
        go_wp2
        go_meet
        case rel => exact ⟨_, H', ⟨by have := HK1.out; have := HJ40.out; have := HK3.out; first | omega | exact Nat.le_refl _⟩, ⟨Z10⟩, ⟨Z21⟩, ⟨Z1⟩⟩
      case rest =>
       clear HC55; try clear c1; try clear p1; try clear q1; try clear hx1; try clear qi1; try clear c2; try clear c2b0; try clear p2; try clear c3; try clear c4; try clear c5; try clear c6; try clear p6; try clear c12; try clear c12b0; try clear p13; try clear q13; try clear hx13; try clear p14; try clear q14; try clear hx14; try clear c15; try clear p15; try clear q15; try clear hx15; try clear qi15; try clear c16; try clear c17; try clear c19; try clear c20; try clear c21; try clear c23; try clear c24; try clear c25; try clear c30; try clear c34; try clear c36; try clear c36b0; try clear c37; try clear c37b0; try clear c38; try clear c42; try clear c42b0; try clear c42b1; try clear c42b2; try clear c44; try clear c44b0; try clear c44b1; try clear c45; try clear c45b0; try clear c45b1; try clear c48; try clear c49; try clear c49b0; try clear c49b1; try clear c50; try clear c50b0; try clear c50b1; try clear c54; try clear c54b0; try clear c56; try clear c56b0; try clear c57; try clear c57b0; try clear c60; try clear c60b0; try clear c61; try clear c61b0; try clear c62; try clear c62b0; try clear c63; try clear c63b0; try clear c63b1; try clear hx131_0; try clear hx131_1; try clear hx131_2; try clear hx131_3; try clear hx131_4; try clear hx131_5; try clear hx131_6; try clear hx132_0; try clear hx132_1; try clear hx132_2; try clear hx132_3; try clear hx132_4; try clear hx132_5; try clear hx132_6; try clear hx134_0; try clear hx134_1; try clear hx134_2; try clear hx134_3; try clear hx134_4; try clear hx134_5; try clear hx134_6; try clear hx138_0; try clear hx138_1; try clear hx138_2; try clear hx138_3; try clear hx138_4; try clear hx138_5; try clear hx138_6; try clear hx142_0; try clear hx142_1; try clear hx142_2; try clear hx142_3; try clear hx142_4; try clear hx142_5; try clear hx142_6; try clear hx146_0; try clear hx146_1; try clear hx146_2; try clear hx146_3; try clear hx146_4; try clear hx146_5; try clear hx146_6; try clear hx150_0; try clear hx150_1; try clear hx150_2; try clear hx150_3; try clear hx150_4; try clear hx150_5; try clear hx150_6; try clear hx151_0; try clear hx151_1; try clear hx151_2; try clear hx151_3; try clear hx151_4; try clear hx151_5; try clear hx151_6; try clear hx155_0; try clear hx155_1; try clear hx155_2; try clear hx155_3; try clear hx155_4; try clear hx155_5; try clear hx155_6; try clear hx158_0; try clear hx158_1; try clear hx158_2; try clear hx158_3; try clear hx158_4; try clear hx158_5; try clear hx158_6; try clear p1; try clear p13; try clear p131; try clear p132; try clear p134; try clear p138; try clear p14; try clear p142; try clear p146; try clear p15; try clear p150; try clear p151; try clear p155; try clear p158; try clear p2; try clear p6; try clear q1; try clear q13; try clear q131; try clear q132; try clear q134; try clear q138; try clear q14; try clear q142; try clear q146; try clear q15; try clear q150; try clear q151; try clear q155; try clear q158
       obtain ⟨kq, HA, HJ54, HO_4, HO_9, HB⟩ := hcut
       cases kq with
       | zero => exact absurd HA.out (by simp [r8_Normal.j5])
       | succ kj54 =>
        have H := HA.out
        clear HA
        simp only [r8_Normal.j5] at H
        have H' := Aside0.mk H
        clear H
        go_wp2
        go_loopg [12, 13, 14] kj54 (fun kq v12 v13 v14 w' => ∃ (x12_5 : Int) (x13_5 : Int) (x14_5 : Int), v12 = .int .i64 x12_5 ∧ v13 = .int .i64 x13_5 ∧ v14 = .int .i64 x14_5 ∧ Aside0 (r8_Normal.l3 kq x4_1 x9_3 x10_3 x12_5 x13_5 x14_5 = some (r1, r2)) ∧ Aside0 (kq ≤ kj54) ∧ Aside0 (Kd.R k38 38 w' w.heap.size (fun _ => True) (.slice Ao51 x4_1.length co51) x4_1) ∧ Aside0 (Kd.R k36 36 w' w.heap.size (fun _ => True) v153 x9_3) ∧ Aside0 (Below w.heap.size w w'))
        case atStart => exact ⟨((-1)), (0), (0), Z4, Z4, Z4, H', ⟨Nat.le_refl _⟩, ⟨Z10⟩, ⟨Z21⟩, ⟨Z1⟩⟩
        case round =>
         clear H'
         try clear c1; try clear p1; try clear q1; try clear hx1; try clear qi1; try clear c2; try clear c2b0; try clear p2; try clear c3; try clear c4; try clear c5; try clear c6; try clear p6; try clear c12; try clear c12b0; try clear p13; try clear q13; try clear hx13; try clear p14; try clear q14; try clear hx14; try clear c15; try clear p15; try clear q15; try clear hx15; try clear qi15; try clear c16; try clear c17; try clear c19; try clear c20; try clear c21; try clear c23; try clear c24; try clear c25; try clear c30; try clear c34; try clear c36; try clear c36b0; try clear c37; try clear c37b0; try clear c38; try clear c42; try clear c42b0; try clear c42b1; try clear c42b2; try clear c44; try clear c44b0; try clear c44b1; try clear c45; try clear c45b0; try clear c45b1; try clear c48; try clear c49; try clear c49b0; try clear c49b1; try clear c50; try clear c50b0; try clear c50b1; try clear c54; try clear c54b0; try clear c56; try clear c56b0; try clear c57; try clear c57b0; try clear c60; try clear c60b0; try clear c61; try clear c61b0; try clear c62; try clear c62b0; try clear c63; try clear c63b0; try clear c63b1; try clear hx131_0; try clear hx131_1; try clear hx131_2; try clear hx131_3; try clear hx131_4; try clear hx131_5; try clear hx131_6; try clear hx132_0; try clear hx132_1; try clear hx132_2; try clear hx132_3; try clear hx132_4; try clear hx132_5; try clear hx132_6; try clear hx134_0; try clear hx134_1; try clear hx134_2; try clear hx134_3; try clear hx134_4; try clear hx134_5; try clear hx134_6; try clear hx138_0; try clear hx138_1; try clear hx138_2; try clear hx138_3; try clear hx138_4; try clear hx138_5; try clear hx138_6; try clear hx142_0; try clear hx142_1; try clear hx142_2; try clear hx142_3; try clear hx142_4; try clear hx142_5; try clear hx142_6; try clear hx146_0; try clear hx146_1; try clear hx146_2; try clear hx146_3; try clear hx146_4; try clear hx146_5; try clear hx146_6; try clear hx150_0; try clear hx150_1; try clear hx150_2; try clear hx150_3; try clear hx150_4; try clear hx150_5; try clear hx150_6; try clear hx151_0; try clear hx151_1; try clear hx151_2; try clear hx151_3; try clear hx151_4; try clear hx151_5; try clear hx151_6; try clear hx155_0; try clear hx155_1; try clear hx155_2; try clear hx155_3; try clear hx155_4; try clear hx155_5; try clear hx155_6; try clear hx158_0; try clear hx158_1; try clear hx158_2; try clear hx158_3; try clear hx158_4; try clear hx158_5; try clear hx158_6; try clear p1; try clear p13; try clear p131; try clear p132; try clear p134; try clear p138; try clear p14; try clear p142; try clear p146; try clear p15; try clear p150; try clear p151; try clear p155; try clear p158; try clear p2; try clear p6; try clear q1; try clear q13; try clear q131; try clear q132; try clear q134; try clear q138; try clear q14; try clear q142; try clear q146; try clear q15; try clear q150; try clear q151; try clear q155; try clear q158
         obtain ⟨x12_5, x13_5, x14_5, rfl, rfl, rfl, HA, HK5, HO_4, HO_9, HB⟩ := hrel
         cases gk with
         | zero => exact absurd HA.out (by simp [r8_Normal.l3])
         | succ k5 =>
          have H := HA.out
          clear HA
          simp only [r8_Normal.l3] at H
          by_cases c64 : x14_5 < (x4_1.length : Int)
          ·
           rw [if_pos c64] at H
           have c64b0 : decide (x14_5 < (x4_1.length : Int)) = true := decide_eq_true c64
           clear c64
           by_cases c65 : 0 ≤ x14_5
           ·
            rw [if_pos c65] at H
            have c65b0 : decide (0 ≤ x14_5) = true := decide_eq_true c65
            clear c65
            by_cases c66 : 0 ≤ x10_3
            ·
             rw [if_pos c66] at H
             have c66b0 : decide (0 ≤ x10_3) = true := decide_eq_true c66
             clear c66
             by_cases c67 : x10_3 < (x4_1.length : Int)
             ·
              rw [if_pos c67] at H
              have c67b0 : decide (x10_3 < (x4_1.length : Int)) = true := decide_eq_true c67
              clear c67
              by_cases c68 : ((rd_T38 x4_1 x14_5).f1.f0) = ((rd_T38 x4_1 x10_3).f1.f0)
              ·
               rw [if_pos c68] at H
               have c68b0 : (((rd_T38 x4_1 x14_5).f1.f0) == ((rd_T38 x4_1 x10_3).f1.f0)) = true := beq_iff_eq.mpr c68
               have c68b1 : (((rd_T38 x4_1 x14_5).f1.f0) != ((rd_T38 x4_1 x10_3).f1.f0)) = false := bne_eq_false_iff_eq.mpr c68
               clear c68
               have HC69 := Aside0.mk H
               clear H
               try go_wp2
               have n0_ := Aside0.mk (Kd.R_drew HO_4.out)
               have n1_ := Aside0.mk (Kd.R_drew HO_9.out)
               have n2_ := Aside0.mk (below_drew1 HB.out)
               clear HO_4; clear HO_9; clear HB
               have HO_4 := n0_
               have HO_9 := n1_
               have HB := n2_
               clear n0_ n1_ n2_
               have p162 : 0 ≤ (x14_5 : Int) := of_decide_eq_true Z2
               have q162 : x14_5 < (x4_1.length : Int) := of_decide_eq_true Z2
               obtain ⟨ad162, e162, hx162_0, hx162_1, hx162_2, hx162_3, hx162_4, hx162_5, hx162_6⟩ := at_T38 (Kd.R_reads' HO_4.out).2.2 x14_5 p162 q162
               cases e162
               replace p162 := eq_true p162
               replace q162 := eq_true q162
               have p163 : 0 ≤ (x10_3 : Int) := of_decide_eq_true Z2
               have q163 : x10_3 < (x4_1.length : Int) := of_decide_eq_true Z2
               obtain ⟨ad163, e163, hx163_0, hx163_1, hx163_2, hx163_3, hx163_4, hx163_5, hx163_6⟩ := at_T38 (Kd.R_reads' HO_4.out).2.2 x10_3 p163 q163
               obtain rfl : ad162 = ad163 := (by injection e163)
               replace p163 := eq_true p163
               replace q163 := eq_true q163
               refine start_ (n := 13) (S := fun w' => w'.cell? (ad162.add ((x14_5).toNat * 7)) = some (.string ((rd_T38 x4_1 x14_5).f0)) ∧ w'.cell? ⟨(ad162.add ((x14_5).toNat * 7)).block, (ad162.add ((x14_5).toNat * 7)).off + 1, none⟩ = some (.int .i64 ((rd_T38 x4_1 x14_5).f1.f0)) ∧ w'.cell? ⟨(ad162.add ((x14_5).toNat * 7)).block, (ad162.add ((x14_5).toNat * 7)).off + 2, none⟩ = some (.int .i64 ((rd_T38 x4_1 x14_5).f1.f1)) ∧ w'.cell? ⟨(ad162.add ((x14_5).toNat * 7)).block, (ad162.add ((x14_5).toNat * 7)).off + 3, none⟩ = some (.int .i64 ((rd_T38 x4_1 x14_5).f1.f2)) ∧ w'.cell? ⟨(ad162.add ((x14_5).toNat * 7)).block, (ad162.add ((x14_5).toNat * 7)).off + 4, none⟩ = some (.int .i64 ((rd_T38 x4_1 x14_5).f1.f3)) ∧ w'.cell? ⟨(ad162.add ((x14_5).toNat * 7)).block, (ad162.add ((x14_5).toNat * 7)).off + 5, none⟩ = some (.int .i64 ((rd_T38 x4_1 x14_5).f1.f4)) ∧ w'.cell? ⟨(ad162.add ((x14_5).toNat * 7)).block, (ad162.add ((x14_5).toNat * 7)).off + 6, none⟩ = some (.string ((rd_T38 x4_1 x14_5).f2)) ∧ w'.cell? (ad162.add ((x10_3).toNat * 7)) = some (.string ((rd_T38 x4_1 x10_3).f0)) ∧ w'.cell? ⟨(ad162.add ((x10_3).toNat * 7)).block, (ad162.add ((x10_3).toNat * 7)).off + 1, none⟩ = some (.int .i64 ((rd_T38 x4_1 x10_3).f1.f0)) ∧ w'.cell? ⟨(ad162.add ((x10_3).toNat * 7)).block, (ad162.add ((x10_3).toNat * 7)).off + 2, none⟩ = some (.int .i64 ((rd_T38 x4_1 x10_3).f1.f1)) ∧ w'.cell? ⟨(ad162.add ((x10_3).toNat * 7)).block, (ad162.add ((x10_3).toNat * 7)).off + 3, none⟩ = some (.int .i64 ((rd_T38 x4_1 x10_3).f1.f2)) ∧ w'.cell? ⟨(ad162.add ((x10_3).toNat * 7)).block, (ad162.add ((x10_3).toNat * 7)).off + 4, none⟩ = some (.int .i64 ((rd_T38 x4_1 x10_3).f1.f3)) ∧ w'.cell? ⟨(ad162.add ((x10_3).toNat * 7)).block, (ad162.add ((x10_3).toNat * 7)).off + 5, none⟩ = some (.int .i64 ((rd_T38 x4_1 x10_3).f1.f4)) ∧ w'.cell? ⟨(ad162.add ((x10_3).toNat * 7)).block, (ad162.add ((x10_3).toNat * 7)).off + 6, none⟩ = some (.string ((rd_T38 x4_1 x10_3).f2))) (ds := []) #[false, false, false, false, false, false, false, false, false, false, false, false, false] Z13 rfl rfl ⟨hx162_0, hx162_1, hx162_2, hx162_3, hx162_4, hx162_5, hx162_6, hx163_0, hx163_1, hx163_2, hx163_3, hx163_4, hx163_5, hx163_6⟩ (fun hHeld => ?_); refine with_tabW r8_Normal.tab34 r8_Normal.bits34 (fun HT_ HW_ => ?_)
               generalize wr.drew = w70 at HO_4 HO_9 HB hx162_0 hx162_1 hx162_2 hx162_3 hx162_4 hx162_5 hx162_6 hx163_0 hx163_1 hx163_2 hx163_3 hx163_4 hx163_5 hx163_6 hHeld ⊢
               refine pu 0 137 (bl 13 1) HT_ ?_
               refine pu 1 138 (bl 13 3) HT_ ?_
               refine pu 2 139 (bl 13 7) HT_ ?_
               refine pu 3 140 (bl 13 15) HT_ ?_
               refine pu 4 141 (bl 13 31) HT_ ?_
               refine pu 6 143 (bl 13 95) HT_ ?_
               refine pu 7 144 (bl 13 223) HT_ ?_
               refine pu 8 145 (bl 13 479) HT_ ?_
               refine pu 9 146 (bl 13 991) HT_ ?_
               refine pu 10 147 (bl 13 2015) HT_ ?_
               refine tk 5 142 (bl 13 2047) HT_ HW_ hHeld ?_ (hy := Z22)
               refine tk 11 148 (bl 13 4095) HT_ HW_ hHeld ?_ (hy := Z22)
               refine pu 12 149 (bl 13 8191) HT_ ?_
               refine done_ (done_of HT_.out Z13) ?_
               go_upto_region 35 with (fail)
               go_cut [183] (fun v183 wc => ∃ (kq : Nat) (x183_68 : Bool), v183 = .bool x183_68 ∧ Aside0 (r8_Normal.j7 kq x4_1 x9_3 x10_3 x12_5 x13_5 x14_5 x183_68 = some (r1, r2)) ∧ Aside0 (kq ≤ k5) ∧ Aside0 (Kd.R k38 38 wc w.heap.size (fun _ => True) (.slice (some ad162) x4_1.length co51) x4_1) ∧ Aside0 (Kd.R k36 36 wc w.heap.size (fun _ => True) v153 x9_3) ∧ Aside0 (Below w.heap.size w wc))
               case first =>
                have H := HC69.out
                clear HC69
                by_cases c71 : x14_5 = x10_3
                ·
                 rw [if_pos c71] at H
                 have c71b0 : (x14_5 == x10_3) = true := beq_iff_eq.mpr c71
                 have c71b1 : (x14_5 != x10_3) = false := bne_eq_false_iff_eq.mpr c71
                 clear c71
                 (first | rw [c71b0] | (simp only [i64_w, i32_w]; rw [c71b0]) | skip)
                 have H' := Aside0.mk H
                 clear H
                 try go_wp2
                 have n0_ := Aside0.mk (Kd.R_drew HO_4.out)
                 have n1_ := Aside0.mk (Kd.R_drew HO_9.out)
                 have n2_ := Aside0.mk (below_drew1 HB.out)
                 clear HO_4; clear HO_9; clear HB
                 have HO_4 := n0_
                 have HO_9 := n1_
                 have HB := n2_
                 clear n0_ n1_ n2_
                 refine start_ (n := 34) (S := fun w' => True) (ds := []) #[false, false, false, false, false, false, false, false, false, false, false, false, false, false, false, false, false, false, false, false, false, false, false, false, false, false, false, false, false, false, false, false, false, false] Z13 rfl rfl trivial (fun hHeld => ?_); refine with_tabW r8_Normal.tab35 r8_Normal.bits35 (fun HT_ HW_ => ?_)
                 generalize w70.drew = w72 at HO_4 HO_9 HB hHeld ⊢
                 refine pu 0 150 (bl 34 1) HT_ ?_
                 refine pu 1 151 (bl 34 3) HT_ ?_
                 refine pu 2 152 (bl 34 7) HT_ ?_
                 refine pu 3 153 (bl 34 15) HT_ ?_
                 refine pn 4 154 (bl 34 31) HT_ ?_
                 refine pn 5 155 (bl 34 63) HT_ ?_
                 refine pn 6 156 (bl 34 127) HT_ ?_
                 refine pn 7 157 (bl 34 255) HT_ ?_
                 refine pn 8 158 (bl 34 511) HT_ ?_
                 refine pn 9 159 (bl 34 1023) HT_ ?_
                 refine pn 10 160 (bl 34 2047) HT_ ?_
                 refine pn 11 161 (bl 34 4095) HT_ ?_
                 refine pn 12 162 (bl 34 8191) HT_ ?_
                 refine pn 13 163 (bl 34 16383) HT_ ?_
                 refine pn 14 164 (bl 34 32767) HT_ ?_
                 refine pn 15 165 (bl 34 65535) HT_ ?_
                 refine pn 16 166 (bl 34 131071) HT_ ?_
                 refine pn 17 167 (bl 34 262143) HT_ ?_
                 refine pn 18 168 (bl 34 524287) HT_ ?_
                 refine pn 19 169 (bl 34 1048575) HT_ ?_
                 refine pn 20 170 (bl 34 2097151) HT_ ?_
                 refine pn 21 171 (bl 34 4194303) HT_ ?_
                 refine pn 22 172 (bl 34 8388607) HT_ ?_
                 refine pn 23 173 (bl 34 16777215) HT_ ?_
                 refine pn 24 174 (bl 34 33554431) HT_ ?_
                 refine pn 25 175 (bl 34 67108863) HT_ ?_
                 refine pn 26 176 (bl 34 134217727) HT_ ?_
                 refine pn 27 177 (bl 34 268435455) HT_ ?_
                 refine pn 28 178 (bl 34 536870911) HT_ ?_
                 refine pn 29 179 (bl 34 1073741823) HT_ ?_
                 refine pn 30 180 (bl 34 2147483647) HT_ ?_
                 refine pn 31 181 (bl 34 4294967295) HT_ ?_
                 refine pn 32 182 (bl 34 8589934591) HT_ ?_
                 refine pu 33 183 (bl 34 17179869183) HT_ ?_
                 refine done_ (done_of HT_.out Z13) ?_
                 try go_wp2
                 go_meet
                 case rel => exact ⟨_, (false), Z4, H', ⟨Z32⟩, ⟨Z10⟩, ⟨Z21⟩, ⟨Z1⟩⟩
                ·
                 rw [if_neg c71] at H
                 have c71b0 : (x14_5 == x10_3) = false := beq_eq_false_iff_ne.mpr c71
                 have c71b1 : (x14_5 != x10_3) = true := bne_iff_ne.mpr c71
                 (first | rw [c71b0] | (simp only [i64_w, i32_w]; rw [c71b0]) | skip)
                 by_cases c73 : ((rd_T38 x4_1 x14_5).f1.f2) = 1
                 ·
                  rw [if_pos c73] at H
                  have c73b0 : (((rd_T38 x4_1 x14_5).f1.f2) == 1) = true := beq_iff_eq.mpr c73
                  have c73b1 : (((rd_T38 x4_1 x14_5).f1.f2) != 1) = false := bne_eq_false_iff_eq.mpr c73
                  clear c73
                  by_cases c74 : ((rd_T38 x4_1 x10_3).f1.f2) = 1
                  ·
                   rw [if_pos c74] at H
                   have c74b0 : (((rd_T38 x4_1 x10_3).f1.f2) == 1) = true := beq_iff_eq.mpr c74
                   have c74b1 : (((rd_T38 x4_1 x10_3).f1.f2) != 1) = false := bne_eq_false_iff_eq.mpr c74
                   clear c74
                   have H' := Aside0.mk H
                   clear H
                   try go_wp2
                   have n0_ := Aside0.mk (Kd.R_drew HO_4.out)
                   have n1_ := Aside0.mk (Kd.R_drew HO_9.out)
                   have n2_ := Aside0.mk (below_drew1 HB.out)
                   clear HO_4; clear HO_9; clear HB
                   have HO_4 := n0_
                   have HO_9 := n1_
                   have HB := n2_
                   clear n0_ n1_ n2_
                   have p164 : 0 ≤ (x14_5 : Int) := of_decide_eq_true Z2
                   have q164 : x14_5 < (x4_1.length : Int) := of_decide_eq_true Z2
                   obtain ⟨ad164, e164, hx164_0, hx164_1, hx164_2, hx164_3, hx164_4, hx164_5, hx164_6⟩ := at_T38 (Kd.R_reads' HO_4.out).2.2 x14_5 p164 q164
                   obtain rfl : ad162 = ad164 := (by injection e164)
                   replace p164 := eq_true p164
                   replace q164 := eq_true q164
                   have p165 : 0 ≤ (x10_3 : Int) := of_decide_eq_true Z2
                   have q165 : x10_3 < (x4_1.length : Int) := of_decide_eq_true Z2
                   obtain ⟨ad165, e165, hx165_0, hx165_1, hx165_2, hx165_3, hx165_4, hx165_5, hx165_6⟩ := at_T38 (Kd.R_reads' HO_4.out).2.2 x10_3 p165 q165
                   obtain rfl : ad162 = ad165 := (by injection e165)
                   replace p165 := eq_true p165
                   replace q165 := eq_true q165
                   have p166 : 0 ≤ (x14_5 : Int) := of_decide_eq_true Z2
                   have q166 : x14_5 < (x4_1.length : Int) := of_decide_eq_true Z2
                   obtain ⟨ad166, e166, hx166_0, hx166_1, hx166_2, hx166_3, hx166_4, hx166_5, hx166_6⟩ := at_T38 (Kd.R_reads' HO_4.out).2.2 x14_5 p166 q166
                   obtain rfl : ad162 = ad166 := (by injection e166)
                   replace p166 := eq_true p166
                   replace q166 := eq_true q166
                   have p167 : 0 ≤ (x10_3 : Int) := of_decide_eq_true Z2
                   have q167 : x10_3 < (x4_1.length : Int) := of_decide_eq_true Z2
                   obtain ⟨ad167, e167, hx167_0, hx167_1, hx167_2, hx167_3, hx167_4, hx167_5, hx167_6⟩ := at_T38 (Kd.R_reads' HO_4.out).2.2 x10_3 p167 q167
                   obtain rfl : ad162 = ad167 := (by injection e167)
                   replace p167 := eq_true p167
                   replace q167 := eq_true q167
                   refine start_ (n := 34) (S := fun w' => w'.cell? (ad162.add ((x14_5).toNat * 7)) = some (.string ((rd_T38 x4_1 x14_5).f0)) ∧ w'.cell? ⟨(ad162.add ((x14_5).toNat * 7)).block, (ad162.add ((x14_5).toNat * 7)).off + 1, none⟩ = some (.int .i64 ((rd_T38 x4_1 x14_5).f1.f0)) ∧ w'.cell? ⟨(ad162.add ((x14_5).toNat * 7)).block, (ad162.add ((x14_5).toNat * 7)).off + 2, none⟩ = some (.int .i64 ((rd_T38 x4_1 x14_5).f1.f1)) ∧ w'.cell? ⟨(ad162.add ((x14_5).toNat * 7)).block, (ad162.add ((x14_5).toNat * 7)).off + 3, none⟩ = some (.int .i64 ((rd_T38 x4_1 x14_5).f1.f2)) ∧ w'.cell? ⟨(ad162.add ((x14_5).toNat * 7)).block, (ad162.add ((x14_5).toNat * 7)).off + 4, none⟩ = some (.int .i64 ((rd_T38 x4_1 x14_5).f1.f3)) ∧ w'.cell? ⟨(ad162.add ((x14_5).toNat * 7)).block, (ad162.add ((x14_5).toNat * 7)).off + 5, none⟩ = some (.int .i64 ((rd_T38 x4_1 x14_5).f1.f4)) ∧ w'.cell? ⟨(ad162.add ((x14_5).toNat * 7)).block, (ad162.add ((x14_5).toNat * 7)).off + 6, none⟩ = some (.string ((rd_T38 x4_1 x14_5).f2)) ∧ w'.cell? (ad162.add ((x10_3).toNat * 7)) = some (.string ((rd_T38 x4_1 x10_3).f0)) ∧ w'.cell? ⟨(ad162.add ((x10_3).toNat * 7)).block, (ad162.add ((x10_3).toNat * 7)).off + 1, none⟩ = some (.int .i64 ((rd_T38 x4_1 x10_3).f1.f0)) ∧ w'.cell? ⟨(ad162.add ((x10_3).toNat * 7)).block, (ad162.add ((x10_3).toNat * 7)).off + 2, none⟩ = some (.int .i64 ((rd_T38 x4_1 x10_3).f1.f1)) ∧ w'.cell? ⟨(ad162.add ((x10_3).toNat * 7)).block, (ad162.add ((x10_3).toNat * 7)).off + 3, none⟩ = some (.int .i64 ((rd_T38 x4_1 x10_3).f1.f2)) ∧ w'.cell? ⟨(ad162.add ((x10_3).toNat * 7)).block, (ad162.add ((x10_3).toNat * 7)).off + 4, none⟩ = some (.int .i64 ((rd_T38 x4_1 x10_3).f1.f3)) ∧ w'.cell? ⟨(ad162.add ((x10_3).toNat * 7)).block, (ad162.add ((x10_3).toNat * 7)).off + 5, none⟩ = some (.int .i64 ((rd_T38 x4_1 x10_3).f1.f4)) ∧ w'.cell? ⟨(ad162.add ((x10_3).toNat * 7)).block, (ad162.add ((x10_3).toNat * 7)).off + 6, none⟩ = some (.string ((rd_T38 x4_1 x10_3).f2)) ∧ w'.cell? (ad162.add ((x14_5).toNat * 7)) = some (.string ((rd_T38 x4_1 x14_5).f0)) ∧ w'.cell? ⟨(ad162.add ((x14_5).toNat * 7)).block, (ad162.add ((x14_5).toNat * 7)).off + 1, none⟩ = some (.int .i64 ((rd_T38 x4_1 x14_5).f1.f0)) ∧ w'.cell? ⟨(ad162.add ((x14_5).toNat * 7)).block, (ad162.add ((x14_5).toNat * 7)).off + 2, none⟩ = some (.int .i64 ((rd_T38 x4_1 x14_5).f1.f1)) ∧ w'.cell? ⟨(ad162.add ((x14_5).toNat * 7)).block, (ad162.add ((x14_5).toNat * 7)).off + 3, none⟩ = some (.int .i64 ((rd_T38 x4_1 x14_5).f1.f2)) ∧ w'.cell? ⟨(ad162.add ((x14_5).toNat * 7)).block, (ad162.add ((x14_5).toNat * 7)).off + 4, none⟩ = some (.int .i64 ((rd_T38 x4_1 x14_5).f1.f3)) ∧ w'.cell? ⟨(ad162.add ((x14_5).toNat * 7)).block, (ad162.add ((x14_5).toNat * 7)).off + 5, none⟩ = some (.int .i64 ((rd_T38 x4_1 x14_5).f1.f4)) ∧ w'.cell? ⟨(ad162.add ((x14_5).toNat * 7)).block, (ad162.add ((x14_5).toNat * 7)).off + 6, none⟩ = some (.string ((rd_T38 x4_1 x14_5).f2)) ∧ w'.cell? (ad162.add ((x10_3).toNat * 7)) = some (.string ((rd_T38 x4_1 x10_3).f0)) ∧ w'.cell? ⟨(ad162.add ((x10_3).toNat * 7)).block, (ad162.add ((x10_3).toNat * 7)).off + 1, none⟩ = some (.int .i64 ((rd_T38 x4_1 x10_3).f1.f0)) ∧ w'.cell? ⟨(ad162.add ((x10_3).toNat * 7)).block, (ad162.add ((x10_3).toNat * 7)).off + 2, none⟩ = some (.int .i64 ((rd_T38 x4_1 x10_3).f1.f1)) ∧ w'.cell? ⟨(ad162.add ((x10_3).toNat * 7)).block, (ad162.add ((x10_3).toNat * 7)).off + 3, none⟩ = some (.int .i64 ((rd_T38 x4_1 x10_3).f1.f2)) ∧ w'.cell? ⟨(ad162.add ((x10_3).toNat * 7)).block, (ad162.add ((x10_3).toNat * 7)).off + 4, none⟩ = some (.int .i64 ((rd_T38 x4_1 x10_3).f1.f3)) ∧ w'.cell? ⟨(ad162.add ((x10_3).toNat * 7)).block, (ad162.add ((x10_3).toNat * 7)).off + 5, none⟩ = some (.int .i64 ((rd_T38 x4_1 x10_3).f1.f4)) ∧ w'.cell? ⟨(ad162.add ((x10_3).toNat * 7)).block, (ad162.add ((x10_3).toNat * 7)).off + 6, none⟩ = some (.string ((rd_T38 x4_1 x10_3).f2))) (ds := []) #[false, false, false, false, false, false, false, false, false, false, false, false, false, false, false, false, false, false, false, false, false, false, false, false, false, false, false, false, false, false, false, false, false, false] Z13 rfl rfl ⟨hx164_0, hx164_1, hx164_2, hx164_3, hx164_4, hx164_5, hx164_6, hx165_0, hx165_1, hx165_2, hx165_3, hx165_4, hx165_5, hx165_6, hx166_0, hx166_1, hx166_2, hx166_3, hx166_4, hx166_5, hx166_6, hx167_0, hx167_1, hx167_2, hx167_3, hx167_4, hx167_5, hx167_6⟩ (fun hHeld => ?_); refine with_tabW r8_Normal.tab35 r8_Normal.bits35 (fun HT_ HW_ => ?_)
                   generalize w70.drew = w75 at HO_4 HO_9 HB hx164_0 hx164_1 hx164_2 hx164_3 hx164_4 hx164_5 hx164_6 hx165_0 hx165_1 hx165_2 hx165_3 hx165_4 hx165_5 hx165_6 hx166_0 hx166_1 hx166_2 hx166_3 hx166_4 hx166_5 hx166_6 hx167_0 hx167_1 hx167_2 hx167_3 hx167_4 hx167_5 hx167_6 hHeld ⊢
                   refine pu 0 150 (bl 34 1) HT_ ?_
                   refine pu 1 151 (bl 34 3) HT_ ?_
                   refine pu 2 152 (bl 34 7) HT_ ?_
                   refine pu 3 153 (bl 34 15) HT_ ?_
                   refine pu 4 154 (bl 34 31) HT_ ?_
                   refine pu 5 155 (bl 34 63) HT_ ?_
                   refine pu 6 156 (bl 34 127) HT_ ?_
                   refine pu 7 157 (bl 34 255) HT_ ?_
                   refine pu 8 158 (bl 34 511) HT_ ?_
                   refine tk 9 159 (bl 34 1023) HT_ HW_ hHeld ?_ (hy := Z28)
                   refine pu 10 160 (bl 34 2047) HT_ ?_
                   refine pu 11 161 (bl 34 4095) HT_ ?_
                   refine pu 12 162 (bl 34 8191) HT_ ?_
                   refine pu 13 163 (bl 34 16383) HT_ ?_
                   refine pu 14 164 (bl 34 32767) HT_ ?_
                   refine pu 15 165 (bl 34 65535) HT_ ?_
                   refine pu 16 166 (bl 34 131071) HT_ ?_
                   refine tk 17 167 (bl 34 262143) HT_ HW_ hHeld ?_ (hy := Z28)
                   refine pu 18 168 (bl 34 524287) HT_ ?_
                   refine pu 19 169 (bl 34 1048575) HT_ ?_
                   refine pu 20 170 (bl 34 2097151) HT_ ?_
                   refine pu 21 171 (bl 34 4194303) HT_ ?_
                   refine pu 22 172 (bl 34 8388607) HT_ ?_
                   refine pu 23 173 (bl 34 16777215) HT_ ?_
                   refine pu 24 174 (bl 34 33554431) HT_ ?_
                   refine pu 26 176 (bl 34 100663295) HT_ ?_
                   refine pu 27 177 (bl 34 234881023) HT_ ?_
                   refine pu 28 178 (bl 34 503316479) HT_ ?_
                   refine pu 29 179 (bl 34 1040187391) HT_ ?_
                   refine tk 25 175 (bl 34 1073741823) HT_ HW_ hHeld ?_ (hy := Z28)
                   refine tk 30 180 (bl 34 2147483647) HT_ HW_ hHeld ?_ (hy := Z28)
                   refine pu 31 181 (bl 34 4294967295) HT_ ?_
                   refine pu 32 182 (bl 34 8589934591) HT_ ?_
                   refine pu 33 183 (bl 34 17179869183) HT_ ?_
                   refine done_ (done_of HT_.out Z13) ?_
                   try go_wp2
                   go_meet
                   case rel => exact ⟨_, ((((rd_T38 x4_1 x14_5).f2).toList != ((rd_T38 x4_1 x10_3).f2).toList)), Z4, H', ⟨Z32⟩, ⟨Z10⟩, ⟨Z21⟩, ⟨Z1⟩⟩
                  ·
                   rw [if_neg c74] at H
                   have c74b0 : (((rd_T38 x4_1 x10_3).f1.f2) == 1) = false := beq_eq_false_iff_ne.mpr c74
                   have c74b1 : (((rd_T38 x4_1 x10_3).f1.f2) != 1) = true := bne_iff_ne.mpr c74
                   have H' := Aside0.mk H
                   clear H
                   try go_wp2
                   have n0_ := Aside0.mk (Kd.R_drew HO_4.out)
                   have n1_ := Aside0.mk (Kd.R_drew HO_9.out)
                   have n2_ := Aside0.mk (below_drew1 HB.out)
                   clear HO_4; clear HO_9; clear HB
                   have HO_4 := n0_
                   have HO_9 := n1_
                   have HB := n2_
                   clear n0_ n1_ n2_
                   have p164 : 0 ≤ (x14_5 : Int) := of_decide_eq_true Z2
                   have q164 : x14_5 < (x4_1.length : Int) := of_decide_eq_true Z2
                   obtain ⟨ad164, e164, hx164_0, hx164_1, hx164_2, hx164_3, hx164_4, hx164_5, hx164_6⟩ := at_T38 (Kd.R_reads' HO_4.out).2.2 x14_5 p164 q164
                   obtain rfl : ad162 = ad164 := (by injection e164)
                   replace p164 := eq_true p164
                   replace q164 := eq_true q164
                   have p165 : 0 ≤ (x10_3 : Int) := of_decide_eq_true Z2
                   have q165 : x10_3 < (x4_1.length : Int) := of_decide_eq_true Z2
                   obtain ⟨ad165, e165, hx165_0, hx165_1, hx165_2, hx165_3, hx165_4, hx165_5, hx165_6⟩ := at_T38 (Kd.R_reads' HO_4.out).2.2 x10_3 p165 q165
                   obtain rfl : ad162 = ad165 := (by injection e165)
                   replace p165 := eq_true p165
                   replace q165 := eq_true q165
                   refine start_ (n := 34) (S := fun w' => w'.cell? (ad162.add ((x14_5).toNat * 7)) = some (.string ((rd_T38 x4_1 x14_5).f0)) ∧ w'.cell? ⟨(ad162.add ((x14_5).toNat * 7)).block, (ad162.add ((x14_5).toNat * 7)).off + 1, none⟩ = some (.int .i64 ((rd_T38 x4_1 x14_5).f1.f0)) ∧ w'.cell? ⟨(ad162.add ((x14_5).toNat * 7)).block, (ad162.add ((x14_5).toNat * 7)).off + 2, none⟩ = some (.int .i64 ((rd_T38 x4_1 x14_5).f1.f1)) ∧ w'.cell? ⟨(ad162.add ((x14_5).toNat * 7)).block, (ad162.add ((x14_5).toNat * 7)).off + 3, none⟩ = some (.int .i64 ((rd_T38 x4_1 x14_5).f1.f2)) ∧ w'.cell? ⟨(ad162.add ((x14_5).toNat * 7)).block, (ad162.add ((x14_5).toNat * 7)).off + 4, none⟩ = some (.int .i64 ((rd_T38 x4_1 x14_5).f1.f3)) ∧ w'.cell? ⟨(ad162.add ((x14_5).toNat * 7)).block, (ad162.add ((x14_5).toNat * 7)).off + 5, none⟩ = some (.int .i64 ((rd_T38 x4_1 x14_5).f1.f4)) ∧ w'.cell? ⟨(ad162.add ((x14_5).toNat * 7)).block, (ad162.add ((x14_5).toNat * 7)).off + 6, none⟩ = some (.string ((rd_T38 x4_1 x14_5).f2)) ∧ w'.cell? (ad162.add ((x10_3).toNat * 7)) = some (.string ((rd_T38 x4_1 x10_3).f0)) ∧ w'.cell? ⟨(ad162.add ((x10_3).toNat * 7)).block, (ad162.add ((x10_3).toNat * 7)).off + 1, none⟩ = some (.int .i64 ((rd_T38 x4_1 x10_3).f1.f0)) ∧ w'.cell? ⟨(ad162.add ((x10_3).toNat * 7)).block, (ad162.add ((x10_3).toNat * 7)).off + 2, none⟩ = some (.int .i64 ((rd_T38 x4_1 x10_3).f1.f1)) ∧ w'.cell? ⟨(ad162.add ((x10_3).toNat * 7)).block, (ad162.add ((x10_3).toNat * 7)).off + 3, none⟩ = some (.int .i64 ((rd_T38 x4_1 x10_3).f1.f2)) ∧ w'.cell? ⟨(ad162.add ((x10_3).toNat * 7)).block, (ad162.add ((x10_3).toNat * 7)).off + 4, none⟩ = some (.int .i64 ((rd_T38 x4_1 x10_3).f1.f3)) ∧ w'.cell? ⟨(ad162.add ((x10_3).toNat * 7)).block, (ad162.add ((x10_3).toNat * 7)).off + 5, none⟩ = some (.int .i64 ((rd_T38 x4_1 x10_3).f1.f4)) ∧ w'.cell? ⟨(ad162.add ((x10_3).toNat * 7)).block, (ad162.add ((x10_3).toNat * 7)).off + 6, none⟩ = some (.string ((rd_T38 x4_1 x10_3).f2))) (ds := []) #[false, false, false, false, false, false, false, false, false, false, false, false, false, false, false, false, false, false, false, false, false, false, false, false, false, false, false, false, false, false, false, false, false, false] Z13 rfl rfl ⟨hx164_0, hx164_1, hx164_2, hx164_3, hx164_4, hx164_5, hx164_6, hx165_0, hx165_1, hx165_2, hx165_3, hx165_4, hx165_5, hx165_6⟩ (fun hHeld => ?_); refine with_tabW r8_Normal.tab35 r8_Normal.bits35 (fun HT_ HW_ => ?_)
                   generalize w70.drew = w76 at HO_4 HO_9 HB hx164_0 hx164_1 hx164_2 hx164_3 hx164_4 hx164_5 hx164_6 hx165_0 hx165_1 hx165_2 hx165_3 hx165_4 hx165_5 hx165_6 hHeld ⊢
                   refine pu 0 150 (bl 34 1) HT_ ?_
                   refine pu 1 151 (bl 34 3) HT_ ?_
                   refine pu 2 152 (bl 34 7) HT_ ?_
                   refine pu 3 153 (bl 34 15) HT_ ?_
                   refine pu 4 154 (bl 34 31) HT_ ?_
                   refine pu 5 155 (bl 34 63) HT_ ?_
                   refine pu 6 156 (bl 34 127) HT_ ?_
                   refine pu 7 157 (bl 34 255) HT_ ?_
                   refine pu 8 158 (bl 34 511) HT_ ?_
                   refine tk 9 159 (bl 34 1023) HT_ HW_ hHeld ?_ (hy := Z22)
                   refine pu 10 160 (bl 34 2047) HT_ ?_
                   refine pu 11 161 (bl 34 4095) HT_ ?_
                   refine pu 12 162 (bl 34 8191) HT_ ?_
                   refine pu 13 163 (bl 34 16383) HT_ ?_
                   refine pu 14 164 (bl 34 32767) HT_ ?_
                   refine pu 15 165 (bl 34 65535) HT_ ?_
                   refine pu 16 166 (bl 34 131071) HT_ ?_
                   refine tk 17 167 (bl 34 262143) HT_ HW_ hHeld ?_ (hy := Z22)
                   refine pu 18 168 (bl 34 524287) HT_ ?_
                   refine pu 19 169 (bl 34 1048575) HT_ ?_
                   refine pu 20 170 (bl 34 2097151) HT_ ?_
                   refine pn 21 171 (bl 34 4194303) HT_ ?_
                   refine pn 22 172 (bl 34 8388607) HT_ ?_
                   refine pn 23 173 (bl 34 16777215) HT_ ?_
                   refine pn 24 174 (bl 34 33554431) HT_ ?_
                   refine pn 25 175 (bl 34 67108863) HT_ ?_
                   refine pn 26 176 (bl 34 134217727) HT_ ?_
                   refine pn 27 177 (bl 34 268435455) HT_ ?_
                   refine pn 28 178 (bl 34 536870911) HT_ ?_
                   refine pn 29 179 (bl 34 1073741823) HT_ ?_
                   refine pn 30 180 (bl 34 2147483647) HT_ ?_
                   refine pn 31 181 (bl 34 4294967295) HT_ ?_
                   refine pu 32 182 (bl 34 8589934591) HT_ ?_
                   refine pu 33 183 (bl 34 17179869183) HT_ ?_
                   refine done_ (done_of HT_.out Z13) ?_
                   try go_wp2
                   go_meet
                   case rel => exact ⟨_, (true), Z4, H', ⟨Z32⟩, ⟨Z10⟩, ⟨Z21⟩, ⟨Z1⟩⟩
                 ·
                  rw [if_neg c73] at H
                  have c73b0 : (((rd_T38 x4_1 x14_5).f1.f2) == 1) = false := beq_eq_false_iff_ne.mpr c73
                  have c73b1 : (((rd_T38 x4_1 x14_5).f1.f2) != 1) = true := bne_iff_ne.mpr c73
                  have H' := Aside0.mk H
                  clear H
                  try go_wp2
                  have n0_ := Aside0.mk (Kd.R_drew HO_4.out)
                  have n1_ := Aside0.mk (Kd.R_drew HO_9.out)
                  have n2_ := Aside0.mk (below_drew1 HB.out)
                  clear HO_4; clear HO_9; clear HB
                  have HO_4 := n0_
                  have HO_9 := n1_
                  have HB := n2_
                  clear n0_ n1_ n2_
                  have p164 : 0 ≤ (x14_5 : Int) := of_decide_eq_true Z2
                  have q164 : x14_5 < (x4_1.length : Int) := of_decide_eq_true Z2
                  obtain ⟨ad164, e164, hx164_0, hx164_1, hx164_2, hx164_3, hx164_4, hx164_5, hx164_6⟩ := at_T38 (Kd.R_reads' HO_4.out).2.2 x14_5 p164 q164
                  obtain rfl : ad162 = ad164 := (by injection e164)
                  replace p164 := eq_true p164
                  replace q164 := eq_true q164
                  refine start_ (n := 34) (S := fun w' => w'.cell? (ad162.add ((x14_5).toNat * 7)) = some (.string ((rd_T38 x4_1 x14_5).f0)) ∧ w'.cell? ⟨(ad162.add ((x14_5).toNat * 7)).block, (ad162.add ((x14_5).toNat * 7)).off + 1, none⟩ = some (.int .i64 ((rd_T38 x4_1 x14_5).f1.f0)) ∧ w'.cell? ⟨(ad162.add ((x14_5).toNat * 7)).block, (ad162.add ((x14_5).toNat * 7)).off + 2, none⟩ = some (.int .i64 ((rd_T38 x4_1 x14_5).f1.f1)) ∧ w'.cell? ⟨(ad162.add ((x14_5).toNat * 7)).block, (ad162.add ((x14_5).toNat * 7)).off + 3, none⟩ = some (.int .i64 ((rd_T38 x4_1 x14_5).f1.f2)) ∧ w'.cell? ⟨(ad162.add ((x14_5).toNat * 7)).block, (ad162.add ((x14_5).toNat * 7)).off + 4, none⟩ = some (.int .i64 ((rd_T38 x4_1 x14_5).f1.f3)) ∧ w'.cell? ⟨(ad162.add ((x14_5).toNat * 7)).block, (ad162.add ((x14_5).toNat * 7)).off + 5, none⟩ = some (.int .i64 ((rd_T38 x4_1 x14_5).f1.f4)) ∧ w'.cell? ⟨(ad162.add ((x14_5).toNat * 7)).block, (ad162.add ((x14_5).toNat * 7)).off + 6, none⟩ = some (.string ((rd_T38 x4_1 x14_5).f2))) (ds := []) #[false, false, false, false, false, false, false, false, false, false, false, false, false, false, false, false, false, false, false, false, false, false, false, false, false, false, false, false, false, false, false, false, false, false] Z13 rfl rfl ⟨hx164_0, hx164_1, hx164_2, hx164_3, hx164_4, hx164_5, hx164_6⟩ (fun hHeld => ?_); refine with_tabW r8_Normal.tab35 r8_Normal.bits35 (fun HT_ HW_ => ?_)
                  generalize w70.drew = w77 at HO_4 HO_9 HB hx164_0 hx164_1 hx164_2 hx164_3 hx164_4 hx164_5 hx164_6 hHeld ⊢
                  refine pu 0 150 (bl 34 1) HT_ ?_
                  refine pu 1 151 (bl 34 3) HT_ ?_
                  refine pu 2 152 (bl 34 7) HT_ ?_
                  refine pu 3 153 (bl 34 15) HT_ ?_
                  refine pu 4 154 (bl 34 31) HT_ ?_
                  refine pu 5 155 (bl 34 63) HT_ ?_
                  refine pu 6 156 (bl 34 127) HT_ ?_
                  refine pu 7 157 (bl 34 255) HT_ ?_
                  refine pu 8 158 (bl 34 511) HT_ ?_
                  refine tk 9 159 (bl 34 1023) HT_ HW_ hHeld ?_ (hy := by rintro w' ⟨s0, s1, s2, s3, s4, s5, s6⟩; go_simp; with_reducible rfl)
                  refine pu 10 160 (bl 34 2047) HT_ ?_
                  refine pu 11 161 (bl 34 4095) HT_ ?_
                  refine pn 12 162 (bl 34 8191) HT_ ?_
                  refine pn 13 163 (bl 34 16383) HT_ ?_
                  refine pn 14 164 (bl 34 32767) HT_ ?_
                  refine pn 15 165 (bl 34 65535) HT_ ?_
                  refine pn 16 166 (bl 34 131071) HT_ ?_
                  refine pn 17 167 (bl 34 262143) HT_ ?_
                  refine pn 18 168 (bl 34 524287) HT_ ?_
                  refine pu 19 169 (bl 34 1048575) HT_ ?_
                  refine pu 20 170 (bl 34 2097151) HT_ ?_
                  refine pn 21 171 (bl 34 4194303) HT_ ?_
                  refine pn 22 172 (bl 34 8388607) HT_ ?_
                  refine pn 23 173 (bl 34 16777215) HT_ ?_
                  refine pn 24 174 (bl 34 33554431) HT_ ?_
                  refine pn 25 175 (bl 34 67108863) HT_ ?_
                  refine pn 26 176 (bl 34 134217727) HT_ ?_
                  refine pn 27 177 (bl 34 268435455) HT_ ?_
                  refine pn 28 178 (bl 34 536870911) HT_ ?_
                  refine pn 29 179 (bl 34 1073741823) HT_ ?_
                  refine pn 30 180 (bl 34 2147483647) HT_ ?_
                  refine pn 31 181 (bl 34 4294967295) HT_ ?_
                  refine pu 32 182 (bl 34 8589934591) HT_ ?_
                  refine pu 33 183 (bl 34 17179869183) HT_ ?_
                  refine done_ (done_of HT_.out Z13) ?_
                  try go_wp2
                  go_meet
                  case rel => exact ⟨_, (true), Z4, H', ⟨Z32⟩, ⟨Z10⟩, ⟨Z21⟩, ⟨Z1⟩⟩
               case rest =>
                clear HC69; try clear p1; try clear q1; try clear hx1; try clear p2; try clear c7; try clear p16; try clear q16; try clear hx16; try clear c73; try clear c73b0; try clear c73b1; try clear c74; try clear c74b0; try clear c74b1; try clear hx164_0; try clear hx164_1; try clear hx164_2; try clear hx164_3; try clear hx164_4; try clear hx164_5; try clear hx164_6; try clear hx165_0; try clear hx165_1; try clear hx165_2; try clear hx165_3; try clear hx165_4; try clear hx165_5; try clear hx165_6; try clear p164; try clear p165; try clear q164; try clear q165
                obtain ⟨kq, x183_68, rfl, HA, HJ68, HO_4, HO_9, HB⟩ := hcut
                cases kq with
                | zero => exact absurd HA.out (by simp [r8_Normal.j7])
                | succ kj68 =>
                 have H := HA.out
                 clear HA
                 simp only [r8_Normal.j7] at H
                 by_cases c78 : x183_68 = true
                 ·
                  subst c78
                  have H1 : (some (([] : List (S38)), 5)) = some (r1, r2) := by rw [if_pos rfl] at H; exact H
                  clear H
                  have H := H1
                  clear H1
                  simp only [Option.some.injEq, Prod.mk.injEq] at H
                  obtain ⟨rfl, rfl⟩ := H
                  go_wp2
                  go_ret2
                  exact ⟨_, Z12, Z17, Z1⟩
                 ·
                  replace c78 := Bool.eq_false_iff.mpr c78
                  subst c78
                  have H1 : (if x12_5 < 0 then (r8_Normal.l3 kj68 x4_1 x9_3 x10_3 x14_5 (wrap64 (x13_5 + 1)) (wrap64 (x14_5 + 1))) else (r8_Normal.l3 kj68 x4_1 x9_3 x10_3 x12_5 (wrap64 (x13_5 + 1)) (wrap64 (x14_5 + 1)))) = some (r1, r2) := by rw [if_neg (show ¬ (false = true) by decide)] at H; exact H
                  clear H
                  have H := H1
                  clear H1
                  by_cases c79 : x12_5 < 0
                  ·
                   rw [if_pos c79] at H
                   have c79b0 : decide (x12_5 < 0) = true := decide_eq_true c79
                   clear c79
                   have H' := Aside0.mk H
                   clear H
                   go_wp2
                   go_roundg kj68
                   case measure => have := HK1.out; have := HJ40.out; have := HK3.out; have := HJ54.out; have := HK5.out; have := HJ68.out; omega
                   case rel => exact ⟨(x14_5), (wrap64 (x13_5 + 1)), (wrap64 (x14_5 + 1)), Z4, Z4, Z4, H', ⟨by have := HK1.out; have := HJ40.out; have := HK3.out; have := HJ54.out; have := HK5.out; have := HJ68.out; omega⟩, ⟨Z10⟩, ⟨Z21⟩, ⟨Z1⟩⟩
                  ·
                   rw [if_neg c79] at H
                   have c79b0 : decide (x12_5 < 0) = false := decide_eq_false c79
                   clear c79
                   have H' := Aside0.mk H
                   clear H
                   go_wp2
                   go_roundg kj68
                   case measure => have := HK1.out; have := HJ40.out; have := HK3.out; have := HJ54.out; have := HK5.out; have := HJ68.out; omega
                   case rel => exact ⟨(x12_5), (wrap64 (x13_5 + 1)), (wrap64 (x14_5 + 1)), Z4, Z4, Z4, H', ⟨by have := HK1.out; have := HJ40.out; have := HK3.out; have := HJ54.out; have := HK5.out; have := HJ68.out; omega⟩, ⟨Z10⟩, ⟨Z21⟩, ⟨Z1⟩⟩
              ·
               rw [if_neg c68] at H
               have c68b0 : (((rd_T38 x4_1 x14_5).f1.f0) == ((rd_T38 x4_1 x10_3).f1.f0)) = false := beq_eq_false_iff_ne.mpr c68
               have c68b1 : (((rd_T38 x4_1 x14_5).f1.f0) != ((rd_T38 x4_1 x10_3).f1.f0)) = true := bne_iff_ne.mpr c68
               have H' := Aside0.mk H
               clear H
               try go_wp2
               have n0_ := Aside0.mk (Kd.R_drew HO_4.out)
               have n1_ := Aside0.mk (Kd.R_drew HO_9.out)
               have n2_ := Aside0.mk (below_drew1 HB.out)
               clear HO_4; clear HO_9; clear HB
               have HO_4 := n0_
               have HO_9 := n1_
               have HB := n2_
               clear n0_ n1_ n2_
               have p162 : 0 ≤ (x14_5 : Int) := of_decide_eq_true Z2
               have q162 : x14_5 < (x4_1.length : Int) := of_decide_eq_true Z2
               obtain ⟨ad162, e162, hx162_0, hx162_1, hx162_2, hx162_3, hx162_4, hx162_5, hx162_6⟩ := at_T38 (Kd.R_reads' HO_4.out).2.2 x14_5 p162 q162
               cases e162
               replace p162 := eq_true p162
               replace q162 := eq_true q162
               have p163 : 0 ≤ (x10_3 : Int) := of_decide_eq_true Z2
               have q163 : x10_3 < (x4_1.length : Int) := of_decide_eq_true Z2
               obtain ⟨ad163, e163, hx163_0, hx163_1, hx163_2, hx163_3, hx163_4, hx163_5, hx163_6⟩ := at_T38 (Kd.R_reads' HO_4.out).2.2 x10_3 p163 q163
               obtain rfl : ad162 = ad163 := (by injection e163)
               replace p163 := eq_true p163
               replace q163 := eq_true q163
               refine start_ (n := 13) (S := fun w' => w'.cell? (ad162.add ((x14_5).toNat * 7)) = some (.string ((rd_T38 x4_1 x14_5).f0)) ∧ w'.cell? ⟨(ad162.add ((x14_5).toNat * 7)).block, (ad162.add ((x14_5).toNat * 7)).off + 1, none⟩ = some (.int .i64 ((rd_T38 x4_1 x14_5).f1.f0)) ∧ w'.cell? ⟨(ad162.add ((x14_5).toNat * 7)).block, (ad162.add ((x14_5).toNat * 7)).off + 2, none⟩ = some (.int .i64 ((rd_T38 x4_1 x14_5).f1.f1)) ∧ w'.cell? ⟨(ad162.add ((x14_5).toNat * 7)).block, (ad162.add ((x14_5).toNat * 7)).off + 3, none⟩ = some (.int .i64 ((rd_T38 x4_1 x14_5).f1.f2)) ∧ w'.cell? ⟨(ad162.add ((x14_5).toNat * 7)).block, (ad162.add ((x14_5).toNat * 7)).off + 4, none⟩ = some (.int .i64 ((rd_T38 x4_1 x14_5).f1.f3)) ∧ w'.cell? ⟨(ad162.add ((x14_5).toNat * 7)).block, (ad162.add ((x14_5).toNat * 7)).off + 5, none⟩ = some (.int .i64 ((rd_T38 x4_1 x14_5).f1.f4)) ∧ w'.cell? ⟨(ad162.add ((x14_5).toNat * 7)).block, (ad162.add ((x14_5).toNat * 7)).off + 6, none⟩ = some (.string ((rd_T38 x4_1 x14_5).f2)) ∧ w'.cell? (ad162.add ((x10_3).toNat * 7)) = some (.string ((rd_T38 x4_1 x10_3).f0)) ∧ w'.cell? ⟨(ad162.add ((x10_3).toNat * 7)).block, (ad162.add ((x10_3).toNat * 7)).off + 1, none⟩ = some (.int .i64 ((rd_T38 x4_1 x10_3).f1.f0)) ∧ w'.cell? ⟨(ad162.add ((x10_3).toNat * 7)).block, (ad162.add ((x10_3).toNat * 7)).off + 2, none⟩ = some (.int .i64 ((rd_T38 x4_1 x10_3).f1.f1)) ∧ w'.cell? ⟨(ad162.add ((x10_3).toNat * 7)).block, (ad162.add ((x10_3).toNat * 7)).off + 3, none⟩ = some (.int .i64 ((rd_T38 x4_1 x10_3).f1.f2)) ∧ w'.cell? ⟨(ad162.add ((x10_3).toNat * 7)).block, (ad162.add ((x10_3).toNat * 7)).off + 4, none⟩ = some (.int .i64 ((rd_T38 x4_1 x10_3).f1.f3)) ∧ w'.cell? ⟨(ad162.add ((x10_3).toNat * 7)).block, (ad162.add ((x10_3).toNat * 7)).off + 5, none⟩ = some (.int .i64 ((rd_T38 x4_1 x10_3).f1.f4)) ∧ w'.cell? ⟨(ad162.add ((x10_3).toNat * 7)).block, (ad162.add ((x10_3).toNat * 7)).off + 6, none⟩ = some (.string ((rd_T38 x4_1 x10_3).f2))) (ds := []) #[false, false, false, false, false, false, false, false, false, false, false, false, false] Z13 rfl rfl ⟨hx162_0, hx162_1, hx162_2, hx162_3, hx162_4, hx162_5, hx162_6, hx163_0, hx163_1, hx163_2, hx163_3, hx163_4, hx163_5, hx163_6⟩ (fun hHeld => ?_); refine with_tabW r8_Normal.tab34 r8_Normal.bits34 (fun HT_ HW_ => ?_)
               generalize wr.drew = w80 at HO_4 HO_9 HB hx162_0 hx162_1 hx162_2 hx162_3 hx162_4 hx162_5 hx162_6 hx163_0 hx163_1 hx163_2 hx163_3 hx163_4 hx163_5 hx163_6 hHeld ⊢
               refine pu 0 137 (bl 13 1) HT_ ?_
               refine pu 1 138 (bl 13 3) HT_ ?_
               refine pu 2 139 (bl 13 7) HT_ ?_
               refine pu 3 140 (bl 13 15) HT_ ?_
               refine pu 4 141 (bl 13 31) HT_ ?_
               refine pu 6 143 (bl 13 95) HT_ ?_
               refine pu 7 144 (bl 13 223) HT_ ?_
               refine pu 8 145 (bl 13 479) HT_ ?_
               refine pu 9 146 (bl 13 991) HT_ ?_
               refine pu 10 147 (bl 13 2015) HT_ ?_
               refine tk 5 142 (bl 13 2047) HT_ HW_ hHeld ?_ (hy := Z22)
               refine tk 11 148 (bl 13 4095) HT_ HW_ hHeld ?_ (hy := Z22)
               refine pu 12 149 (bl 13 8191) HT_ ?_
               refine done_ (done_of HT_.out Z13) ?_
               try go_wp2
               go_roundg k5
               case measure => have := HK1.out; have := HJ40.out; have := HK3.out; have := HJ54.out; have := HK5.out; omega
               case rel => exact ⟨(x12_5), (x13_5), (wrap64 (x14_5 + 1)), Z4, Z4, Z4, H', ⟨by have := HK1.out; have := HJ40.out; have := HK3.out; have := HJ54.out; have := HK5.out; omega⟩, ⟨Z10⟩, ⟨Z21⟩, ⟨Z1⟩⟩
             ·
              rw [if_neg c67] at H
              exact absurd H Z23
            ·
             rw [if_neg c66] at H
             exact absurd H Z23
           ·
            rw [if_neg c65] at H
            exact absurd H Z23
          ·
           rw [if_neg c64] at H
           have c64b0 : decide (x14_5 < (x4_1.length : Int)) = false := decide_eq_false c64
           clear c64
           by_cases c81 : 0 ≤ x10_3
           ·
            rw [if_pos c81] at H
            have c81b0 : decide (0 ≤ x10_3) = true := decide_eq_true c81
            clear c81
            by_cases c82 : x10_3 < (x4_1.length : Int)
            ·
             rw [if_pos c82] at H
             have c82b0 : decide (x10_3 < (x4_1.length : Int)) = true := decide_eq_true c82
             clear c82
             by_cases c83 : x10_3 < (x9_3.length : Int)
             ·
              rw [if_pos c83] at H
              have c83b0 : decide (x10_3 < (x9_3.length : Int)) = true := decide_eq_true c83
              clear c83
              obtain ⟨y161, hy161⟩ : ∃ y_ : List (S36), y_ = (x9_3.set (x10_3 : Int).toNat (⟨wrap64 (x12_5 + 1), 0, (rd_T38 x4_1 x10_3).f1.f2, x13_5, (((rd_T38 x4_1 x10_3).f2).size : Int)⟩ : S36)) := ⟨_, rfl⟩
              replace H : (r8_Normal.l2 k5 x4_1 y161 (wrap64 (x10_3 + 1))) = some (r1, r2) := by first | (rw [hy161]; with_reducible exact H) | (have H2_ := (Option.bind_some _ _).symm.trans H; rw [hy161]; with_reducible exact H2_) | (have H2_ := (Option.bind_some _ _).symm.trans H; with_reducible exact H2_) | with_reducible exact H | (rw [hy161]; exact H) | exact H
              have Ny161 := Aside0.mk hy161
              clear hy161
              have H' := Aside0.mk H
              clear H
              try go_wp2
              have n0_ := Aside0.mk (Kd.R_drew HO_4.out)
              have n1_ := Aside0.mk (Kd.R_drew HO_9.out)
              have n2_ := Aside0.mk (below_drew1 HB.out)
              clear HO_4; clear HO_9; clear HB
              have HO_4 := n0_
              have HO_9 := n1_
              have HB := n2_
              clear n0_ n1_ n2_
              have p159 : 0 ≤ (x10_3 : Int) := of_decide_eq_true Z2
              have q159 : x10_3 < (x4_1.length : Int) := of_decide_eq_true Z2
              obtain ⟨ad159, e159, hx159_0, hx159_1, hx159_2, hx159_3, hx159_4, hx159_5, hx159_6⟩ := at_T38 (Kd.R_reads' HO_4.out).2.2 x10_3 p159 q159
              cases e159
              replace p159 := eq_true p159
              replace q159 := eq_true q159
              have p160 : 0 ≤ (x10_3 : Int) := of_decide_eq_true Z2
              have q160 : x10_3 < (x4_1.length : Int) := of_decide_eq_true Z2
              obtain ⟨ad160, e160, hx160_0, hx160_1, hx160_2, hx160_3, hx160_4, hx160_5, hx160_6⟩ := at_T38 (Kd.R_reads' HO_4.out).2.2 x10_3 p160 q160
              obtain rfl : ad159 = ad160 := (by injection e160)
              replace p160 := eq_true p160
              replace q160 := eq_true q160
              have p84 : 0 ≤ (x10_3 : Int) := of_decide_eq_true Z2
              have q84 : (x10_3 : Int) < ((x9_3.length : Int) : Int) := of_decide_eq_true Z2
              obtain ⟨go84, co84, eo84, gb84, gl84, cl84, HG84⟩ := Kd.R_form HO_9.out Z3
              (first | cases eo84 | (injection eo84 with ea_ en_ ec_; (first | subst ea_ | (injection ea_ with ea_; subst ea_)); subst ec_; clear en_))
              have GB84 := Aside0.mk gb84
              have GG84 := Aside0.mk HG84
              clear gb84 gl84 HG84
              obtain ⟨ce84, hcl84, hM84, hcc84, hfr84⟩ := Kd.R_elem HO_9.out z36 (x10_3 : Int) p84 q84
              obtain rfl := k36_openM hM84
              have hx84_0 : World.cell? _ ⟨go84, (x10_3 : Int).toNat * 5, none⟩ = some (.int .i64 ((rd_T36 x9_3 x10_3).f0)) := hcc84 0 _ rfl
              have hx84_1 : World.cell? _ ⟨go84, (x10_3 : Int).toNat * 5 + 1, none⟩ = some (.int .i64 ((rd_T36 x9_3 x10_3).f1)) := hcc84 1 _ rfl
              have hx84_2 : World.cell? _ ⟨go84, (x10_3 : Int).toNat * 5 + 2, none⟩ = some (.int .i64 ((rd_T36 x9_3 x10_3).f2)) := hcc84 2 _ rfl
              have hx84_3 : World.cell? _ ⟨go84, (x10_3 : Int).toNat * 5 + 3, none⟩ = some (.int .i64 ((rd_T36 x9_3 x10_3).f3)) := hcc84 3 _ rfl
              have hx84_4 : World.cell? _ ⟨go84, (x10_3 : Int).toNat * 5 + 4, none⟩ = some (.int .i64 ((rd_T36 x9_3 x10_3).f4)) := hcc84 4 _ rfl
              have hf84_0 : World.frozen? _ ⟨go84, (x10_3 : Int).toNat * 5, none⟩ = false := hfr84 0
              have hf84_1 : World.frozen? _ ⟨go84, (x10_3 : Int).toNat * 5 + 1, none⟩ = false := hfr84 1
              have hf84_2 : World.frozen? _ ⟨go84, (x10_3 : Int).toNat * 5 + 2, none⟩ = false := hfr84 2
              have hf84_3 : World.frozen? _ ⟨go84, (x10_3 : Int).toNat * 5 + 3, none⟩ = false := hfr84 3
              have hf84_4 : World.frozen? _ ⟨go84, (x10_3 : Int).toNat * 5 + 4, none⟩ = false := hfr84 4
              clear hcl84 hcc84 hfr84 hM84
              replace p84 := eq_true p84
              replace q84 := eq_true q84
              obtain ⟨ce86, hcl86, hM86, hcc86, hfr86⟩ := Kd.R_elem HO_9.out z36 (x10_3 : Int) (of_decide_eq_true Z2) Z34
              obtain rfl := k36_openM hM86
              have HP86 := (Kd.R_seg HO_9.out (x10_3 : Int) (of_decide_eq_true Z2) Z34 (seg := [.int .i64 (wrap64 (x12_5 + 1)), .int .i64 0, .int .i64 ((rd_T38 x4_1 x10_3).f1.f2), .int .i64 x13_5, .int .i64 (((rd_T38 x4_1 x10_3).f2).size : Int)]) (j := 0) hcl86 hcc86 (show 5 ≤ 5 from by decide) (x' := (⟨wrap64 (x12_5 + 1), 0, (rd_T38 x4_1 x10_3).f1.f2, x13_5, (((rd_T38 x4_1 x10_3).f2).size : Int)⟩ : S36)) (k36_mkM _ _ _ (⟨wrap64 (x12_5 + 1), 0, (rd_T38 x4_1 x10_3).f1.f2, x13_5, (((rd_T38 x4_1 x10_3).f2).size : Int)⟩ : S36) ) (fun _ hk => hk)).1
              rw [← Ny161.out] at HP86
              have HQ86 := Aside0.mk HP86
              clear hcl86 hcc86 hfr86 hM86 HP86
              refine start_ (n := 20) (S := fun w' => w'.cell? (ad159.add ((x10_3).toNat * 7)) = some (.string ((rd_T38 x4_1 x10_3).f0)) ∧ w'.cell? ⟨(ad159.add ((x10_3).toNat * 7)).block, (ad159.add ((x10_3).toNat * 7)).off + 1, none⟩ = some (.int .i64 ((rd_T38 x4_1 x10_3).f1.f0)) ∧ w'.cell? ⟨(ad159.add ((x10_3).toNat * 7)).block, (ad159.add ((x10_3).toNat * 7)).off + 2, none⟩ = some (.int .i64 ((rd_T38 x4_1 x10_3).f1.f1)) ∧ w'.cell? ⟨(ad159.add ((x10_3).toNat * 7)).block, (ad159.add ((x10_3).toNat * 7)).off + 3, none⟩ = some (.int .i64 ((rd_T38 x4_1 x10_3).f1.f2)) ∧ w'.cell? ⟨(ad159.add ((x10_3).toNat * 7)).block, (ad159.add ((x10_3).toNat * 7)).off + 4, none⟩ = some (.int .i64 ((rd_T38 x4_1 x10_3).f1.f3)) ∧ w'.cell? ⟨(ad159.add ((x10_3).toNat * 7)).block, (ad159.add ((x10_3).toNat * 7)).off + 5, none⟩ = some (.int .i64 ((rd_T38 x4_1 x10_3).f1.f4)) ∧ w'.cell? ⟨(ad159.add ((x10_3).toNat * 7)).block, (ad159.add ((x10_3).toNat * 7)).off + 6, none⟩ = some (.string ((rd_T38 x4_1 x10_3).f2)) ∧ w'.cell? (ad159.add ((x10_3).toNat * 7)) = some (.string ((rd_T38 x4_1 x10_3).f0)) ∧ w'.cell? ⟨(ad159.add ((x10_3).toNat * 7)).block, (ad159.add ((x10_3).toNat * 7)).off + 1, none⟩ = some (.int .i64 ((rd_T38 x4_1 x10_3).f1.f0)) ∧ w'.cell? ⟨(ad159.add ((x10_3).toNat * 7)).block, (ad159.add ((x10_3).toNat * 7)).off + 2, none⟩ = some (.int .i64 ((rd_T38 x4_1 x10_3).f1.f1)) ∧ w'.cell? ⟨(ad159.add ((x10_3).toNat * 7)).block, (ad159.add ((x10_3).toNat * 7)).off + 3, none⟩ = some (.int .i64 ((rd_T38 x4_1 x10_3).f1.f2)) ∧ w'.cell? ⟨(ad159.add ((x10_3).toNat * 7)).block, (ad159.add ((x10_3).toNat * 7)).off + 4, none⟩ = some (.int .i64 ((rd_T38 x4_1 x10_3).f1.f3)) ∧ w'.cell? ⟨(ad159.add ((x10_3).toNat * 7)).block, (ad159.add ((x10_3).toNat * 7)).off + 5, none⟩ = some (.int .i64 ((rd_T38 x4_1 x10_3).f1.f4)) ∧ w'.cell? ⟨(ad159.add ((x10_3).toNat * 7)).block, (ad159.add ((x10_3).toNat * 7)).off + 6, none⟩ = some (.string ((rd_T38 x4_1 x10_3).f2))) (ds := [19]) #[false, false, false, false, false, false, false, false, false, false, false, false, false, false, false, false, false, false, false, false] Z13 rfl rfl ⟨hx159_0, hx159_1, hx159_2, hx159_3, hx159_4, hx159_5, hx159_6, hx160_0, hx160_1, hx160_2, hx160_3, hx160_4, hx160_5, hx160_6⟩ (fun hHeld => ?_); refine with_tabW r8_Normal.tab40 r8_Normal.bits40 (fun HT_ HW_ => ?_)
              generalize wr.drew = w85 at HO_4 HO_9 HB GG84 HQ86 hf84_0 hf84_1 hf84_2 hf84_3 hf84_4 hx159_0 hx159_1 hx159_2 hx159_3 hx159_4 hx159_5 hx159_6 hx160_0 hx160_1 hx160_2 hx160_3 hx160_4 hx160_5 hx160_6 hx84_0 hx84_1 hx84_2 hx84_3 hx84_4 hHeld ⊢
              refine pu 0 189 (bl 20 1) HT_ ?_
              refine pu 1 190 (bl 20 3) HT_ ?_
              refine pu 2 191 (bl 20 7) HT_ ?_
              refine pu 3 192 (bl 20 15) HT_ ?_
              refine pu 4 193 (bl 20 31) HT_ ?_
              refine pu 5 194 (bl 20 63) HT_ ?_
              refine pu 6 195 (bl 20 127) HT_ ?_
              refine pu 7 196 (bl 20 255) HT_ ?_
              refine pu 8 197 (bl 20 511) HT_ ?_
              refine pu 10 199 (bl 20 1535) HT_ ?_
              refine pu 11 200 (bl 20 3583) HT_ ?_
              refine pu 12 201 (bl 20 7679) HT_ ?_
              refine pu 13 202 (bl 20 15871) HT_ ?_
              refine pu 14 203 (bl 20 32255) HT_ ?_
              refine tk 9 198 (bl 20 32767) HT_ HW_ hHeld ?_ (hy := Z22)
              refine tk 15 204 (bl 20 65535) HT_ HW_ hHeld ?_ (hy := Z22)
              refine pu 16 205 (bl 20 131071) HT_ ?_
              refine pu 17 206 (bl 20 262143) HT_ ?_
              refine pu 18 207 (bl 20 524287) HT_ ?_
              refine last_ (i := 19) (N := none) (bl 20 1048575) rfl rfl (one_of HT_.out Z13) Z11 (fun K hK => ?_)
              refine skip_ (w1 := ?_) (by rfl) rfl ?_ ?_
              rotate_left; · go_simp; rfl
              refine hK.out _ _ ?_
              clear hK K
              refine done_ (done_of HT_.out Z13) ?_
              try go_wp2
              go_roundg k5
              case measure => have := HK1.out; have := HJ40.out; have := HK3.out; have := HJ54.out; have := HK5.out; omega
              case rel => exact ⟨(y161), (wrap64 (x10_3 + 1)), Z4, H', ⟨by have := HK1.out; have := HJ40.out; have := HK3.out; have := HJ54.out; have := HK5.out; omega⟩, ⟨by (with_reducible repeat (first | apply Kd.R_alloc | apply Kd.R_drewN | apply Kd.R_drew)); exact Kd.R_mono (Kd.R_far (p := ⟨go84, (x10_3 : Int).toNat * 5 + 4, none⟩) (Kd.R_far (p := ⟨go84, (x10_3 : Int).toNat * 5 + 3, none⟩) (Kd.R_far (p := ⟨go84, (x10_3 : Int).toNat * 5 + 2, none⟩) (Kd.R_far (p := ⟨go84, (x10_3 : Int).toNat * 5 + 1, none⟩) (Kd.R_far (p := ⟨go84, (x10_3 : Int).toNat * 5, none⟩) (Kd.R_types HO_4.out GG84.out Z11) (fun _ hk => hk.2) (.int .i64 (wrap64 (x12_5 + 1)))) (fun _ hk => hk.2) (.int .i64 0)) (fun _ hk => hk.2) (.int .i64 ((rd_T38 x4_1 x10_3).f1.f2))) (fun _ hk => hk.2) (.int .i64 x13_5)) (fun _ hk => hk.2) (.int .i64 (((rd_T38 x4_1 x10_3).f2).size : Int))) (fun _ hk => trivial)⟩, ⟨by (with_reducible repeat (first | apply Kd.R_alloc | apply Kd.R_drewN | apply Kd.R_drew)); exact HQ86.out⟩, ⟨by repeat (first | (with_reducible first | exact HB.out | apply below_alloc | apply pw_below_drewN | apply below_drew1 | refine below_set ?_ GB84.out | refine below_set ?_ GB84.out | refine below_set ?_ GB84.out | refine below_set ?_ GB84.out | refine below_set ?_ GB84.out) | exact HB.out)⟩⟩
             ·
              rw [if_neg c83] at H
              exact absurd H Z23
            ·
             rw [if_neg c82] at H
             exact absurd H Z23
           ·
            rw [if_neg c81] at H
            exact absurd H Z23
     ·
      rw [if_neg c54] at H
      have c54b0 : decide (x10_3 < (x4_1.length : Int)) = false := decide_eq_false c54
      clear c54
      have H' := Aside0.mk H
      clear H
      go_wp2
      go_loopg [15] k3 (fun kq v15 w' => ∃ (x4_4 : List (S38)) (x15_4 : Int), v15 = .int .i64 x15_4 ∧ Aside0 (r8_Normal.l4 kq x4_4 x9_3 x15_4 = some (r1, r2)) ∧ Aside0 (kq ≤ k3) ∧ Aside0 (Kd.R k38 38 w' w.heap.size (fun _ => True) (.slice Ao51 x4_1.length co51) x4_4) ∧ Aside0 (Kd.R k36 36 w' w.heap.size (fun _ => True) v153 x9_3) ∧ Aside0 (Below w.heap.size w w'))
      case atStart => exact ⟨(x4_1), (0), Z4, H', ⟨Nat.le_refl _⟩, ⟨Z10⟩, ⟨Z21⟩, ⟨Z1⟩⟩
      case round =>
       clear H'
       try clear p1; try clear q1; try clear hx1; try clear p2; try clear c5; try clear c6; try clear p6; try clear c7; try clear c8; try clear p8; try clear q8; try clear hx8; try clear hf8; try clear p15; try clear q15; try clear hx15; try clear p16; try clear q16; try clear hx16; try clear c54; try clear c54b0; try clear c64; try clear c64b0; try clear p64; try clear c65; try clear c66; try clear c67; try clear c68; try clear c68b0; try clear c68b1; try clear c73; try clear c73b0; try clear c73b1; try clear c74; try clear c74b0; try clear c74b1; try clear c78; try clear c79; try clear c79b0; try clear c81; try clear c81b0; try clear c82; try clear c82b0; try clear c83; try clear c83b0; try clear c84; try clear p84; try clear q84; try clear hx84; try clear hf84; try clear c86; try clear hx159_0; try clear hx159_1; try clear hx159_2; try clear hx159_3; try clear hx159_4; try clear hx159_5; try clear hx159_6; try clear hx160_0; try clear hx160_1; try clear hx160_2; try clear hx160_3; try clear hx160_4; try clear hx160_5; try clear hx160_6; try clear hx162_0; try clear hx162_1; try clear hx162_2; try clear hx162_3; try clear hx162_4; try clear hx162_5; try clear hx162_6; try clear hx163_0; try clear hx163_1; try clear hx163_2; try clear hx163_3; try clear hx163_4; try clear hx163_5; try clear hx163_6; try clear hx164_0; try clear hx164_1; try clear hx164_2; try clear hx164_3; try clear hx164_4; try clear hx164_5; try clear hx164_6; try clear hx165_0; try clear hx165_1; try clear hx165_2; try clear hx165_3; try clear hx165_4; try clear hx165_5; try clear hx165_6; try clear hx84_0; try clear hx84_1; try clear hx84_2; try clear hx84_3; try clear hx84_4; try clear p1; try clear p159; try clear p16; try clear p160; try clear p162; try clear p163; try clear p164; try clear p165; try clear p2; try clear p84; try clear q1; try clear q159; try clear q16; try clear q160; try clear q162; try clear q163; try clear q164; try clear q165; try clear q84
       obtain ⟨x4_4, x15_4, rfl, HA, HK4, HO_4, HO_9, HB⟩ := hrel
       have hl4_4 := (Kd.R_reads' HO_4.out).1
       rw [hl4_4] at HO_4
       (try simp only [hl4_4])
       (try simp only [hl4_4] at HO_9)
       cases gk with
       | zero => exact absurd HA.out (by simp [r8_Normal.l4])
       | succ k4 =>
        have H := HA.out
        clear HA
        simp only [r8_Normal.l4] at H
        by_cases c87 : x15_4 < (x4_4.length : Int)
        ·
         rw [if_pos c87] at H
         have c87b0 : decide (x15_4 < (x4_4.length : Int)) = true := decide_eq_true c87
         clear c87
         by_cases c88 : 0 ≤ x15_4
         ·
          rw [if_pos c88] at H
          have c88b0 : decide (0 ≤ x15_4) = true := decide_eq_true c88
          clear c88
          by_cases c89 : x15_4 < (x9_3.length : Int)
          ·
           rw [if_pos c89] at H
           have c89b0 : decide (x15_4 < (x9_3.length : Int)) = true := decide_eq_true c89
           clear c89
           obtain ⟨y169, hy169⟩ : ∃ y_ : List (S38), y_ = (x4_4.set (x15_4 : Int).toNat (⟨(rd_T38 x4_4 x15_4).f0, (⟨(rd_T36 x9_3 x15_4).f0, (rd_T36 x9_3 x15_4).f1, (rd_T36 x9_3 x15_4).f2, (rd_T36 x9_3 x15_4).f3, (rd_T36 x9_3 x15_4).f4⟩ : S36), (rd_T38 x4_4 x15_4).f2⟩ : S38)) := ⟨_, rfl⟩
           replace H : (r8_Normal.l4 k4 y169 x9_3 (wrap64 (x15_4 + 1))) = some (r1, r2) := by first | (rw [hy169]; with_reducible exact H) | (have H2_ := (Option.bind_some _ _).symm.trans H; rw [hy169]; with_reducible exact H2_) | (have H2_ := (Option.bind_some _ _).symm.trans H; with_reducible exact H2_) | with_reducible exact H | (rw [hy169]; exact H) | exact H
           have Ny169 := Aside0.mk hy169
           clear hy169
           have H' := Aside0.mk H
           clear H
           obtain ⟨Ao91, co91, eo91⟩ := Kd.R_slice HO_9.out
           subst eo91
           have p168 : 0 ≤ (x15_4 : Int) := of_decide_eq_true Z2
           have q168 : x15_4 < (x9_3.length : Int) := of_decide_eq_true Z2
           obtain ⟨ad168, e168, hx168_0, hx168_1, hx168_2, hx168_3, hx168_4⟩ := at_T36 (Kd.R_reads' HO_9.out).2.2 x15_4 p168 q168
           cases e168
           replace p168 := eq_true p168
           replace q168 := eq_true q168
           have p90 : 0 ≤ (x15_4 : Int) := of_decide_eq_true Z2
           have q90 : (x15_4 : Int) < ((x4_4.length : Int) : Int) := of_decide_eq_true Z2
           obtain ⟨go90, co90, eo90, gb90, gl90, cl90, HG90⟩ := Kd.R_form HO_4.out Z3
           (first | cases eo90 | (injection eo90 with ea_ en_ ec_; (first | subst ea_ | (injection ea_ with ea_; subst ea_)); subst ec_; clear en_))
           have GB90 := Aside0.mk gb90
           have GG90 := Aside0.mk HG90
           clear gb90 gl90 HG90
           obtain ⟨ce90, hcl90, hM90, hcc90, hfr90⟩ := Kd.R_elem HO_4.out z38 (x15_4 : Int) p90 q90
           obtain rfl := k38_openM hM90
           have hx90_0 : wr.cell? ⟨go90, (x15_4 : Int).toNat * 7, none⟩ = some (.string ((rd_T38 x4_4 x15_4).f0)) := hcc90 0 _ rfl
           have hx90_1 : wr.cell? ⟨go90, (x15_4 : Int).toNat * 7 + 1, none⟩ = some (.int .i64 ((rd_T38 x4_4 x15_4).f1.f0)) := hcc90 1 _ rfl
           have hx90_2 : wr.cell? ⟨go90, (x15_4 : Int).toNat * 7 + 2, none⟩ = some (.int .i64 ((rd_T38 x4_4 x15_4).f1.f1)) := hcc90 2 _ rfl
           have hx90_3 : wr.cell? ⟨go90, (x15_4 : Int).toNat * 7 + 3, none⟩ = some (.int .i64 ((rd_T38 x4_4 x15_4).f1.f2)) := hcc90 3 _ rfl
           have hx90_4 : wr.cell? ⟨go90, (x15_4 : Int).toNat * 7 + 4, none⟩ = some (.int .i64 ((rd_T38 x4_4 x15_4).f1.f3)) := hcc90 4 _ rfl
           have hx90_5 : wr.cell? ⟨go90, (x15_4 : Int).toNat * 7 + 5, none⟩ = some (.int .i64 ((rd_T38 x4_4 x15_4).f1.f4)) := hcc90 5 _ rfl
           have hx90_6 : wr.cell? ⟨go90, (x15_4 : Int).toNat * 7 + 6, none⟩ = some (.string ((rd_T38 x4_4 x15_4).f2)) := hcc90 6 _ rfl
           have hf90_0 : wr.frozen? ⟨go90, (x15_4 : Int).toNat * 7, none⟩ = false := hfr90 0
           have hf90_1 : wr.frozen? ⟨go90, (x15_4 : Int).toNat * 7 + 1, none⟩ = false := hfr90 1
           have hf90_2 : wr.frozen? ⟨go90, (x15_4 : Int).toNat * 7 + 2, none⟩ = false := hfr90 2
           have hf90_3 : wr.frozen? ⟨go90, (x15_4 : Int).toNat * 7 + 3, none⟩ = false := hfr90 3
           have hf90_4 : wr.frozen? ⟨go90, (x15_4 : Int).toNat * 7 + 4, none⟩ = false := hfr90 4
           have hf90_5 : wr.frozen? ⟨go90, (x15_4 : Int).toNat * 7 + 5, none⟩ = false := hfr90 5
           have hf90_6 : wr.frozen? ⟨go90, (x15_4 : Int).toNat * 7 + 6, none⟩ = false := hfr90 6
           clear hcl90 hcc90 hfr90 hM90
           replace p90 := eq_true p90
           replace q90 := eq_true q90
           have HX92 := Aside0.mk (show Kd.R k38 38 wr w.heap.size (fun _ => True) (.slice (some ⟨go90, 0, none⟩) x4_4.length co51) x4_4 from Z10)
           obtain ⟨ce92, hcl92, hM92, hcc92, hfr92⟩ := Kd.R_elem HX92.out z38 (x15_4 : Int) (of_decide_eq_true Z2) Z35
           obtain rfl := k38_openM hM92
           have HP92 := Kd.R_seg HX92.out (x15_4 : Int) (of_decide_eq_true Z2) Z35 (seg := [.int .i64 ((rd_T36 x9_3 x15_4).f0), .int .i64 ((rd_T36 x9_3 x15_4).f1), .int .i64 ((rd_T36 x9_3 x15_4).f2), .int .i64 ((rd_T36 x9_3 x15_4).f3), .int .i64 ((rd_T36 x9_3 x15_4).f4)]) (j := 1) hcl92 hcc92 (show 6 ≤ 7 from by decide) (x' := (⟨(rd_T38 x4_4 x15_4).f0, (⟨(rd_T36 x9_3 x15_4).f0, (rd_T36 x9_3 x15_4).f1, (rd_T36 x9_3 x15_4).f2, (rd_T36 x9_3 x15_4).f3, (rd_T36 x9_3 x15_4).f4⟩ : S36), (rd_T38 x4_4 x15_4).f2⟩ : S38)) (k38_mkM _ _ _ (⟨(rd_T38 x4_4 x15_4).f0, (⟨(rd_T36 x9_3 x15_4).f0, (rd_T36 x9_3 x15_4).f1, (rd_T36 x9_3 x15_4).f2, (rd_T36 x9_3 x15_4).f3, (rd_T36 x9_3 x15_4).f4⟩ : S36), (rd_T38 x4_4 x15_4).f2⟩ : S38) ) (fun _ hk => hk)
           have hx92_1 := hcc92 1 _ rfl
           (try simp only [show (k38).sz = 7 from rfl, Nat.mul_one, Nat.add_zero] at hx92_1)
           have hf92_1 := hfr92 1
           (try simp only [show (k38).sz = 7 from rfl, Nat.mul_one, Nat.add_zero] at hf92_1)
           have hx92_2 := hcc92 2 _ rfl
           (try simp only [show (k38).sz = 7 from rfl, Nat.mul_one, Nat.add_zero] at hx92_2)
           have hf92_2 := hfr92 2
           (try simp only [show (k38).sz = 7 from rfl, Nat.mul_one, Nat.add_zero] at hf92_2)
           have hx92_3 := hcc92 3 _ rfl
           (try simp only [show (k38).sz = 7 from rfl, Nat.mul_one, Nat.add_zero] at hx92_3)
           have hf92_3 := hfr92 3
           (try simp only [show (k38).sz = 7 from rfl, Nat.mul_one, Nat.add_zero] at hf92_3)
           have hx92_4 := hcc92 4 _ rfl
           (try simp only [show (k38).sz = 7 from rfl, Nat.mul_one, Nat.add_zero] at hx92_4)
           have hf92_4 := hfr92 4
           (try simp only [show (k38).sz = 7 from rfl, Nat.mul_one, Nat.add_zero] at hf92_4)
           have hx92_5 := hcc92 5 _ rfl
           (try simp only [show (k38).sz = 7 from rfl, Nat.mul_one, Nat.add_zero] at hx92_5)
           have hf92_5 := hfr92 5
           (try simp only [show (k38).sz = 7 from rfl, Nat.mul_one, Nat.add_zero] at hf92_5)
           clear hcl92 hcc92 hfr92 hM92
           go_wp2_with (first | ((with_reducible refine gate_store (t := 36) (p := 221) rfl ?_); refine store_event (t := 36) (p := 221) (v := ?vo_w93) (w1 := (((((wr.setCell ⟨go90, (x15_4 : Int).toNat * 7 + 1, none⟩ (.int .i64 ((rd_T36 x9_3 x15_4).f0))).setCell ⟨go90, (x15_4 : Int).toNat * 7 + 2, none⟩ (.int .i64 ((rd_T36 x9_3 x15_4).f1))).setCell ⟨go90, (x15_4 : Int).toNat * 7 + 3, none⟩ (.int .i64 ((rd_T36 x9_3 x15_4).f2))).setCell ⟨go90, (x15_4 : Int).toNat * 7 + 4, none⟩ (.int .i64 ((rd_T36 x9_3 x15_4).f3))).setCell ⟨go90, (x15_4 : Int).toNat * 7 + 5, none⟩ (.int .i64 ((rd_T36 x9_3 x15_4).f4)))) ?hg ?ho ?hn ?hr ?_; (case ho => rfl); (case hg => rfl); (case hn => rfl); (case hr => first | (go_simp; done) | (go_simp; rfl)); intro w93 hw; have hg : wr.grownBy w93 (some go90) := (by rw [hw]; exact HP92.2); have hp_ : Kd.R k38 38 w93 w.heap.size (fun _ => True) (.slice (some ⟨go90, 0, none⟩) x4_4.length co51) y169 := (by rw [hw, Ny169.out]; exact HP92.1); clear HP92; have n0_ := Aside0.mk (hp_); have n1_ := Aside0.mk (Kd.R_over' (v := (.slice (some ⟨go90, 0, none⟩) x4_4.length co51)) Z21 (Kd.R_typed HO_4.out) Z11 hg); have n2_ := Aside0.mk ((by rw [hw]; exact below_set (below_set (below_set (below_set (below_set (HB.out) GB90.out) GB90.out) GB90.out) GB90.out) GB90.out : Below w.heap.size w w93)); clear HO_4; clear HO_9; clear HB; have HO_4 := n0_; have HO_9 := n1_; have HB := n2_; clear n0_ n1_ n2_; clear hg hw hp_))
           (try simp only [← hl4_4])
           go_roundg k4
           case measure => have := HK1.out; have := HJ40.out; have := HK3.out; have := HK4.out; omega
           case rel => exact ⟨(y169), (wrap64 (x15_4 + 1)), Z4, H', ⟨by have := HK1.out; have := HJ40.out; have := HK3.out; have := HK4.out; omega⟩, ⟨by (try simp only [hl4_4]); (with_reducible repeat (first | apply Kd.R_alloc | apply Kd.R_drewN | apply Kd.R_drew)); exact HO_4.out⟩, ⟨by (try simp only [hl4_4]); (with_reducible repeat (first | apply Kd.R_alloc | apply Kd.R_drewN | apply Kd.R_drew)); exact HO_9.out⟩, ⟨Z1⟩⟩
          ·
           rw [if_neg c89] at H
           exact absurd H Z23
         ·
          rw [if_neg c88] at H
          exact absurd H Z23
        ·
         rw [if_neg c87] at H
         have c87b0 : decide (x15_4 < (x4_4.length : Int)) = false := decide_eq_false c87
         clear c87
         simp only [Option.some.injEq, Prod.mk.injEq] at H
         obtain ⟨rfl, rfl⟩ := H
         go_wp2
         go_ret2
         exact ⟨_, Z12, Z10, Z1⟩
  ·
   rw [if_neg c50] at H
   exact absurd H Z23
 ·
  rw [if_neg c49] at H
  exact absurd H Z23
end Go.Proofs.YtkhblpmjmkhiiaaGreatDoor.PAll
