/- Printed by the kit's print.py, made shorter and regrouped by wip/tools/regroup.py. -/
import Derived.Test.YtkhblpmjmkhiiaaDoorQK1

namespace Go.Proofs.YtkhblpmjmkhiiaaDoor.PAll
open Go.RowKit Go.Proofs.YtkhblpmjmkhiiaaDoorW.PrintWords Go.Proofs.YtkhblpmjmkhiiaaDoorW.PrintLast Go.Proofs.YtkhblpmjmkhiiaaDoorW.PrintMore
attribute [local go_sem] max2_int min2_int max_two min_two max_three min_three max_four min_four
set_option linter.unusedVariables false
set_option linter.unusedSimpArgs false
end Go.Proofs.YtkhblpmjmkhiiaaDoor.PAll
namespace Go.Proofs.YtkhblpmjmkhiiaaDoor.PAll
open Go.RowKit Go.Proofs.YtkhblpmjmkhiiaaDoorW.PrintWords Go.Proofs.YtkhblpmjmkhiiaaDoorW.PrintLast Go.Proofs.YtkhblpmjmkhiiaaDoorW.PrintMore
attribute [local go_sem] max2_int min2_int max_two min_two max_three min_three max_four min_four
set_option linter.unusedVariables false
set_option linter.unusedSimpArgs false
def grapnelref18_Normal.T12 : Bool × List (List Nat × List Nat) := (true, [([], []), ([0], [0]), ([1], [1]), ([2], [2]), ([2], [2]), ([3, 4, 2], [2, 3, 4]), ([5, 2], [2, 5]), ([6, 2], [2, 6]), ([2], [2]), ([2], [2]), ([8, 9, 2], [2, 8, 9]), ([10, 2], [2, 10]), ([11, 2], [2, 11]), ([7, 12, 2, 2], [2, 7, 12]), ([2, 13], [2, 13])])
def grapnelref18_Normal.B12 : List Nat := [0, 1, 3, 7, 7, 31, 63, 127, 7, 7, 775, 1799, 3847, 8191, 16383]
theorem grapnelref18_Normal.tab12 : rtab .any (opsOf Tryd.f7 12) = grapnelref18_Normal.T12 := by kernel_rfl
theorem grapnelref18_Normal.bits12 : waitsOk grapnelref18_Normal.T12.2 grapnelref18_Normal.B12 = true := by kernel_rfl
def grapnelref18_Normal.T34 : Bool × List (List Nat × List Nat) := (true, [([], []), ([], []), ([0, 1], [0, 1]), ([2], [2]), ([3], [3]), ([4], [4]), ([], []), ([], []), ([6, 7], [6, 7]), ([8], [8]), ([9], [9]), ([10], [10]), ([5, 11], [5, 11])])
def grapnelref18_Normal.B34 : List Nat := [0, 0, 3, 7, 15, 31, 0, 0, 192, 448, 960, 1984, 4095]
theorem grapnelref18_Normal.tab34 : rtab .any (opsOf Tryd.f7 34) = grapnelref18_Normal.T34 := by kernel_rfl
theorem grapnelref18_Normal.bits34 : waitsOk grapnelref18_Normal.T34.2 grapnelref18_Normal.B34 = true := by kernel_rfl
def grapnelref18_Normal.T35 : Bool × List (List Nat × List Nat) := (true, [([], []), ([], []), ([0, 1], [0, 1]), ([2], [2]), ([3], [3]), ([3], [3]), ([4, 5, 3], [3, 4, 5]), ([6, 3], [3, 6]), ([7, 3], [3, 7]), ([8, 3], [3, 8]), ([9, 3], [3, 9]), ([10, 3, 3], [3, 10]), ([11], [11]), ([11], [11]), ([12, 13, 11], [11, 12, 13]), ([14, 11], [11, 14]), ([15, 11], [11, 15]), ([16, 11], [11, 16]), ([17, 11], [11, 17]), ([11, 18, 3], [3, 11, 18]), ([19, 11, 3], [3, 19]), ([20], [20]), ([20], [20]), ([21, 22, 20], [20, 21, 22]), ([23, 20], [20, 23]), ([24, 20], [20, 24]), ([20], [20]), ([20], [20]), ([26, 27, 20], [20, 26, 27]), ([28, 20], [20, 28]), ([29, 20], [20, 29]), ([25, 30, 20], [20, 25, 30]), ([20, 31, 3], [3, 20, 31]), ([3, 32], [3, 32])])
def grapnelref18_Normal.B35 : List Nat := [0, 0, 3, 7, 15, 15, 63, 127, 255, 511, 1023, 2047, 4095, 4095, 16383, 32767, 65535, 131071, 262143, 524287, 1048575, 2097151, 2097151, 8388607, 16777215, 33554431, 2097151, 2097151, 203423743, 471859199, 1008730111, 2147483647, 4294967295, 8589934591]
theorem grapnelref18_Normal.tab35 : rtab .any (opsOf Tryd.f7 35) = grapnelref18_Normal.T35 := by kernel_rfl
theorem grapnelref18_Normal.bits35 : waitsOk grapnelref18_Normal.T35.2 grapnelref18_Normal.B35 = true := by kernel_rfl
def grapnelref18_Normal.T40 : Bool × List (List Nat × List Nat) := (true, [([], []), ([], []), ([], []), ([2], [2]), ([], []), ([], []), ([4, 5], [4, 5]), ([6], [6]), ([7], [7]), ([8], [8]), ([], []), ([], []), ([], []), ([11, 12], [11, 12]), ([13], [13]), ([14], [14]), ([15], [15]), ([3, 9, 10, 16], [3, 9, 10, 16]), ([0, 1, 0, 1, 2, 3, 4, 5, 6, 7, 8, 9, 10, 11, 12, 13, 14, 15, 16, 17], [0, 1]), ([18, 17, 0, 1, 2, 3, 4, 5, 6, 7, 8, 9, 10, 11, 12, 13, 14, 15, 16, 17], [17, 18])])
def grapnelref18_Normal.B40 : List Nat := [0, 0, 0, 4, 0, 0, 48, 112, 240, 496, 0, 0, 0, 6144, 14336, 30720, 63488, 131068, 262143, 524287]
theorem grapnelref18_Normal.tab40 : rtab .any (opsOf Tryd.f7 40) = grapnelref18_Normal.T40 := by kernel_rfl
theorem grapnelref18_Normal.bits40 : waitsOk grapnelref18_Normal.T40.2 grapnelref18_Normal.B40 = true := by kernel_rfl
def sndC : Code → Code
  | .seq _ b => b
  | c => c
def bodyC (f : Func) : Code := f.body.getD .skip
set_option maxHeartbeats 8000000 in
set_option maxRecDepth 100000 in
theorem grapnelref18_Normal.half (k k1 kj40 : Nat) (u0 u1 u2 u3 u4 u5 u6 u7 u8 u9 u10 u11 u12 u13 u14 u15 u16 u17 u18 u19 u20 u21 u22 u23 u24 u25 u26 u27 u28 u29 u30 u31 u32 u33 u34 u35 u36 u37 u38 u39 u40 u41 u42 u43 u44 u45 u46 u47 u48 u49 u50 u51 u52 u53 u54 u55 u56 u57 u58 u59 u60 u61 u62 u63 u64 u65 u66 u67 u68 u69 u70 u71 u72 u73 u74 u75 u76 u77 u78 u79 u80 u81 u82 u83 u84 u85 u86 u87 u88 u89 u90 u91 u92 u93 u94 u95 u96 u97 u98 u99 u100 u101 u102 u103 u104 u105 u106 u107 u108 u109 u110 u111 u112 u113 u114 u115 u116 u117 u118 u119 u120 u121 u122 u123 u124 u125 u126 u127 u128 u129 u130 u131 u132 u133 u134 u135 u136 u137 u138 u139 u140 u141 u142 u143 u144 u145 u146 u147 u148 u149 u150 u151 u152 u153 u154 u155 u156 u157 u158 u159 u160 u161 u162 u163 u164 u165 u166 u167 u168 u169 u170 u171 u172 u173 u174 u175 u176 u177 u178 u179 u180 u181 u182 u183 u184 u185 u186 u187 u188 u189 u190 u191 u192 u193 u194 u195 u196 u197 u198 u199 u200 u201 u202 u203 u204 u205 u206 u207 u208 u209 u210 u211 u212 u213 u214 u215 u216 u217 u218 u219 u220 u221 u222 : Value) (x4_1 : List S34) (r1 : List S34) (r2 : Int) (w wc : World)
    (HK1 : Aside0 (k1 + 1 ≤ k)) (HJ40 : Aside0 (kj40 + 1 ≤ k1)) (HO_4 : Aside0 (Kd.R k34 34 wc w.heap.size (fun _ => True) u4 x4_1)) (HB : Aside0 (Below w.heap.size w wc))
    (H0 : Aside0 ((if 0 ≤ (x4_1.length : Int) then (if ((x4_1.length : Int) : Int).toNat ≤ 7036874417766 then (grapnelref18_Normal.l2 kj40 x4_1 (List.replicate ((x4_1.length : Int) : Int).toNat z32) 0) else (none)) else (none)) = some (r1, r2))) :
    Code.wp Tryd.prog (sndC (sndC (sndC (sndC (bodyC Tryd.f7))))) (bodyPost Tryd.prog Tryd.f7 fun e w' => ∃ v0_ : Value, e = .returned (.tuple #[v0_, .int .i64 r2]) ∧ Kd.R k34 34 w' w.heap.size (fun _ => True) v0_ r1 ∧ Below w.heap.size w w') { tmps := #[u0, u1, u2, u3, u4, u5, u6, u7, u8, u9, u10, u11, u12, u13, u14, u15, u16, u17, u18, u19, u20, u21, u22, u23, u24, u25, u26, u27, u28, u29, u30, u31, u32, u33, u34, u35, u36, u37, u38, u39, u40, u41, u42, u43, u44, u45, u46, u47, u48, u49, u50, u51, u52, u53, u54, u55, u56, u57, u58, u59, u60, u61, u62, u63, u64, u65, u66, u67, u68, u69, u70, u71, u72, u73, u74, u75, u76, u77, u78, u79, u80, u81, u82, u83, u84, u85, u86, u87, u88, u89, u90, u91, u92, u93, u94, u95, u96, u97, u98, u99, u100, u101, u102, u103, u104, u105, u106, u107, u108, u109, u110, u111, u112, u113, u114, u115, u116, u117, u118, u119, u120, u121, u122, u123, u124, u125, u126, u127, u128, u129, u130, u131, u132, u133, u134, u135, u136, u137, u138, u139, u140, u141, u142, u143, u144, u145, u146, u147, u148, u149, u150, u151, u152, u153, u154, u155, u156, u157, u158, u159, u160, u161, u162, u163, u164, u165, u166, u167, u168, u169, u170, u171, u172, u173, u174, u175, u176, u177, u178, u179, u180, u181, u182, u183, u184, u185, u186, u187, u188, u189, u190, u191, u192, u193, u194, u195, u196, u197, u198, u199, u200, u201, u202, u203, u204, u205, u206, u207, u208, u209, u210, u211, u212, u213, u214, u215, u216, u217, u218, u219, u220, u221, u222], defers := [] } wc := by
 have hu34 := Tryd.underlying34
 have hu32 := Tryd.underlying32
 have H := H0.out
 clear H0
 conv in (sndC _) => whnf
 by_cases c49 : 0 ≤ (x4_1.length : Int)
 ·
  rw [if_pos c49] at H
  have c49b0 := eq_true c49
  have c49b1 : decide (0 ≤ (x4_1.length : Int)) = true := decide_eq_true c49
  clear c49
  by_cases c50 : ((x4_1.length : Int) : Int).toNat ≤ 7036874417766
  ·
   rw [if_pos c50] at H
   have c50b0 := eq_true c50
   have c50b1 : decide (((x4_1.length : Int) : Int).toNat ≤ 7036874417766) = true := decide_eq_true c50
   clear c50
   obtain ⟨y167, hy167⟩ : ∃ y_ : List (S32), y_ = (List.replicate ((x4_1.length : Int) : Int).toNat z32) := ⟨_, rfl⟩
   replace H : (grapnelref18_Normal.l2 kj40 x4_1 y167 0) = some (r1, r2) := by first | (rw [hy167]; with_reducible exact H) | (have H2_ := (Option.bind_some _ _).symm.trans H; rw [hy167]; with_reducible exact H2_) | (have H2_ := (Option.bind_some _ _).symm.trans H; with_reducible exact H2_) | with_reducible exact H | (rw [hy167]; exact H) | exact H
   have Ny167 := Aside0.mk hy167
   clear hy167
   have H' := Aside0.mk H
   clear H
   obtain ⟨Ao51, co51, eo51⟩ := Kd.R_slice HO_4.out
   subst eo51
   go_wp2_with (first | ((with_reducible refine gate_dst (N := 103) rfl ?_); refine Kd.R_make k32 _ 32 rfl (N := 103) rfl 42 _ _ rfl (x4_1.length : Int) rfl rfl Tryd.underlying42 (.agg #[(.int .i64 0), (.int .i64 0), (.int .i64 0), (.int .i64 0), (.int .i64 0)]) 40 info32 rfl (by decide) (by omega) z32 (ok := fun _ => True) (okp := fun _ => True) (k32_mkM _ _ _ z32 ) (fun _ hk => hk) trivial (of_decide_eq_true (by first | (with_reducible assumption) | assumption)) (Nat.le_trans (Nat.mul_le_mul_right _ (of_decide_eq_true (by first | (with_reducible assumption) | assumption) : (x4_1.length : Int).toNat ≤ 7036874417766)) (by omega)) (Below.refl _ _) (Nat.le_refl _) ?_; intro v168 w52 ho53 hb hg_ hnew_; clear hg_ hnew_; (first | rw [← Ny167.out] at ho53 | (simp only [Int.reduceToNat] at ho53; rw [← Ny167.out] at ho53)); have n0_ := Aside0.mk (Kd.R_below (by (with_reducible repeat (first | apply Kd.R_alloc | apply Kd.R_drewN | apply Kd.R_drew)); exact HO_4.out) hb); have n1_ := Aside0.mk (Kd.R_lower ho53 (below_size (by repeat (first | (with_reducible first | exact HB.out | apply below_alloc | apply pw_below_drewN | apply below_drew1) | exact HB.out)))); have n2_ := Aside0.mk (below_step (by repeat (first | (with_reducible first | exact HB.out | apply below_alloc | apply pw_below_drewN | apply below_drew1) | exact HB.out)) hb); clear HO_4; clear HB; have HO_4 := n0_; have HO169 := n1_; have HB := n2_; clear n0_ n1_ n2_; clear hb ho53))
   go_loopg [10] kj40 (fun kq v10 w' => ∃ (x9_3 : List (S32)) (x10_3 : Int), v10 = .int .i64 x10_3 ∧ Aside0 (grapnelref18_Normal.l2 kq x4_1 x9_3 x10_3 = some (r1, r2)) ∧ Aside0 (kq ≤ kj40) ∧ Aside0 (Kd.R k34 34 w' w.heap.size (fun _ => True) (.slice Ao51 x4_1.length co51) x4_1) ∧ Aside0 (Kd.R k32 32 w' w.heap.size (fun _ => True) v168 x9_3) ∧ Aside0 (Below w.heap.size w w'))
   case atStart => exact ⟨(y167), (0), (by first | rfl | (simp; done) | (simp [*]; done)), H', ⟨Nat.le_refl _⟩, ⟨by (with_reducible repeat (first | apply Kd.R_alloc | apply Kd.R_drewN | apply Kd.R_drew)); exact HO_4.out⟩, ⟨by (with_reducible repeat (first | apply Kd.R_alloc | apply Kd.R_drewN | apply Kd.R_drew)); exact HO169.out⟩, ⟨by repeat (first | (with_reducible first | exact HB.out | apply below_alloc | apply pw_below_drewN | apply below_drew1) | exact HB.out)⟩⟩
   case round =>
    clear H'
    try clear c1; try clear p1; try clear q1; try clear hx1; try clear qi1; try clear c2; try clear c2b0; try clear p2; try clear c3; try clear c4; try clear c5; try clear p6; try clear c12; try clear c12b0; try clear p14; try clear q14; try clear hx14; try clear p15; try clear q15; try clear hx15; try clear p16; try clear q16; try clear hx16; try clear qi16; try clear c17; try clear c19; try clear c20; try clear c21; try clear c23; try clear c24; try clear c25; try clear c30; try clear c34; try clear c36; try clear c36b0; try clear c37; try clear c37b0; try clear c38; try clear c42; try clear c42b0; try clear c42b1; try clear c42b2; try clear c44; try clear c44b0; try clear c44b1; try clear c45; try clear c45b0; try clear c45b1; try clear c48; try clear c49; try clear c49b0; try clear c49b1; try clear c50; try clear c50b0; try clear c50b1; try clear hx146_0; try clear hx146_1; try clear hx146_2; try clear hx146_3; try clear hx146_4; try clear hx146_5; try clear hx146_6; try clear hx147_0; try clear hx147_1; try clear hx147_2; try clear hx147_3; try clear hx147_4; try clear hx147_5; try clear hx147_6; try clear hx149_0; try clear hx149_1; try clear hx149_2; try clear hx149_3; try clear hx149_4; try clear hx149_5; try clear hx149_6; try clear hx153_0; try clear hx153_1; try clear hx153_2; try clear hx153_3; try clear hx153_4; try clear hx153_5; try clear hx153_6; try clear hx157_0; try clear hx157_1; try clear hx157_2; try clear hx157_3; try clear hx157_4; try clear hx157_5; try clear hx157_6; try clear hx161_0; try clear hx161_1; try clear hx161_2; try clear hx161_3; try clear hx161_4; try clear hx161_5; try clear hx161_6; try clear hx165_0; try clear hx165_1; try clear hx165_2; try clear hx165_3; try clear hx165_4; try clear hx165_5; try clear hx165_6; try clear hx166_0; try clear hx166_1; try clear hx166_2; try clear hx166_3; try clear hx166_4; try clear hx166_5; try clear hx166_6; try clear p1; try clear p14; try clear p146; try clear p147; try clear p149; try clear p15; try clear p153; try clear p157; try clear p16; try clear p161; try clear p165; try clear p166; try clear p2; try clear p6; try clear q1; try clear q14; try clear q146; try clear q147; try clear q149; try clear q15; try clear q153; try clear q157; try clear q16; try clear q161; try clear q165; try clear q166
    obtain ⟨x9_3, x10_3, rfl, HA, HK3, HO_4, HO_9, HB⟩ := hrel
    cases gk with
    | zero => exact absurd HA.out (by simp [grapnelref18_Normal.l2])
    | succ k3 =>
     have H := HA.out
     clear HA
     simp only [grapnelref18_Normal.l2] at H
     by_cases c54 : x10_3 < (x4_1.length : Int)
     ·
      rw [if_pos c54] at H
      have c54b0 : decide (x10_3 < (x4_1.length : Int)) = true := decide_eq_true c54
      clear c54
      have HC55 := Aside0.mk H
      clear H
      go_upto_if 111 with (fail)
      go_cut [] (fun wc => ∃ (kq : Nat), Aside0 (grapnelref18_Normal.j5 kq x4_1 x9_3 x10_3 = some (r1, r2)) ∧ Aside0 (kq ≤ k3) ∧ Aside0 (Kd.R k34 34 wc w.heap.size (fun _ => True) (.slice Ao51 x4_1.length co51) x4_1) ∧ Aside0 (Kd.R k32 32 wc w.heap.size (fun _ => True) v168 x9_3) ∧ Aside0 (Below w.heap.size w wc))
      case first =>
       have H := HC55.out
       clear HC55
       by_cases c56 : x10_3 > 0
       ·
        rw [if_pos c56] at H
        have c56b0 : decide (0 < x10_3) = true := decide_eq_true c56
        clear c56
        (first | rw [c56b0] | (simp only [i64_w, i32_w]; rw [c56b0]) | skip)
        by_cases c57 : 0 ≤ x10_3
        ·
         rw [if_pos c57] at H
         have c57b0 : decide (0 ≤ x10_3) = true := decide_eq_true c57
         clear c57
         replace H := Option.bind_eq_some_iff.mp H
         obtain ⟨t171, A580, H⟩ := H
         replace H : ((grapnelref18_Find.f k3 x4_1 t171).bind fun t172 => (if t172 < 0 then (some (([] : List (S34)), 5)) else (if 0 ≤ t172 then (if t172 < (x4_1.length : Int) then (if ((rd_T34 x4_1 t172).f1.f2) = 2 then (grapnelref18_Normal.j5 k3 x4_1 x9_3 x10_3) else (some (([] : List (S34)), 5))) else (none)) else (none)))) = some (r1, r2) := H
         have A58 := Aside0.mk A580
         clear A580
         replace H := Option.bind_eq_some_iff.mp H
         obtain ⟨t172, A590, H⟩ := H
         replace H : (if t172 < 0 then (some (([] : List (S34)), 5)) else (if 0 ≤ t172 then (if t172 < (x4_1.length : Int) then (if ((rd_T34 x4_1 t172).f1.f2) = 2 then (grapnelref18_Normal.j5 k3 x4_1 x9_3 x10_3) else (some (([] : List (S34)), 5))) else (none)) else (none))) = some (r1, r2) := H
         have A59 := Aside0.mk A590
         clear A590
         by_cases c60 : t172 < 0
         ·
          rw [if_pos c60] at H
          have c60b0 : decide (t172 < 0) = true := decide_eq_true c60
          clear c60
          simp only [Option.some.injEq, Prod.mk.injEq] at H
          obtain ⟨rfl, rfl⟩ := H
          have p170 : 0 ≤ (x10_3 : Int) := of_decide_eq_true (by first | (with_reducible assumption) | assumption)
          have q170 : x10_3 < (x4_1.length : Int) := of_decide_eq_true (by first | (with_reducible assumption) | assumption)
          obtain ⟨ad170, e170, hx170_0, hx170_1, hx170_2, hx170_3, hx170_4, hx170_5, hx170_6⟩ := at_T34 (Kd.R_reads' HO_4.out).2.2 x10_3 p170 q170
          cases e170
          replace p170 := eq_true p170
          replace q170 := eq_true q170
          go_wp2_with (first | ((with_reducible refine gate_callee (f := 18) rfl ?_); refine goesL_ (some 118) rfl rfl Tryd.func18 (by kernel_rfl) rfl #[.string ((rd_T34 x4_1 x10_3).f0)] rfl (by (try simp only [List.map_toArray, List.map_cons, List.map_nil]); first | done | rfl | (simp only [List.length_drop, List.length_take]; rfl)) ?_; (with_reducible refine (grapnelref18_Above.calls k3 ((rd_T34 x4_1 x10_3).f0) t171 _ A58.out).mono ?_); rintro e w' ⟨rfl, ⟨nd, rfl⟩⟩; refine ⟨_, rfl, ?_⟩) | ((with_reducible refine gate_callee (f := 16) rfl ?_); refine goesL_ (some 119) rfl rfl Tryd.func16 (by kernel_rfl) rfl #[.slice (some ad170) x4_1.length co51, .string t171] rfl (by (try simp only [List.map_toArray, List.map_cons, List.map_nil]); first | done | rfl | (simp only [List.length_drop, List.length_take]; rfl)) ?_; (with_reducible refine (grapnelref18_Find.calls k3 _ _ x4_1 t171 t172 _ ?side1 ?side2 A59.out).mono ?_); (case side1 => repeat (first | exact (Kd.R_reads' HO_4.out).2.2 | (with_reducible refine Kd.C_alloc ?_ _) | (with_reducible refine Kd.C_drewN ?_ _) | (with_reducible refine Kd.C_drew ?_))); (case side2 => exact (Kd.R_reads' HO_4.out).2.1); rintro e w' ⟨rfl, ⟨nd, rfl⟩⟩; refine ⟨_, rfl, ?_⟩))
          go_ret2
          exact ⟨_, by first | rfl | (simp [errW_none, errW_some] <;> rfl) | (simp [*, errW_none, errW_some] <;> rfl), by first | exact Kd.R_nil _ _ _ _ _ | exact Kd.N_nil _ _ _ _ _ | exact Kd.V_nil _ _ _ _ _ | exact Kd.Q_nil _ _ _ _ _ | exact Kd.S_nil _ _ _ _ _, by repeat (first | (with_reducible first | exact HB.out | apply below_alloc | apply pw_below_drewN | apply below_drew1) | exact HB.out)⟩
         ·
          rw [if_neg c60] at H
          have c60b0 : decide (t172 < 0) = false := decide_eq_false c60
          clear c60
          by_cases c61 : 0 ≤ t172
          ·
           rw [if_pos c61] at H
           have c61b0 : decide (0 ≤ t172) = true := decide_eq_true c61
           clear c61
           by_cases c62 : t172 < (x4_1.length : Int)
           ·
            rw [if_pos c62] at H
            have c62b0 : decide (t172 < (x4_1.length : Int)) = true := decide_eq_true c62
            clear c62
            by_cases c63 : ((rd_T34 x4_1 t172).f1.f2) = 2
            ·
             rw [if_pos c63] at H
             have c63b0 : (((rd_T34 x4_1 t172).f1.f2) == 2) = true := beq_iff_eq.mpr c63
             have c63b1 : (((rd_T34 x4_1 t172).f1.f2) != 2) = false := bne_eq_false_iff_eq.mpr c63
             clear c63
             have H' := Aside0.mk H
             clear H
             have p170 : 0 ≤ (x10_3 : Int) := of_decide_eq_true (by first | (with_reducible assumption) | assumption)
             have q170 : x10_3 < (x4_1.length : Int) := of_decide_eq_true (by first | (with_reducible assumption) | assumption)
             obtain ⟨ad170, e170, hx170_0, hx170_1, hx170_2, hx170_3, hx170_4, hx170_5, hx170_6⟩ := at_T34 (Kd.R_reads' HO_4.out).2.2 x10_3 p170 q170
             cases e170
             replace p170 := eq_true p170
             replace q170 := eq_true q170
             go_wp2_with (first | ((with_reducible refine gate_callee (f := 18) rfl ?_); refine goesL_ (some 118) rfl rfl Tryd.func18 (by kernel_rfl) rfl #[.string ((rd_T34 x4_1 x10_3).f0)] rfl (by (try simp only [List.map_toArray, List.map_cons, List.map_nil]); first | done | rfl | (simp only [List.length_drop, List.length_take]; rfl)) ?_; (with_reducible refine (grapnelref18_Above.calls k3 ((rd_T34 x4_1 x10_3).f0) t171 _ A58.out).mono ?_); rintro e w' ⟨rfl, ⟨nd, rfl⟩⟩; refine ⟨_, rfl, ?_⟩) | ((with_reducible refine gate_callee (f := 16) rfl ?_); refine goesL_ (some 119) rfl rfl Tryd.func16 (by kernel_rfl) rfl #[.slice (some ad170) x4_1.length co51, .string t171] rfl (by (try simp only [List.map_toArray, List.map_cons, List.map_nil]); first | done | rfl | (simp only [List.length_drop, List.length_take]; rfl)) ?_; (with_reducible refine (grapnelref18_Find.calls k3 _ _ x4_1 t171 t172 _ ?side1 ?side2 A59.out).mono ?_); (case side1 => repeat (first | exact (Kd.R_reads' HO_4.out).2.2 | (with_reducible refine Kd.C_alloc ?_ _) | (with_reducible refine Kd.C_drewN ?_ _) | (with_reducible refine Kd.C_drew ?_))); (case side2 => exact (Kd.R_reads' HO_4.out).2.1); rintro e w' ⟨rfl, ⟨nd, rfl⟩⟩; refine ⟨_, rfl, ?_⟩; have p173 : 0 ≤ (t172 : Int) := of_decide_eq_true (by first | (with_reducible assumption) | assumption); have q173 : t172 < (x4_1.length : Int) := of_decide_eq_true (by first | (with_reducible assumption) | assumption); obtain ⟨ad173, e173, hx173_0, hx173_1, hx173_2, hx173_3, hx173_4, hx173_5, hx173_6⟩ := at_T34 (Kd.R_reads' HO_4.out).2.2 t172 p173 q173; obtain rfl : ad170 = ad173 := (by injection e173); replace p173 := eq_true p173; replace q173 := eq_true q173))
             go_meet
             case rel => exact ⟨_, H', ⟨by have := HK1.out; have := HJ40.out; have := HK3.out; first | omega | exact Nat.le_refl _⟩, ⟨by (with_reducible repeat (first | apply Kd.R_alloc | apply Kd.R_drewN | apply Kd.R_drew)); exact HO_4.out⟩, ⟨by (with_reducible repeat (first | apply Kd.R_alloc | apply Kd.R_drewN | apply Kd.R_drew)); exact HO_9.out⟩, ⟨by repeat (first | (with_reducible first | exact HB.out | apply below_alloc | apply pw_below_drewN | apply below_drew1) | exact HB.out)⟩⟩
            ·
             rw [if_neg c63] at H
             have c63b0 : (((rd_T34 x4_1 t172).f1.f2) == 2) = false := beq_eq_false_iff_ne.mpr c63
             have c63b1 : (((rd_T34 x4_1 t172).f1.f2) != 2) = true := bne_iff_ne.mpr c63
             simp only [Option.some.injEq, Prod.mk.injEq] at H
             obtain ⟨rfl, rfl⟩ := H
             have p170 : 0 ≤ (x10_3 : Int) := of_decide_eq_true (by first | (with_reducible assumption) | assumption)
             have q170 : x10_3 < (x4_1.length : Int) := of_decide_eq_true (by first | (with_reducible assumption) | assumption)
             obtain ⟨ad170, e170, hx170_0, hx170_1, hx170_2, hx170_3, hx170_4, hx170_5, hx170_6⟩ := at_T34 (Kd.R_reads' HO_4.out).2.2 x10_3 p170 q170
             cases e170
             replace p170 := eq_true p170
             replace q170 := eq_true q170
             go_wp2_with (first | ((with_reducible refine gate_callee (f := 18) rfl ?_); refine goesL_ (some 118) rfl rfl Tryd.func18 (by kernel_rfl) rfl #[.string ((rd_T34 x4_1 x10_3).f0)] rfl (by (try simp only [List.map_toArray, List.map_cons, List.map_nil]); first | done | rfl | (simp only [List.length_drop, List.length_take]; rfl)) ?_; (with_reducible refine (grapnelref18_Above.calls k3 ((rd_T34 x4_1 x10_3).f0) t171 _ A58.out).mono ?_); rintro e w' ⟨rfl, ⟨nd, rfl⟩⟩; refine ⟨_, rfl, ?_⟩) | ((with_reducible refine gate_callee (f := 16) rfl ?_); refine goesL_ (some 119) rfl rfl Tryd.func16 (by kernel_rfl) rfl #[.slice (some ad170) x4_1.length co51, .string t171] rfl (by (try simp only [List.map_toArray, List.map_cons, List.map_nil]); first | done | rfl | (simp only [List.length_drop, List.length_take]; rfl)) ?_; (with_reducible refine (grapnelref18_Find.calls k3 _ _ x4_1 t171 t172 _ ?side1 ?side2 A59.out).mono ?_); (case side1 => repeat (first | exact (Kd.R_reads' HO_4.out).2.2 | (with_reducible refine Kd.C_alloc ?_ _) | (with_reducible refine Kd.C_drewN ?_ _) | (with_reducible refine Kd.C_drew ?_))); (case side2 => exact (Kd.R_reads' HO_4.out).2.1); rintro e w' ⟨rfl, ⟨nd, rfl⟩⟩; refine ⟨_, rfl, ?_⟩; have p173 : 0 ≤ (t172 : Int) := of_decide_eq_true (by first | (with_reducible assumption) | assumption); have q173 : t172 < (x4_1.length : Int) := of_decide_eq_true (by first | (with_reducible assumption) | assumption); obtain ⟨ad173, e173, hx173_0, hx173_1, hx173_2, hx173_3, hx173_4, hx173_5, hx173_6⟩ := at_T34 (Kd.R_reads' HO_4.out).2.2 t172 p173 q173; obtain rfl : ad170 = ad173 := (by injection e173); replace p173 := eq_true p173; replace q173 := eq_true q173))
             go_ret2
             exact ⟨_, by first | rfl | (simp [errW_none, errW_some] <;> rfl) | (simp [*, errW_none, errW_some] <;> rfl), by first | exact Kd.R_nil _ _ _ _ _ | exact Kd.N_nil _ _ _ _ _ | exact Kd.V_nil _ _ _ _ _ | exact Kd.Q_nil _ _ _ _ _ | exact Kd.S_nil _ _ _ _ _, by repeat (first | (with_reducible first | exact HB.out | apply below_alloc | apply pw_below_drewN | apply below_drew1) | exact HB.out)⟩
           ·
            rw [if_neg c62] at H
            exact absurd H (by simp)
          ·
           rw [if_neg c61] at H
           exact absurd H (by simp)
        ·
         rw [if_neg c57] at H
         exact absurd H (by simp)
       ·
        rw [if_neg c56] at H
        have c56b0 : decide (0 < x10_3) = false := decide_eq_false c56
        clear c56
        (first | rw [c56b0] | (simp only [i64_w, i32_w]; rw [c56b0]) | skip)
        have H' := Aside0.mk H
        clear H
        go_wp2
        go_meet
        case rel => exact ⟨_, H', ⟨by have := HK1.out; have := HJ40.out; have := HK3.out; first | omega | exact Nat.le_refl _⟩, ⟨by (with_reducible repeat (first | apply Kd.R_alloc | apply Kd.R_drewN | apply Kd.R_drew)); exact HO_4.out⟩, ⟨by (with_reducible repeat (first | apply Kd.R_alloc | apply Kd.R_drewN | apply Kd.R_drew)); exact HO_9.out⟩, ⟨by repeat (first | (with_reducible first | exact HB.out | apply below_alloc | apply pw_below_drewN | apply below_drew1) | exact HB.out)⟩⟩
      case rest =>
       clear HC55; try clear c1; try clear p1; try clear q1; try clear hx1; try clear qi1; try clear c2; try clear c2b0; try clear p2; try clear c3; try clear c4; try clear c5; try clear c6; try clear p6; try clear c12; try clear c12b0; try clear p14; try clear q14; try clear hx14; try clear p15; try clear q15; try clear hx15; try clear c16; try clear p16; try clear q16; try clear hx16; try clear qi16; try clear c17; try clear p17; try clear q17; try clear hx17; try clear c18; try clear c19; try clear c20; try clear c21; try clear c23; try clear c24; try clear c25; try clear c30; try clear c34; try clear c36; try clear c36b0; try clear c37; try clear c37b0; try clear c38; try clear c42; try clear c42b0; try clear c42b1; try clear c42b2; try clear c44; try clear c44b0; try clear c44b1; try clear c45; try clear c45b0; try clear c45b1; try clear c48; try clear c49; try clear c49b0; try clear c49b1; try clear c50; try clear c50b0; try clear c50b1; try clear c54; try clear c54b0; try clear c56; try clear c56b0; try clear c57; try clear c57b0; try clear c60; try clear c60b0; try clear c61; try clear c61b0; try clear c62; try clear c62b0; try clear c63; try clear c63b0; try clear c63b1; try clear hx146_0; try clear hx146_1; try clear hx146_2; try clear hx146_3; try clear hx146_4; try clear hx146_5; try clear hx146_6; try clear hx147_0; try clear hx147_1; try clear hx147_2; try clear hx147_3; try clear hx147_4; try clear hx147_5; try clear hx147_6; try clear hx149_0; try clear hx149_1; try clear hx149_2; try clear hx149_3; try clear hx149_4; try clear hx149_5; try clear hx149_6; try clear hx153_0; try clear hx153_1; try clear hx153_2; try clear hx153_3; try clear hx153_4; try clear hx153_5; try clear hx153_6; try clear hx157_0; try clear hx157_1; try clear hx157_2; try clear hx157_3; try clear hx157_4; try clear hx157_5; try clear hx157_6; try clear hx161_0; try clear hx161_1; try clear hx161_2; try clear hx161_3; try clear hx161_4; try clear hx161_5; try clear hx161_6; try clear hx165_0; try clear hx165_1; try clear hx165_2; try clear hx165_3; try clear hx165_4; try clear hx165_5; try clear hx165_6; try clear hx166_0; try clear hx166_1; try clear hx166_2; try clear hx166_3; try clear hx166_4; try clear hx166_5; try clear hx166_6; try clear hx170_0; try clear hx170_1; try clear hx170_2; try clear hx170_3; try clear hx170_4; try clear hx170_5; try clear hx170_6; try clear hx173_0; try clear hx173_1; try clear hx173_2; try clear hx173_3; try clear hx173_4; try clear hx173_5; try clear hx173_6; try clear p1; try clear p14; try clear p146; try clear p147; try clear p149; try clear p15; try clear p153; try clear p157; try clear p16; try clear p161; try clear p165; try clear p166; try clear p170; try clear p173; try clear p2; try clear p6; try clear q1; try clear q14; try clear q146; try clear q147; try clear q149; try clear q15; try clear q153; try clear q157; try clear q16; try clear q161; try clear q165; try clear q166; try clear q170; try clear q173
       obtain ⟨kq, HA, HJ54, HO_4, HO_9, HB⟩ := hcut
       cases kq with
       | zero => exact absurd HA.out (by simp [grapnelref18_Normal.j5])
       | succ kj54 =>
        have H := HA.out
        clear HA
        simp only [grapnelref18_Normal.j5] at H
        have H' := Aside0.mk H
        clear H
        go_wp2
        go_loopg [12, 13, 14] kj54 (fun kq v12 v13 v14 w' => ∃ (x12_5 : Int) (x13_5 : Int) (x14_5 : Int), v12 = .int .i64 x12_5 ∧ v13 = .int .i64 x13_5 ∧ v14 = .int .i64 x14_5 ∧ Aside0 (grapnelref18_Normal.l3 kq x4_1 x9_3 x10_3 x12_5 x13_5 x14_5 = some (r1, r2)) ∧ Aside0 (kq ≤ kj54) ∧ Aside0 (Kd.R k34 34 w' w.heap.size (fun _ => True) (.slice Ao51 x4_1.length co51) x4_1) ∧ Aside0 (Kd.R k32 32 w' w.heap.size (fun _ => True) v168 x9_3) ∧ Aside0 (Below w.heap.size w w'))
        case atStart => exact ⟨((-1)), (0), (0), (by first | rfl | (simp; done) | (simp [*]; done)), (by first | rfl | (simp; done) | (simp [*]; done)), (by first | rfl | (simp; done) | (simp [*]; done)), H', ⟨Nat.le_refl _⟩, ⟨by (with_reducible repeat (first | apply Kd.R_alloc | apply Kd.R_drewN | apply Kd.R_drew)); exact HO_4.out⟩, ⟨by (with_reducible repeat (first | apply Kd.R_alloc | apply Kd.R_drewN | apply Kd.R_drew)); exact HO_9.out⟩, ⟨by repeat (first | (with_reducible first | exact HB.out | apply below_alloc | apply pw_below_drewN | apply below_drew1) | exact HB.out)⟩⟩
        case round =>
         clear H'
         try clear c1; try clear p1; try clear q1; try clear hx1; try clear qi1; try clear c2; try clear c2b0; try clear p2; try clear c3; try clear c4; try clear c5; try clear c6; try clear p6; try clear c12; try clear c12b0; try clear p14; try clear q14; try clear hx14; try clear p15; try clear q15; try clear hx15; try clear c16; try clear p16; try clear q16; try clear hx16; try clear qi16; try clear c17; try clear p17; try clear q17; try clear hx17; try clear c18; try clear c19; try clear c20; try clear c21; try clear c23; try clear c24; try clear c25; try clear c30; try clear c34; try clear c36; try clear c36b0; try clear c37; try clear c37b0; try clear c38; try clear c42; try clear c42b0; try clear c42b1; try clear c42b2; try clear c44; try clear c44b0; try clear c44b1; try clear c45; try clear c45b0; try clear c45b1; try clear c48; try clear c49; try clear c49b0; try clear c49b1; try clear c50; try clear c50b0; try clear c50b1; try clear c54; try clear c54b0; try clear c56; try clear c56b0; try clear c57; try clear c57b0; try clear c60; try clear c60b0; try clear c61; try clear c61b0; try clear c62; try clear c62b0; try clear c63; try clear c63b0; try clear c63b1; try clear hx146_0; try clear hx146_1; try clear hx146_2; try clear hx146_3; try clear hx146_4; try clear hx146_5; try clear hx146_6; try clear hx147_0; try clear hx147_1; try clear hx147_2; try clear hx147_3; try clear hx147_4; try clear hx147_5; try clear hx147_6; try clear hx149_0; try clear hx149_1; try clear hx149_2; try clear hx149_3; try clear hx149_4; try clear hx149_5; try clear hx149_6; try clear hx153_0; try clear hx153_1; try clear hx153_2; try clear hx153_3; try clear hx153_4; try clear hx153_5; try clear hx153_6; try clear hx157_0; try clear hx157_1; try clear hx157_2; try clear hx157_3; try clear hx157_4; try clear hx157_5; try clear hx157_6; try clear hx161_0; try clear hx161_1; try clear hx161_2; try clear hx161_3; try clear hx161_4; try clear hx161_5; try clear hx161_6; try clear hx165_0; try clear hx165_1; try clear hx165_2; try clear hx165_3; try clear hx165_4; try clear hx165_5; try clear hx165_6; try clear hx166_0; try clear hx166_1; try clear hx166_2; try clear hx166_3; try clear hx166_4; try clear hx166_5; try clear hx166_6; try clear hx170_0; try clear hx170_1; try clear hx170_2; try clear hx170_3; try clear hx170_4; try clear hx170_5; try clear hx170_6; try clear hx173_0; try clear hx173_1; try clear hx173_2; try clear hx173_3; try clear hx173_4; try clear hx173_5; try clear hx173_6; try clear p1; try clear p14; try clear p146; try clear p147; try clear p149; try clear p15; try clear p153; try clear p157; try clear p16; try clear p161; try clear p165; try clear p166; try clear p17; try clear p170; try clear p173; try clear p2; try clear p6; try clear q1; try clear q14; try clear q146; try clear q147; try clear q149; try clear q15; try clear q153; try clear q157; try clear q16; try clear q161; try clear q165; try clear q166; try clear q17; try clear q170; try clear q173
         obtain ⟨x12_5, x13_5, x14_5, rfl, rfl, rfl, HA, HK5, HO_4, HO_9, HB⟩ := hrel
         cases gk with
         | zero => exact absurd HA.out (by simp [grapnelref18_Normal.l3])
         | succ k5 =>
          have H := HA.out
          clear HA
          simp only [grapnelref18_Normal.l3] at H
          by_cases c64 : x14_5 < (x4_1.length : Int)
          ·
           rw [if_pos c64] at H
           have c64b0 : decide (x14_5 < (x4_1.length : Int)) = true := decide_eq_true c64
           clear c64
           by_cases c65 : 0 ≤ x14_5
           ·
            rw [if_pos c65] at H
            have c65b0 : decide (0 ≤ x14_5) = true := decide_eq_true c65
            clear c65
            by_cases c66 : 0 ≤ x10_3
            ·
             rw [if_pos c66] at H
             have c66b0 : decide (0 ≤ x10_3) = true := decide_eq_true c66
             clear c66
             by_cases c67 : x10_3 < (x4_1.length : Int)
             ·
              rw [if_pos c67] at H
              have c67b0 : decide (x10_3 < (x4_1.length : Int)) = true := decide_eq_true c67
              clear c67
              by_cases c68 : ((rd_T34 x4_1 x14_5).f1.f0) = ((rd_T34 x4_1 x10_3).f1.f0)
              ·
               rw [if_pos c68] at H
               have c68b0 : (((rd_T34 x4_1 x14_5).f1.f0) == ((rd_T34 x4_1 x10_3).f1.f0)) = true := beq_iff_eq.mpr c68
               have c68b1 : (((rd_T34 x4_1 x14_5).f1.f0) != ((rd_T34 x4_1 x10_3).f1.f0)) = false := bne_eq_false_iff_eq.mpr c68
               clear c68
               have HC69 := Aside0.mk H
               clear H
               try go_wp2
               have n0_ := Aside0.mk (Kd.R_drew HO_4.out)
               have n1_ := Aside0.mk (Kd.R_drew HO_9.out)
               have n2_ := Aside0.mk (below_drew1 HB.out)
               clear HO_4; clear HO_9; clear HB
               have HO_4 := n0_
               have HO_9 := n1_
               have HB := n2_
               clear n0_ n1_ n2_
               have p177 : 0 ≤ (x14_5 : Int) := of_decide_eq_true (by first | (with_reducible assumption) | assumption)
               have q177 : x14_5 < (x4_1.length : Int) := of_decide_eq_true (by first | (with_reducible assumption) | assumption)
               obtain ⟨ad177, e177, hx177_0, hx177_1, hx177_2, hx177_3, hx177_4, hx177_5, hx177_6⟩ := at_T34 (Kd.R_reads' HO_4.out).2.2 x14_5 p177 q177
               cases e177
               replace p177 := eq_true p177
               replace q177 := eq_true q177
               have p178 : 0 ≤ (x10_3 : Int) := of_decide_eq_true (by first | (with_reducible assumption) | assumption)
               have q178 : x10_3 < (x4_1.length : Int) := of_decide_eq_true (by first | (with_reducible assumption) | assumption)
               obtain ⟨ad178, e178, hx178_0, hx178_1, hx178_2, hx178_3, hx178_4, hx178_5, hx178_6⟩ := at_T34 (Kd.R_reads' HO_4.out).2.2 x10_3 p178 q178
               obtain rfl : ad177 = ad178 := (by injection e178)
               replace p178 := eq_true p178
               replace q178 := eq_true q178
               refine start_ (n := 13) (S := fun w' => w'.cell? (ad177.add ((x14_5).toNat * 7)) = some (.string ((rd_T34 x4_1 x14_5).f0)) ∧ w'.cell? ⟨(ad177.add ((x14_5).toNat * 7)).block, (ad177.add ((x14_5).toNat * 7)).off + 1, none⟩ = some (.int .i64 ((rd_T34 x4_1 x14_5).f1.f0)) ∧ w'.cell? ⟨(ad177.add ((x14_5).toNat * 7)).block, (ad177.add ((x14_5).toNat * 7)).off + 2, none⟩ = some (.int .i64 ((rd_T34 x4_1 x14_5).f1.f1)) ∧ w'.cell? ⟨(ad177.add ((x14_5).toNat * 7)).block, (ad177.add ((x14_5).toNat * 7)).off + 3, none⟩ = some (.int .i64 ((rd_T34 x4_1 x14_5).f1.f2)) ∧ w'.cell? ⟨(ad177.add ((x14_5).toNat * 7)).block, (ad177.add ((x14_5).toNat * 7)).off + 4, none⟩ = some (.int .i64 ((rd_T34 x4_1 x14_5).f1.f3)) ∧ w'.cell? ⟨(ad177.add ((x14_5).toNat * 7)).block, (ad177.add ((x14_5).toNat * 7)).off + 5, none⟩ = some (.int .i64 ((rd_T34 x4_1 x14_5).f1.f4)) ∧ w'.cell? ⟨(ad177.add ((x14_5).toNat * 7)).block, (ad177.add ((x14_5).toNat * 7)).off + 6, none⟩ = some (.string ((rd_T34 x4_1 x14_5).f2)) ∧ w'.cell? (ad177.add ((x10_3).toNat * 7)) = some (.string ((rd_T34 x4_1 x10_3).f0)) ∧ w'.cell? ⟨(ad177.add ((x10_3).toNat * 7)).block, (ad177.add ((x10_3).toNat * 7)).off + 1, none⟩ = some (.int .i64 ((rd_T34 x4_1 x10_3).f1.f0)) ∧ w'.cell? ⟨(ad177.add ((x10_3).toNat * 7)).block, (ad177.add ((x10_3).toNat * 7)).off + 2, none⟩ = some (.int .i64 ((rd_T34 x4_1 x10_3).f1.f1)) ∧ w'.cell? ⟨(ad177.add ((x10_3).toNat * 7)).block, (ad177.add ((x10_3).toNat * 7)).off + 3, none⟩ = some (.int .i64 ((rd_T34 x4_1 x10_3).f1.f2)) ∧ w'.cell? ⟨(ad177.add ((x10_3).toNat * 7)).block, (ad177.add ((x10_3).toNat * 7)).off + 4, none⟩ = some (.int .i64 ((rd_T34 x4_1 x10_3).f1.f3)) ∧ w'.cell? ⟨(ad177.add ((x10_3).toNat * 7)).block, (ad177.add ((x10_3).toNat * 7)).off + 5, none⟩ = some (.int .i64 ((rd_T34 x4_1 x10_3).f1.f4)) ∧ w'.cell? ⟨(ad177.add ((x10_3).toNat * 7)).block, (ad177.add ((x10_3).toNat * 7)).off + 6, none⟩ = some (.string ((rd_T34 x4_1 x10_3).f2))) (ds := []) #[false, false, false, false, false, false, false, false, false, false, false, false, false] (by kernel_rfl) rfl rfl ⟨hx177_0, hx177_1, hx177_2, hx177_3, hx177_4, hx177_5, hx177_6, hx178_0, hx178_1, hx178_2, hx178_3, hx178_4, hx178_5, hx178_6⟩ (fun hHeld => ?_); refine with_tabW grapnelref18_Normal.tab34 grapnelref18_Normal.bits34 (fun HT_ HW_ => ?_)
               generalize wr.drew = w70 at HO_4 HO_9 HB hx177_0 hx177_1 hx177_2 hx177_3 hx177_4 hx177_5 hx177_6 hx178_0 hx178_1 hx178_2 hx178_3 hx178_4 hx178_5 hx178_6 hHeld ⊢
               refine pure_ (i := 0) (N := some 137) (v := ?_) (a' := ?_) #[true, false, false, false, false, false, false, false, false, false, false, false, false] rfl rfl (any_of HT_.out (by kernel_rfl)) (fun _ _ _ h => h) (Or.inl ⟨by rfl, ?_⟩) ?_ ?_
               rotate_left; · intro w'; go_simp; with_reducible rfl
               rotate_left; · simp only [Act.put, List.setIfInBounds_toArray, List.set_cons_zero, List.set_cons_succ, i64_w, i32_w]; rfl
               refine pure_ (i := 1) (N := some 138) (v := ?_) (a' := ?_) #[true, true, false, false, false, false, false, false, false, false, false, false, false] rfl rfl (any_of HT_.out (by kernel_rfl)) (fun _ _ _ h => h) (Or.inl ⟨by rfl, ?_⟩) ?_ ?_
               rotate_left; · intro w'; go_simp; with_reducible rfl
               rotate_left; · simp only [Act.put, List.setIfInBounds_toArray, List.set_cons_zero, List.set_cons_succ, i64_w, i32_w]; rfl
               refine pure_ (i := 2) (N := some 139) (v := ?_) (a' := ?_) #[true, true, true, false, false, false, false, false, false, false, false, false, false] rfl rfl (any_of HT_.out (by kernel_rfl)) (fun _ _ _ h => h) (Or.inl ⟨by rfl, ?_⟩) ?_ ?_
               rotate_left; · intro w'; go_simp; with_reducible rfl
               rotate_left; · simp only [Act.put, List.setIfInBounds_toArray, List.set_cons_zero, List.set_cons_succ, i64_w, i32_w]; rfl
               refine pure_ (i := 3) (N := some 140) (v := ?_) (a' := ?_) #[true, true, true, true, false, false, false, false, false, false, false, false, false] rfl rfl (any_of HT_.out (by kernel_rfl)) (fun _ _ _ h => h) (Or.inl ⟨by rfl, ?_⟩) ?_ ?_
               rotate_left; · intro w'; go_simp; with_reducible rfl
               rotate_left; · simp only [Act.put, List.setIfInBounds_toArray, List.set_cons_zero, List.set_cons_succ, i64_w, i32_w]; rfl
               refine pure_ (i := 4) (N := some 141) (v := ?_) (a' := ?_) #[true, true, true, true, true, false, false, false, false, false, false, false, false] rfl rfl (any_of HT_.out (by kernel_rfl)) (fun _ _ _ h => h) (Or.inl ⟨by rfl, ?_⟩) ?_ ?_
               rotate_left; · intro w'; go_simp; with_reducible rfl
               rotate_left; · simp only [Act.put, List.setIfInBounds_toArray, List.set_cons_zero, List.set_cons_succ, i64_w, i32_w]; rfl
               refine pure_ (i := 6) (N := some 143) (v := ?_) (a' := ?_) #[true, true, true, true, true, false, true, false, false, false, false, false, false] rfl rfl (any_of HT_.out (by kernel_rfl)) (fun _ _ _ h => h) (Or.inl ⟨by rfl, ?_⟩) ?_ ?_
               rotate_left; · intro w'; go_simp; with_reducible rfl
               rotate_left; · simp only [Act.put, List.setIfInBounds_toArray, List.set_cons_zero, List.set_cons_succ, i64_w, i32_w]; rfl
               refine pure_ (i := 7) (N := some 144) (v := ?_) (a' := ?_) #[true, true, true, true, true, false, true, true, false, false, false, false, false] rfl rfl (any_of HT_.out (by kernel_rfl)) (fun _ _ _ h => h) (Or.inl ⟨by rfl, ?_⟩) ?_ ?_
               rotate_left; · intro w'; go_simp; with_reducible rfl
               rotate_left; · simp only [Act.put, List.setIfInBounds_toArray, List.set_cons_zero, List.set_cons_succ, i64_w, i32_w]; rfl
               refine pure_ (i := 8) (N := some 145) (v := ?_) (a' := ?_) #[true, true, true, true, true, false, true, true, true, false, false, false, false] rfl rfl (any_of HT_.out (by kernel_rfl)) (fun _ _ _ h => h) (Or.inl ⟨by rfl, ?_⟩) ?_ ?_
               rotate_left; · intro w'; go_simp; with_reducible rfl
               rotate_left; · simp only [Act.put, List.setIfInBounds_toArray, List.set_cons_zero, List.set_cons_succ, i64_w, i32_w]; rfl
               refine pure_ (i := 9) (N := some 146) (v := ?_) (a' := ?_) #[true, true, true, true, true, false, true, true, true, true, false, false, false] rfl rfl (any_of HT_.out (by kernel_rfl)) (fun _ _ _ h => h) (Or.inl ⟨by rfl, ?_⟩) ?_ ?_
               rotate_left; · intro w'; go_simp; with_reducible rfl
               rotate_left; · simp only [Act.put, List.setIfInBounds_toArray, List.set_cons_zero, List.set_cons_succ, i64_w, i32_w]; rfl
               refine pure_ (i := 10) (N := some 147) (v := ?_) (a' := ?_) #[true, true, true, true, true, false, true, true, true, true, true, false, false] rfl rfl (any_of HT_.out (by kernel_rfl)) (fun _ _ _ h => h) (Or.inl ⟨by rfl, ?_⟩) ?_ ?_
               rotate_left; · intro w'; go_simp; with_reducible rfl
               rotate_left; · simp only [Act.put, List.setIfInBounds_toArray, List.set_cons_zero, List.set_cons_succ, i64_w, i32_w]; rfl
               refine take_ (i := 5) (N := some 142) (v := ?_) (a' := ?_) #[true, true, true, true, true, true, true, true, true, true, true, false, false] rfl rfl (take_ofW HT_.out HW_.out (by kernel_rfl)) (fun _ _ _ h => h) (Or.inl ⟨by rfl, ?_⟩) hHeld ?_ ?_
               rotate_left
               ·
                rintro w' ⟨s0, s1, s2, s3, s4, s5, s6, s7, s8, s9, s10, s11, s12, s13⟩
                go_simp
                with_reducible rfl
               rotate_left; · simp only [Act.put, List.setIfInBounds_toArray, List.set_cons_zero, List.set_cons_succ, i64_w, i32_w]; rfl
               refine take_ (i := 11) (N := some 148) (v := ?_) (a' := ?_) #[true, true, true, true, true, true, true, true, true, true, true, true, false] rfl rfl (take_ofW HT_.out HW_.out (by kernel_rfl)) (fun _ _ _ h => h) (Or.inl ⟨by rfl, ?_⟩) hHeld ?_ ?_
               rotate_left
               ·
                rintro w' ⟨s0, s1, s2, s3, s4, s5, s6, s7, s8, s9, s10, s11, s12, s13⟩
                go_simp
                with_reducible rfl
               rotate_left; · simp only [Act.put, List.setIfInBounds_toArray, List.set_cons_zero, List.set_cons_succ, i64_w, i32_w]; rfl
               refine pure_ (i := 12) (N := some 149) (v := ?_) (a' := ?_) #[true, true, true, true, true, true, true, true, true, true, true, true, true] rfl rfl (any_of HT_.out (by kernel_rfl)) (fun _ _ _ h => h) (Or.inl ⟨by rfl, ?_⟩) ?_ ?_
               rotate_left; · intro w'; go_simp; with_reducible rfl
               rotate_left; · simp only [Act.put, List.setIfInBounds_toArray, List.set_cons_zero, List.set_cons_succ, i64_w, i32_w]; rfl
               refine done_ (done_of HT_.out (by kernel_rfl)) ?_
               go_upto_region 35 with (fail)
               go_cut [183] (fun v183 wc => ∃ (kq : Nat) (x183_68 : Bool), v183 = .bool x183_68 ∧ Aside0 (grapnelref18_Normal.j7 kq x4_1 x9_3 x10_3 x12_5 x13_5 x14_5 x183_68 = some (r1, r2)) ∧ Aside0 (kq ≤ k5) ∧ Aside0 (Kd.R k34 34 wc w.heap.size (fun _ => True) (.slice (some ad177) x4_1.length co51) x4_1) ∧ Aside0 (Kd.R k32 32 wc w.heap.size (fun _ => True) v168 x9_3) ∧ Aside0 (Below w.heap.size w wc))
               case first =>
                have H := HC69.out
                clear HC69
                by_cases c71 : x14_5 = x10_3
                ·
                 rw [if_pos c71] at H
                 have c71b0 : (x14_5 == x10_3) = true := beq_iff_eq.mpr c71
                 have c71b1 : (x14_5 != x10_3) = false := bne_eq_false_iff_eq.mpr c71
                 clear c71
                 (first | rw [c71b0] | (simp only [i64_w, i32_w]; rw [c71b0]) | skip)
                 have H' := Aside0.mk H
                 clear H
                 try go_wp2
                 have n0_ := Aside0.mk (Kd.R_drew HO_4.out)
                 have n1_ := Aside0.mk (Kd.R_drew HO_9.out)
                 have n2_ := Aside0.mk (below_drew1 HB.out)
                 clear HO_4; clear HO_9; clear HB
                 have HO_4 := n0_
                 have HO_9 := n1_
                 have HB := n2_
                 clear n0_ n1_ n2_
                 refine start_ (n := 34) (S := fun w' => True) (ds := []) #[false, false, false, false, false, false, false, false, false, false, false, false, false, false, false, false, false, false, false, false, false, false, false, false, false, false, false, false, false, false, false, false, false, false] (by kernel_rfl) rfl rfl trivial (fun hHeld => ?_); refine with_tabW grapnelref18_Normal.tab35 grapnelref18_Normal.bits35 (fun HT_ HW_ => ?_)
                 generalize w70.drew = w72 at HO_4 HO_9 HB hHeld ⊢
                 refine pure_ (i := 0) (N := some 150) (v := ?_) (a' := ?_) #[true, false, false, false, false, false, false, false, false, false, false, false, false, false, false, false, false, false, false, false, false, false, false, false, false, false, false, false, false, false, false, false, false, false] rfl rfl (any_of HT_.out (by kernel_rfl)) (fun _ _ _ h => h) (Or.inl ⟨by rfl, ?_⟩) ?_ ?_
                 rotate_left; · intro w'; go_simp; with_reducible rfl
                 rotate_left; · simp only [Act.put, List.setIfInBounds_toArray, List.set_cons_zero, List.set_cons_succ, i64_w, i32_w]; rfl
                 refine pure_ (i := 1) (N := some 151) (v := ?_) (a' := ?_) #[true, true, false, false, false, false, false, false, false, false, false, false, false, false, false, false, false, false, false, false, false, false, false, false, false, false, false, false, false, false, false, false, false, false] rfl rfl (any_of HT_.out (by kernel_rfl)) (fun _ _ _ h => h) (Or.inl ⟨by rfl, ?_⟩) ?_ ?_
                 rotate_left; · intro w'; go_simp; with_reducible rfl
                 rotate_left; · simp only [Act.put, List.setIfInBounds_toArray, List.set_cons_zero, List.set_cons_succ, i64_w, i32_w]; rfl
                 refine pure_ (i := 2) (N := some 152) (v := ?_) (a' := ?_) #[true, true, true, false, false, false, false, false, false, false, false, false, false, false, false, false, false, false, false, false, false, false, false, false, false, false, false, false, false, false, false, false, false, false] rfl rfl (any_of HT_.out (by kernel_rfl)) (fun _ _ _ h => h) (Or.inl ⟨by rfl, ?_⟩) ?_ ?_
                 rotate_left; · intro w'; go_simp; with_reducible rfl
                 rotate_left; · simp only [Act.put, List.setIfInBounds_toArray, List.set_cons_zero, List.set_cons_succ, i64_w, i32_w]; rfl
                 refine pure_ (i := 3) (N := some 153) (v := ?_) (a' := ?_) #[true, true, true, true, false, false, false, false, false, false, false, false, false, false, false, false, false, false, false, false, false, false, false, false, false, false, false, false, false, false, false, false, false, false] rfl rfl (any_of HT_.out (by kernel_rfl)) (fun _ _ _ h => h) (Or.inl ⟨by rfl, ?_⟩) ?_ ?_
                 rotate_left; · intro w'; go_simp; with_reducible rfl
                 rotate_left; · simp only [Act.put, List.setIfInBounds_toArray, List.set_cons_zero, List.set_cons_succ, i64_w, i32_w]; rfl
                 refine pure_ (i := 4) (N := some 154) (v := undef) (a' := ?_) #[true, true, true, true, true, false, false, false, false, false, false, false, false, false, false, false, false, false, false, false, false, false, false, false, false, false, false, false, false, false, false, false, false, false] rfl rfl (any_of HT_.out (by kernel_rfl)) (fun _ _ _ h => h) (Or.inr ⟨by rfl, rfl⟩) ?_ ?_
                 rotate_left; · simp only [Act.put, List.setIfInBounds_toArray, List.set_cons_zero, List.set_cons_succ, i64_w, i32_w]; rfl
                 refine pure_ (i := 5) (N := some 155) (v := undef) (a' := ?_) #[true, true, true, true, true, true, false, false, false, false, false, false, false, false, false, false, false, false, false, false, false, false, false, false, false, false, false, false, false, false, false, false, false, false] rfl rfl (any_of HT_.out (by kernel_rfl)) (fun _ _ _ h => h) (Or.inr ⟨by rfl, rfl⟩) ?_ ?_
                 rotate_left; · simp only [Act.put, List.setIfInBounds_toArray, List.set_cons_zero, List.set_cons_succ, i64_w, i32_w]; rfl
                 refine pure_ (i := 6) (N := some 156) (v := undef) (a' := ?_) #[true, true, true, true, true, true, true, false, false, false, false, false, false, false, false, false, false, false, false, false, false, false, false, false, false, false, false, false, false, false, false, false, false, false] rfl rfl (any_of HT_.out (by kernel_rfl)) (fun _ _ _ h => h) (Or.inr ⟨by rfl, rfl⟩) ?_ ?_
                 rotate_left; · simp only [Act.put, List.setIfInBounds_toArray, List.set_cons_zero, List.set_cons_succ, i64_w, i32_w]; rfl
                 refine pure_ (i := 7) (N := some 157) (v := undef) (a' := ?_) #[true, true, true, true, true, true, true, true, false, false, false, false, false, false, false, false, false, false, false, false, false, false, false, false, false, false, false, false, false, false, false, false, false, false] rfl rfl (any_of HT_.out (by kernel_rfl)) (fun _ _ _ h => h) (Or.inr ⟨by rfl, rfl⟩) ?_ ?_
                 rotate_left; · simp only [Act.put, List.setIfInBounds_toArray, List.set_cons_zero, List.set_cons_succ, i64_w, i32_w]; rfl
                 refine pure_ (i := 8) (N := some 158) (v := undef) (a' := ?_) #[true, true, true, true, true, true, true, true, true, false, false, false, false, false, false, false, false, false, false, false, false, false, false, false, false, false, false, false, false, false, false, false, false, false] rfl rfl (any_of HT_.out (by kernel_rfl)) (fun _ _ _ h => h) (Or.inr ⟨by rfl, rfl⟩) ?_ ?_
                 rotate_left; · simp only [Act.put, List.setIfInBounds_toArray, List.set_cons_zero, List.set_cons_succ, i64_w, i32_w]; rfl
                 refine pure_ (i := 9) (N := some 159) (v := undef) (a' := ?_) #[true, true, true, true, true, true, true, true, true, true, false, false, false, false, false, false, false, false, false, false, false, false, false, false, false, false, false, false, false, false, false, false, false, false] rfl rfl (any_of HT_.out (by kernel_rfl)) (fun _ _ _ h => h) (Or.inr ⟨by rfl, rfl⟩) ?_ ?_
                 rotate_left; · simp only [Act.put, List.setIfInBounds_toArray, List.set_cons_zero, List.set_cons_succ, i64_w, i32_w]; rfl
                 refine pure_ (i := 10) (N := some 160) (v := undef) (a' := ?_) #[true, true, true, true, true, true, true, true, true, true, true, false, false, false, false, false, false, false, false, false, false, false, false, false, false, false, false, false, false, false, false, false, false, false] rfl rfl (any_of HT_.out (by kernel_rfl)) (fun _ _ _ h => h) (Or.inr ⟨by rfl, rfl⟩) ?_ ?_
                 rotate_left; · simp only [Act.put, List.setIfInBounds_toArray, List.set_cons_zero, List.set_cons_succ, i64_w, i32_w]; rfl
                 refine pure_ (i := 11) (N := some 161) (v := undef) (a' := ?_) #[true, true, true, true, true, true, true, true, true, true, true, true, false, false, false, false, false, false, false, false, false, false, false, false, false, false, false, false, false, false, false, false, false, false] rfl rfl (any_of HT_.out (by kernel_rfl)) (fun _ _ _ h => h) (Or.inr ⟨by rfl, rfl⟩) ?_ ?_
                 rotate_left; · simp only [Act.put, List.setIfInBounds_toArray, List.set_cons_zero, List.set_cons_succ, i64_w, i32_w]; rfl
                 refine pure_ (i := 12) (N := some 162) (v := undef) (a' := ?_) #[true, true, true, true, true, true, true, true, true, true, true, true, true, false, false, false, false, false, false, false, false, false, false, false, false, false, false, false, false, false, false, false, false, false] rfl rfl (any_of HT_.out (by kernel_rfl)) (fun _ _ _ h => h) (Or.inr ⟨by rfl, rfl⟩) ?_ ?_
                 rotate_left; · simp only [Act.put, List.setIfInBounds_toArray, List.set_cons_zero, List.set_cons_succ, i64_w, i32_w]; rfl
                 refine pure_ (i := 13) (N := some 163) (v := undef) (a' := ?_) #[true, true, true, true, true, true, true, true, true, true, true, true, true, true, false, false, false, false, false, false, false, false, false, false, false, false, false, false, false, false, false, false, false, false] rfl rfl (any_of HT_.out (by kernel_rfl)) (fun _ _ _ h => h) (Or.inr ⟨by rfl, rfl⟩) ?_ ?_
                 rotate_left; · simp only [Act.put, List.setIfInBounds_toArray, List.set_cons_zero, List.set_cons_succ, i64_w, i32_w]; rfl
                 refine pure_ (i := 14) (N := some 164) (v := undef) (a' := ?_) #[true, true, true, true, true, true, true, true, true, true, true, true, true, true, true, false, false, false, false, false, false, false, false, false, false, false, false, false, false, false, false, false, false, false] rfl rfl (any_of HT_.out (by kernel_rfl)) (fun _ _ _ h => h) (Or.inr ⟨by rfl, rfl⟩) ?_ ?_
                 rotate_left; · simp only [Act.put, List.setIfInBounds_toArray, List.set_cons_zero, List.set_cons_succ, i64_w, i32_w]; rfl
                 refine pure_ (i := 15) (N := some 165) (v := undef) (a' := ?_) #[true, true, true, true, true, true, true, true, true, true, true, true, true, true, true, true, false, false, false, false, false, false, false, false, false, false, false, false, false, false, false, false, false, false] rfl rfl (any_of HT_.out (by kernel_rfl)) (fun _ _ _ h => h) (Or.inr ⟨by rfl, rfl⟩) ?_ ?_
                 rotate_left; · simp only [Act.put, List.setIfInBounds_toArray, List.set_cons_zero, List.set_cons_succ, i64_w, i32_w]; rfl
                 refine pure_ (i := 16) (N := some 166) (v := undef) (a' := ?_) #[true, true, true, true, true, true, true, true, true, true, true, true, true, true, true, true, true, false, false, false, false, false, false, false, false, false, false, false, false, false, false, false, false, false] rfl rfl (any_of HT_.out (by kernel_rfl)) (fun _ _ _ h => h) (Or.inr ⟨by rfl, rfl⟩) ?_ ?_
                 rotate_left; · simp only [Act.put, List.setIfInBounds_toArray, List.set_cons_zero, List.set_cons_succ, i64_w, i32_w]; rfl
                 refine pure_ (i := 17) (N := some 167) (v := undef) (a' := ?_) #[true, true, true, true, true, true, true, true, true, true, true, true, true, true, true, true, true, true, false, false, false, false, false, false, false, false, false, false, false, false, false, false, false, false] rfl rfl (any_of HT_.out (by kernel_rfl)) (fun _ _ _ h => h) (Or.inr ⟨by rfl, rfl⟩) ?_ ?_
                 rotate_left; · simp only [Act.put, List.setIfInBounds_toArray, List.set_cons_zero, List.set_cons_succ, i64_w, i32_w]; rfl
                 refine pure_ (i := 18) (N := some 168) (v := undef) (a' := ?_) #[true, true, true, true, true, true, true, true, true, true, true, true, true, true, true, true, true, true, true, false, false, false, false, false, false, false, false, false, false, false, false, false, false, false] rfl rfl (any_of HT_.out (by kernel_rfl)) (fun _ _ _ h => h) (Or.inr ⟨by rfl, rfl⟩) ?_ ?_
                 rotate_left; · simp only [Act.put, List.setIfInBounds_toArray, List.set_cons_zero, List.set_cons_succ, i64_w, i32_w]; rfl
                 refine pure_ (i := 19) (N := some 169) (v := undef) (a' := ?_) #[true, true, true, true, true, true, true, true, true, true, true, true, true, true, true, true, true, true, true, true, false, false, false, false, false, false, false, false, false, false, false, false, false, false] rfl rfl (any_of HT_.out (by kernel_rfl)) (fun _ _ _ h => h) (Or.inr ⟨by rfl, rfl⟩) ?_ ?_
                 rotate_left; · simp only [Act.put, List.setIfInBounds_toArray, List.set_cons_zero, List.set_cons_succ, i64_w, i32_w]; rfl
                 refine pure_ (i := 20) (N := some 170) (v := undef) (a' := ?_) #[true, true, true, true, true, true, true, true, true, true, true, true, true, true, true, true, true, true, true, true, true, false, false, false, false, false, false, false, false, false, false, false, false, false] rfl rfl (any_of HT_.out (by kernel_rfl)) (fun _ _ _ h => h) (Or.inr ⟨by rfl, rfl⟩) ?_ ?_
                 rotate_left; · simp only [Act.put, List.setIfInBounds_toArray, List.set_cons_zero, List.set_cons_succ, i64_w, i32_w]; rfl
                 refine pure_ (i := 21) (N := some 171) (v := undef) (a' := ?_) #[true, true, true, true, true, true, true, true, true, true, true, true, true, true, true, true, true, true, true, true, true, true, false, false, false, false, false, false, false, false, false, false, false, false] rfl rfl (any_of HT_.out (by kernel_rfl)) (fun _ _ _ h => h) (Or.inr ⟨by rfl, rfl⟩) ?_ ?_
                 rotate_left; · simp only [Act.put, List.setIfInBounds_toArray, List.set_cons_zero, List.set_cons_succ, i64_w, i32_w]; rfl
                 refine pure_ (i := 22) (N := some 172) (v := undef) (a' := ?_) #[true, true, true, true, true, true, true, true, true, true, true, true, true, true, true, true, true, true, true, true, true, true, true, false, false, false, false, false, false, false, false, false, false, false] rfl rfl (any_of HT_.out (by kernel_rfl)) (fun _ _ _ h => h) (Or.inr ⟨by rfl, rfl⟩) ?_ ?_
                 rotate_left; · simp only [Act.put, List.setIfInBounds_toArray, List.set_cons_zero, List.set_cons_succ, i64_w, i32_w]; rfl
                 refine pure_ (i := 23) (N := some 173) (v := undef) (a' := ?_) #[true, true, true, true, true, true, true, true, true, true, true, true, true, true, true, true, true, true, true, true, true, true, true, true, false, false, false, false, false, false, false, false, false, false] rfl rfl (any_of HT_.out (by kernel_rfl)) (fun _ _ _ h => h) (Or.inr ⟨by rfl, rfl⟩) ?_ ?_
                 rotate_left; · simp only [Act.put, List.setIfInBounds_toArray, List.set_cons_zero, List.set_cons_succ, i64_w, i32_w]; rfl
                 refine pure_ (i := 24) (N := some 174) (v := undef) (a' := ?_) #[true, true, true, true, true, true, true, true, true, true, true, true, true, true, true, true, true, true, true, true, true, true, true, true, true, false, false, false, false, false, false, false, false, false] rfl rfl (any_of HT_.out (by kernel_rfl)) (fun _ _ _ h => h) (Or.inr ⟨by rfl, rfl⟩) ?_ ?_
                 rotate_left; · simp only [Act.put, List.setIfInBounds_toArray, List.set_cons_zero, List.set_cons_succ, i64_w, i32_w]; rfl
                 refine pure_ (i := 25) (N := some 175) (v := undef) (a' := ?_) #[true, true, true, true, true, true, true, true, true, true, true, true, true, true, true, true, true, true, true, true, true, true, true, true, true, true, false, false, false, false, false, false, false, false] rfl rfl (any_of HT_.out (by kernel_rfl)) (fun _ _ _ h => h) (Or.inr ⟨by rfl, rfl⟩) ?_ ?_
                 rotate_left; · simp only [Act.put, List.setIfInBounds_toArray, List.set_cons_zero, List.set_cons_succ, i64_w, i32_w]; rfl
                 refine pure_ (i := 26) (N := some 176) (v := undef) (a' := ?_) #[true, true, true, true, true, true, true, true, true, true, true, true, true, true, true, true, true, true, true, true, true, true, true, true, true, true, true, false, false, false, false, false, false, false] rfl rfl (any_of HT_.out (by kernel_rfl)) (fun _ _ _ h => h) (Or.inr ⟨by rfl, rfl⟩) ?_ ?_
                 rotate_left; · simp only [Act.put, List.setIfInBounds_toArray, List.set_cons_zero, List.set_cons_succ, i64_w, i32_w]; rfl
                 refine pure_ (i := 27) (N := some 177) (v := undef) (a' := ?_) #[true, true, true, true, true, true, true, true, true, true, true, true, true, true, true, true, true, true, true, true, true, true, true, true, true, true, true, true, false, false, false, false, false, false] rfl rfl (any_of HT_.out (by kernel_rfl)) (fun _ _ _ h => h) (Or.inr ⟨by rfl, rfl⟩) ?_ ?_
                 rotate_left; · simp only [Act.put, List.setIfInBounds_toArray, List.set_cons_zero, List.set_cons_succ, i64_w, i32_w]; rfl
                 refine pure_ (i := 28) (N := some 178) (v := undef) (a' := ?_) #[true, true, true, true, true, true, true, true, true, true, true, true, true, true, true, true, true, true, true, true, true, true, true, true, true, true, true, true, true, false, false, false, false, false] rfl rfl (any_of HT_.out (by kernel_rfl)) (fun _ _ _ h => h) (Or.inr ⟨by rfl, rfl⟩) ?_ ?_
                 rotate_left; · simp only [Act.put, List.setIfInBounds_toArray, List.set_cons_zero, List.set_cons_succ, i64_w, i32_w]; rfl
                 refine pure_ (i := 29) (N := some 179) (v := undef) (a' := ?_) #[true, true, true, true, true, true, true, true, true, true, true, true, true, true, true, true, true, true, true, true, true, true, true, true, true, true, true, true, true, true, false, false, false, false] rfl rfl (any_of HT_.out (by kernel_rfl)) (fun _ _ _ h => h) (Or.inr ⟨by rfl, rfl⟩) ?_ ?_
                 rotate_left; · simp only [Act.put, List.setIfInBounds_toArray, List.set_cons_zero, List.set_cons_succ, i64_w, i32_w]; rfl
                 refine pure_ (i := 30) (N := some 180) (v := undef) (a' := ?_) #[true, true, true, true, true, true, true, true, true, true, true, true, true, true, true, true, true, true, true, true, true, true, true, true, true, true, true, true, true, true, true, false, false, false] rfl rfl (any_of HT_.out (by kernel_rfl)) (fun _ _ _ h => h) (Or.inr ⟨by rfl, rfl⟩) ?_ ?_
                 rotate_left; · simp only [Act.put, List.setIfInBounds_toArray, List.set_cons_zero, List.set_cons_succ, i64_w, i32_w]; rfl
                 refine pure_ (i := 31) (N := some 181) (v := undef) (a' := ?_) #[true, true, true, true, true, true, true, true, true, true, true, true, true, true, true, true, true, true, true, true, true, true, true, true, true, true, true, true, true, true, true, true, false, false] rfl rfl (any_of HT_.out (by kernel_rfl)) (fun _ _ _ h => h) (Or.inr ⟨by rfl, rfl⟩) ?_ ?_
                 rotate_left; · simp only [Act.put, List.setIfInBounds_toArray, List.set_cons_zero, List.set_cons_succ, i64_w, i32_w]; rfl
                 refine pure_ (i := 32) (N := some 182) (v := undef) (a' := ?_) #[true, true, true, true, true, true, true, true, true, true, true, true, true, true, true, true, true, true, true, true, true, true, true, true, true, true, true, true, true, true, true, true, true, false] rfl rfl (any_of HT_.out (by kernel_rfl)) (fun _ _ _ h => h) (Or.inr ⟨by rfl, rfl⟩) ?_ ?_
                 rotate_left; · simp only [Act.put, List.setIfInBounds_toArray, List.set_cons_zero, List.set_cons_succ, i64_w, i32_w]; rfl
                 refine pure_ (i := 33) (N := some 183) (v := ?_) (a' := ?_) #[true, true, true, true, true, true, true, true, true, true, true, true, true, true, true, true, true, true, true, true, true, true, true, true, true, true, true, true, true, true, true, true, true, true] rfl rfl (any_of HT_.out (by kernel_rfl)) (fun _ _ _ h => h) (Or.inl ⟨by rfl, ?_⟩) ?_ ?_
                 rotate_left; · intro w'; go_simp; with_reducible rfl
                 rotate_left; · simp only [Act.put, List.setIfInBounds_toArray, List.set_cons_zero, List.set_cons_succ, i64_w, i32_w]; rfl
                 refine done_ (done_of HT_.out (by kernel_rfl)) ?_
                 try go_wp2
                 go_meet
                 case rel => exact ⟨_, (false), (by first | rfl | (simp; done) | (simp [*]; done)), H', ⟨by have := HK1.out; have := HJ40.out; have := HK3.out; have := HJ54.out; have := HK5.out; first | omega | exact Nat.le_refl _⟩, ⟨by (with_reducible repeat (first | apply Kd.R_alloc | apply Kd.R_drewN | apply Kd.R_drew)); exact HO_4.out⟩, ⟨by (with_reducible repeat (first | apply Kd.R_alloc | apply Kd.R_drewN | apply Kd.R_drew)); exact HO_9.out⟩, ⟨by repeat (first | (with_reducible first | exact HB.out | apply below_alloc | apply pw_below_drewN | apply below_drew1) | exact HB.out)⟩⟩
                ·
                 rw [if_neg c71] at H
                 have c71b0 : (x14_5 == x10_3) = false := beq_eq_false_iff_ne.mpr c71
                 have c71b1 : (x14_5 != x10_3) = true := bne_iff_ne.mpr c71
                 (first | rw [c71b0] | (simp only [i64_w, i32_w]; rw [c71b0]) | skip)
                 by_cases c73 : ((rd_T34 x4_1 x14_5).f1.f2) = 1
                 ·
                  rw [if_pos c73] at H
                  have c73b0 : (((rd_T34 x4_1 x14_5).f1.f2) == 1) = true := beq_iff_eq.mpr c73
                  have c73b1 : (((rd_T34 x4_1 x14_5).f1.f2) != 1) = false := bne_eq_false_iff_eq.mpr c73
                  clear c73
                  by_cases c74 : ((rd_T34 x4_1 x10_3).f1.f2) = 1
                  ·
                   rw [if_pos c74] at H
                   have c74b0 : (((rd_T34 x4_1 x10_3).f1.f2) == 1) = true := beq_iff_eq.mpr c74
                   have c74b1 : (((rd_T34 x4_1 x10_3).f1.f2) != 1) = false := bne_eq_false_iff_eq.mpr c74
                   clear c74
                   have H' := Aside0.mk H
                   clear H
                   try go_wp2
                   have n0_ := Aside0.mk (Kd.R_drew HO_4.out)
                   have n1_ := Aside0.mk (Kd.R_drew HO_9.out)
                   have n2_ := Aside0.mk (below_drew1 HB.out)
                   clear HO_4; clear HO_9; clear HB
                   have HO_4 := n0_
                   have HO_9 := n1_
                   have HB := n2_
                   clear n0_ n1_ n2_
                   have p179 : 0 ≤ (x14_5 : Int) := of_decide_eq_true (by first | (with_reducible assumption) | assumption)
                   have q179 : x14_5 < (x4_1.length : Int) := of_decide_eq_true (by first | (with_reducible assumption) | assumption)
                   obtain ⟨ad179, e179, hx179_0, hx179_1, hx179_2, hx179_3, hx179_4, hx179_5, hx179_6⟩ := at_T34 (Kd.R_reads' HO_4.out).2.2 x14_5 p179 q179
                   obtain rfl : ad177 = ad179 := (by injection e179)
                   replace p179 := eq_true p179
                   replace q179 := eq_true q179
                   have p180 : 0 ≤ (x10_3 : Int) := of_decide_eq_true (by first | (with_reducible assumption) | assumption)
                   have q180 : x10_3 < (x4_1.length : Int) := of_decide_eq_true (by first | (with_reducible assumption) | assumption)
                   obtain ⟨ad180, e180, hx180_0, hx180_1, hx180_2, hx180_3, hx180_4, hx180_5, hx180_6⟩ := at_T34 (Kd.R_reads' HO_4.out).2.2 x10_3 p180 q180
                   obtain rfl : ad177 = ad180 := (by injection e180)
                   replace p180 := eq_true p180
                   replace q180 := eq_true q180
                   have p181 : 0 ≤ (x14_5 : Int) := of_decide_eq_true (by first | (with_reducible assumption) | assumption)
                   have q181 : x14_5 < (x4_1.length : Int) := of_decide_eq_true (by first | (with_reducible assumption) | assumption)
                   obtain ⟨ad181, e181, hx181_0, hx181_1, hx181_2, hx181_3, hx181_4, hx181_5, hx181_6⟩ := at_T34 (Kd.R_reads' HO_4.out).2.2 x14_5 p181 q181
                   obtain rfl : ad177 = ad181 := (by injection e181)
                   replace p181 := eq_true p181
                   replace q181 := eq_true q181
                   have p182 : 0 ≤ (x10_3 : Int) := of_decide_eq_true (by first | (with_reducible assumption) | assumption)
                   have q182 : x10_3 < (x4_1.length : Int) := of_decide_eq_true (by first | (with_reducible assumption) | assumption)
                   obtain ⟨ad182, e182, hx182_0, hx182_1, hx182_2, hx182_3, hx182_4, hx182_5, hx182_6⟩ := at_T34 (Kd.R_reads' HO_4.out).2.2 x10_3 p182 q182
                   obtain rfl : ad177 = ad182 := (by injection e182)
                   replace p182 := eq_true p182
                   replace q182 := eq_true q182
                   refine start_ (n := 34) (S := fun w' => w'.cell? (ad177.add ((x14_5).toNat * 7)) = some (.string ((rd_T34 x4_1 x14_5).f0)) ∧ w'.cell? ⟨(ad177.add ((x14_5).toNat * 7)).block, (ad177.add ((x14_5).toNat * 7)).off + 1, none⟩ = some (.int .i64 ((rd_T34 x4_1 x14_5).f1.f0)) ∧ w'.cell? ⟨(ad177.add ((x14_5).toNat * 7)).block, (ad177.add ((x14_5).toNat * 7)).off + 2, none⟩ = some (.int .i64 ((rd_T34 x4_1 x14_5).f1.f1)) ∧ w'.cell? ⟨(ad177.add ((x14_5).toNat * 7)).block, (ad177.add ((x14_5).toNat * 7)).off + 3, none⟩ = some (.int .i64 ((rd_T34 x4_1 x14_5).f1.f2)) ∧ w'.cell? ⟨(ad177.add ((x14_5).toNat * 7)).block, (ad177.add ((x14_5).toNat * 7)).off + 4, none⟩ = some (.int .i64 ((rd_T34 x4_1 x14_5).f1.f3)) ∧ w'.cell? ⟨(ad177.add ((x14_5).toNat * 7)).block, (ad177.add ((x14_5).toNat * 7)).off + 5, none⟩ = some (.int .i64 ((rd_T34 x4_1 x14_5).f1.f4)) ∧ w'.cell? ⟨(ad177.add ((x14_5).toNat * 7)).block, (ad177.add ((x14_5).toNat * 7)).off + 6, none⟩ = some (.string ((rd_T34 x4_1 x14_5).f2)) ∧ w'.cell? (ad177.add ((x10_3).toNat * 7)) = some (.string ((rd_T34 x4_1 x10_3).f0)) ∧ w'.cell? ⟨(ad177.add ((x10_3).toNat * 7)).block, (ad177.add ((x10_3).toNat * 7)).off + 1, none⟩ = some (.int .i64 ((rd_T34 x4_1 x10_3).f1.f0)) ∧ w'.cell? ⟨(ad177.add ((x10_3).toNat * 7)).block, (ad177.add ((x10_3).toNat * 7)).off + 2, none⟩ = some (.int .i64 ((rd_T34 x4_1 x10_3).f1.f1)) ∧ w'.cell? ⟨(ad177.add ((x10_3).toNat * 7)).block, (ad177.add ((x10_3).toNat * 7)).off + 3, none⟩ = some (.int .i64 ((rd_T34 x4_1 x10_3).f1.f2)) ∧ w'.cell? ⟨(ad177.add ((x10_3).toNat * 7)).block, (ad177.add ((x10_3).toNat * 7)).off + 4, none⟩ = some (.int .i64 ((rd_T34 x4_1 x10_3).f1.f3)) ∧ w'.cell? ⟨(ad177.add ((x10_3).toNat * 7)).block, (ad177.add ((x10_3).toNat * 7)).off + 5, none⟩ = some (.int .i64 ((rd_T34 x4_1 x10_3).f1.f4)) ∧ w'.cell? ⟨(ad177.add ((x10_3).toNat * 7)).block, (ad177.add ((x10_3).toNat * 7)).off + 6, none⟩ = some (.string ((rd_T34 x4_1 x10_3).f2)) ∧ w'.cell? (ad177.add ((x14_5).toNat * 7)) = some (.string ((rd_T34 x4_1 x14_5).f0)) ∧ w'.cell? ⟨(ad177.add ((x14_5).toNat * 7)).block, (ad177.add ((x14_5).toNat * 7)).off + 1, none⟩ = some (.int .i64 ((rd_T34 x4_1 x14_5).f1.f0)) ∧ w'.cell? ⟨(ad177.add ((x14_5).toNat * 7)).block, (ad177.add ((x14_5).toNat * 7)).off + 2, none⟩ = some (.int .i64 ((rd_T34 x4_1 x14_5).f1.f1)) ∧ w'.cell? ⟨(ad177.add ((x14_5).toNat * 7)).block, (ad177.add ((x14_5).toNat * 7)).off + 3, none⟩ = some (.int .i64 ((rd_T34 x4_1 x14_5).f1.f2)) ∧ w'.cell? ⟨(ad177.add ((x14_5).toNat * 7)).block, (ad177.add ((x14_5).toNat * 7)).off + 4, none⟩ = some (.int .i64 ((rd_T34 x4_1 x14_5).f1.f3)) ∧ w'.cell? ⟨(ad177.add ((x14_5).toNat * 7)).block, (ad177.add ((x14_5).toNat * 7)).off + 5, none⟩ = some (.int .i64 ((rd_T34 x4_1 x14_5).f1.f4)) ∧ w'.cell? ⟨(ad177.add ((x14_5).toNat * 7)).block, (ad177.add ((x14_5).toNat * 7)).off + 6, none⟩ = some (.string ((rd_T34 x4_1 x14_5).f2)) ∧ w'.cell? (ad177.add ((x10_3).toNat * 7)) = some (.string ((rd_T34 x4_1 x10_3).f0)) ∧ w'.cell? ⟨(ad177.add ((x10_3).toNat * 7)).block, (ad177.add ((x10_3).toNat * 7)).off + 1, none⟩ = some (.int .i64 ((rd_T34 x4_1 x10_3).f1.f0)) ∧ w'.cell? ⟨(ad177.add ((x10_3).toNat * 7)).block, (ad177.add ((x10_3).toNat * 7)).off + 2, none⟩ = some (.int .i64 ((rd_T34 x4_1 x10_3).f1.f1)) ∧ w'.cell? ⟨(ad177.add ((x10_3).toNat * 7)).block, (ad177.add ((x10_3).toNat * 7)).off + 3, none⟩ = some (.int .i64 ((rd_T34 x4_1 x10_3).f1.f2)) ∧ w'.cell? ⟨(ad177.add ((x10_3).toNat * 7)).block, (ad177.add ((x10_3).toNat * 7)).off + 4, none⟩ = some (.int .i64 ((rd_T34 x4_1 x10_3).f1.f3)) ∧ w'.cell? ⟨(ad177.add ((x10_3).toNat * 7)).block, (ad177.add ((x10_3).toNat * 7)).off + 5, none⟩ = some (.int .i64 ((rd_T34 x4_1 x10_3).f1.f4)) ∧ w'.cell? ⟨(ad177.add ((x10_3).toNat * 7)).block, (ad177.add ((x10_3).toNat * 7)).off + 6, none⟩ = some (.string ((rd_T34 x4_1 x10_3).f2))) (ds := []) #[false, false, false, false, false, false, false, false, false, false, false, false, false, false, false, false, false, false, false, false, false, false, false, false, false, false, false, false, false, false, false, false, false, false] (by kernel_rfl) rfl rfl ⟨hx179_0, hx179_1, hx179_2, hx179_3, hx179_4, hx179_5, hx179_6, hx180_0, hx180_1, hx180_2, hx180_3, hx180_4, hx180_5, hx180_6, hx181_0, hx181_1, hx181_2, hx181_3, hx181_4, hx181_5, hx181_6, hx182_0, hx182_1, hx182_2, hx182_3, hx182_4, hx182_5, hx182_6⟩ (fun hHeld => ?_); refine with_tabW grapnelref18_Normal.tab35 grapnelref18_Normal.bits35 (fun HT_ HW_ => ?_)
                   generalize w70.drew = w75 at HO_4 HO_9 HB hx179_0 hx179_1 hx179_2 hx179_3 hx179_4 hx179_5 hx179_6 hx180_0 hx180_1 hx180_2 hx180_3 hx180_4 hx180_5 hx180_6 hx181_0 hx181_1 hx181_2 hx181_3 hx181_4 hx181_5 hx181_6 hx182_0 hx182_1 hx182_2 hx182_3 hx182_4 hx182_5 hx182_6 hHeld ⊢
                   refine pure_ (i := 0) (N := some 150) (v := ?_) (a' := ?_) #[true, false, false, false, false, false, false, false, false, false, false, false, false, false, false, false, false, false, false, false, false, false, false, false, false, false, false, false, false, false, false, false, false, false] rfl rfl (any_of HT_.out (by kernel_rfl)) (fun _ _ _ h => h) (Or.inl ⟨by rfl, ?_⟩) ?_ ?_
                   rotate_left; · intro w'; go_simp; with_reducible rfl
                   rotate_left; · simp only [Act.put, List.setIfInBounds_toArray, List.set_cons_zero, List.set_cons_succ, i64_w, i32_w]; rfl
                   refine pure_ (i := 1) (N := some 151) (v := ?_) (a' := ?_) #[true, true, false, false, false, false, false, false, false, false, false, false, false, false, false, false, false, false, false, false, false, false, false, false, false, false, false, false, false, false, false, false, false, false] rfl rfl (any_of HT_.out (by kernel_rfl)) (fun _ _ _ h => h) (Or.inl ⟨by rfl, ?_⟩) ?_ ?_
                   rotate_left; · intro w'; go_simp; with_reducible rfl
                   rotate_left; · simp only [Act.put, List.setIfInBounds_toArray, List.set_cons_zero, List.set_cons_succ, i64_w, i32_w]; rfl
                   refine pure_ (i := 2) (N := some 152) (v := ?_) (a' := ?_) #[true, true, true, false, false, false, false, false, false, false, false, false, false, false, false, false, false, false, false, false, false, false, false, false, false, false, false, false, false, false, false, false, false, false] rfl rfl (any_of HT_.out (by kernel_rfl)) (fun _ _ _ h => h) (Or.inl ⟨by rfl, ?_⟩) ?_ ?_
                   rotate_left; · intro w'; go_simp; with_reducible rfl
                   rotate_left; · simp only [Act.put, List.setIfInBounds_toArray, List.set_cons_zero, List.set_cons_succ, i64_w, i32_w]; rfl
                   refine pure_ (i := 3) (N := some 153) (v := ?_) (a' := ?_) #[true, true, true, true, false, false, false, false, false, false, false, false, false, false, false, false, false, false, false, false, false, false, false, false, false, false, false, false, false, false, false, false, false, false] rfl rfl (any_of HT_.out (by kernel_rfl)) (fun _ _ _ h => h) (Or.inl ⟨by rfl, ?_⟩) ?_ ?_
                   rotate_left; · intro w'; go_simp; with_reducible rfl
                   rotate_left; · simp only [Act.put, List.setIfInBounds_toArray, List.set_cons_zero, List.set_cons_succ, i64_w, i32_w]; rfl
                   refine pure_ (i := 4) (N := some 154) (v := ?_) (a' := ?_) #[true, true, true, true, true, false, false, false, false, false, false, false, false, false, false, false, false, false, false, false, false, false, false, false, false, false, false, false, false, false, false, false, false, false] rfl rfl (any_of HT_.out (by kernel_rfl)) (fun _ _ _ h => h) (Or.inl ⟨by rfl, ?_⟩) ?_ ?_
                   rotate_left; · intro w'; go_simp; with_reducible rfl
                   rotate_left; · simp only [Act.put, List.setIfInBounds_toArray, List.set_cons_zero, List.set_cons_succ, i64_w, i32_w]; rfl
                   refine pure_ (i := 5) (N := some 155) (v := ?_) (a' := ?_) #[true, true, true, true, true, true, false, false, false, false, false, false, false, false, false, false, false, false, false, false, false, false, false, false, false, false, false, false, false, false, false, false, false, false] rfl rfl (any_of HT_.out (by kernel_rfl)) (fun _ _ _ h => h) (Or.inl ⟨by rfl, ?_⟩) ?_ ?_
                   rotate_left; · intro w'; go_simp; with_reducible rfl
                   rotate_left; · simp only [Act.put, List.setIfInBounds_toArray, List.set_cons_zero, List.set_cons_succ, i64_w, i32_w]; rfl
                   refine pure_ (i := 6) (N := some 156) (v := ?_) (a' := ?_) #[true, true, true, true, true, true, true, false, false, false, false, false, false, false, false, false, false, false, false, false, false, false, false, false, false, false, false, false, false, false, false, false, false, false] rfl rfl (any_of HT_.out (by kernel_rfl)) (fun _ _ _ h => h) (Or.inl ⟨by rfl, ?_⟩) ?_ ?_
                   rotate_left; · intro w'; go_simp; with_reducible rfl
                   rotate_left; · simp only [Act.put, List.setIfInBounds_toArray, List.set_cons_zero, List.set_cons_succ, i64_w, i32_w]; rfl
                   refine pure_ (i := 7) (N := some 157) (v := ?_) (a' := ?_) #[true, true, true, true, true, true, true, true, false, false, false, false, false, false, false, false, false, false, false, false, false, false, false, false, false, false, false, false, false, false, false, false, false, false] rfl rfl (any_of HT_.out (by kernel_rfl)) (fun _ _ _ h => h) (Or.inl ⟨by rfl, ?_⟩) ?_ ?_
                   rotate_left; · intro w'; go_simp; with_reducible rfl
                   rotate_left; · simp only [Act.put, List.setIfInBounds_toArray, List.set_cons_zero, List.set_cons_succ, i64_w, i32_w]; rfl
                   refine pure_ (i := 8) (N := some 158) (v := ?_) (a' := ?_) #[true, true, true, true, true, true, true, true, true, false, false, false, false, false, false, false, false, false, false, false, false, false, false, false, false, false, false, false, false, false, false, false, false, false] rfl rfl (any_of HT_.out (by kernel_rfl)) (fun _ _ _ h => h) (Or.inl ⟨by rfl, ?_⟩) ?_ ?_
                   rotate_left; · intro w'; go_simp; with_reducible rfl
                   rotate_left; · simp only [Act.put, List.setIfInBounds_toArray, List.set_cons_zero, List.set_cons_succ, i64_w, i32_w]; rfl
                   refine take_ (i := 9) (N := some 159) (v := ?_) (a' := ?_) #[true, true, true, true, true, true, true, true, true, true, false, false, false, false, false, false, false, false, false, false, false, false, false, false, false, false, false, false, false, false, false, false, false, false] rfl rfl (take_ofW HT_.out HW_.out (by kernel_rfl)) (fun _ _ _ h => h) (Or.inl ⟨by rfl, ?_⟩) hHeld ?_ ?_
                   rotate_left
                   ·
                    rintro w' ⟨s0, s1, s2, s3, s4, s5, s6, s7, s8, s9, s10, s11, s12, s13, s14, s15, s16, s17, s18, s19, s20, s21, s22, s23, s24, s25, s26, s27⟩
                    go_simp
                    with_reducible rfl
                   rotate_left; · simp only [Act.put, List.setIfInBounds_toArray, List.set_cons_zero, List.set_cons_succ, i64_w, i32_w]; rfl
                   refine pure_ (i := 10) (N := some 160) (v := ?_) (a' := ?_) #[true, true, true, true, true, true, true, true, true, true, true, false, false, false, false, false, false, false, false, false, false, false, false, false, false, false, false, false, false, false, false, false, false, false] rfl rfl (any_of HT_.out (by kernel_rfl)) (fun _ _ _ h => h) (Or.inl ⟨by rfl, ?_⟩) ?_ ?_
                   rotate_left; · intro w'; go_simp; with_reducible rfl
                   rotate_left; · simp only [Act.put, List.setIfInBounds_toArray, List.set_cons_zero, List.set_cons_succ, i64_w, i32_w]; rfl
                   refine pure_ (i := 11) (N := some 161) (v := ?_) (a' := ?_) #[true, true, true, true, true, true, true, true, true, true, true, true, false, false, false, false, false, false, false, false, false, false, false, false, false, false, false, false, false, false, false, false, false, false] rfl rfl (any_of HT_.out (by kernel_rfl)) (fun _ _ _ h => h) (Or.inl ⟨by rfl, ?_⟩) ?_ ?_
                   rotate_left; · intro w'; go_simp; with_reducible rfl
                   rotate_left; · simp only [Act.put, List.setIfInBounds_toArray, List.set_cons_zero, List.set_cons_succ, i64_w, i32_w]; rfl
                   refine pure_ (i := 12) (N := some 162) (v := ?_) (a' := ?_) #[true, true, true, true, true, true, true, true, true, true, true, true, true, false, false, false, false, false, false, false, false, false, false, false, false, false, false, false, false, false, false, false, false, false] rfl rfl (any_of HT_.out (by kernel_rfl)) (fun _ _ _ h => h) (Or.inl ⟨by rfl, ?_⟩) ?_ ?_
                   rotate_left; · intro w'; go_simp; with_reducible rfl
                   rotate_left; · simp only [Act.put, List.setIfInBounds_toArray, List.set_cons_zero, List.set_cons_succ, i64_w, i32_w]; rfl
                   refine pure_ (i := 13) (N := some 163) (v := ?_) (a' := ?_) #[true, true, true, true, true, true, true, true, true, true, true, true, true, true, false, false, false, false, false, false, false, false, false, false, false, false, false, false, false, false, false, false, false, false] rfl rfl (any_of HT_.out (by kernel_rfl)) (fun _ _ _ h => h) (Or.inl ⟨by rfl, ?_⟩) ?_ ?_
                   rotate_left; · intro w'; go_simp; with_reducible rfl
                   rotate_left; · simp only [Act.put, List.setIfInBounds_toArray, List.set_cons_zero, List.set_cons_succ, i64_w, i32_w]; rfl
                   refine pure_ (i := 14) (N := some 164) (v := ?_) (a' := ?_) #[true, true, true, true, true, true, true, true, true, true, true, true, true, true, true, false, false, false, false, false, false, false, false, false, false, false, false, false, false, false, false, false, false, false] rfl rfl (any_of HT_.out (by kernel_rfl)) (fun _ _ _ h => h) (Or.inl ⟨by rfl, ?_⟩) ?_ ?_
                   rotate_left; · intro w'; go_simp; with_reducible rfl
                   rotate_left; · simp only [Act.put, List.setIfInBounds_toArray, List.set_cons_zero, List.set_cons_succ, i64_w, i32_w]; rfl
                   refine pure_ (i := 15) (N := some 165) (v := ?_) (a' := ?_) #[true, true, true, true, true, true, true, true, true, true, true, true, true, true, true, true, false, false, false, false, false, false, false, false, false, false, false, false, false, false, false, false, false, false] rfl rfl (any_of HT_.out (by kernel_rfl)) (fun _ _ _ h => h) (Or.inl ⟨by rfl, ?_⟩) ?_ ?_
                   rotate_left; · intro w'; go_simp; with_reducible rfl
                   rotate_left; · simp only [Act.put, List.setIfInBounds_toArray, List.set_cons_zero, List.set_cons_succ, i64_w, i32_w]; rfl
                   refine pure_ (i := 16) (N := some 166) (v := ?_) (a' := ?_) #[true, true, true, true, true, true, true, true, true, true, true, true, true, true, true, true, true, false, false, false, false, false, false, false, false, false, false, false, false, false, false, false, false, false] rfl rfl (any_of HT_.out (by kernel_rfl)) (fun _ _ _ h => h) (Or.inl ⟨by rfl, ?_⟩) ?_ ?_
                   rotate_left; · intro w'; go_simp; with_reducible rfl
                   rotate_left; · simp only [Act.put, List.setIfInBounds_toArray, List.set_cons_zero, List.set_cons_succ, i64_w, i32_w]; rfl
                   refine take_ (i := 17) (N := some 167) (v := ?_) (a' := ?_) #[true, true, true, true, true, true, true, true, true, true, true, true, true, true, true, true, true, true, false, false, false, false, false, false, false, false, false, false, false, false, false, false, false, false] rfl rfl (take_ofW HT_.out HW_.out (by kernel_rfl)) (fun _ _ _ h => h) (Or.inl ⟨by rfl, ?_⟩) hHeld ?_ ?_
                   rotate_left
                   ·
                    rintro w' ⟨s0, s1, s2, s3, s4, s5, s6, s7, s8, s9, s10, s11, s12, s13, s14, s15, s16, s17, s18, s19, s20, s21, s22, s23, s24, s25, s26, s27⟩
                    go_simp
                    with_reducible rfl
                   rotate_left; · simp only [Act.put, List.setIfInBounds_toArray, List.set_cons_zero, List.set_cons_succ, i64_w, i32_w]; rfl
                   refine pure_ (i := 18) (N := some 168) (v := ?_) (a' := ?_) #[true, true, true, true, true, true, true, true, true, true, true, true, true, true, true, true, true, true, true, false, false, false, false, false, false, false, false, false, false, false, false, false, false, false] rfl rfl (any_of HT_.out (by kernel_rfl)) (fun _ _ _ h => h) (Or.inl ⟨by rfl, ?_⟩) ?_ ?_
                   rotate_left; · intro w'; go_simp; with_reducible rfl
                   rotate_left; · simp only [Act.put, List.setIfInBounds_toArray, List.set_cons_zero, List.set_cons_succ, i64_w, i32_w]; rfl
                   refine pure_ (i := 19) (N := some 169) (v := ?_) (a' := ?_) #[true, true, true, true, true, true, true, true, true, true, true, true, true, true, true, true, true, true, true, true, false, false, false, false, false, false, false, false, false, false, false, false, false, false] rfl rfl (any_of HT_.out (by kernel_rfl)) (fun _ _ _ h => h) (Or.inl ⟨by rfl, ?_⟩) ?_ ?_
                   rotate_left; · intro w'; go_simp; with_reducible rfl
                   rotate_left; · simp only [Act.put, List.setIfInBounds_toArray, List.set_cons_zero, List.set_cons_succ, i64_w, i32_w]; rfl
                   refine pure_ (i := 20) (N := some 170) (v := ?_) (a' := ?_) #[true, true, true, true, true, true, true, true, true, true, true, true, true, true, true, true, true, true, true, true, true, false, false, false, false, false, false, false, false, false, false, false, false, false] rfl rfl (any_of HT_.out (by kernel_rfl)) (fun _ _ _ h => h) (Or.inl ⟨by rfl, ?_⟩) ?_ ?_
                   rotate_left; · intro w'; go_simp; with_reducible rfl
                   rotate_left; · simp only [Act.put, List.setIfInBounds_toArray, List.set_cons_zero, List.set_cons_succ, i64_w, i32_w]; rfl
                   refine pure_ (i := 21) (N := some 171) (v := ?_) (a' := ?_) #[true, true, true, true, true, true, true, true, true, true, true, true, true, true, true, true, true, true, true, true, true, true, false, false, false, false, false, false, false, false, false, false, false, false] rfl rfl (any_of HT_.out (by kernel_rfl)) (fun _ _ _ h => h) (Or.inl ⟨by rfl, ?_⟩) ?_ ?_
                   rotate_left; · intro w'; go_simp; with_reducible rfl
                   rotate_left; · simp only [Act.put, List.setIfInBounds_toArray, List.set_cons_zero, List.set_cons_succ, i64_w, i32_w]; rfl
                   refine pure_ (i := 22) (N := some 172) (v := ?_) (a' := ?_) #[true, true, true, true, true, true, true, true, true, true, true, true, true, true, true, true, true, true, true, true, true, true, true, false, false, false, false, false, false, false, false, false, false, false] rfl rfl (any_of HT_.out (by kernel_rfl)) (fun _ _ _ h => h) (Or.inl ⟨by rfl, ?_⟩) ?_ ?_
                   rotate_left; · intro w'; go_simp; with_reducible rfl
                   rotate_left; · simp only [Act.put, List.setIfInBounds_toArray, List.set_cons_zero, List.set_cons_succ, i64_w, i32_w]; rfl
                   refine pure_ (i := 23) (N := some 173) (v := ?_) (a' := ?_) #[true, true, true, true, true, true, true, true, true, true, true, true, true, true, true, true, true, true, true, true, true, true, true, true, false, false, false, false, false, false, false, false, false, false] rfl rfl (any_of HT_.out (by kernel_rfl)) (fun _ _ _ h => h) (Or.inl ⟨by rfl, ?_⟩) ?_ ?_
                   rotate_left; · intro w'; go_simp; with_reducible rfl
                   rotate_left; · simp only [Act.put, List.setIfInBounds_toArray, List.set_cons_zero, List.set_cons_succ, i64_w, i32_w]; rfl
                   refine pure_ (i := 24) (N := some 174) (v := ?_) (a' := ?_) #[true, true, true, true, true, true, true, true, true, true, true, true, true, true, true, true, true, true, true, true, true, true, true, true, true, false, false, false, false, false, false, false, false, false] rfl rfl (any_of HT_.out (by kernel_rfl)) (fun _ _ _ h => h) (Or.inl ⟨by rfl, ?_⟩) ?_ ?_
                   rotate_left; · intro w'; go_simp; with_reducible rfl
                   rotate_left; · simp only [Act.put, List.setIfInBounds_toArray, List.set_cons_zero, List.set_cons_succ, i64_w, i32_w]; rfl
                   refine pure_ (i := 26) (N := some 176) (v := ?_) (a' := ?_) #[true, true, true, true, true, true, true, true, true, true, true, true, true, true, true, true, true, true, true, true, true, true, true, true, true, false, true, false, false, false, false, false, false, false] rfl rfl (any_of HT_.out (by kernel_rfl)) (fun _ _ _ h => h) (Or.inl ⟨by rfl, ?_⟩) ?_ ?_
                   rotate_left; · intro w'; go_simp; with_reducible rfl
                   rotate_left; · simp only [Act.put, List.setIfInBounds_toArray, List.set_cons_zero, List.set_cons_succ, i64_w, i32_w]; rfl
                   refine pure_ (i := 27) (N := some 177) (v := ?_) (a' := ?_) #[true, true, true, true, true, true, true, true, true, true, true, true, true, true, true, true, true, true, true, true, true, true, true, true, true, false, true, true, false, false, false, false, false, false] rfl rfl (any_of HT_.out (by kernel_rfl)) (fun _ _ _ h => h) (Or.inl ⟨by rfl, ?_⟩) ?_ ?_
                   rotate_left; · intro w'; go_simp; with_reducible rfl
                   rotate_left; · simp only [Act.put, List.setIfInBounds_toArray, List.set_cons_zero, List.set_cons_succ, i64_w, i32_w]; rfl
                   refine pure_ (i := 28) (N := some 178) (v := ?_) (a' := ?_) #[true, true, true, true, true, true, true, true, true, true, true, true, true, true, true, true, true, true, true, true, true, true, true, true, true, false, true, true, true, false, false, false, false, false] rfl rfl (any_of HT_.out (by kernel_rfl)) (fun _ _ _ h => h) (Or.inl ⟨by rfl, ?_⟩) ?_ ?_
                   rotate_left; · intro w'; go_simp; with_reducible rfl
                   rotate_left; · simp only [Act.put, List.setIfInBounds_toArray, List.set_cons_zero, List.set_cons_succ, i64_w, i32_w]; rfl
                   refine pure_ (i := 29) (N := some 179) (v := ?_) (a' := ?_) #[true, true, true, true, true, true, true, true, true, true, true, true, true, true, true, true, true, true, true, true, true, true, true, true, true, false, true, true, true, true, false, false, false, false] rfl rfl (any_of HT_.out (by kernel_rfl)) (fun _ _ _ h => h) (Or.inl ⟨by rfl, ?_⟩) ?_ ?_
                   rotate_left; · intro w'; go_simp; with_reducible rfl
                   rotate_left; · simp only [Act.put, List.setIfInBounds_toArray, List.set_cons_zero, List.set_cons_succ, i64_w, i32_w]; rfl
                   refine take_ (i := 25) (N := some 175) (v := ?_) (a' := ?_) #[true, true, true, true, true, true, true, true, true, true, true, true, true, true, true, true, true, true, true, true, true, true, true, true, true, true, true, true, true, true, false, false, false, false] rfl rfl (take_ofW HT_.out HW_.out (by kernel_rfl)) (fun _ _ _ h => h) (Or.inl ⟨by rfl, ?_⟩) hHeld ?_ ?_
                   rotate_left
                   ·
                    rintro w' ⟨s0, s1, s2, s3, s4, s5, s6, s7, s8, s9, s10, s11, s12, s13, s14, s15, s16, s17, s18, s19, s20, s21, s22, s23, s24, s25, s26, s27⟩
                    go_simp
                    with_reducible rfl
                   rotate_left; · simp only [Act.put, List.setIfInBounds_toArray, List.set_cons_zero, List.set_cons_succ, i64_w, i32_w]; rfl
                   refine take_ (i := 30) (N := some 180) (v := ?_) (a' := ?_) #[true, true, true, true, true, true, true, true, true, true, true, true, true, true, true, true, true, true, true, true, true, true, true, true, true, true, true, true, true, true, true, false, false, false] rfl rfl (take_ofW HT_.out HW_.out (by kernel_rfl)) (fun _ _ _ h => h) (Or.inl ⟨by rfl, ?_⟩) hHeld ?_ ?_
                   rotate_left
                   ·
                    rintro w' ⟨s0, s1, s2, s3, s4, s5, s6, s7, s8, s9, s10, s11, s12, s13, s14, s15, s16, s17, s18, s19, s20, s21, s22, s23, s24, s25, s26, s27⟩
                    go_simp
                    with_reducible rfl
                   rotate_left; · simp only [Act.put, List.setIfInBounds_toArray, List.set_cons_zero, List.set_cons_succ, i64_w, i32_w]; rfl
                   refine pure_ (i := 31) (N := some 181) (v := ?_) (a' := ?_) #[true, true, true, true, true, true, true, true, true, true, true, true, true, true, true, true, true, true, true, true, true, true, true, true, true, true, true, true, true, true, true, true, false, false] rfl rfl (any_of HT_.out (by kernel_rfl)) (fun _ _ _ h => h) (Or.inl ⟨by rfl, ?_⟩) ?_ ?_
                   rotate_left; · intro w'; go_simp; with_reducible rfl
                   rotate_left; · simp only [Act.put, List.setIfInBounds_toArray, List.set_cons_zero, List.set_cons_succ, i64_w, i32_w]; rfl
                   refine pure_ (i := 32) (N := some 182) (v := ?_) (a' := ?_) #[true, true, true, true, true, true, true, true, true, true, true, true, true, true, true, true, true, true, true, true, true, true, true, true, true, true, true, true, true, true, true, true, true, false] rfl rfl (any_of HT_.out (by kernel_rfl)) (fun _ _ _ h => h) (Or.inl ⟨by rfl, ?_⟩) ?_ ?_
                   rotate_left; · intro w'; go_simp; with_reducible rfl
                   rotate_left; · simp only [Act.put, List.setIfInBounds_toArray, List.set_cons_zero, List.set_cons_succ, i64_w, i32_w]; rfl
                   refine pure_ (i := 33) (N := some 183) (v := ?_) (a' := ?_) #[true, true, true, true, true, true, true, true, true, true, true, true, true, true, true, true, true, true, true, true, true, true, true, true, true, true, true, true, true, true, true, true, true, true] rfl rfl (any_of HT_.out (by kernel_rfl)) (fun _ _ _ h => h) (Or.inl ⟨by rfl, ?_⟩) ?_ ?_
                   rotate_left; · intro w'; go_simp; with_reducible rfl
                   rotate_left; · simp only [Act.put, List.setIfInBounds_toArray, List.set_cons_zero, List.set_cons_succ, i64_w, i32_w]; rfl
                   refine done_ (done_of HT_.out (by kernel_rfl)) ?_
                   try go_wp2
                   go_meet
                   case rel => exact ⟨_, ((((rd_T34 x4_1 x14_5).f2).toList != ((rd_T34 x4_1 x10_3).f2).toList)), (by first | rfl | (simp; done) | (simp [*]; done)), H', ⟨by have := HK1.out; have := HJ40.out; have := HK3.out; have := HJ54.out; have := HK5.out; first | omega | exact Nat.le_refl _⟩, ⟨by (with_reducible repeat (first | apply Kd.R_alloc | apply Kd.R_drewN | apply Kd.R_drew)); exact HO_4.out⟩, ⟨by (with_reducible repeat (first | apply Kd.R_alloc | apply Kd.R_drewN | apply Kd.R_drew)); exact HO_9.out⟩, ⟨by repeat (first | (with_reducible first | exact HB.out | apply below_alloc | apply pw_below_drewN | apply below_drew1) | exact HB.out)⟩⟩
                  ·
                   rw [if_neg c74] at H
                   have c74b0 : (((rd_T34 x4_1 x10_3).f1.f2) == 1) = false := beq_eq_false_iff_ne.mpr c74
                   have c74b1 : (((rd_T34 x4_1 x10_3).f1.f2) != 1) = true := bne_iff_ne.mpr c74
                   have H' := Aside0.mk H
                   clear H
                   try go_wp2
                   have n0_ := Aside0.mk (Kd.R_drew HO_4.out)
                   have n1_ := Aside0.mk (Kd.R_drew HO_9.out)
                   have n2_ := Aside0.mk (below_drew1 HB.out)
                   clear HO_4; clear HO_9; clear HB
                   have HO_4 := n0_
                   have HO_9 := n1_
                   have HB := n2_
                   clear n0_ n1_ n2_
                   have p179 : 0 ≤ (x14_5 : Int) := of_decide_eq_true (by first | (with_reducible assumption) | assumption)
                   have q179 : x14_5 < (x4_1.length : Int) := of_decide_eq_true (by first | (with_reducible assumption) | assumption)
                   obtain ⟨ad179, e179, hx179_0, hx179_1, hx179_2, hx179_3, hx179_4, hx179_5, hx179_6⟩ := at_T34 (Kd.R_reads' HO_4.out).2.2 x14_5 p179 q179
                   obtain rfl : ad177 = ad179 := (by injection e179)
                   replace p179 := eq_true p179
                   replace q179 := eq_true q179
                   have p180 : 0 ≤ (x10_3 : Int) := of_decide_eq_true (by first | (with_reducible assumption) | assumption)
                   have q180 : x10_3 < (x4_1.length : Int) := of_decide_eq_true (by first | (with_reducible assumption) | assumption)
                   obtain ⟨ad180, e180, hx180_0, hx180_1, hx180_2, hx180_3, hx180_4, hx180_5, hx180_6⟩ := at_T34 (Kd.R_reads' HO_4.out).2.2 x10_3 p180 q180
                   obtain rfl : ad177 = ad180 := (by injection e180)
                   replace p180 := eq_true p180
                   replace q180 := eq_true q180
                   refine start_ (n := 34) (S := fun w' => w'.cell? (ad177.add ((x14_5).toNat * 7)) = some (.string ((rd_T34 x4_1 x14_5).f0)) ∧ w'.cell? ⟨(ad177.add ((x14_5).toNat * 7)).block, (ad177.add ((x14_5).toNat * 7)).off + 1, none⟩ = some (.int .i64 ((rd_T34 x4_1 x14_5).f1.f0)) ∧ w'.cell? ⟨(ad177.add ((x14_5).toNat * 7)).block, (ad177.add ((x14_5).toNat * 7)).off + 2, none⟩ = some (.int .i64 ((rd_T34 x4_1 x14_5).f1.f1)) ∧ w'.cell? ⟨(ad177.add ((x14_5).toNat * 7)).block, (ad177.add ((x14_5).toNat * 7)).off + 3, none⟩ = some (.int .i64 ((rd_T34 x4_1 x14_5).f1.f2)) ∧ w'.cell? ⟨(ad177.add ((x14_5).toNat * 7)).block, (ad177.add ((x14_5).toNat * 7)).off + 4, none⟩ = some (.int .i64 ((rd_T34 x4_1 x14_5).f1.f3)) ∧ w'.cell? ⟨(ad177.add ((x14_5).toNat * 7)).block, (ad177.add ((x14_5).toNat * 7)).off + 5, none⟩ = some (.int .i64 ((rd_T34 x4_1 x14_5).f1.f4)) ∧ w'.cell? ⟨(ad177.add ((x14_5).toNat * 7)).block, (ad177.add ((x14_5).toNat * 7)).off + 6, none⟩ = some (.string ((rd_T34 x4_1 x14_5).f2)) ∧ w'.cell? (ad177.add ((x10_3).toNat * 7)) = some (.string ((rd_T34 x4_1 x10_3).f0)) ∧ w'.cell? ⟨(ad177.add ((x10_3).toNat * 7)).block, (ad177.add ((x10_3).toNat * 7)).off + 1, none⟩ = some (.int .i64 ((rd_T34 x4_1 x10_3).f1.f0)) ∧ w'.cell? ⟨(ad177.add ((x10_3).toNat * 7)).block, (ad177.add ((x10_3).toNat * 7)).off + 2, none⟩ = some (.int .i64 ((rd_T34 x4_1 x10_3).f1.f1)) ∧ w'.cell? ⟨(ad177.add ((x10_3).toNat * 7)).block, (ad177.add ((x10_3).toNat * 7)).off + 3, none⟩ = some (.int .i64 ((rd_T34 x4_1 x10_3).f1.f2)) ∧ w'.cell? ⟨(ad177.add ((x10_3).toNat * 7)).block, (ad177.add ((x10_3).toNat * 7)).off + 4, none⟩ = some (.int .i64 ((rd_T34 x4_1 x10_3).f1.f3)) ∧ w'.cell? ⟨(ad177.add ((x10_3).toNat * 7)).block, (ad177.add ((x10_3).toNat * 7)).off + 5, none⟩ = some (.int .i64 ((rd_T34 x4_1 x10_3).f1.f4)) ∧ w'.cell? ⟨(ad177.add ((x10_3).toNat * 7)).block, (ad177.add ((x10_3).toNat * 7)).off + 6, none⟩ = some (.string ((rd_T34 x4_1 x10_3).f2))) (ds := []) #[false, false, false, false, false, false, false, false, false, false, false, false, false, false, false, false, false, false, false, false, false, false, false, false, false, false, false, false, false, false, false, false, false, false] (by kernel_rfl) rfl rfl ⟨hx179_0, hx179_1, hx179_2, hx179_3, hx179_4, hx179_5, hx179_6, hx180_0, hx180_1, hx180_2, hx180_3, hx180_4, hx180_5, hx180_6⟩ (fun hHeld => ?_); refine with_tabW grapnelref18_Normal.tab35 grapnelref18_Normal.bits35 (fun HT_ HW_ => ?_)
                   generalize w70.drew = w76 at HO_4 HO_9 HB hx179_0 hx179_1 hx179_2 hx179_3 hx179_4 hx179_5 hx179_6 hx180_0 hx180_1 hx180_2 hx180_3 hx180_4 hx180_5 hx180_6 hHeld ⊢
                   refine pure_ (i := 0) (N := some 150) (v := ?_) (a' := ?_) #[true, false, false, false, false, false, false, false, false, false, false, false, false, false, false, false, false, false, false, false, false, false, false, false, false, false, false, false, false, false, false, false, false, false] rfl rfl (any_of HT_.out (by kernel_rfl)) (fun _ _ _ h => h) (Or.inl ⟨by rfl, ?_⟩) ?_ ?_
                   rotate_left; · intro w'; go_simp; with_reducible rfl
                   rotate_left; · simp only [Act.put, List.setIfInBounds_toArray, List.set_cons_zero, List.set_cons_succ, i64_w, i32_w]; rfl
                   refine pure_ (i := 1) (N := some 151) (v := ?_) (a' := ?_) #[true, true, false, false, false, false, false, false, false, false, false, false, false, false, false, false, false, false, false, false, false, false, false, false, false, false, false, false, false, false, false, false, false, false] rfl rfl (any_of HT_.out (by kernel_rfl)) (fun _ _ _ h => h) (Or.inl ⟨by rfl, ?_⟩) ?_ ?_
                   rotate_left; · intro w'; go_simp; with_reducible rfl
                   rotate_left; · simp only [Act.put, List.setIfInBounds_toArray, List.set_cons_zero, List.set_cons_succ, i64_w, i32_w]; rfl
                   refine pure_ (i := 2) (N := some 152) (v := ?_) (a' := ?_) #[true, true, true, false, false, false, false, false, false, false, false, false, false, false, false, false, false, false, false, false, false, false, false, false, false, false, false, false, false, false, false, false, false, false] rfl rfl (any_of HT_.out (by kernel_rfl)) (fun _ _ _ h => h) (Or.inl ⟨by rfl, ?_⟩) ?_ ?_
                   rotate_left; · intro w'; go_simp; with_reducible rfl
                   rotate_left; · simp only [Act.put, List.setIfInBounds_toArray, List.set_cons_zero, List.set_cons_succ, i64_w, i32_w]; rfl
                   refine pure_ (i := 3) (N := some 153) (v := ?_) (a' := ?_) #[true, true, true, true, false, false, false, false, false, false, false, false, false, false, false, false, false, false, false, false, false, false, false, false, false, false, false, false, false, false, false, false, false, false] rfl rfl (any_of HT_.out (by kernel_rfl)) (fun _ _ _ h => h) (Or.inl ⟨by rfl, ?_⟩) ?_ ?_
                   rotate_left; · intro w'; go_simp; with_reducible rfl
                   rotate_left; · simp only [Act.put, List.setIfInBounds_toArray, List.set_cons_zero, List.set_cons_succ, i64_w, i32_w]; rfl
                   refine pure_ (i := 4) (N := some 154) (v := ?_) (a' := ?_) #[true, true, true, true, true, false, false, false, false, false, false, false, false, false, false, false, false, false, false, false, false, false, false, false, false, false, false, false, false, false, false, false, false, false] rfl rfl (any_of HT_.out (by kernel_rfl)) (fun _ _ _ h => h) (Or.inl ⟨by rfl, ?_⟩) ?_ ?_
                   rotate_left; · intro w'; go_simp; with_reducible rfl
                   rotate_left; · simp only [Act.put, List.setIfInBounds_toArray, List.set_cons_zero, List.set_cons_succ, i64_w, i32_w]; rfl
                   refine pure_ (i := 5) (N := some 155) (v := ?_) (a' := ?_) #[true, true, true, true, true, true, false, false, false, false, false, false, false, false, false, false, false, false, false, false, false, false, false, false, false, false, false, false, false, false, false, false, false, false] rfl rfl (any_of HT_.out (by kernel_rfl)) (fun _ _ _ h => h) (Or.inl ⟨by rfl, ?_⟩) ?_ ?_
                   rotate_left; · intro w'; go_simp; with_reducible rfl
                   rotate_left; · simp only [Act.put, List.setIfInBounds_toArray, List.set_cons_zero, List.set_cons_succ, i64_w, i32_w]; rfl
                   refine pure_ (i := 6) (N := some 156) (v := ?_) (a' := ?_) #[true, true, true, true, true, true, true, false, false, false, false, false, false, false, false, false, false, false, false, false, false, false, false, false, false, false, false, false, false, false, false, false, false, false] rfl rfl (any_of HT_.out (by kernel_rfl)) (fun _ _ _ h => h) (Or.inl ⟨by rfl, ?_⟩) ?_ ?_
                   rotate_left; · intro w'; go_simp; with_reducible rfl
                   rotate_left; · simp only [Act.put, List.setIfInBounds_toArray, List.set_cons_zero, List.set_cons_succ, i64_w, i32_w]; rfl
                   refine pure_ (i := 7) (N := some 157) (v := ?_) (a' := ?_) #[true, true, true, true, true, true, true, true, false, false, false, false, false, false, false, false, false, false, false, false, false, false, false, false, false, false, false, false, false, false, false, false, false, false] rfl rfl (any_of HT_.out (by kernel_rfl)) (fun _ _ _ h => h) (Or.inl ⟨by rfl, ?_⟩) ?_ ?_
                   rotate_left; · intro w'; go_simp; with_reducible rfl
                   rotate_left; · simp only [Act.put, List.setIfInBounds_toArray, List.set_cons_zero, List.set_cons_succ, i64_w, i32_w]; rfl
                   refine pure_ (i := 8) (N := some 158) (v := ?_) (a' := ?_) #[true, true, true, true, true, true, true, true, true, false, false, false, false, false, false, false, false, false, false, false, false, false, false, false, false, false, false, false, false, false, false, false, false, false] rfl rfl (any_of HT_.out (by kernel_rfl)) (fun _ _ _ h => h) (Or.inl ⟨by rfl, ?_⟩) ?_ ?_
                   rotate_left; · intro w'; go_simp; with_reducible rfl
                   rotate_left; · simp only [Act.put, List.setIfInBounds_toArray, List.set_cons_zero, List.set_cons_succ, i64_w, i32_w]; rfl
                   refine take_ (i := 9) (N := some 159) (v := ?_) (a' := ?_) #[true, true, true, true, true, true, true, true, true, true, false, false, false, false, false, false, false, false, false, false, false, false, false, false, false, false, false, false, false, false, false, false, false, false] rfl rfl (take_ofW HT_.out HW_.out (by kernel_rfl)) (fun _ _ _ h => h) (Or.inl ⟨by rfl, ?_⟩) hHeld ?_ ?_
                   rotate_left
                   ·
                    rintro w' ⟨s0, s1, s2, s3, s4, s5, s6, s7, s8, s9, s10, s11, s12, s13⟩
                    go_simp
                    with_reducible rfl
                   rotate_left; · simp only [Act.put, List.setIfInBounds_toArray, List.set_cons_zero, List.set_cons_succ, i64_w, i32_w]; rfl
                   refine pure_ (i := 10) (N := some 160) (v := ?_) (a' := ?_) #[true, true, true, true, true, true, true, true, true, true, true, false, false, false, false, false, false, false, false, false, false, false, false, false, false, false, false, false, false, false, false, false, false, false] rfl rfl (any_of HT_.out (by kernel_rfl)) (fun _ _ _ h => h) (Or.inl ⟨by rfl, ?_⟩) ?_ ?_
                   rotate_left; · intro w'; go_simp; with_reducible rfl
                   rotate_left; · simp only [Act.put, List.setIfInBounds_toArray, List.set_cons_zero, List.set_cons_succ, i64_w, i32_w]; rfl
                   refine pure_ (i := 11) (N := some 161) (v := ?_) (a' := ?_) #[true, true, true, true, true, true, true, true, true, true, true, true, false, false, false, false, false, false, false, false, false, false, false, false, false, false, false, false, false, false, false, false, false, false] rfl rfl (any_of HT_.out (by kernel_rfl)) (fun _ _ _ h => h) (Or.inl ⟨by rfl, ?_⟩) ?_ ?_
                   rotate_left; · intro w'; go_simp; with_reducible rfl
                   rotate_left; · simp only [Act.put, List.setIfInBounds_toArray, List.set_cons_zero, List.set_cons_succ, i64_w, i32_w]; rfl
                   refine pure_ (i := 12) (N := some 162) (v := ?_) (a' := ?_) #[true, true, true, true, true, true, true, true, true, true, true, true, true, false, false, false, false, false, false, false, false, false, false, false, false, false, false, false, false, false, false, false, false, false] rfl rfl (any_of HT_.out (by kernel_rfl)) (fun _ _ _ h => h) (Or.inl ⟨by rfl, ?_⟩) ?_ ?_
                   rotate_left; · intro w'; go_simp; with_reducible rfl
                   rotate_left; · simp only [Act.put, List.setIfInBounds_toArray, List.set_cons_zero, List.set_cons_succ, i64_w, i32_w]; rfl
                   refine pure_ (i := 13) (N := some 163) (v := ?_) (a' := ?_) #[true, true, true, true, true, true, true, true, true, true, true, true, true, true, false, false, false, false, false, false, false, false, false, false, false, false, false, false, false, false, false, false, false, false] rfl rfl (any_of HT_.out (by kernel_rfl)) (fun _ _ _ h => h) (Or.inl ⟨by rfl, ?_⟩) ?_ ?_
                   rotate_left; · intro w'; go_simp; with_reducible rfl
                   rotate_left; · simp only [Act.put, List.setIfInBounds_toArray, List.set_cons_zero, List.set_cons_succ, i64_w, i32_w]; rfl
                   refine pure_ (i := 14) (N := some 164) (v := ?_) (a' := ?_) #[true, true, true, true, true, true, true, true, true, true, true, true, true, true, true, false, false, false, false, false, false, false, false, false, false, false, false, false, false, false, false, false, false, false] rfl rfl (any_of HT_.out (by kernel_rfl)) (fun _ _ _ h => h) (Or.inl ⟨by rfl, ?_⟩) ?_ ?_
                   rotate_left; · intro w'; go_simp; with_reducible rfl
                   rotate_left; · simp only [Act.put, List.setIfInBounds_toArray, List.set_cons_zero, List.set_cons_succ, i64_w, i32_w]; rfl
                   refine pure_ (i := 15) (N := some 165) (v := ?_) (a' := ?_) #[true, true, true, true, true, true, true, true, true, true, true, true, true, true, true, true, false, false, false, false, false, false, false, false, false, false, false, false, false, false, false, false, false, false] rfl rfl (any_of HT_.out (by kernel_rfl)) (fun _ _ _ h => h) (Or.inl ⟨by rfl, ?_⟩) ?_ ?_
                   rotate_left; · intro w'; go_simp; with_reducible rfl
                   rotate_left; · simp only [Act.put, List.setIfInBounds_toArray, List.set_cons_zero, List.set_cons_succ, i64_w, i32_w]; rfl
                   refine pure_ (i := 16) (N := some 166) (v := ?_) (a' := ?_) #[true, true, true, true, true, true, true, true, true, true, true, true, true, true, true, true, true, false, false, false, false, false, false, false, false, false, false, false, false, false, false, false, false, false] rfl rfl (any_of HT_.out (by kernel_rfl)) (fun _ _ _ h => h) (Or.inl ⟨by rfl, ?_⟩) ?_ ?_
                   rotate_left; · intro w'; go_simp; with_reducible rfl
                   rotate_left; · simp only [Act.put, List.setIfInBounds_toArray, List.set_cons_zero, List.set_cons_succ, i64_w, i32_w]; rfl
                   refine take_ (i := 17) (N := some 167) (v := ?_) (a' := ?_) #[true, true, true, true, true, true, true, true, true, true, true, true, true, true, true, true, true, true, false, false, false, false, false, false, false, false, false, false, false, false, false, false, false, false] rfl rfl (take_ofW HT_.out HW_.out (by kernel_rfl)) (fun _ _ _ h => h) (Or.inl ⟨by rfl, ?_⟩) hHeld ?_ ?_
                   rotate_left
                   ·
                    rintro w' ⟨s0, s1, s2, s3, s4, s5, s6, s7, s8, s9, s10, s11, s12, s13⟩
                    go_simp
                    with_reducible rfl
                   rotate_left; · simp only [Act.put, List.setIfInBounds_toArray, List.set_cons_zero, List.set_cons_succ, i64_w, i32_w]; rfl
                   refine pure_ (i := 18) (N := some 168) (v := ?_) (a' := ?_) #[true, true, true, true, true, true, true, true, true, true, true, true, true, true, true, true, true, true, true, false, false, false, false, false, false, false, false, false, false, false, false, false, false, false] rfl rfl (any_of HT_.out (by kernel_rfl)) (fun _ _ _ h => h) (Or.inl ⟨by rfl, ?_⟩) ?_ ?_
                   rotate_left; · intro w'; go_simp; with_reducible rfl
                   rotate_left; · simp only [Act.put, List.setIfInBounds_toArray, List.set_cons_zero, List.set_cons_succ, i64_w, i32_w]; rfl
                   refine pure_ (i := 19) (N := some 169) (v := ?_) (a' := ?_) #[true, true, true, true, true, true, true, true, true, true, true, true, true, true, true, true, true, true, true, true, false, false, false, false, false, false, false, false, false, false, false, false, false, false] rfl rfl (any_of HT_.out (by kernel_rfl)) (fun _ _ _ h => h) (Or.inl ⟨by rfl, ?_⟩) ?_ ?_
                   rotate_left; · intro w'; go_simp; with_reducible rfl
                   rotate_left; · simp only [Act.put, List.setIfInBounds_toArray, List.set_cons_zero, List.set_cons_succ, i64_w, i32_w]; rfl
                   refine pure_ (i := 20) (N := some 170) (v := ?_) (a' := ?_) #[true, true, true, true, true, true, true, true, true, true, true, true, true, true, true, true, true, true, true, true, true, false, false, false, false, false, false, false, false, false, false, false, false, false] rfl rfl (any_of HT_.out (by kernel_rfl)) (fun _ _ _ h => h) (Or.inl ⟨by rfl, ?_⟩) ?_ ?_
                   rotate_left; · intro w'; go_simp; with_reducible rfl
                   rotate_left; · simp only [Act.put, List.setIfInBounds_toArray, List.set_cons_zero, List.set_cons_succ, i64_w, i32_w]; rfl
                   refine pure_ (i := 21) (N := some 171) (v := undef) (a' := ?_) #[true, true, true, true, true, true, true, true, true, true, true, true, true, true, true, true, true, true, true, true, true, true, false, false, false, false, false, false, false, false, false, false, false, false] rfl rfl (any_of HT_.out (by kernel_rfl)) (fun _ _ _ h => h) (Or.inr ⟨by rfl, rfl⟩) ?_ ?_
                   rotate_left; · simp only [Act.put, List.setIfInBounds_toArray, List.set_cons_zero, List.set_cons_succ, i64_w, i32_w]; rfl
                   refine pure_ (i := 22) (N := some 172) (v := undef) (a' := ?_) #[true, true, true, true, true, true, true, true, true, true, true, true, true, true, true, true, true, true, true, true, true, true, true, false, false, false, false, false, false, false, false, false, false, false] rfl rfl (any_of HT_.out (by kernel_rfl)) (fun _ _ _ h => h) (Or.inr ⟨by rfl, rfl⟩) ?_ ?_
                   rotate_left; · simp only [Act.put, List.setIfInBounds_toArray, List.set_cons_zero, List.set_cons_succ, i64_w, i32_w]; rfl
                   refine pure_ (i := 23) (N := some 173) (v := undef) (a' := ?_) #[true, true, true, true, true, true, true, true, true, true, true, true, true, true, true, true, true, true, true, true, true, true, true, true, false, false, false, false, false, false, false, false, false, false] rfl rfl (any_of HT_.out (by kernel_rfl)) (fun _ _ _ h => h) (Or.inr ⟨by rfl, rfl⟩) ?_ ?_
                   rotate_left; · simp only [Act.put, List.setIfInBounds_toArray, List.set_cons_zero, List.set_cons_succ, i64_w, i32_w]; rfl
                   refine pure_ (i := 24) (N := some 174) (v := undef) (a' := ?_) #[true, true, true, true, true, true, true, true, true, true, true, true, true, true, true, true, true, true, true, true, true, true, true, true, true, false, false, false, false, false, false, false, false, false] rfl rfl (any_of HT_.out (by kernel_rfl)) (fun _ _ _ h => h) (Or.inr ⟨by rfl, rfl⟩) ?_ ?_
                   rotate_left; · simp only [Act.put, List.setIfInBounds_toArray, List.set_cons_zero, List.set_cons_succ, i64_w, i32_w]; rfl
                   refine pure_ (i := 25) (N := some 175) (v := undef) (a' := ?_) #[true, true, true, true, true, true, true, true, true, true, true, true, true, true, true, true, true, true, true, true, true, true, true, true, true, true, false, false, false, false, false, false, false, false] rfl rfl (any_of HT_.out (by kernel_rfl)) (fun _ _ _ h => h) (Or.inr ⟨by rfl, rfl⟩) ?_ ?_
                   rotate_left; · simp only [Act.put, List.setIfInBounds_toArray, List.set_cons_zero, List.set_cons_succ, i64_w, i32_w]; rfl
                   refine pure_ (i := 26) (N := some 176) (v := undef) (a' := ?_) #[true, true, true, true, true, true, true, true, true, true, true, true, true, true, true, true, true, true, true, true, true, true, true, true, true, true, true, false, false, false, false, false, false, false] rfl rfl (any_of HT_.out (by kernel_rfl)) (fun _ _ _ h => h) (Or.inr ⟨by rfl, rfl⟩) ?_ ?_
                   rotate_left; · simp only [Act.put, List.setIfInBounds_toArray, List.set_cons_zero, List.set_cons_succ, i64_w, i32_w]; rfl
                   refine pure_ (i := 27) (N := some 177) (v := undef) (a' := ?_) #[true, true, true, true, true, true, true, true, true, true, true, true, true, true, true, true, true, true, true, true, true, true, true, true, true, true, true, true, false, false, false, false, false, false] rfl rfl (any_of HT_.out (by kernel_rfl)) (fun _ _ _ h => h) (Or.inr ⟨by rfl, rfl⟩) ?_ ?_
                   rotate_left; · simp only [Act.put, List.setIfInBounds_toArray, List.set_cons_zero, List.set_cons_succ, i64_w, i32_w]; rfl
                   refine pure_ (i := 28) (N := some 178) (v := undef) (a' := ?_) #[true, true, true, true, true, true, true, true, true, true, true, true, true, true, true, true, true, true, true, true, true, true, true, true, true, true, true, true, true, false, false, false, false, false] rfl rfl (any_of HT_.out (by kernel_rfl)) (fun _ _ _ h => h) (Or.inr ⟨by rfl, rfl⟩) ?_ ?_
                   rotate_left; · simp only [Act.put, List.setIfInBounds_toArray, List.set_cons_zero, List.set_cons_succ, i64_w, i32_w]; rfl
                   refine pure_ (i := 29) (N := some 179) (v := undef) (a' := ?_) #[true, true, true, true, true, true, true, true, true, true, true, true, true, true, true, true, true, true, true, true, true, true, true, true, true, true, true, true, true, true, false, false, false, false] rfl rfl (any_of HT_.out (by kernel_rfl)) (fun _ _ _ h => h) (Or.inr ⟨by rfl, rfl⟩) ?_ ?_
                   rotate_left; · simp only [Act.put, List.setIfInBounds_toArray, List.set_cons_zero, List.set_cons_succ, i64_w, i32_w]; rfl
                   refine pure_ (i := 30) (N := some 180) (v := undef) (a' := ?_) #[true, true, true, true, true, true, true, true, true, true, true, true, true, true, true, true, true, true, true, true, true, true, true, true, true, true, true, true, true, true, true, false, false, false] rfl rfl (any_of HT_.out (by kernel_rfl)) (fun _ _ _ h => h) (Or.inr ⟨by rfl, rfl⟩) ?_ ?_
                   rotate_left; · simp only [Act.put, List.setIfInBounds_toArray, List.set_cons_zero, List.set_cons_succ, i64_w, i32_w]; rfl
                   refine pure_ (i := 31) (N := some 181) (v := undef) (a' := ?_) #[true, true, true, true, true, true, true, true, true, true, true, true, true, true, true, true, true, true, true, true, true, true, true, true, true, true, true, true, true, true, true, true, false, false] rfl rfl (any_of HT_.out (by kernel_rfl)) (fun _ _ _ h => h) (Or.inr ⟨by rfl, rfl⟩) ?_ ?_
                   rotate_left; · simp only [Act.put, List.setIfInBounds_toArray, List.set_cons_zero, List.set_cons_succ, i64_w, i32_w]; rfl
                   refine pure_ (i := 32) (N := some 182) (v := ?_) (a' := ?_) #[true, true, true, true, true, true, true, true, true, true, true, true, true, true, true, true, true, true, true, true, true, true, true, true, true, true, true, true, true, true, true, true, true, false] rfl rfl (any_of HT_.out (by kernel_rfl)) (fun _ _ _ h => h) (Or.inl ⟨by rfl, ?_⟩) ?_ ?_
                   rotate_left; · intro w'; go_simp; with_reducible rfl
                   rotate_left; · simp only [Act.put, List.setIfInBounds_toArray, List.set_cons_zero, List.set_cons_succ, i64_w, i32_w]; rfl
                   refine pure_ (i := 33) (N := some 183) (v := ?_) (a' := ?_) #[true, true, true, true, true, true, true, true, true, true, true, true, true, true, true, true, true, true, true, true, true, true, true, true, true, true, true, true, true, true, true, true, true, true] rfl rfl (any_of HT_.out (by kernel_rfl)) (fun _ _ _ h => h) (Or.inl ⟨by rfl, ?_⟩) ?_ ?_
                   rotate_left; · intro w'; go_simp; with_reducible rfl
                   rotate_left; · simp only [Act.put, List.setIfInBounds_toArray, List.set_cons_zero, List.set_cons_succ, i64_w, i32_w]; rfl
                   refine done_ (done_of HT_.out (by kernel_rfl)) ?_
                   try go_wp2
                   go_meet
                   case rel => exact ⟨_, (true), (by first | rfl | (simp; done) | (simp [*]; done)), H', ⟨by have := HK1.out; have := HJ40.out; have := HK3.out; have := HJ54.out; have := HK5.out; first | omega | exact Nat.le_refl _⟩, ⟨by (with_reducible repeat (first | apply Kd.R_alloc | apply Kd.R_drewN | apply Kd.R_drew)); exact HO_4.out⟩, ⟨by (with_reducible repeat (first | apply Kd.R_alloc | apply Kd.R_drewN | apply Kd.R_drew)); exact HO_9.out⟩, ⟨by repeat (first | (with_reducible first | exact HB.out | apply below_alloc | apply pw_below_drewN | apply below_drew1) | exact HB.out)⟩⟩
                 ·
                  rw [if_neg c73] at H
                  have c73b0 : (((rd_T34 x4_1 x14_5).f1.f2) == 1) = false := beq_eq_false_iff_ne.mpr c73
                  have c73b1 : (((rd_T34 x4_1 x14_5).f1.f2) != 1) = true := bne_iff_ne.mpr c73
                  have H' := Aside0.mk H
                  clear H
                  try go_wp2
                  have n0_ := Aside0.mk (Kd.R_drew HO_4.out)
                  have n1_ := Aside0.mk (Kd.R_drew HO_9.out)
                  have n2_ := Aside0.mk (below_drew1 HB.out)
                  clear HO_4; clear HO_9; clear HB
                  have HO_4 := n0_
                  have HO_9 := n1_
                  have HB := n2_
                  clear n0_ n1_ n2_
                  have p179 : 0 ≤ (x14_5 : Int) := of_decide_eq_true (by first | (with_reducible assumption) | assumption)
                  have q179 : x14_5 < (x4_1.length : Int) := of_decide_eq_true (by first | (with_reducible assumption) | assumption)
                  obtain ⟨ad179, e179, hx179_0, hx179_1, hx179_2, hx179_3, hx179_4, hx179_5, hx179_6⟩ := at_T34 (Kd.R_reads' HO_4.out).2.2 x14_5 p179 q179
                  obtain rfl : ad177 = ad179 := (by injection e179)
                  replace p179 := eq_true p179
                  replace q179 := eq_true q179
                  refine start_ (n := 34) (S := fun w' => w'.cell? (ad177.add ((x14_5).toNat * 7)) = some (.string ((rd_T34 x4_1 x14_5).f0)) ∧ w'.cell? ⟨(ad177.add ((x14_5).toNat * 7)).block, (ad177.add ((x14_5).toNat * 7)).off + 1, none⟩ = some (.int .i64 ((rd_T34 x4_1 x14_5).f1.f0)) ∧ w'.cell? ⟨(ad177.add ((x14_5).toNat * 7)).block, (ad177.add ((x14_5).toNat * 7)).off + 2, none⟩ = some (.int .i64 ((rd_T34 x4_1 x14_5).f1.f1)) ∧ w'.cell? ⟨(ad177.add ((x14_5).toNat * 7)).block, (ad177.add ((x14_5).toNat * 7)).off + 3, none⟩ = some (.int .i64 ((rd_T34 x4_1 x14_5).f1.f2)) ∧ w'.cell? ⟨(ad177.add ((x14_5).toNat * 7)).block, (ad177.add ((x14_5).toNat * 7)).off + 4, none⟩ = some (.int .i64 ((rd_T34 x4_1 x14_5).f1.f3)) ∧ w'.cell? ⟨(ad177.add ((x14_5).toNat * 7)).block, (ad177.add ((x14_5).toNat * 7)).off + 5, none⟩ = some (.int .i64 ((rd_T34 x4_1 x14_5).f1.f4)) ∧ w'.cell? ⟨(ad177.add ((x14_5).toNat * 7)).block, (ad177.add ((x14_5).toNat * 7)).off + 6, none⟩ = some (.string ((rd_T34 x4_1 x14_5).f2))) (ds := []) #[false, false, false, false, false, false, false, false, false, false, false, false, false, false, false, false, false, false, false, false, false, false, false, false, false, false, false, false, false, false, false, false, false, false] (by kernel_rfl) rfl rfl ⟨hx179_0, hx179_1, hx179_2, hx179_3, hx179_4, hx179_5, hx179_6⟩ (fun hHeld => ?_); refine with_tabW grapnelref18_Normal.tab35 grapnelref18_Normal.bits35 (fun HT_ HW_ => ?_)
                  generalize w70.drew = w77 at HO_4 HO_9 HB hx179_0 hx179_1 hx179_2 hx179_3 hx179_4 hx179_5 hx179_6 hHeld ⊢
                  refine pure_ (i := 0) (N := some 150) (v := ?_) (a' := ?_) #[true, false, false, false, false, false, false, false, false, false, false, false, false, false, false, false, false, false, false, false, false, false, false, false, false, false, false, false, false, false, false, false, false, false] rfl rfl (any_of HT_.out (by kernel_rfl)) (fun _ _ _ h => h) (Or.inl ⟨by rfl, ?_⟩) ?_ ?_
                  rotate_left; · intro w'; go_simp; with_reducible rfl
                  rotate_left; · simp only [Act.put, List.setIfInBounds_toArray, List.set_cons_zero, List.set_cons_succ, i64_w, i32_w]; rfl
                  refine pure_ (i := 1) (N := some 151) (v := ?_) (a' := ?_) #[true, true, false, false, false, false, false, false, false, false, false, false, false, false, false, false, false, false, false, false, false, false, false, false, false, false, false, false, false, false, false, false, false, false] rfl rfl (any_of HT_.out (by kernel_rfl)) (fun _ _ _ h => h) (Or.inl ⟨by rfl, ?_⟩) ?_ ?_
                  rotate_left; · intro w'; go_simp; with_reducible rfl
                  rotate_left; · simp only [Act.put, List.setIfInBounds_toArray, List.set_cons_zero, List.set_cons_succ, i64_w, i32_w]; rfl
                  refine pure_ (i := 2) (N := some 152) (v := ?_) (a' := ?_) #[true, true, true, false, false, false, false, false, false, false, false, false, false, false, false, false, false, false, false, false, false, false, false, false, false, false, false, false, false, false, false, false, false, false] rfl rfl (any_of HT_.out (by kernel_rfl)) (fun _ _ _ h => h) (Or.inl ⟨by rfl, ?_⟩) ?_ ?_
                  rotate_left; · intro w'; go_simp; with_reducible rfl
                  rotate_left; · simp only [Act.put, List.setIfInBounds_toArray, List.set_cons_zero, List.set_cons_succ, i64_w, i32_w]; rfl
                  refine pure_ (i := 3) (N := some 153) (v := ?_) (a' := ?_) #[true, true, true, true, false, false, false, false, false, false, false, false, false, false, false, false, false, false, false, false, false, false, false, false, false, false, false, false, false, false, false, false, false, false] rfl rfl (any_of HT_.out (by kernel_rfl)) (fun _ _ _ h => h) (Or.inl ⟨by rfl, ?_⟩) ?_ ?_
                  rotate_left; · intro w'; go_simp; with_reducible rfl
                  rotate_left; · simp only [Act.put, List.setIfInBounds_toArray, List.set_cons_zero, List.set_cons_succ, i64_w, i32_w]; rfl
                  refine pure_ (i := 4) (N := some 154) (v := ?_) (a' := ?_) #[true, true, true, true, true, false, false, false, false, false, false, false, false, false, false, false, false, false, false, false, false, false, false, false, false, false, false, false, false, false, false, false, false, false] rfl rfl (any_of HT_.out (by kernel_rfl)) (fun _ _ _ h => h) (Or.inl ⟨by rfl, ?_⟩) ?_ ?_
                  rotate_left; · intro w'; go_simp; with_reducible rfl
                  rotate_left; · simp only [Act.put, List.setIfInBounds_toArray, List.set_cons_zero, List.set_cons_succ, i64_w, i32_w]; rfl
                  refine pure_ (i := 5) (N := some 155) (v := ?_) (a' := ?_) #[true, true, true, true, true, true, false, false, false, false, false, false, false, false, false, false, false, false, false, false, false, false, false, false, false, false, false, false, false, false, false, false, false, false] rfl rfl (any_of HT_.out (by kernel_rfl)) (fun _ _ _ h => h) (Or.inl ⟨by rfl, ?_⟩) ?_ ?_
                  rotate_left; · intro w'; go_simp; with_reducible rfl
                  rotate_left; · simp only [Act.put, List.setIfInBounds_toArray, List.set_cons_zero, List.set_cons_succ, i64_w, i32_w]; rfl
                  refine pure_ (i := 6) (N := some 156) (v := ?_) (a' := ?_) #[true, true, true, true, true, true, true, false, false, false, false, false, false, false, false, false, false, false, false, false, false, false, false, false, false, false, false, false, false, false, false, false, false, false] rfl rfl (any_of HT_.out (by kernel_rfl)) (fun _ _ _ h => h) (Or.inl ⟨by rfl, ?_⟩) ?_ ?_
                  rotate_left; · intro w'; go_simp; with_reducible rfl
                  rotate_left; · simp only [Act.put, List.setIfInBounds_toArray, List.set_cons_zero, List.set_cons_succ, i64_w, i32_w]; rfl
                  refine pure_ (i := 7) (N := some 157) (v := ?_) (a' := ?_) #[true, true, true, true, true, true, true, true, false, false, false, false, false, false, false, false, false, false, false, false, false, false, false, false, false, false, false, false, false, false, false, false, false, false] rfl rfl (any_of HT_.out (by kernel_rfl)) (fun _ _ _ h => h) (Or.inl ⟨by rfl, ?_⟩) ?_ ?_
                  rotate_left; · intro w'; go_simp; with_reducible rfl
                  rotate_left; · simp only [Act.put, List.setIfInBounds_toArray, List.set_cons_zero, List.set_cons_succ, i64_w, i32_w]; rfl
                  refine pure_ (i := 8) (N := some 158) (v := ?_) (a' := ?_) #[true, true, true, true, true, true, true, true, true, false, false, false, false, false, false, false, false, false, false, false, false, false, false, false, false, false, false, false, false, false, false, false, false, false] rfl rfl (any_of HT_.out (by kernel_rfl)) (fun _ _ _ h => h) (Or.inl ⟨by rfl, ?_⟩) ?_ ?_
                  rotate_left; · intro w'; go_simp; with_reducible rfl
                  rotate_left; · simp only [Act.put, List.setIfInBounds_toArray, List.set_cons_zero, List.set_cons_succ, i64_w, i32_w]; rfl
                  refine take_ (i := 9) (N := some 159) (v := ?_) (a' := ?_) #[true, true, true, true, true, true, true, true, true, true, false, false, false, false, false, false, false, false, false, false, false, false, false, false, false, false, false, false, false, false, false, false, false, false] rfl rfl (take_ofW HT_.out HW_.out (by kernel_rfl)) (fun _ _ _ h => h) (Or.inl ⟨by rfl, ?_⟩) hHeld ?_ ?_
                  rotate_left
                  ·
                   rintro w' ⟨s0, s1, s2, s3, s4, s5, s6⟩
                   go_simp
                   with_reducible rfl
                  rotate_left; · simp only [Act.put, List.setIfInBounds_toArray, List.set_cons_zero, List.set_cons_succ, i64_w, i32_w]; rfl
                  refine pure_ (i := 10) (N := some 160) (v := ?_) (a' := ?_) #[true, true, true, true, true, true, true, true, true, true, true, false, false, false, false, false, false, false, false, false, false, false, false, false, false, false, false, false, false, false, false, false, false, false] rfl rfl (any_of HT_.out (by kernel_rfl)) (fun _ _ _ h => h) (Or.inl ⟨by rfl, ?_⟩) ?_ ?_
                  rotate_left; · intro w'; go_simp; with_reducible rfl
                  rotate_left; · simp only [Act.put, List.setIfInBounds_toArray, List.set_cons_zero, List.set_cons_succ, i64_w, i32_w]; rfl
                  refine pure_ (i := 11) (N := some 161) (v := ?_) (a' := ?_) #[true, true, true, true, true, true, true, true, true, true, true, true, false, false, false, false, false, false, false, false, false, false, false, false, false, false, false, false, false, false, false, false, false, false] rfl rfl (any_of HT_.out (by kernel_rfl)) (fun _ _ _ h => h) (Or.inl ⟨by rfl, ?_⟩) ?_ ?_
                  rotate_left; · intro w'; go_simp; with_reducible rfl
                  rotate_left; · simp only [Act.put, List.setIfInBounds_toArray, List.set_cons_zero, List.set_cons_succ, i64_w, i32_w]; rfl
                  refine pure_ (i := 12) (N := some 162) (v := undef) (a' := ?_) #[true, true, true, true, true, true, true, true, true, true, true, true, true, false, false, false, false, false, false, false, false, false, false, false, false, false, false, false, false, false, false, false, false, false] rfl rfl (any_of HT_.out (by kernel_rfl)) (fun _ _ _ h => h) (Or.inr ⟨by rfl, rfl⟩) ?_ ?_
                  rotate_left; · simp only [Act.put, List.setIfInBounds_toArray, List.set_cons_zero, List.set_cons_succ, i64_w, i32_w]; rfl
                  refine pure_ (i := 13) (N := some 163) (v := undef) (a' := ?_) #[true, true, true, true, true, true, true, true, true, true, true, true, true, true, false, false, false, false, false, false, false, false, false, false, false, false, false, false, false, false, false, false, false, false] rfl rfl (any_of HT_.out (by kernel_rfl)) (fun _ _ _ h => h) (Or.inr ⟨by rfl, rfl⟩) ?_ ?_
                  rotate_left; · simp only [Act.put, List.setIfInBounds_toArray, List.set_cons_zero, List.set_cons_succ, i64_w, i32_w]; rfl
                  refine pure_ (i := 14) (N := some 164) (v := undef) (a' := ?_) #[true, true, true, true, true, true, true, true, true, true, true, true, true, true, true, false, false, false, false, false, false, false, false, false, false, false, false, false, false, false, false, false, false, false] rfl rfl (any_of HT_.out (by kernel_rfl)) (fun _ _ _ h => h) (Or.inr ⟨by rfl, rfl⟩) ?_ ?_
                  rotate_left; · simp only [Act.put, List.setIfInBounds_toArray, List.set_cons_zero, List.set_cons_succ, i64_w, i32_w]; rfl
                  refine pure_ (i := 15) (N := some 165) (v := undef) (a' := ?_) #[true, true, true, true, true, true, true, true, true, true, true, true, true, true, true, true, false, false, false, false, false, false, false, false, false, false, false, false, false, false, false, false, false, false] rfl rfl (any_of HT_.out (by kernel_rfl)) (fun _ _ _ h => h) (Or.inr ⟨by rfl, rfl⟩) ?_ ?_
                  rotate_left; · simp only [Act.put, List.setIfInBounds_toArray, List.set_cons_zero, List.set_cons_succ, i64_w, i32_w]; rfl
                  refine pure_ (i := 16) (N := some 166) (v := undef) (a' := ?_) #[true, true, true, true, true, true, true, true, true, true, true, true, true, true, true, true, true, false, false, false, false, false, false, false, false, false, false, false, false, false, false, false, false, false] rfl rfl (any_of HT_.out (by kernel_rfl)) (fun _ _ _ h => h) (Or.inr ⟨by rfl, rfl⟩) ?_ ?_
                  rotate_left; · simp only [Act.put, List.setIfInBounds_toArray, List.set_cons_zero, List.set_cons_succ, i64_w, i32_w]; rfl
                  refine pure_ (i := 17) (N := some 167) (v := undef) (a' := ?_) #[true, true, true, true, true, true, true, true, true, true, true, true, true, true, true, true, true, true, false, false, false, false, false, false, false, false, false, false, false, false, false, false, false, false] rfl rfl (any_of HT_.out (by kernel_rfl)) (fun _ _ _ h => h) (Or.inr ⟨by rfl, rfl⟩) ?_ ?_
                  rotate_left; · simp only [Act.put, List.setIfInBounds_toArray, List.set_cons_zero, List.set_cons_succ, i64_w, i32_w]; rfl
                  refine pure_ (i := 18) (N := some 168) (v := undef) (a' := ?_) #[true, true, true, true, true, true, true, true, true, true, true, true, true, true, true, true, true, true, true, false, false, false, false, false, false, false, false, false, false, false, false, false, false, false] rfl rfl (any_of HT_.out (by kernel_rfl)) (fun _ _ _ h => h) (Or.inr ⟨by rfl, rfl⟩) ?_ ?_
                  rotate_left; · simp only [Act.put, List.setIfInBounds_toArray, List.set_cons_zero, List.set_cons_succ, i64_w, i32_w]; rfl
                  refine pure_ (i := 19) (N := some 169) (v := ?_) (a' := ?_) #[true, true, true, true, true, true, true, true, true, true, true, true, true, true, true, true, true, true, true, true, false, false, false, false, false, false, false, false, false, false, false, false, false, false] rfl rfl (any_of HT_.out (by kernel_rfl)) (fun _ _ _ h => h) (Or.inl ⟨by rfl, ?_⟩) ?_ ?_
                  rotate_left; · intro w'; go_simp; with_reducible rfl
                  rotate_left; · simp only [Act.put, List.setIfInBounds_toArray, List.set_cons_zero, List.set_cons_succ, i64_w, i32_w]; rfl
                  refine pure_ (i := 20) (N := some 170) (v := ?_) (a' := ?_) #[true, true, true, true, true, true, true, true, true, true, true, true, true, true, true, true, true, true, true, true, true, false, false, false, false, false, false, false, false, false, false, false, false, false] rfl rfl (any_of HT_.out (by kernel_rfl)) (fun _ _ _ h => h) (Or.inl ⟨by rfl, ?_⟩) ?_ ?_
                  rotate_left; · intro w'; go_simp; with_reducible rfl
                  rotate_left; · simp only [Act.put, List.setIfInBounds_toArray, List.set_cons_zero, List.set_cons_succ, i64_w, i32_w]; rfl
                  refine pure_ (i := 21) (N := some 171) (v := undef) (a' := ?_) #[true, true, true, true, true, true, true, true, true, true, true, true, true, true, true, true, true, true, true, true, true, true, false, false, false, false, false, false, false, false, false, false, false, false] rfl rfl (any_of HT_.out (by kernel_rfl)) (fun _ _ _ h => h) (Or.inr ⟨by rfl, rfl⟩) ?_ ?_
                  rotate_left; · simp only [Act.put, List.setIfInBounds_toArray, List.set_cons_zero, List.set_cons_succ, i64_w, i32_w]; rfl
                  refine pure_ (i := 22) (N := some 172) (v := undef) (a' := ?_) #[true, true, true, true, true, true, true, true, true, true, true, true, true, true, true, true, true, true, true, true, true, true, true, false, false, false, false, false, false, false, false, false, false, false] rfl rfl (any_of HT_.out (by kernel_rfl)) (fun _ _ _ h => h) (Or.inr ⟨by rfl, rfl⟩) ?_ ?_
                  rotate_left; · simp only [Act.put, List.setIfInBounds_toArray, List.set_cons_zero, List.set_cons_succ, i64_w, i32_w]; rfl
                  refine pure_ (i := 23) (N := some 173) (v := undef) (a' := ?_) #[true, true, true, true, true, true, true, true, true, true, true, true, true, true, true, true, true, true, true, true, true, true, true, true, false, false, false, false, false, false, false, false, false, false] rfl rfl (any_of HT_.out (by kernel_rfl)) (fun _ _ _ h => h) (Or.inr ⟨by rfl, rfl⟩) ?_ ?_
                  rotate_left; · simp only [Act.put, List.setIfInBounds_toArray, List.set_cons_zero, List.set_cons_succ, i64_w, i32_w]; rfl
                  refine pure_ (i := 24) (N := some 174) (v := undef) (a' := ?_) #[true, true, true, true, true, true, true, true, true, true, true, true, true, true, true, true, true, true, true, true, true, true, true, true, true, false, false, false, false, false, false, false, false, false] rfl rfl (any_of HT_.out (by kernel_rfl)) (fun _ _ _ h => h) (Or.inr ⟨by rfl, rfl⟩) ?_ ?_
                  rotate_left; · simp only [Act.put, List.setIfInBounds_toArray, List.set_cons_zero, List.set_cons_succ, i64_w, i32_w]; rfl
                  refine pure_ (i := 25) (N := some 175) (v := undef) (a' := ?_) #[true, true, true, true, true, true, true, true, true, true, true, true, true, true, true, true, true, true, true, true, true, true, true, true, true, true, false, false, false, false, false, false, false, false] rfl rfl (any_of HT_.out (by kernel_rfl)) (fun _ _ _ h => h) (Or.inr ⟨by rfl, rfl⟩) ?_ ?_
                  rotate_left; · simp only [Act.put, List.setIfInBounds_toArray, List.set_cons_zero, List.set_cons_succ, i64_w, i32_w]; rfl
                  refine pure_ (i := 26) (N := some 176) (v := undef) (a' := ?_) #[true, true, true, true, true, true, true, true, true, true, true, true, true, true, true, true, true, true, true, true, true, true, true, true, true, true, true, false, false, false, false, false, false, false] rfl rfl (any_of HT_.out (by kernel_rfl)) (fun _ _ _ h => h) (Or.inr ⟨by rfl, rfl⟩) ?_ ?_
                  rotate_left; · simp only [Act.put, List.setIfInBounds_toArray, List.set_cons_zero, List.set_cons_succ, i64_w, i32_w]; rfl
                  refine pure_ (i := 27) (N := some 177) (v := undef) (a' := ?_) #[true, true, true, true, true, true, true, true, true, true, true, true, true, true, true, true, true, true, true, true, true, true, true, true, true, true, true, true, false, false, false, false, false, false] rfl rfl (any_of HT_.out (by kernel_rfl)) (fun _ _ _ h => h) (Or.inr ⟨by rfl, rfl⟩) ?_ ?_
                  rotate_left; · simp only [Act.put, List.setIfInBounds_toArray, List.set_cons_zero, List.set_cons_succ, i64_w, i32_w]; rfl
                  refine pure_ (i := 28) (N := some 178) (v := undef) (a' := ?_) #[true, true, true, true, true, true, true, true, true, true, true, true, true, true, true, true, true, true, true, true, true, true, true, true, true, true, true, true, true, false, false, false, false, false] rfl rfl (any_of HT_.out (by kernel_rfl)) (fun _ _ _ h => h) (Or.inr ⟨by rfl, rfl⟩) ?_ ?_
                  rotate_left; · simp only [Act.put, List.setIfInBounds_toArray, List.set_cons_zero, List.set_cons_succ, i64_w, i32_w]; rfl
                  refine pure_ (i := 29) (N := some 179) (v := undef) (a' := ?_) #[true, true, true, true, true, true, true, true, true, true, true, true, true, true, true, true, true, true, true, true, true, true, true, true, true, true, true, true, true, true, false, false, false, false] rfl rfl (any_of HT_.out (by kernel_rfl)) (fun _ _ _ h => h) (Or.inr ⟨by rfl, rfl⟩) ?_ ?_
                  rotate_left; · simp only [Act.put, List.setIfInBounds_toArray, List.set_cons_zero, List.set_cons_succ, i64_w, i32_w]; rfl
                  refine pure_ (i := 30) (N := some 180) (v := undef) (a' := ?_) #[true, true, true, true, true, true, true, true, true, true, true, true, true, true, true, true, true, true, true, true, true, true, true, true, true, true, true, true, true, true, true, false, false, false] rfl rfl (any_of HT_.out (by kernel_rfl)) (fun _ _ _ h => h) (Or.inr ⟨by rfl, rfl⟩) ?_ ?_
                  rotate_left; · simp only [Act.put, List.setIfInBounds_toArray, List.set_cons_zero, List.set_cons_succ, i64_w, i32_w]; rfl
                  refine pure_ (i := 31) (N := some 181) (v := undef) (a' := ?_) #[true, true, true, true, true, true, true, true, true, true, true, true, true, true, true, true, true, true, true, true, true, true, true, true, true, true, true, true, true, true, true, true, false, false] rfl rfl (any_of HT_.out (by kernel_rfl)) (fun _ _ _ h => h) (Or.inr ⟨by rfl, rfl⟩) ?_ ?_
                  rotate_left; · simp only [Act.put, List.setIfInBounds_toArray, List.set_cons_zero, List.set_cons_succ, i64_w, i32_w]; rfl
                  refine pure_ (i := 32) (N := some 182) (v := ?_) (a' := ?_) #[true, true, true, true, true, true, true, true, true, true, true, true, true, true, true, true, true, true, true, true, true, true, true, true, true, true, true, true, true, true, true, true, true, false] rfl rfl (any_of HT_.out (by kernel_rfl)) (fun _ _ _ h => h) (Or.inl ⟨by rfl, ?_⟩) ?_ ?_
                  rotate_left; · intro w'; go_simp; with_reducible rfl
                  rotate_left; · simp only [Act.put, List.setIfInBounds_toArray, List.set_cons_zero, List.set_cons_succ, i64_w, i32_w]; rfl
                  refine pure_ (i := 33) (N := some 183) (v := ?_) (a' := ?_) #[true, true, true, true, true, true, true, true, true, true, true, true, true, true, true, true, true, true, true, true, true, true, true, true, true, true, true, true, true, true, true, true, true, true] rfl rfl (any_of HT_.out (by kernel_rfl)) (fun _ _ _ h => h) (Or.inl ⟨by rfl, ?_⟩) ?_ ?_
                  rotate_left; · intro w'; go_simp; with_reducible rfl
                  rotate_left; · simp only [Act.put, List.setIfInBounds_toArray, List.set_cons_zero, List.set_cons_succ, i64_w, i32_w]; rfl
                  refine done_ (done_of HT_.out (by kernel_rfl)) ?_
                  try go_wp2
                  go_meet
                  case rel => exact ⟨_, (true), (by first | rfl | (simp; done) | (simp [*]; done)), H', ⟨by have := HK1.out; have := HJ40.out; have := HK3.out; have := HJ54.out; have := HK5.out; first | omega | exact Nat.le_refl _⟩, ⟨by (with_reducible repeat (first | apply Kd.R_alloc | apply Kd.R_drewN | apply Kd.R_drew)); exact HO_4.out⟩, ⟨by (with_reducible repeat (first | apply Kd.R_alloc | apply Kd.R_drewN | apply Kd.R_drew)); exact HO_9.out⟩, ⟨by repeat (first | (with_reducible first | exact HB.out | apply below_alloc | apply pw_below_drewN | apply below_drew1) | exact HB.out)⟩⟩
               case rest =>
                clear HC69; try clear p1; try clear q1; try clear hx1; try clear p2; try clear c7; try clear p17; try clear q17; try clear hx17; try clear p18; try clear q18; try clear hx18; try clear c73; try clear c73b0; try clear c73b1; try clear c74; try clear c74b0; try clear c74b1; try clear hx179_0; try clear hx179_1; try clear hx179_2; try clear hx179_3; try clear hx179_4; try clear hx179_5; try clear hx179_6; try clear hx180_0; try clear hx180_1; try clear hx180_2; try clear hx180_3; try clear hx180_4; try clear hx180_5; try clear hx180_6; try clear p179; try clear p180; try clear q179; try clear q180
                obtain ⟨kq, x183_68, rfl, HA, HJ68, HO_4, HO_9, HB⟩ := hcut
                cases kq with
                | zero => exact absurd HA.out (by simp [grapnelref18_Normal.j7])
                | succ kj68 =>
                 have H := HA.out
                 clear HA
                 simp only [grapnelref18_Normal.j7] at H
                 by_cases c78 : x183_68 = true
                 ·
                  subst c78
                  have H1 : (some (([] : List (S34)), 5)) = some (r1, r2) := by rw [if_pos rfl] at H; exact H
                  clear H
                  have H := H1
                  clear H1
                  simp only [Option.some.injEq, Prod.mk.injEq] at H
                  obtain ⟨rfl, rfl⟩ := H
                  go_wp2
                  go_ret2
                  exact ⟨_, by first | rfl | (simp [errW_none, errW_some] <;> rfl) | (simp [*, errW_none, errW_some] <;> rfl), by first | exact Kd.R_nil _ _ _ _ _ | exact Kd.N_nil _ _ _ _ _ | exact Kd.V_nil _ _ _ _ _ | exact Kd.Q_nil _ _ _ _ _ | exact Kd.S_nil _ _ _ _ _, by repeat (first | (with_reducible first | exact HB.out | apply below_alloc | apply pw_below_drewN | apply below_drew1) | exact HB.out)⟩
                 ·
                  replace c78 := Bool.eq_false_iff.mpr c78
                  subst c78
                  have H1 : (if x12_5 < 0 then (grapnelref18_Normal.l3 kj68 x4_1 x9_3 x10_3 x14_5 (wrap64 (x13_5 + 1)) (wrap64 (x14_5 + 1))) else (grapnelref18_Normal.l3 kj68 x4_1 x9_3 x10_3 x12_5 (wrap64 (x13_5 + 1)) (wrap64 (x14_5 + 1)))) = some (r1, r2) := by rw [if_neg (show ¬ (false = true) by decide)] at H; exact H
                  clear H
                  have H := H1
                  clear H1
                  by_cases c79 : x12_5 < 0
                  ·
                   rw [if_pos c79] at H
                   have c79b0 : decide (x12_5 < 0) = true := decide_eq_true c79
                   clear c79
                   have H' := Aside0.mk H
                   clear H
                   go_wp2
                   go_roundg kj68
                   case measure => have := HK1.out; have := HJ40.out; have := HK3.out; have := HJ54.out; have := HK5.out; have := HJ68.out; omega
                   case rel => exact ⟨(x14_5), (wrap64 (x13_5 + 1)), (wrap64 (x14_5 + 1)), (by first | rfl | (simp; done) | (simp [*]; done)), (by first | rfl | (simp; done) | (simp [*]; done)), (by first | rfl | (simp; done) | (simp [*]; done)), H', ⟨by have := HK1.out; have := HJ40.out; have := HK3.out; have := HJ54.out; have := HK5.out; have := HJ68.out; omega⟩, ⟨by (with_reducible repeat (first | apply Kd.R_alloc | apply Kd.R_drewN | apply Kd.R_drew)); exact HO_4.out⟩, ⟨by (with_reducible repeat (first | apply Kd.R_alloc | apply Kd.R_drewN | apply Kd.R_drew)); exact HO_9.out⟩, ⟨by repeat (first | (with_reducible first | exact HB.out | apply below_alloc | apply pw_below_drewN | apply below_drew1) | exact HB.out)⟩⟩
                  ·
                   rw [if_neg c79] at H
                   have c79b0 : decide (x12_5 < 0) = false := decide_eq_false c79
                   clear c79
                   have H' := Aside0.mk H
                   clear H
                   go_wp2
                   go_roundg kj68
                   case measure => have := HK1.out; have := HJ40.out; have := HK3.out; have := HJ54.out; have := HK5.out; have := HJ68.out; omega
                   case rel => exact ⟨(x12_5), (wrap64 (x13_5 + 1)), (wrap64 (x14_5 + 1)), (by first | rfl | (simp; done) | (simp [*]; done)), (by first | rfl | (simp; done) | (simp [*]; done)), (by first | rfl | (simp; done) | (simp [*]; done)), H', ⟨by have := HK1.out; have := HJ40.out; have := HK3.out; have := HJ54.out; have := HK5.out; have := HJ68.out; omega⟩, ⟨by (with_reducible repeat (first | apply Kd.R_alloc | apply Kd.R_drewN | apply Kd.R_drew)); exact HO_4.out⟩, ⟨by (with_reducible repeat (first | apply Kd.R_alloc | apply Kd.R_drewN | apply Kd.R_drew)); exact HO_9.out⟩, ⟨by repeat (first | (with_reducible first | exact HB.out | apply below_alloc | apply pw_below_drewN | apply below_drew1) | exact HB.out)⟩⟩
              ·
               rw [if_neg c68] at H
               have c68b0 : (((rd_T34 x4_1 x14_5).f1.f0) == ((rd_T34 x4_1 x10_3).f1.f0)) = false := beq_eq_false_iff_ne.mpr c68
               have c68b1 : (((rd_T34 x4_1 x14_5).f1.f0) != ((rd_T34 x4_1 x10_3).f1.f0)) = true := bne_iff_ne.mpr c68
               have H' := Aside0.mk H
               clear H
               try go_wp2
               have n0_ := Aside0.mk (Kd.R_drew HO_4.out)
               have n1_ := Aside0.mk (Kd.R_drew HO_9.out)
               have n2_ := Aside0.mk (below_drew1 HB.out)
               clear HO_4; clear HO_9; clear HB
               have HO_4 := n0_
               have HO_9 := n1_
               have HB := n2_
               clear n0_ n1_ n2_
               have p177 : 0 ≤ (x14_5 : Int) := of_decide_eq_true (by first | (with_reducible assumption) | assumption)
               have q177 : x14_5 < (x4_1.length : Int) := of_decide_eq_true (by first | (with_reducible assumption) | assumption)
               obtain ⟨ad177, e177, hx177_0, hx177_1, hx177_2, hx177_3, hx177_4, hx177_5, hx177_6⟩ := at_T34 (Kd.R_reads' HO_4.out).2.2 x14_5 p177 q177
               cases e177
               replace p177 := eq_true p177
               replace q177 := eq_true q177
               have p178 : 0 ≤ (x10_3 : Int) := of_decide_eq_true (by first | (with_reducible assumption) | assumption)
               have q178 : x10_3 < (x4_1.length : Int) := of_decide_eq_true (by first | (with_reducible assumption) | assumption)
               obtain ⟨ad178, e178, hx178_0, hx178_1, hx178_2, hx178_3, hx178_4, hx178_5, hx178_6⟩ := at_T34 (Kd.R_reads' HO_4.out).2.2 x10_3 p178 q178
               obtain rfl : ad177 = ad178 := (by injection e178)
               replace p178 := eq_true p178
               replace q178 := eq_true q178
               refine start_ (n := 13) (S := fun w' => w'.cell? (ad177.add ((x14_5).toNat * 7)) = some (.string ((rd_T34 x4_1 x14_5).f0)) ∧ w'.cell? ⟨(ad177.add ((x14_5).toNat * 7)).block, (ad177.add ((x14_5).toNat * 7)).off + 1, none⟩ = some (.int .i64 ((rd_T34 x4_1 x14_5).f1.f0)) ∧ w'.cell? ⟨(ad177.add ((x14_5).toNat * 7)).block, (ad177.add ((x14_5).toNat * 7)).off + 2, none⟩ = some (.int .i64 ((rd_T34 x4_1 x14_5).f1.f1)) ∧ w'.cell? ⟨(ad177.add ((x14_5).toNat * 7)).block, (ad177.add ((x14_5).toNat * 7)).off + 3, none⟩ = some (.int .i64 ((rd_T34 x4_1 x14_5).f1.f2)) ∧ w'.cell? ⟨(ad177.add ((x14_5).toNat * 7)).block, (ad177.add ((x14_5).toNat * 7)).off + 4, none⟩ = some (.int .i64 ((rd_T34 x4_1 x14_5).f1.f3)) ∧ w'.cell? ⟨(ad177.add ((x14_5).toNat * 7)).block, (ad177.add ((x14_5).toNat * 7)).off + 5, none⟩ = some (.int .i64 ((rd_T34 x4_1 x14_5).f1.f4)) ∧ w'.cell? ⟨(ad177.add ((x14_5).toNat * 7)).block, (ad177.add ((x14_5).toNat * 7)).off + 6, none⟩ = some (.string ((rd_T34 x4_1 x14_5).f2)) ∧ w'.cell? (ad177.add ((x10_3).toNat * 7)) = some (.string ((rd_T34 x4_1 x10_3).f0)) ∧ w'.cell? ⟨(ad177.add ((x10_3).toNat * 7)).block, (ad177.add ((x10_3).toNat * 7)).off + 1, none⟩ = some (.int .i64 ((rd_T34 x4_1 x10_3).f1.f0)) ∧ w'.cell? ⟨(ad177.add ((x10_3).toNat * 7)).block, (ad177.add ((x10_3).toNat * 7)).off + 2, none⟩ = some (.int .i64 ((rd_T34 x4_1 x10_3).f1.f1)) ∧ w'.cell? ⟨(ad177.add ((x10_3).toNat * 7)).block, (ad177.add ((x10_3).toNat * 7)).off + 3, none⟩ = some (.int .i64 ((rd_T34 x4_1 x10_3).f1.f2)) ∧ w'.cell? ⟨(ad177.add ((x10_3).toNat * 7)).block, (ad177.add ((x10_3).toNat * 7)).off + 4, none⟩ = some (.int .i64 ((rd_T34 x4_1 x10_3).f1.f3)) ∧ w'.cell? ⟨(ad177.add ((x10_3).toNat * 7)).block, (ad177.add ((x10_3).toNat * 7)).off + 5, none⟩ = some (.int .i64 ((rd_T34 x4_1 x10_3).f1.f4)) ∧ w'.cell? ⟨(ad177.add ((x10_3).toNat * 7)).block, (ad177.add ((x10_3).toNat * 7)).off + 6, none⟩ = some (.string ((rd_T34 x4_1 x10_3).f2))) (ds := []) #[false, false, false, false, false, false, false, false, false, false, false, false, false] (by kernel_rfl) rfl rfl ⟨hx177_0, hx177_1, hx177_2, hx177_3, hx177_4, hx177_5, hx177_6, hx178_0, hx178_1, hx178_2, hx178_3, hx178_4, hx178_5, hx178_6⟩ (fun hHeld => ?_); refine with_tabW grapnelref18_Normal.tab34 grapnelref18_Normal.bits34 (fun HT_ HW_ => ?_)
               generalize wr.drew = w80 at HO_4 HO_9 HB hx177_0 hx177_1 hx177_2 hx177_3 hx177_4 hx177_5 hx177_6 hx178_0 hx178_1 hx178_2 hx178_3 hx178_4 hx178_5 hx178_6 hHeld ⊢
               refine pure_ (i := 0) (N := some 137) (v := ?_) (a' := ?_) #[true, false, false, false, false, false, false, false, false, false, false, false, false] rfl rfl (any_of HT_.out (by kernel_rfl)) (fun _ _ _ h => h) (Or.inl ⟨by rfl, ?_⟩) ?_ ?_
               rotate_left; · intro w'; go_simp; with_reducible rfl
               rotate_left; · simp only [Act.put, List.setIfInBounds_toArray, List.set_cons_zero, List.set_cons_succ, i64_w, i32_w]; rfl
               refine pure_ (i := 1) (N := some 138) (v := ?_) (a' := ?_) #[true, true, false, false, false, false, false, false, false, false, false, false, false] rfl rfl (any_of HT_.out (by kernel_rfl)) (fun _ _ _ h => h) (Or.inl ⟨by rfl, ?_⟩) ?_ ?_
               rotate_left; · intro w'; go_simp; with_reducible rfl
               rotate_left; · simp only [Act.put, List.setIfInBounds_toArray, List.set_cons_zero, List.set_cons_succ, i64_w, i32_w]; rfl
               refine pure_ (i := 2) (N := some 139) (v := ?_) (a' := ?_) #[true, true, true, false, false, false, false, false, false, false, false, false, false] rfl rfl (any_of HT_.out (by kernel_rfl)) (fun _ _ _ h => h) (Or.inl ⟨by rfl, ?_⟩) ?_ ?_
               rotate_left; · intro w'; go_simp; with_reducible rfl
               rotate_left; · simp only [Act.put, List.setIfInBounds_toArray, List.set_cons_zero, List.set_cons_succ, i64_w, i32_w]; rfl
               refine pure_ (i := 3) (N := some 140) (v := ?_) (a' := ?_) #[true, true, true, true, false, false, false, false, false, false, false, false, false] rfl rfl (any_of HT_.out (by kernel_rfl)) (fun _ _ _ h => h) (Or.inl ⟨by rfl, ?_⟩) ?_ ?_
               rotate_left; · intro w'; go_simp; with_reducible rfl
               rotate_left; · simp only [Act.put, List.setIfInBounds_toArray, List.set_cons_zero, List.set_cons_succ, i64_w, i32_w]; rfl
               refine pure_ (i := 4) (N := some 141) (v := ?_) (a' := ?_) #[true, true, true, true, true, false, false, false, false, false, false, false, false] rfl rfl (any_of HT_.out (by kernel_rfl)) (fun _ _ _ h => h) (Or.inl ⟨by rfl, ?_⟩) ?_ ?_
               rotate_left; · intro w'; go_simp; with_reducible rfl
               rotate_left; · simp only [Act.put, List.setIfInBounds_toArray, List.set_cons_zero, List.set_cons_succ, i64_w, i32_w]; rfl
               refine pure_ (i := 6) (N := some 143) (v := ?_) (a' := ?_) #[true, true, true, true, true, false, true, false, false, false, false, false, false] rfl rfl (any_of HT_.out (by kernel_rfl)) (fun _ _ _ h => h) (Or.inl ⟨by rfl, ?_⟩) ?_ ?_
               rotate_left; · intro w'; go_simp; with_reducible rfl
               rotate_left; · simp only [Act.put, List.setIfInBounds_toArray, List.set_cons_zero, List.set_cons_succ, i64_w, i32_w]; rfl
               refine pure_ (i := 7) (N := some 144) (v := ?_) (a' := ?_) #[true, true, true, true, true, false, true, true, false, false, false, false, false] rfl rfl (any_of HT_.out (by kernel_rfl)) (fun _ _ _ h => h) (Or.inl ⟨by rfl, ?_⟩) ?_ ?_
               rotate_left; · intro w'; go_simp; with_reducible rfl
               rotate_left; · simp only [Act.put, List.setIfInBounds_toArray, List.set_cons_zero, List.set_cons_succ, i64_w, i32_w]; rfl
               refine pure_ (i := 8) (N := some 145) (v := ?_) (a' := ?_) #[true, true, true, true, true, false, true, true, true, false, false, false, false] rfl rfl (any_of HT_.out (by kernel_rfl)) (fun _ _ _ h => h) (Or.inl ⟨by rfl, ?_⟩) ?_ ?_
               rotate_left; · intro w'; go_simp; with_reducible rfl
               rotate_left; · simp only [Act.put, List.setIfInBounds_toArray, List.set_cons_zero, List.set_cons_succ, i64_w, i32_w]; rfl
               refine pure_ (i := 9) (N := some 146) (v := ?_) (a' := ?_) #[true, true, true, true, true, false, true, true, true, true, false, false, false] rfl rfl (any_of HT_.out (by kernel_rfl)) (fun _ _ _ h => h) (Or.inl ⟨by rfl, ?_⟩) ?_ ?_
               rotate_left; · intro w'; go_simp; with_reducible rfl
               rotate_left; · simp only [Act.put, List.setIfInBounds_toArray, List.set_cons_zero, List.set_cons_succ, i64_w, i32_w]; rfl
               refine pure_ (i := 10) (N := some 147) (v := ?_) (a' := ?_) #[true, true, true, true, true, false, true, true, true, true, true, false, false] rfl rfl (any_of HT_.out (by kernel_rfl)) (fun _ _ _ h => h) (Or.inl ⟨by rfl, ?_⟩) ?_ ?_
               rotate_left; · intro w'; go_simp; with_reducible rfl
               rotate_left; · simp only [Act.put, List.setIfInBounds_toArray, List.set_cons_zero, List.set_cons_succ, i64_w, i32_w]; rfl
               refine take_ (i := 5) (N := some 142) (v := ?_) (a' := ?_) #[true, true, true, true, true, true, true, true, true, true, true, false, false] rfl rfl (take_ofW HT_.out HW_.out (by kernel_rfl)) (fun _ _ _ h => h) (Or.inl ⟨by rfl, ?_⟩) hHeld ?_ ?_
               rotate_left
               ·
                rintro w' ⟨s0, s1, s2, s3, s4, s5, s6, s7, s8, s9, s10, s11, s12, s13⟩
                go_simp
                with_reducible rfl
               rotate_left; · simp only [Act.put, List.setIfInBounds_toArray, List.set_cons_zero, List.set_cons_succ, i64_w, i32_w]; rfl
               refine take_ (i := 11) (N := some 148) (v := ?_) (a' := ?_) #[true, true, true, true, true, true, true, true, true, true, true, true, false] rfl rfl (take_ofW HT_.out HW_.out (by kernel_rfl)) (fun _ _ _ h => h) (Or.inl ⟨by rfl, ?_⟩) hHeld ?_ ?_
               rotate_left
               ·
                rintro w' ⟨s0, s1, s2, s3, s4, s5, s6, s7, s8, s9, s10, s11, s12, s13⟩
                go_simp
                with_reducible rfl
               rotate_left; · simp only [Act.put, List.setIfInBounds_toArray, List.set_cons_zero, List.set_cons_succ, i64_w, i32_w]; rfl
               refine pure_ (i := 12) (N := some 149) (v := ?_) (a' := ?_) #[true, true, true, true, true, true, true, true, true, true, true, true, true] rfl rfl (any_of HT_.out (by kernel_rfl)) (fun _ _ _ h => h) (Or.inl ⟨by rfl, ?_⟩) ?_ ?_
               rotate_left; · intro w'; go_simp; with_reducible rfl
               rotate_left; · simp only [Act.put, List.setIfInBounds_toArray, List.set_cons_zero, List.set_cons_succ, i64_w, i32_w]; rfl
               refine done_ (done_of HT_.out (by kernel_rfl)) ?_
               try go_wp2
               go_roundg k5
               case measure => have := HK1.out; have := HJ40.out; have := HK3.out; have := HJ54.out; have := HK5.out; omega
               case rel => exact ⟨(x12_5), (x13_5), (wrap64 (x14_5 + 1)), (by first | rfl | (simp; done) | (simp [*]; done)), (by first | rfl | (simp; done) | (simp [*]; done)), (by first | rfl | (simp; done) | (simp [*]; done)), H', ⟨by have := HK1.out; have := HJ40.out; have := HK3.out; have := HJ54.out; have := HK5.out; omega⟩, ⟨by (with_reducible repeat (first | apply Kd.R_alloc | apply Kd.R_drewN | apply Kd.R_drew)); exact HO_4.out⟩, ⟨by (with_reducible repeat (first | apply Kd.R_alloc | apply Kd.R_drewN | apply Kd.R_drew)); exact HO_9.out⟩, ⟨by repeat (first | (with_reducible first | exact HB.out | apply below_alloc | apply pw_below_drewN | apply below_drew1) | exact HB.out)⟩⟩
             ·
              rw [if_neg c67] at H
              exact absurd H (by simp)
            ·
             rw [if_neg c66] at H
             exact absurd H (by simp)
           ·
            rw [if_neg c65] at H
            exact absurd H (by simp)
          ·
           rw [if_neg c64] at H
           have c64b0 : decide (x14_5 < (x4_1.length : Int)) = false := decide_eq_false c64
           clear c64
           by_cases c81 : 0 ≤ x10_3
           ·
            rw [if_pos c81] at H
            have c81b0 : decide (0 ≤ x10_3) = true := decide_eq_true c81
            clear c81
            by_cases c82 : x10_3 < (x4_1.length : Int)
            ·
             rw [if_pos c82] at H
             have c82b0 : decide (x10_3 < (x4_1.length : Int)) = true := decide_eq_true c82
             clear c82
             by_cases c83 : x10_3 < (x9_3.length : Int)
             ·
              rw [if_pos c83] at H
              have c83b0 : decide (x10_3 < (x9_3.length : Int)) = true := decide_eq_true c83
              clear c83
              obtain ⟨y176, hy176⟩ : ∃ y_ : List (S32), y_ = (x9_3.set (x10_3 : Int).toNat (⟨wrap64 (x12_5 + 1), 0, (rd_T34 x4_1 x10_3).f1.f2, x13_5, (((rd_T34 x4_1 x10_3).f2).size : Int)⟩ : S32)) := ⟨_, rfl⟩
              replace H : (grapnelref18_Normal.l2 k5 x4_1 y176 (wrap64 (x10_3 + 1))) = some (r1, r2) := by first | (rw [hy176]; with_reducible exact H) | (have H2_ := (Option.bind_some _ _).symm.trans H; rw [hy176]; with_reducible exact H2_) | (have H2_ := (Option.bind_some _ _).symm.trans H; with_reducible exact H2_) | with_reducible exact H | (rw [hy176]; exact H) | exact H
              have Ny176 := Aside0.mk hy176
              clear hy176
              have H' := Aside0.mk H
              clear H
              try go_wp2
              have n0_ := Aside0.mk (Kd.R_drew HO_4.out)
              have n1_ := Aside0.mk (Kd.R_drew HO_9.out)
              have n2_ := Aside0.mk (below_drew1 HB.out)
              clear HO_4; clear HO_9; clear HB
              have HO_4 := n0_
              have HO_9 := n1_
              have HB := n2_
              clear n0_ n1_ n2_
              have p174 : 0 ≤ (x10_3 : Int) := of_decide_eq_true (by first | (with_reducible assumption) | assumption)
              have q174 : x10_3 < (x4_1.length : Int) := of_decide_eq_true (by first | (with_reducible assumption) | assumption)
              obtain ⟨ad174, e174, hx174_0, hx174_1, hx174_2, hx174_3, hx174_4, hx174_5, hx174_6⟩ := at_T34 (Kd.R_reads' HO_4.out).2.2 x10_3 p174 q174
              cases e174
              replace p174 := eq_true p174
              replace q174 := eq_true q174
              have p175 : 0 ≤ (x10_3 : Int) := of_decide_eq_true (by first | (with_reducible assumption) | assumption)
              have q175 : x10_3 < (x4_1.length : Int) := of_decide_eq_true (by first | (with_reducible assumption) | assumption)
              obtain ⟨ad175, e175, hx175_0, hx175_1, hx175_2, hx175_3, hx175_4, hx175_5, hx175_6⟩ := at_T34 (Kd.R_reads' HO_4.out).2.2 x10_3 p175 q175
              obtain rfl : ad174 = ad175 := (by injection e175)
              replace p175 := eq_true p175
              replace q175 := eq_true q175
              have p84 : 0 ≤ (x10_3 : Int) := of_decide_eq_true (by first | (with_reducible assumption) | assumption)
              have q84 : (x10_3 : Int) < ((x9_3.length : Int) : Int) := of_decide_eq_true (by first | (with_reducible assumption) | assumption)
              obtain ⟨go84, co84, eo84, gb84, gl84, cl84, HG84⟩ := Kd.R_form HO_9.out (by omega)
              (first | cases eo84 | (injection eo84 with ea_ en_ ec_; (first | subst ea_ | (injection ea_ with ea_; subst ea_)); subst ec_; clear en_))
              have GB84 := Aside0.mk gb84
              have GG84 := Aside0.mk HG84
              clear gb84 gl84 HG84
              obtain ⟨ce84, hcl84, hM84, hcc84, hfr84⟩ := Kd.R_elem HO_9.out z32 (x10_3 : Int) p84 q84
              obtain rfl := k32_openM hM84
              have hx84_0 : World.cell? _ ⟨go84, (x10_3 : Int).toNat * 5, none⟩ = some (.int .i64 ((rd_T32 x9_3 x10_3).f0)) := hcc84 0 _ rfl
              have hx84_1 : World.cell? _ ⟨go84, (x10_3 : Int).toNat * 5 + 1, none⟩ = some (.int .i64 ((rd_T32 x9_3 x10_3).f1)) := hcc84 1 _ rfl
              have hx84_2 : World.cell? _ ⟨go84, (x10_3 : Int).toNat * 5 + 2, none⟩ = some (.int .i64 ((rd_T32 x9_3 x10_3).f2)) := hcc84 2 _ rfl
              have hx84_3 : World.cell? _ ⟨go84, (x10_3 : Int).toNat * 5 + 3, none⟩ = some (.int .i64 ((rd_T32 x9_3 x10_3).f3)) := hcc84 3 _ rfl
              have hx84_4 : World.cell? _ ⟨go84, (x10_3 : Int).toNat * 5 + 4, none⟩ = some (.int .i64 ((rd_T32 x9_3 x10_3).f4)) := hcc84 4 _ rfl
              have hf84_0 : World.frozen? _ ⟨go84, (x10_3 : Int).toNat * 5, none⟩ = false := hfr84 0
              have hf84_1 : World.frozen? _ ⟨go84, (x10_3 : Int).toNat * 5 + 1, none⟩ = false := hfr84 1
              have hf84_2 : World.frozen? _ ⟨go84, (x10_3 : Int).toNat * 5 + 2, none⟩ = false := hfr84 2
              have hf84_3 : World.frozen? _ ⟨go84, (x10_3 : Int).toNat * 5 + 3, none⟩ = false := hfr84 3
              have hf84_4 : World.frozen? _ ⟨go84, (x10_3 : Int).toNat * 5 + 4, none⟩ = false := hfr84 4
              clear hcl84 hcc84 hfr84 hM84
              replace p84 := eq_true p84
              replace q84 := eq_true q84
              obtain ⟨ce86, hcl86, hM86, hcc86, hfr86⟩ := Kd.R_elem HO_9.out z32 (x10_3 : Int) (of_decide_eq_true (by first | (with_reducible assumption) | assumption)) (by have h_ : (x10_3 : Int) < ((x9_3.length : Int) : Int) := of_decide_eq_true (by first | (with_reducible assumption) | assumption); first | exact h_ | (have e_ := (Kd.R_reads' HO_9.out).1; omega) | simpa using h_)
              obtain rfl := k32_openM hM86
              have HP86 := (Kd.R_seg HO_9.out (x10_3 : Int) (of_decide_eq_true (by first | (with_reducible assumption) | assumption)) (by have h_ : (x10_3 : Int) < ((x9_3.length : Int) : Int) := of_decide_eq_true (by first | (with_reducible assumption) | assumption); first | exact h_ | (have e_ := (Kd.R_reads' HO_9.out).1; omega) | simpa using h_) (seg := [.int .i64 (wrap64 (x12_5 + 1)), .int .i64 0, .int .i64 ((rd_T34 x4_1 x10_3).f1.f2), .int .i64 x13_5, .int .i64 (((rd_T34 x4_1 x10_3).f2).size : Int)]) (j := 0) hcl86 hcc86 (show 5 ≤ 5 from by decide) (x' := (⟨wrap64 (x12_5 + 1), 0, (rd_T34 x4_1 x10_3).f1.f2, x13_5, (((rd_T34 x4_1 x10_3).f2).size : Int)⟩ : S32)) (k32_mkM _ _ _ (⟨wrap64 (x12_5 + 1), 0, (rd_T34 x4_1 x10_3).f1.f2, x13_5, (((rd_T34 x4_1 x10_3).f2).size : Int)⟩ : S32) ) (fun _ hk => hk)).1
              rw [← Ny176.out] at HP86
              have HQ86 := Aside0.mk HP86
              clear hcl86 hcc86 hfr86 hM86 HP86
              refine start_ (n := 20) (S := fun w' => w'.cell? (ad174.add ((x10_3).toNat * 7)) = some (.string ((rd_T34 x4_1 x10_3).f0)) ∧ w'.cell? ⟨(ad174.add ((x10_3).toNat * 7)).block, (ad174.add ((x10_3).toNat * 7)).off + 1, none⟩ = some (.int .i64 ((rd_T34 x4_1 x10_3).f1.f0)) ∧ w'.cell? ⟨(ad174.add ((x10_3).toNat * 7)).block, (ad174.add ((x10_3).toNat * 7)).off + 2, none⟩ = some (.int .i64 ((rd_T34 x4_1 x10_3).f1.f1)) ∧ w'.cell? ⟨(ad174.add ((x10_3).toNat * 7)).block, (ad174.add ((x10_3).toNat * 7)).off + 3, none⟩ = some (.int .i64 ((rd_T34 x4_1 x10_3).f1.f2)) ∧ w'.cell? ⟨(ad174.add ((x10_3).toNat * 7)).block, (ad174.add ((x10_3).toNat * 7)).off + 4, none⟩ = some (.int .i64 ((rd_T34 x4_1 x10_3).f1.f3)) ∧ w'.cell? ⟨(ad174.add ((x10_3).toNat * 7)).block, (ad174.add ((x10_3).toNat * 7)).off + 5, none⟩ = some (.int .i64 ((rd_T34 x4_1 x10_3).f1.f4)) ∧ w'.cell? ⟨(ad174.add ((x10_3).toNat * 7)).block, (ad174.add ((x10_3).toNat * 7)).off + 6, none⟩ = some (.string ((rd_T34 x4_1 x10_3).f2)) ∧ w'.cell? (ad174.add ((x10_3).toNat * 7)) = some (.string ((rd_T34 x4_1 x10_3).f0)) ∧ w'.cell? ⟨(ad174.add ((x10_3).toNat * 7)).block, (ad174.add ((x10_3).toNat * 7)).off + 1, none⟩ = some (.int .i64 ((rd_T34 x4_1 x10_3).f1.f0)) ∧ w'.cell? ⟨(ad174.add ((x10_3).toNat * 7)).block, (ad174.add ((x10_3).toNat * 7)).off + 2, none⟩ = some (.int .i64 ((rd_T34 x4_1 x10_3).f1.f1)) ∧ w'.cell? ⟨(ad174.add ((x10_3).toNat * 7)).block, (ad174.add ((x10_3).toNat * 7)).off + 3, none⟩ = some (.int .i64 ((rd_T34 x4_1 x10_3).f1.f2)) ∧ w'.cell? ⟨(ad174.add ((x10_3).toNat * 7)).block, (ad174.add ((x10_3).toNat * 7)).off + 4, none⟩ = some (.int .i64 ((rd_T34 x4_1 x10_3).f1.f3)) ∧ w'.cell? ⟨(ad174.add ((x10_3).toNat * 7)).block, (ad174.add ((x10_3).toNat * 7)).off + 5, none⟩ = some (.int .i64 ((rd_T34 x4_1 x10_3).f1.f4)) ∧ w'.cell? ⟨(ad174.add ((x10_3).toNat * 7)).block, (ad174.add ((x10_3).toNat * 7)).off + 6, none⟩ = some (.string ((rd_T34 x4_1 x10_3).f2))) (ds := [19]) #[false, false, false, false, false, false, false, false, false, false, false, false, false, false, false, false, false, false, false, false] (by kernel_rfl) rfl rfl ⟨hx174_0, hx174_1, hx174_2, hx174_3, hx174_4, hx174_5, hx174_6, hx175_0, hx175_1, hx175_2, hx175_3, hx175_4, hx175_5, hx175_6⟩ (fun hHeld => ?_); refine with_tabW grapnelref18_Normal.tab40 grapnelref18_Normal.bits40 (fun HT_ HW_ => ?_)
              generalize wr.drew = w85 at HO_4 HO_9 HB GG84 HQ86 hf84_0 hf84_1 hf84_2 hf84_3 hf84_4 hx174_0 hx174_1 hx174_2 hx174_3 hx174_4 hx174_5 hx174_6 hx175_0 hx175_1 hx175_2 hx175_3 hx175_4 hx175_5 hx175_6 hx84_0 hx84_1 hx84_2 hx84_3 hx84_4 hHeld ⊢
              refine pure_ (i := 0) (N := some 189) (v := ?_) (a' := ?_) #[true, false, false, false, false, false, false, false, false, false, false, false, false, false, false, false, false, false, false, false] rfl rfl (any_of HT_.out (by kernel_rfl)) (fun _ _ _ h => h) (Or.inl ⟨by rfl, ?_⟩) ?_ ?_
              rotate_left; · intro w'; go_simp; with_reducible rfl
              rotate_left; · simp only [Act.put, List.setIfInBounds_toArray, List.set_cons_zero, List.set_cons_succ, i64_w, i32_w]; rfl
              refine pure_ (i := 1) (N := some 190) (v := ?_) (a' := ?_) #[true, true, false, false, false, false, false, false, false, false, false, false, false, false, false, false, false, false, false, false] rfl rfl (any_of HT_.out (by kernel_rfl)) (fun _ _ _ h => h) (Or.inl ⟨by rfl, ?_⟩) ?_ ?_
              rotate_left; · intro w'; go_simp; with_reducible rfl
              rotate_left; · simp only [Act.put, List.setIfInBounds_toArray, List.set_cons_zero, List.set_cons_succ, i64_w, i32_w]; rfl
              refine pure_ (i := 2) (N := some 191) (v := ?_) (a' := ?_) #[true, true, true, false, false, false, false, false, false, false, false, false, false, false, false, false, false, false, false, false] rfl rfl (any_of HT_.out (by kernel_rfl)) (fun _ _ _ h => h) (Or.inl ⟨by rfl, ?_⟩) ?_ ?_
              rotate_left; · intro w'; go_simp; with_reducible rfl
              rotate_left; · simp only [Act.put, List.setIfInBounds_toArray, List.set_cons_zero, List.set_cons_succ, i64_w, i32_w]; rfl
              refine pure_ (i := 3) (N := some 192) (v := ?_) (a' := ?_) #[true, true, true, true, false, false, false, false, false, false, false, false, false, false, false, false, false, false, false, false] rfl rfl (any_of HT_.out (by kernel_rfl)) (fun _ _ _ h => h) (Or.inl ⟨by rfl, ?_⟩) ?_ ?_
              rotate_left; · intro w'; go_simp; with_reducible rfl
              rotate_left; · simp only [Act.put, List.setIfInBounds_toArray, List.set_cons_zero, List.set_cons_succ, i64_w, i32_w]; rfl
              refine pure_ (i := 4) (N := some 193) (v := ?_) (a' := ?_) #[true, true, true, true, true, false, false, false, false, false, false, false, false, false, false, false, false, false, false, false] rfl rfl (any_of HT_.out (by kernel_rfl)) (fun _ _ _ h => h) (Or.inl ⟨by rfl, ?_⟩) ?_ ?_
              rotate_left; · intro w'; go_simp; with_reducible rfl
              rotate_left; · simp only [Act.put, List.setIfInBounds_toArray, List.set_cons_zero, List.set_cons_succ, i64_w, i32_w]; rfl
              refine pure_ (i := 5) (N := some 194) (v := ?_) (a' := ?_) #[true, true, true, true, true, true, false, false, false, false, false, false, false, false, false, false, false, false, false, false] rfl rfl (any_of HT_.out (by kernel_rfl)) (fun _ _ _ h => h) (Or.inl ⟨by rfl, ?_⟩) ?_ ?_
              rotate_left; · intro w'; go_simp; with_reducible rfl
              rotate_left; · simp only [Act.put, List.setIfInBounds_toArray, List.set_cons_zero, List.set_cons_succ, i64_w, i32_w]; rfl
              refine pure_ (i := 6) (N := some 195) (v := ?_) (a' := ?_) #[true, true, true, true, true, true, true, false, false, false, false, false, false, false, false, false, false, false, false, false] rfl rfl (any_of HT_.out (by kernel_rfl)) (fun _ _ _ h => h) (Or.inl ⟨by rfl, ?_⟩) ?_ ?_
              rotate_left; · intro w'; go_simp; with_reducible rfl
              rotate_left; · simp only [Act.put, List.setIfInBounds_toArray, List.set_cons_zero, List.set_cons_succ, i64_w, i32_w]; rfl
              refine pure_ (i := 7) (N := some 196) (v := ?_) (a' := ?_) #[true, true, true, true, true, true, true, true, false, false, false, false, false, false, false, false, false, false, false, false] rfl rfl (any_of HT_.out (by kernel_rfl)) (fun _ _ _ h => h) (Or.inl ⟨by rfl, ?_⟩) ?_ ?_
              rotate_left; · intro w'; go_simp; with_reducible rfl
              rotate_left; · simp only [Act.put, List.setIfInBounds_toArray, List.set_cons_zero, List.set_cons_succ, i64_w, i32_w]; rfl
              refine pure_ (i := 8) (N := some 197) (v := ?_) (a' := ?_) #[true, true, true, true, true, true, true, true, true, false, false, false, false, false, false, false, false, false, false, false] rfl rfl (any_of HT_.out (by kernel_rfl)) (fun _ _ _ h => h) (Or.inl ⟨by rfl, ?_⟩) ?_ ?_
              rotate_left; · intro w'; go_simp; with_reducible rfl
              rotate_left; · simp only [Act.put, List.setIfInBounds_toArray, List.set_cons_zero, List.set_cons_succ, i64_w, i32_w]; rfl
              refine pure_ (i := 10) (N := some 199) (v := ?_) (a' := ?_) #[true, true, true, true, true, true, true, true, true, false, true, false, false, false, false, false, false, false, false, false] rfl rfl (any_of HT_.out (by kernel_rfl)) (fun _ _ _ h => h) (Or.inl ⟨by rfl, ?_⟩) ?_ ?_
              rotate_left; · intro w'; go_simp; with_reducible rfl
              rotate_left; · simp only [Act.put, List.setIfInBounds_toArray, List.set_cons_zero, List.set_cons_succ, i64_w, i32_w]; rfl
              refine pure_ (i := 11) (N := some 200) (v := ?_) (a' := ?_) #[true, true, true, true, true, true, true, true, true, false, true, true, false, false, false, false, false, false, false, false] rfl rfl (any_of HT_.out (by kernel_rfl)) (fun _ _ _ h => h) (Or.inl ⟨by rfl, ?_⟩) ?_ ?_
              rotate_left; · intro w'; go_simp; with_reducible rfl
              rotate_left; · simp only [Act.put, List.setIfInBounds_toArray, List.set_cons_zero, List.set_cons_succ, i64_w, i32_w]; rfl
              refine pure_ (i := 12) (N := some 201) (v := ?_) (a' := ?_) #[true, true, true, true, true, true, true, true, true, false, true, true, true, false, false, false, false, false, false, false] rfl rfl (any_of HT_.out (by kernel_rfl)) (fun _ _ _ h => h) (Or.inl ⟨by rfl, ?_⟩) ?_ ?_
              rotate_left; · intro w'; go_simp; with_reducible rfl
              rotate_left; · simp only [Act.put, List.setIfInBounds_toArray, List.set_cons_zero, List.set_cons_succ, i64_w, i32_w]; rfl
              refine pure_ (i := 13) (N := some 202) (v := ?_) (a' := ?_) #[true, true, true, true, true, true, true, true, true, false, true, true, true, true, false, false, false, false, false, false] rfl rfl (any_of HT_.out (by kernel_rfl)) (fun _ _ _ h => h) (Or.inl ⟨by rfl, ?_⟩) ?_ ?_
              rotate_left; · intro w'; go_simp; with_reducible rfl
              rotate_left; · simp only [Act.put, List.setIfInBounds_toArray, List.set_cons_zero, List.set_cons_succ, i64_w, i32_w]; rfl
              refine pure_ (i := 14) (N := some 203) (v := ?_) (a' := ?_) #[true, true, true, true, true, true, true, true, true, false, true, true, true, true, true, false, false, false, false, false] rfl rfl (any_of HT_.out (by kernel_rfl)) (fun _ _ _ h => h) (Or.inl ⟨by rfl, ?_⟩) ?_ ?_
              rotate_left; · intro w'; go_simp; with_reducible rfl
              rotate_left; · simp only [Act.put, List.setIfInBounds_toArray, List.set_cons_zero, List.set_cons_succ, i64_w, i32_w]; rfl
              refine take_ (i := 9) (N := some 198) (v := ?_) (a' := ?_) #[true, true, true, true, true, true, true, true, true, true, true, true, true, true, true, false, false, false, false, false] rfl rfl (take_ofW HT_.out HW_.out (by kernel_rfl)) (fun _ _ _ h => h) (Or.inl ⟨by rfl, ?_⟩) hHeld ?_ ?_
              rotate_left
              ·
               rintro w' ⟨s0, s1, s2, s3, s4, s5, s6, s7, s8, s9, s10, s11, s12, s13⟩
               go_simp
               with_reducible rfl
              rotate_left; · simp only [Act.put, List.setIfInBounds_toArray, List.set_cons_zero, List.set_cons_succ, i64_w, i32_w]; rfl
              refine take_ (i := 15) (N := some 204) (v := ?_) (a' := ?_) #[true, true, true, true, true, true, true, true, true, true, true, true, true, true, true, true, false, false, false, false] rfl rfl (take_ofW HT_.out HW_.out (by kernel_rfl)) (fun _ _ _ h => h) (Or.inl ⟨by rfl, ?_⟩) hHeld ?_ ?_
              rotate_left
              ·
               rintro w' ⟨s0, s1, s2, s3, s4, s5, s6, s7, s8, s9, s10, s11, s12, s13⟩
               go_simp
               with_reducible rfl
              rotate_left; · simp only [Act.put, List.setIfInBounds_toArray, List.set_cons_zero, List.set_cons_succ, i64_w, i32_w]; rfl
              refine pure_ (i := 16) (N := some 205) (v := ?_) (a' := ?_) #[true, true, true, true, true, true, true, true, true, true, true, true, true, true, true, true, true, false, false, false] rfl rfl (any_of HT_.out (by kernel_rfl)) (fun _ _ _ h => h) (Or.inl ⟨by rfl, ?_⟩) ?_ ?_
              rotate_left; · intro w'; go_simp; with_reducible rfl
              rotate_left; · simp only [Act.put, List.setIfInBounds_toArray, List.set_cons_zero, List.set_cons_succ, i64_w, i32_w]; rfl
              refine pure_ (i := 17) (N := some 206) (v := ?_) (a' := ?_) #[true, true, true, true, true, true, true, true, true, true, true, true, true, true, true, true, true, true, false, false] rfl rfl (any_of HT_.out (by kernel_rfl)) (fun _ _ _ h => h) (Or.inl ⟨by rfl, ?_⟩) ?_ ?_
              rotate_left; · intro w'; go_simp; with_reducible rfl
              rotate_left; · simp only [Act.put, List.setIfInBounds_toArray, List.set_cons_zero, List.set_cons_succ, i64_w, i32_w]; rfl
              refine pure_ (i := 18) (N := some 207) (v := ?_) (a' := ?_) #[true, true, true, true, true, true, true, true, true, true, true, true, true, true, true, true, true, true, true, false] rfl rfl (any_of HT_.out (by kernel_rfl)) (fun _ _ _ h => h) (Or.inl ⟨by rfl, ?_⟩) ?_ ?_
              rotate_left; · intro w'; go_simp; with_reducible rfl
              rotate_left; · simp only [Act.put, List.setIfInBounds_toArray, List.set_cons_zero, List.set_cons_succ, i64_w, i32_w]; rfl
              refine last_ (i := 19) (N := none) #[true, true, true, true, true, true, true, true, true, true, true, true, true, true, true, true, true, true, true, true] rfl rfl (one_of HT_.out (by kernel_rfl)) (by decide) (fun K hK => ?_)
              refine skip_ (w1 := ?_) (by rfl) rfl ?_ ?_
              rotate_left; · go_simp; rfl
              refine hK.out _ _ ?_
              clear hK K
              refine done_ (done_of HT_.out (by kernel_rfl)) ?_
              try go_wp2
              go_roundg k5
              case measure => have := HK1.out; have := HJ40.out; have := HK3.out; have := HJ54.out; have := HK5.out; omega
              case rel => exact ⟨(y176), (wrap64 (x10_3 + 1)), (by first | rfl | (simp; done) | (simp [*]; done)), H', ⟨by have := HK1.out; have := HJ40.out; have := HK3.out; have := HJ54.out; have := HK5.out; omega⟩, ⟨by (with_reducible repeat (first | apply Kd.R_alloc | apply Kd.R_drewN | apply Kd.R_drew)); exact Kd.R_mono (Kd.R_far (p := ⟨go84, (x10_3 : Int).toNat * 5 + 4, none⟩) (Kd.R_far (p := ⟨go84, (x10_3 : Int).toNat * 5 + 3, none⟩) (Kd.R_far (p := ⟨go84, (x10_3 : Int).toNat * 5 + 2, none⟩) (Kd.R_far (p := ⟨go84, (x10_3 : Int).toNat * 5 + 1, none⟩) (Kd.R_far (p := ⟨go84, (x10_3 : Int).toNat * 5, none⟩) (Kd.R_types HO_4.out GG84.out (by decide)) (fun _ hk => hk.2) (.int .i64 (wrap64 (x12_5 + 1)))) (fun _ hk => hk.2) (.int .i64 0)) (fun _ hk => hk.2) (.int .i64 ((rd_T34 x4_1 x10_3).f1.f2))) (fun _ hk => hk.2) (.int .i64 x13_5)) (fun _ hk => hk.2) (.int .i64 (((rd_T34 x4_1 x10_3).f2).size : Int))) (fun _ hk => trivial)⟩, ⟨by (with_reducible repeat (first | apply Kd.R_alloc | apply Kd.R_drewN | apply Kd.R_drew)); exact HQ86.out⟩, ⟨by repeat (first | (with_reducible first | exact HB.out | apply below_alloc | apply pw_below_drewN | apply below_drew1 | refine below_set ?_ GB84.out | refine below_set ?_ GB84.out | refine below_set ?_ GB84.out | refine below_set ?_ GB84.out | refine below_set ?_ GB84.out) | exact HB.out)⟩⟩
             ·
              rw [if_neg c83] at H
              exact absurd H (by simp)
            ·
             rw [if_neg c82] at H
             exact absurd H (by simp)
           ·
            rw [if_neg c81] at H
            exact absurd H (by simp)
     ·
      rw [if_neg c54] at H
      have c54b0 : decide (x10_3 < (x4_1.length : Int)) = false := decide_eq_false c54
      clear c54
      have H' := Aside0.mk H
      clear H
      go_wp2
      go_loopg [15] k3 (fun kq v15 w' => ∃ (x4_4 : List (S34)) (x15_4 : Int), v15 = .int .i64 x15_4 ∧ Aside0 (grapnelref18_Normal.l4 kq x4_4 x9_3 x15_4 = some (r1, r2)) ∧ Aside0 (kq ≤ k3) ∧ Aside0 (Kd.R k34 34 w' w.heap.size (fun _ => True) (.slice Ao51 x4_1.length co51) x4_4) ∧ Aside0 (Kd.R k32 32 w' w.heap.size (fun _ => True) v168 x9_3) ∧ Aside0 (Below w.heap.size w w'))
      case atStart => exact ⟨(x4_1), (0), (by first | rfl | (simp; done) | (simp [*]; done)), H', ⟨Nat.le_refl _⟩, ⟨by (with_reducible repeat (first | apply Kd.R_alloc | apply Kd.R_drewN | apply Kd.R_drew)); exact HO_4.out⟩, ⟨by (with_reducible repeat (first | apply Kd.R_alloc | apply Kd.R_drewN | apply Kd.R_drew)); exact HO_9.out⟩, ⟨by repeat (first | (with_reducible first | exact HB.out | apply below_alloc | apply pw_below_drewN | apply below_drew1) | exact HB.out)⟩⟩
      case round =>
       clear H'
       try clear p1; try clear q1; try clear hx1; try clear p2; try clear c5; try clear c6; try clear p6; try clear c7; try clear c8; try clear p8; try clear q8; try clear hx8; try clear hf8; try clear p17; try clear q17; try clear hx17; try clear p18; try clear q18; try clear hx18; try clear c54; try clear c54b0; try clear c64; try clear c64b0; try clear p64; try clear c65; try clear c66; try clear c67; try clear c68; try clear c68b0; try clear c68b1; try clear c73; try clear c73b0; try clear c73b1; try clear c74; try clear c74b0; try clear c74b1; try clear c78; try clear c79; try clear c79b0; try clear c81; try clear c81b0; try clear c82; try clear c82b0; try clear c83; try clear c83b0; try clear c84; try clear p84; try clear q84; try clear hx84; try clear hf84; try clear c86; try clear hx174_0; try clear hx174_1; try clear hx174_2; try clear hx174_3; try clear hx174_4; try clear hx174_5; try clear hx174_6; try clear hx175_0; try clear hx175_1; try clear hx175_2; try clear hx175_3; try clear hx175_4; try clear hx175_5; try clear hx175_6; try clear hx177_0; try clear hx177_1; try clear hx177_2; try clear hx177_3; try clear hx177_4; try clear hx177_5; try clear hx177_6; try clear hx178_0; try clear hx178_1; try clear hx178_2; try clear hx178_3; try clear hx178_4; try clear hx178_5; try clear hx178_6; try clear hx179_0; try clear hx179_1; try clear hx179_2; try clear hx179_3; try clear hx179_4; try clear hx179_5; try clear hx179_6; try clear hx180_0; try clear hx180_1; try clear hx180_2; try clear hx180_3; try clear hx180_4; try clear hx180_5; try clear hx180_6; try clear hx84_0; try clear hx84_1; try clear hx84_2; try clear hx84_3; try clear hx84_4; try clear p1; try clear p17; try clear p174; try clear p175; try clear p177; try clear p178; try clear p179; try clear p18; try clear p180; try clear p2; try clear p84; try clear q1; try clear q17; try clear q174; try clear q175; try clear q177; try clear q178; try clear q179; try clear q18; try clear q180; try clear q84
       obtain ⟨x4_4, x15_4, rfl, HA, HK4, HO_4, HO_9, HB⟩ := hrel
       have hl4_4 := (Kd.R_reads' HO_4.out).1
       rw [hl4_4] at HO_4
       (try simp only [hl4_4])
       (try simp only [hl4_4] at HO_9)
       cases gk with
       | zero => exact absurd HA.out (by simp [grapnelref18_Normal.l4])
       | succ k4 =>
        have H := HA.out
        clear HA
        simp only [grapnelref18_Normal.l4] at H
        by_cases c87 : x15_4 < (x4_4.length : Int)
        ·
         rw [if_pos c87] at H
         have c87b0 : decide (x15_4 < (x4_4.length : Int)) = true := decide_eq_true c87
         clear c87
         by_cases c88 : 0 ≤ x15_4
         ·
          rw [if_pos c88] at H
          have c88b0 : decide (0 ≤ x15_4) = true := decide_eq_true c88
          clear c88
          by_cases c89 : x15_4 < (x9_3.length : Int)
          ·
           rw [if_pos c89] at H
           have c89b0 : decide (x15_4 < (x9_3.length : Int)) = true := decide_eq_true c89
           clear c89
           obtain ⟨y184, hy184⟩ : ∃ y_ : List (S34), y_ = (x4_4.set (x15_4 : Int).toNat (⟨(rd_T34 x4_4 x15_4).f0, (⟨(rd_T32 x9_3 x15_4).f0, (rd_T32 x9_3 x15_4).f1, (rd_T32 x9_3 x15_4).f2, (rd_T32 x9_3 x15_4).f3, (rd_T32 x9_3 x15_4).f4⟩ : S32), (rd_T34 x4_4 x15_4).f2⟩ : S34)) := ⟨_, rfl⟩
           replace H : (grapnelref18_Normal.l4 k4 y184 x9_3 (wrap64 (x15_4 + 1))) = some (r1, r2) := by first | (rw [hy184]; with_reducible exact H) | (have H2_ := (Option.bind_some _ _).symm.trans H; rw [hy184]; with_reducible exact H2_) | (have H2_ := (Option.bind_some _ _).symm.trans H; with_reducible exact H2_) | with_reducible exact H | (rw [hy184]; exact H) | exact H
           have Ny184 := Aside0.mk hy184
           clear hy184
           have H' := Aside0.mk H
           clear H
           obtain ⟨Ao91, co91, eo91⟩ := Kd.R_slice HO_9.out
           subst eo91
           have p183 : 0 ≤ (x15_4 : Int) := of_decide_eq_true (by first | (with_reducible assumption) | assumption)
           have q183 : x15_4 < (x9_3.length : Int) := of_decide_eq_true (by first | (with_reducible assumption) | assumption)
           obtain ⟨ad183, e183, hx183_0, hx183_1, hx183_2, hx183_3, hx183_4⟩ := at_T32 (Kd.R_reads' HO_9.out).2.2 x15_4 p183 q183
           cases e183
           replace p183 := eq_true p183
           replace q183 := eq_true q183
           have p90 : 0 ≤ (x15_4 : Int) := of_decide_eq_true (by first | (with_reducible assumption) | assumption)
           have q90 : (x15_4 : Int) < ((x4_4.length : Int) : Int) := of_decide_eq_true (by first | (with_reducible assumption) | assumption)
           obtain ⟨go90, co90, eo90, gb90, gl90, cl90, HG90⟩ := Kd.R_form HO_4.out (by omega)
           (first | cases eo90 | (injection eo90 with ea_ en_ ec_; (first | subst ea_ | (injection ea_ with ea_; subst ea_)); subst ec_; clear en_))
           have GB90 := Aside0.mk gb90
           have GG90 := Aside0.mk HG90
           clear gb90 gl90 HG90
           obtain ⟨ce90, hcl90, hM90, hcc90, hfr90⟩ := Kd.R_elem HO_4.out z34 (x15_4 : Int) p90 q90
           obtain rfl := k34_openM hM90
           have hx90_0 : wr.cell? ⟨go90, (x15_4 : Int).toNat * 7, none⟩ = some (.string ((rd_T34 x4_4 x15_4).f0)) := hcc90 0 _ rfl
           have hx90_1 : wr.cell? ⟨go90, (x15_4 : Int).toNat * 7 + 1, none⟩ = some (.int .i64 ((rd_T34 x4_4 x15_4).f1.f0)) := hcc90 1 _ rfl
           have hx90_2 : wr.cell? ⟨go90, (x15_4 : Int).toNat * 7 + 2, none⟩ = some (.int .i64 ((rd_T34 x4_4 x15_4).f1.f1)) := hcc90 2 _ rfl
           have hx90_3 : wr.cell? ⟨go90, (x15_4 : Int).toNat * 7 + 3, none⟩ = some (.int .i64 ((rd_T34 x4_4 x15_4).f1.f2)) := hcc90 3 _ rfl
           have hx90_4 : wr.cell? ⟨go90, (x15_4 : Int).toNat * 7 + 4, none⟩ = some (.int .i64 ((rd_T34 x4_4 x15_4).f1.f3)) := hcc90 4 _ rfl
           have hx90_5 : wr.cell? ⟨go90, (x15_4 : Int).toNat * 7 + 5, none⟩ = some (.int .i64 ((rd_T34 x4_4 x15_4).f1.f4)) := hcc90 5 _ rfl
           have hx90_6 : wr.cell? ⟨go90, (x15_4 : Int).toNat * 7 + 6, none⟩ = some (.string ((rd_T34 x4_4 x15_4).f2)) := hcc90 6 _ rfl
           have hf90_0 : wr.frozen? ⟨go90, (x15_4 : Int).toNat * 7, none⟩ = false := hfr90 0
           have hf90_1 : wr.frozen? ⟨go90, (x15_4 : Int).toNat * 7 + 1, none⟩ = false := hfr90 1
           have hf90_2 : wr.frozen? ⟨go90, (x15_4 : Int).toNat * 7 + 2, none⟩ = false := hfr90 2
           have hf90_3 : wr.frozen? ⟨go90, (x15_4 : Int).toNat * 7 + 3, none⟩ = false := hfr90 3
           have hf90_4 : wr.frozen? ⟨go90, (x15_4 : Int).toNat * 7 + 4, none⟩ = false := hfr90 4
           have hf90_5 : wr.frozen? ⟨go90, (x15_4 : Int).toNat * 7 + 5, none⟩ = false := hfr90 5
           have hf90_6 : wr.frozen? ⟨go90, (x15_4 : Int).toNat * 7 + 6, none⟩ = false := hfr90 6
           clear hcl90 hcc90 hfr90 hM90
           replace p90 := eq_true p90
           replace q90 := eq_true q90
           have HX92 := Aside0.mk (show Kd.R k34 34 wr w.heap.size (fun _ => True) (.slice (some ⟨go90, 0, none⟩) x4_4.length co51) x4_4 from (by (with_reducible repeat (first | apply Kd.R_alloc | apply Kd.R_drewN | apply Kd.R_drew)); exact HO_4.out))
           obtain ⟨ce92, hcl92, hM92, hcc92, hfr92⟩ := Kd.R_elem HX92.out z34 (x15_4 : Int) (of_decide_eq_true (by first | (with_reducible assumption) | assumption)) (by have h_ : (x15_4 : Int) < ((x4_4.length : Int) : Int) := of_decide_eq_true (by first | (with_reducible assumption) | assumption); first | exact h_ | (have e_ := (Kd.R_reads' HO_4.out).1; omega) | simpa using h_)
           obtain rfl := k34_openM hM92
           have HP92 := Kd.R_seg HX92.out (x15_4 : Int) (of_decide_eq_true (by first | (with_reducible assumption) | assumption)) (by have h_ : (x15_4 : Int) < ((x4_4.length : Int) : Int) := of_decide_eq_true (by first | (with_reducible assumption) | assumption); first | exact h_ | (have e_ := (Kd.R_reads' HO_4.out).1; omega) | simpa using h_) (seg := [.int .i64 ((rd_T32 x9_3 x15_4).f0), .int .i64 ((rd_T32 x9_3 x15_4).f1), .int .i64 ((rd_T32 x9_3 x15_4).f2), .int .i64 ((rd_T32 x9_3 x15_4).f3), .int .i64 ((rd_T32 x9_3 x15_4).f4)]) (j := 1) hcl92 hcc92 (show 6 ≤ 7 from by decide) (x' := (⟨(rd_T34 x4_4 x15_4).f0, (⟨(rd_T32 x9_3 x15_4).f0, (rd_T32 x9_3 x15_4).f1, (rd_T32 x9_3 x15_4).f2, (rd_T32 x9_3 x15_4).f3, (rd_T32 x9_3 x15_4).f4⟩ : S32), (rd_T34 x4_4 x15_4).f2⟩ : S34)) (k34_mkM _ _ _ (⟨(rd_T34 x4_4 x15_4).f0, (⟨(rd_T32 x9_3 x15_4).f0, (rd_T32 x9_3 x15_4).f1, (rd_T32 x9_3 x15_4).f2, (rd_T32 x9_3 x15_4).f3, (rd_T32 x9_3 x15_4).f4⟩ : S32), (rd_T34 x4_4 x15_4).f2⟩ : S34) ) (fun _ hk => hk)
           have hx92_1 := hcc92 1 _ rfl
           (try simp only [show (k34).sz = 7 from rfl, Nat.mul_one, Nat.add_zero] at hx92_1)
           have hf92_1 := hfr92 1
           (try simp only [show (k34).sz = 7 from rfl, Nat.mul_one, Nat.add_zero] at hf92_1)
           have hx92_2 := hcc92 2 _ rfl
           (try simp only [show (k34).sz = 7 from rfl, Nat.mul_one, Nat.add_zero] at hx92_2)
           have hf92_2 := hfr92 2
           (try simp only [show (k34).sz = 7 from rfl, Nat.mul_one, Nat.add_zero] at hf92_2)
           have hx92_3 := hcc92 3 _ rfl
           (try simp only [show (k34).sz = 7 from rfl, Nat.mul_one, Nat.add_zero] at hx92_3)
           have hf92_3 := hfr92 3
           (try simp only [show (k34).sz = 7 from rfl, Nat.mul_one, Nat.add_zero] at hf92_3)
           have hx92_4 := hcc92 4 _ rfl
           (try simp only [show (k34).sz = 7 from rfl, Nat.mul_one, Nat.add_zero] at hx92_4)
           have hf92_4 := hfr92 4
           (try simp only [show (k34).sz = 7 from rfl, Nat.mul_one, Nat.add_zero] at hf92_4)
           have hx92_5 := hcc92 5 _ rfl
           (try simp only [show (k34).sz = 7 from rfl, Nat.mul_one, Nat.add_zero] at hx92_5)
           have hf92_5 := hfr92 5
           (try simp only [show (k34).sz = 7 from rfl, Nat.mul_one, Nat.add_zero] at hf92_5)
           clear hcl92 hcc92 hfr92 hM92
           go_wp2_with (first | ((with_reducible refine gate_store (t := 32) (p := 221) rfl ?_); refine store_event (t := 32) (p := 221) (v := ?vo_w93) (w1 := (((((wr.setCell ⟨go90, (x15_4 : Int).toNat * 7 + 1, none⟩ (.int .i64 ((rd_T32 x9_3 x15_4).f0))).setCell ⟨go90, (x15_4 : Int).toNat * 7 + 2, none⟩ (.int .i64 ((rd_T32 x9_3 x15_4).f1))).setCell ⟨go90, (x15_4 : Int).toNat * 7 + 3, none⟩ (.int .i64 ((rd_T32 x9_3 x15_4).f2))).setCell ⟨go90, (x15_4 : Int).toNat * 7 + 4, none⟩ (.int .i64 ((rd_T32 x9_3 x15_4).f3))).setCell ⟨go90, (x15_4 : Int).toNat * 7 + 5, none⟩ (.int .i64 ((rd_T32 x9_3 x15_4).f4)))) ?hg ?ho ?hn ?hr ?_; (case ho => rfl); (case hg => rfl); (case hn => rfl); (case hr => first | (go_simp; done) | (go_simp; rfl)); intro w93 hw; have hg : wr.grownBy w93 (some go90) := (by rw [hw]; exact HP92.2); have hp_ : Kd.R k34 34 w93 w.heap.size (fun _ => True) (.slice (some ⟨go90, 0, none⟩) x4_4.length co51) y184 := (by rw [hw, Ny184.out]; exact HP92.1); clear HP92; have n0_ := Aside0.mk (hp_); have n1_ := Aside0.mk (Kd.R_over' (v := (.slice (some ⟨go90, 0, none⟩) x4_4.length co51)) (by (with_reducible repeat (first | apply Kd.R_alloc | apply Kd.R_drewN | apply Kd.R_drew)); exact HO_9.out) (Kd.R_typed HO_4.out) (by decide) hg); have n2_ := Aside0.mk ((by rw [hw]; exact below_set (below_set (below_set (below_set (below_set (HB.out) GB90.out) GB90.out) GB90.out) GB90.out) GB90.out : Below w.heap.size w w93)); clear HO_4; clear HO_9; clear HB; have HO_4 := n0_; have HO_9 := n1_; have HB := n2_; clear n0_ n1_ n2_; clear hg hw hp_))
           (try simp only [← hl4_4])
           go_roundg k4
           case measure => have := HK1.out; have := HJ40.out; have := HK3.out; have := HK4.out; omega
           case rel => exact ⟨(y184), (wrap64 (x15_4 + 1)), (by first | rfl | (simp; done) | (simp [*]; done)), H', ⟨by have := HK1.out; have := HJ40.out; have := HK3.out; have := HK4.out; omega⟩, ⟨by (try simp only [hl4_4]); (with_reducible repeat (first | apply Kd.R_alloc | apply Kd.R_drewN | apply Kd.R_drew)); exact HO_4.out⟩, ⟨by (try simp only [hl4_4]); (with_reducible repeat (first | apply Kd.R_alloc | apply Kd.R_drewN | apply Kd.R_drew)); exact HO_9.out⟩, ⟨by repeat (first | (with_reducible first | exact HB.out | apply below_alloc | apply pw_below_drewN | apply below_drew1) | exact HB.out)⟩⟩
          ·
           rw [if_neg c89] at H
           exact absurd H (by simp)
         ·
          rw [if_neg c88] at H
          exact absurd H (by simp)
        ·
         rw [if_neg c87] at H
         have c87b0 : decide (x15_4 < (x4_4.length : Int)) = false := decide_eq_false c87
         clear c87
         simp only [Option.some.injEq, Prod.mk.injEq] at H
         obtain ⟨rfl, rfl⟩ := H
         go_wp2
         go_ret2
         exact ⟨_, by first | rfl | (simp [errW_none, errW_some] <;> rfl) | (simp [*, errW_none, errW_some] <;> rfl), by (with_reducible repeat (first | apply Kd.R_alloc | apply Kd.R_drewN | apply Kd.R_drew)); exact HO_4.out, by repeat (first | (with_reducible first | exact HB.out | apply below_alloc | apply pw_below_drewN | apply below_drew1) | exact HB.out)⟩
  ·
   rw [if_neg c50] at H
   exact absurd H (by simp)
 ·
  rw [if_neg c49] at H
  exact absurd H (by simp)
end Go.Proofs.YtkhblpmjmkhiiaaDoor.PAll
