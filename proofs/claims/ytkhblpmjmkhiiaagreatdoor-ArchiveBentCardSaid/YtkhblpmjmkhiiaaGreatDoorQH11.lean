/- The drawn regions of the document's sum. -/
import Derived.Test.YtkhblpmjmkhiiaaGreatDoorQH10
namespace Go.Proofs.YtkhblpmjmkhiiaaGreatDoor.T
open Go.RowKit Go.Proofs.YtkhblpmjmkhiiaaGreatDoorW.PrintWords Go.Proofs.YtkhblpmjmkhiiaaGreatDoorW.PrintLast Go.Proofs.YtkhblpmjmkhiiaaGreatDoorW.PrintMore Go.Proofs.YtkhblpmjmkhiiaaGreatDoor.PAll
set_option linter.unusedSimpArgs false
set_option linter.unusedVariables false
set_option maxHeartbeats 8000000 in
set_option maxRecDepth 100000 in
theorem r12_wp (u0 u1 u2 u3 u4 u6 u10 u11 u12 u13 u14 u15 u16 u17 u18 u19 u20 u21 u22 u23 u24 u25 u26 u27 u28 u29 u30 u31 u32 u33 u34 u35 u36 u37 u38 u39 u40 u41 u42 u43 u44 u45 u46 u47 u48 u49 u50 u51 u52 u53 u54 u55 u56 u57 u58 u59 u60 u61 u62 u63 u64 u65 u66 u67 u68 u69 u70 u71 u72 u73 u74 u75 u76 u77 u78 u79 u80 u81 u82 u83 u84 u85 u86 u87 u88 u89 u90 u91 u92 u93 u94 u95 u96 u97 u98 u99 u100 u101 u102 u103 u104 u105 u106 u107 u108 u109 u110 u111 u112 u113 u114 u115 u116 u117 u118 u119 u120 u121 u122 u123 u124 u125 u126 u127 u128 u129 u130 u131 u132 u133 u134 u135 u136 u137 u138 u139 u140 u141 u142 u143 u144 u145 u146 u147 u148 u149 u150 u151 u152 u153 u154 u155 u156 u157 u158 u159 u160 u161 u162 u163 u164 u165 u166 u167 u168 u169 u170 u171 u172 u173 u174 u175 u176 u177 u178 u179 u180 u181 u182 u183 u184 u185 u186 u187 u188 u189 u190 u191 u192 u193 u194 u195 u196 u197 u198 u199 u200 u201 : Value) (gx gk gw k cx ck cw s0 s1 s2 s3 s4 s5 s6 s7 kk ww : Nat) (Q : Exit → Act → World → Prop) (HP : Aside0 (∀ c (a : Act) N v w, Q (.panic c) (a.put N v) w → Q (.panic c) a w)) (wr : World) (HCL : Aside0 (CL gx gk gw k s0 s1 s2 s3 s4 s5 s6 s7 kk ww wr)) (l0 : s0 < 4294967296) (l1 : s1 < 4294967296) (l2 : s2 < 4294967296) (l3 : s3 < 4294967296) (l4 : s4 < 4294967296) (l5 : s5 < 4294967296) (l6 : s6 < 4294967296) (l7 : s7 < 4294967296) (lk : kk < 4294967296) (lw : ww < 4294967296) (hlt : k < 64)
  (hQ : ∀ (T : Nat) (v38 v39 v40 v41 v42 v43 v44 v45 v46 v47 v48 v49 v50 v51 v52 v53 v54 v55 v56 v57 v58 v59 v60 v61 v62 v63 v64 v65 v66 v67 v68 v69 v70 v71 v72 v73 v74 v75 v76 v77 v78 v79 v80 v81 v82 : Value) (n : Nat), T = s7 + bg1 s4 + chs s4 s5 s6 + kk + ww → T < 21474836480 → Q .normal { tmps := #[u0, u1, u2, u3, u4, .slice (some ⟨gk, 0, none⟩) 64 ck, u6, .slice (some ⟨gw, 0, none⟩) 64 cw, .slice (some ⟨gx, 0, none⟩) 8 cx, .int .i64 (k : Int), .int .i64 (T : Int), u11, u12, u13, u14, u15, u16, u17, u18, u19, u20, u21, u22, u23, u24, u25, u26, u27, u28, u29, u30, u31, u32, u33, u34, u35, u36, u37, v38, v39, v40, v41, v42, v43, v44, v45, v46, v47, v48, v49, v50, v51, v52, v53, v54, v55, v56, v57, v58, v59, v60, v61, v62, v63, v64, v65, v66, v67, v68, v69, v70, v71, v72, v73, v74, v75, v76, v77, v78, v79, v80, v81, v82, u83, u84, u85, u86, u87, u88, u89, u90, u91, u92, u93, u94, u95, u96, u97, u98, u99, u100, u101, u102, u103, u104, u105, u106, u107, u108, u109, u110, u111, u112, u113, u114, u115, u116, u117, u118, u119, u120, u121, u122, u123, u124, u125, u126, u127, u128, u129, u130, u131, u132, u133, u134, u135, u136, u137, u138, u139, u140, u141, u142, u143, u144, u145, u146, u147, u148, u149, u150, u151, u152, u153, u154, u155, u156, u157, u158, u159, u160, u161, u162, u163, u164, u165, u166, u167, u168, u169, u170, u171, u172, u173, u174, u175, u176, u177, u178, u179, u180, u181, u182, u183, u184, u185, u186, u187, u188, u189, u190, u191, u192, u193, u194, u195, u196, u197, u198, u199, u200, u201], defers := [] } (wr.drewN n)) :
  (Code.region 12 (opsOf Tryz.f28 12) true).wp Tryz.prog Q { tmps := #[u0, u1, u2, u3, u4, .slice (some ⟨gk, 0, none⟩) 64 ck, u6, .slice (some ⟨gw, 0, none⟩) 64 cw, .slice (some ⟨gx, 0, none⟩) 8 cx, .int .i64 (k : Int), u10, u11, u12, u13, u14, u15, u16, u17, u18, u19, u20, u21, u22, u23, u24, u25, u26, u27, u28, u29, u30, u31, u32, u33, u34, u35, u36, u37, u38, u39, u40, u41, u42, u43, u44, u45, u46, u47, u48, u49, u50, u51, u52, u53, u54, u55, u56, u57, u58, u59, u60, u61, u62, u63, u64, u65, u66, u67, u68, u69, u70, u71, u72, u73, u74, u75, u76, u77, u78, u79, u80, u81, u82, u83, u84, u85, u86, u87, u88, u89, u90, u91, u92, u93, u94, u95, u96, u97, u98, u99, u100, u101, u102, u103, u104, u105, u106, u107, u108, u109, u110, u111, u112, u113, u114, u115, u116, u117, u118, u119, u120, u121, u122, u123, u124, u125, u126, u127, u128, u129, u130, u131, u132, u133, u134, u135, u136, u137, u138, u139, u140, u141, u142, u143, u144, u145, u146, u147, u148, u149, u150, u151, u152, u153, u154, u155, u156, u157, u158, u159, u160, u161, u162, u163, u164, u165, u166, u167, u168, u169, u170, u171, u172, u173, u174, u175, u176, u177, u178, u179, u180, u181, u182, u183, u184, u185, u186, u187, u188, u189, u190, u191, u192, u193, u194, u195, u196, u197, u198, u199, u200, u201], defers := [] } wr := by
 conv in (opsOf _ _) => whnf
 have p0 : ((k : Int) < 64) = True := eq_true Z3
 have p1 : decide ((k : Int) < 64) = true := decide_eq_true Z3
 have p2 : (k < 64) = True := eq_true hlt
 have p3 : decide (k < 64) = true := decide_eq_true hlt
 obtain ⟨q6, q11, q25, a11, a16, a17, a24, a28, a32, a33, a34, a39, T, r6, r11, r25, f11, f16, f17, f24, f28, f32, f33, f34, f39, f44, hT, lT⟩ := tstep s4 s5 s6 s7 kk ww l4 l5 l6 l7 lk lw
 have R6 := Aside0.mk r6
 have R11 := Aside0.mk r11
 have R25 := Aside0.mk r25
 have HQ := Aside0.mk (hQ T)
 have HT := Aside0.mk (And.intro hT lT)
 clear hQ hT lT r6 r11 r25 l0 l1 l2 l3 l4 l5 l6 l7 lk lw hlt
 refine start_ (n := 46) (S := CL gx gk gw k s0 s1 s2 s3 s4 s5 s6 s7 kk ww) (ds := []) #[false, false, false, false, false, false, false, false, false, false, false, false, false, false, false, false, false, false, false, false, false, false, false, false, false, false, false, false, false, false, false, false, false, false, false, false, false, false, false, false, false, false, false, false, false, false] Z13 rfl rfl HCL.out (fun hHeld => ?_)
 refine with_tabW rsum.tab12 rsum.bits12 (fun HT_ HW_ => ?_)
 have HD : Aside0 (∃ n, wr.drew = wr.drewN n) := ⟨1, rfl⟩
 generalize wr.drew = wd at HD hHeld ⊢
 refine puh 0 38 (bl 46 1) HT_ HP ?_ (hy := Z8)
 refine puh 1 39 (bl 46 3) HT_ HP ?_ (hy := Z8)
 refine tkh 2 40 (bl 46 7) HT_ HW_ HP hHeld ?_ (hy := Z15)
 refine puh 3 41 (bl 46 15) HT_ HP ?_ (hy := Z8)
 refine puh 4 42 (bl 46 31) HT_ HP ?_ (hy := Z8)
 refine tkh 5 43 (bl 46 63) HT_ HW_ HP hHeld ?_ (hy := Z15)
 refine puh 7 45 (bl 46 191) HT_ HP ?_ (hy := Z8)
 refine puh 8 46 (bl 46 447) HT_ HP ?_ (hy := Z8)
 refine tkh 9 47 (bl 46 959) HT_ HW_ HP hHeld ?_ (hy := Z15)
 refine puh 12 50 (bl 46 5055) HT_ HP ?_ (hy := Z8)
 refine puh 13 51 (bl 46 13247) HT_ HP ?_ (hy := Z8)
 refine tkh 14 52 (bl 46 29631) HT_ HW_ HP hHeld ?_ (hy := Z15)
 refine puh 18 56 (bl 46 291775) HT_ HP ?_ (hy := Z8)
 refine puh 19 57 (bl 46 816063) HT_ HP ?_ (hy := Z8)
 refine tkh 20 58 (bl 46 1864639) HT_ HW_ HP hHeld ?_ (hy := Z15)
 refine puh 21 59 (bl 46 3961791) HT_ HP ?_ (hy := Z8)
 refine puh 22 60 (bl 46 8156095) HT_ HP ?_ (hy := Z8)
 refine tkh 23 61 (bl 46 16544703) HT_ HW_ HP hHeld ?_ (hy := Z15)
 refine puh 24 62 (bl 46 33321919) HT_ HP ?_ (hy := Z8)
 refine puh 25 63 (bl 46 66876351) HT_ HP ?_ (hy := Z8)
 refine puh 26 64 (bl 46 133985215) HT_ HP ?_ (hy := Z8)
 refine tkh 27 65 (bl 46 268202943) HT_ HW_ HP hHeld ?_ (hy := Z15)
 refine puh 28 66 (bl 46 536638399) HT_ HP ?_ (hy := Z8)
 refine puh 29 67 (bl 46 1073509311) HT_ HP ?_ (hy := Z8)
 refine puh 30 68 (bl 46 2147251135) HT_ HP ?_ (hy := Z8)
 refine tkh 31 69 (bl 46 4294734783) HT_ HW_ HP hHeld ?_ (hy := Z15)
 refine puh 32 70 (bl 46 8589702079) HT_ HP ?_ (hy := Z8)
 refine puh 33 71 (bl 46 17179636671) HT_ HP ?_ (hy := Z8)
 refine puh 35 73 (bl 46 51539375039) HT_ HP ?_ (hy := Z8)
 refine puh 36 74 (bl 46 120258851775) HT_ HP ?_ (hy := Z8)
 refine puh 37 75 (bl 46 257697805247) HT_ HP ?_ (hy := Z8)
 refine tkh 38 76 (bl 46 532575712191) HT_ HW_ HP hHeld ?_ (hy := Z15)
 refine puh 40 78 (bl 46 1632087339967) HT_ HP ?_ (hy := Z8)
 refine puh 41 79 (bl 46 3831110595519) HT_ HP ?_ (hy := Z8)
 refine puh 42 80 (bl 46 8229157106623) HT_ HP ?_ (hy := Z8)
 refine tkh 43 81 (bl 46 17025250128831) HT_ HW_ HP hHeld ?_ (hy := Z15)
 refine one_ (i := 6) (N := some 44) (bl 46 17025250128895) rfl rfl (one_of HT_.out Z13) Z11 (fun K hK => ?_)
 refine goes_ Tryz.func53 Z13 rfl #[.int .i64 (s4 : Int), .int .i64 6] (by rfl) rfl rfl Z19 ?_
 refine (r2_right.calls _ _ _ _ R6.out).mono ?_
 rintro e we ⟨rfl, ⟨nd, rfl⟩⟩
 refine ⟨_, rfl, ?_⟩
 refine hK.out _ _ hHeld (fun hHeld => ?_)
 clear hK K
 have HD2 : Aside0 (∃ n, wd.drewN nd = wr.drewN n) := ⟨Z29⟩
 clear HD
 have HD := HD2
 clear HD2
 generalize wd.drewN nd = wd at HD hHeld ⊢
 refine norm_ (a' := ?_) ?_ ?_
 rotate_left; · show Act.put _ (some 44) _ = _; simp only [Act.put, List.setIfInBounds_toArray, List.set_cons_zero, List.set_cons_succ, i64_w, i32_w]; rfl
 refine one_ (i := 10) (N := some 48) (bl 46 17025250129919) rfl rfl (one_of HT_.out Z13) Z11 (fun K hK => ?_)
 refine goes_ Tryz.func53 Z13 rfl #[.int .i64 (s4 : Int), .int .i64 11] (by rfl) rfl rfl Z19 ?_
 refine (r2_right.calls _ _ _ _ R11.out).mono ?_
 rintro e we ⟨rfl, ⟨nd, rfl⟩⟩
 refine ⟨_, rfl, ?_⟩
 refine hK.out _ _ hHeld (fun hHeld => ?_)
 clear hK K
 have HD2 : Aside0 (∃ n, wd.drewN nd = wr.drewN n) := ⟨Z29⟩
 clear HD
 have HD := HD2
 clear HD2
 generalize wd.drewN nd = wd at HD hHeld ⊢
 refine norm_ (a' := ?_) ?_ ?_
 rotate_left; · show Act.put _ (some 48) _ = _; simp only [Act.put, List.setIfInBounds_toArray, List.set_cons_zero, List.set_cons_succ, i64_w, i32_w]; rfl
 refine puh 11 49 (bl 46 17025250131967) HT_ HP ?_ (hy := Z8)
 refine one_ (i := 15) (N := some 53) (bl 46 17025250164735) rfl rfl (one_of HT_.out Z13) Z11 (fun K hK => ?_)
 refine goes_ Tryz.func53 Z13 rfl #[.int .i64 (s4 : Int), .int .i64 25] (by rfl) rfl rfl Z19 ?_
 refine (r2_right.calls _ _ _ _ R25.out).mono ?_
 rintro e we ⟨rfl, ⟨nd, rfl⟩⟩
 refine ⟨_, rfl, ?_⟩
 refine hK.out _ _ hHeld (fun hHeld => ?_)
 clear hK K
 have HD2 : Aside0 (∃ n, wd.drewN nd = wr.drewN n) := ⟨Z29⟩
 clear HD
 have HD := HD2
 clear HD2
 generalize wd.drewN nd = wd at HD hHeld ⊢
 refine norm_ (a' := ?_) ?_ ?_
 rotate_left; · show Act.put _ (some 53) _ = _; simp only [Act.put, List.setIfInBounds_toArray, List.set_cons_zero, List.set_cons_succ, i64_w, i32_w]; rfl
 refine puh 16 54 (bl 46 17025250230271) HT_ HP ?_ (hy := Z8)
 refine puh 17 55 (bl 46 17025250361343) HT_ HP ?_ (hy := Z8)
 refine puh 34 72 (bl 46 17042430230527) HT_ HP ?_ (hy := Z8)
 refine puh 39 77 (bl 46 17592186044415) HT_ HP ?_ (hy := Z8)
 refine puh 44 82 (bl 46 35184372088831) HT_ HP ?_ (hy := Z8)
 refine puh 45 10 (bl 46 70368744177663) HT_ HP ?_ (hy := Z8)
 refine done_ (done_of HT_.out Z13) ?_
 clear HT_ HW_
 obtain ⟨n, e⟩ := HD.out
 rw [e]
 exact HQ.out _ _ _ _ _ _ _ _ _ _ _ _ _ _ _ _ _ _ _ _ _ _ _ _ _ _ _ _ _ _ _ _ _ _ _ _ _ _ _ _ _ _ _ _ _ n HT.out.1 HT.out.2
set_option maxHeartbeats 8000000 in
set_option maxRecDepth 100000 in
theorem r13_wp (u0 u1 u2 u3 u4 u6 u10 u11 u12 u13 u14 u15 u16 u17 u18 u19 u20 u21 u22 u23 u24 u25 u26 u27 u28 u29 u30 u31 u32 u33 u34 u35 u36 u37 u38 u39 u40 u41 u42 u43 u44 u45 u46 u47 u48 u49 u50 u51 u52 u53 u54 u55 u56 u57 u58 u59 u60 u61 u62 u63 u64 u65 u66 u67 u68 u69 u70 u71 u72 u73 u74 u75 u76 u77 u78 u79 u80 u81 u82 u83 u84 u85 u86 u87 u88 u89 u90 u91 u92 u93 u94 u95 u96 u97 u98 u99 u100 u101 u102 u103 u104 u105 u106 u107 u108 u109 u110 u111 u112 u113 u114 u115 u116 u117 u118 u119 u120 u121 u122 u123 u124 u125 u126 u127 u128 u129 u130 u131 u132 u133 u134 u135 u136 u137 u138 u139 u140 u141 u142 u143 u144 u145 u146 u147 u148 u149 u150 u151 u152 u153 u154 u155 u156 u157 u158 u159 u160 u161 u162 u163 u164 u165 u166 u167 u168 u169 u170 u171 u172 u173 u174 u175 u176 u177 u178 u179 u180 u181 u182 u183 u184 u185 u186 u187 u188 u189 u190 u191 u192 u193 u194 u195 u196 u197 u198 u199 u200 u201 : Value) (gx gk gw k cx ck cw s0 s1 s2 s3 s4 s5 s6 s7 kk ww : Nat) (Q : Exit → Act → World → Prop) (HP : Aside0 (∀ c (a : Act) N v w, Q (.panic c) (a.put N v) w → Q (.panic c) a w)) (wr : World) (HCL : Aside0 (CL gx gk gw k s0 s1 s2 s3 s4 s5 s6 s7 kk ww wr)) (l0 : s0 < 4294967296) (l1 : s1 < 4294967296) (l2 : s2 < 4294967296) (l3 : s3 < 4294967296) (l4 : s4 < 4294967296) (l5 : s5 < 4294967296) (l6 : s6 < 4294967296) (l7 : s7 < 4294967296) (lk : kk < 4294967296) (lw : ww < 4294967296) (hlt : k < 64)
  (hQ : ∀ (U : Nat) (v83 v84 v85 v86 v87 v88 v89 v90 v91 v92 v93 v94 v95 v96 v97 v98 v99 v100 v101 v102 v103 v104 v105 v106 v107 v108 v109 v110 v111 v112 v113 v114 v115 v116 v117 v118 v119 v120 : Value) (n : Nat), U = bg0 s0 + maj s0 s1 s2 → U < 8589934592 → Q .normal { tmps := #[u0, u1, u2, u3, u4, .slice (some ⟨gk, 0, none⟩) 64 ck, u6, .slice (some ⟨gw, 0, none⟩) 64 cw, .slice (some ⟨gx, 0, none⟩) 8 cx, .int .i64 (k : Int), u10, .int .i64 (U : Int), u12, u13, u14, u15, u16, u17, u18, u19, u20, u21, u22, u23, u24, u25, u26, u27, u28, u29, u30, u31, u32, u33, u34, u35, u36, u37, u38, u39, u40, u41, u42, u43, u44, u45, u46, u47, u48, u49, u50, u51, u52, u53, u54, u55, u56, u57, u58, u59, u60, u61, u62, u63, u64, u65, u66, u67, u68, u69, u70, u71, u72, u73, u74, u75, u76, u77, u78, u79, u80, u81, u82, v83, v84, v85, v86, v87, v88, v89, v90, v91, v92, v93, v94, v95, v96, v97, v98, v99, v100, v101, v102, v103, v104, v105, v106, v107, v108, v109, v110, v111, v112, v113, v114, v115, v116, v117, v118, v119, v120, u121, u122, u123, u124, u125, u126, u127, u128, u129, u130, u131, u132, u133, u134, u135, u136, u137, u138, u139, u140, u141, u142, u143, u144, u145, u146, u147, u148, u149, u150, u151, u152, u153, u154, u155, u156, u157, u158, u159, u160, u161, u162, u163, u164, u165, u166, u167, u168, u169, u170, u171, u172, u173, u174, u175, u176, u177, u178, u179, u180, u181, u182, u183, u184, u185, u186, u187, u188, u189, u190, u191, u192, u193, u194, u195, u196, u197, u198, u199, u200, u201], defers := [] } (wr.drewN n)) :
  (Code.region 13 (opsOf Tryz.f28 13) true).wp Tryz.prog Q { tmps := #[u0, u1, u2, u3, u4, .slice (some ⟨gk, 0, none⟩) 64 ck, u6, .slice (some ⟨gw, 0, none⟩) 64 cw, .slice (some ⟨gx, 0, none⟩) 8 cx, .int .i64 (k : Int), u10, u11, u12, u13, u14, u15, u16, u17, u18, u19, u20, u21, u22, u23, u24, u25, u26, u27, u28, u29, u30, u31, u32, u33, u34, u35, u36, u37, u38, u39, u40, u41, u42, u43, u44, u45, u46, u47, u48, u49, u50, u51, u52, u53, u54, u55, u56, u57, u58, u59, u60, u61, u62, u63, u64, u65, u66, u67, u68, u69, u70, u71, u72, u73, u74, u75, u76, u77, u78, u79, u80, u81, u82, u83, u84, u85, u86, u87, u88, u89, u90, u91, u92, u93, u94, u95, u96, u97, u98, u99, u100, u101, u102, u103, u104, u105, u106, u107, u108, u109, u110, u111, u112, u113, u114, u115, u116, u117, u118, u119, u120, u121, u122, u123, u124, u125, u126, u127, u128, u129, u130, u131, u132, u133, u134, u135, u136, u137, u138, u139, u140, u141, u142, u143, u144, u145, u146, u147, u148, u149, u150, u151, u152, u153, u154, u155, u156, u157, u158, u159, u160, u161, u162, u163, u164, u165, u166, u167, u168, u169, u170, u171, u172, u173, u174, u175, u176, u177, u178, u179, u180, u181, u182, u183, u184, u185, u186, u187, u188, u189, u190, u191, u192, u193, u194, u195, u196, u197, u198, u199, u200, u201], defers := [] } wr := by
 conv in (opsOf _ _) => whnf
 have p0 : ((k : Int) < 64) = True := eq_true Z3
 have p1 : decide ((k : Int) < 64) = true := decide_eq_true Z3
 have p2 : (k < 64) = True := eq_true hlt
 have p3 : decide (k < 64) = true := decide_eq_true hlt
 obtain ⟨q2, q13, q22, b11, b16, d1, d2, d3, d4, d5, U, r2, r13, r22, g11, g16, h1, h2, h3, h4, h5, h6, hU, lU⟩ := ustep s0 s1 s2 l0 l1 l2
 have R2 := Aside0.mk r2
 have R13 := Aside0.mk r13
 have R22 := Aside0.mk r22
 have HQ := Aside0.mk (hQ U)
 have HU := Aside0.mk (And.intro hU lU)
 clear hQ hU lU r2 r13 r22 l0 l1 l2 l3 l4 l5 l6 l7 lk lw hlt
 refine start_ (n := 39) (S := CL gx gk gw k s0 s1 s2 s3 s4 s5 s6 s7 kk ww) (ds := []) #[false, false, false, false, false, false, false, false, false, false, false, false, false, false, false, false, false, false, false, false, false, false, false, false, false, false, false, false, false, false, false, false, false, false, false, false, false, false, false] Z13 rfl rfl HCL.out (fun hHeld => ?_)
 refine with_tabW rsum.tab13 rsum.bits13 (fun HT_ HW_ => ?_)
 have HD : Aside0 (∃ n, wr.drew = wr.drewN n) := ⟨1, rfl⟩
 generalize wr.drew = wd at HD hHeld ⊢
 refine puh 0 83 (bl 39 1) HT_ HP ?_ (hy := Z14)
 refine puh 1 84 (bl 39 3) HT_ HP ?_ (hy := Z14)
 refine tkh 2 85 (bl 39 7) HT_ HW_ HP hHeld ?_ (hy := Z15)
 refine puh 4 87 (bl 39 23) HT_ HP ?_ (hy := Z14)
 refine puh 5 88 (bl 39 55) HT_ HP ?_ (hy := Z14)
 refine tkh 6 89 (bl 39 119) HT_ HW_ HP hHeld ?_ (hy := Z15)
 refine puh 9 92 (bl 39 631) HT_ HP ?_ (hy := Z14)
 refine puh 10 93 (bl 39 1655) HT_ HP ?_ (hy := Z14)
 refine tkh 11 94 (bl 39 3703) HT_ HW_ HP hHeld ?_ (hy := Z15)
 refine puh 14 97 (bl 39 20087) HT_ HP ?_ (hy := Z14)
 refine puh 15 98 (bl 39 52855) HT_ HP ?_ (hy := Z14)
 refine tkh 16 99 (bl 39 118391) HT_ HW_ HP hHeld ?_ (hy := Z15)
 refine puh 17 100 (bl 39 249463) HT_ HP ?_ (hy := Z14)
 refine puh 18 101 (bl 39 511607) HT_ HP ?_ (hy := Z14)
 refine tkh 19 102 (bl 39 1035895) HT_ HW_ HP hHeld ?_ (hy := Z15)
 refine puh 20 103 (bl 39 2084471) HT_ HP ?_ (hy := Z14)
 refine puh 21 104 (bl 39 4181623) HT_ HP ?_ (hy := Z14)
 refine puh 22 105 (bl 39 8375927) HT_ HP ?_ (hy := Z14)
 refine tkh 23 106 (bl 39 16764535) HT_ HW_ HP hHeld ?_ (hy := Z15)
 refine puh 24 107 (bl 39 33541751) HT_ HP ?_ (hy := Z14)
 refine puh 25 108 (bl 39 67096183) HT_ HP ?_ (hy := Z14)
 refine tkh 26 109 (bl 39 134205047) HT_ HW_ HP hHeld ?_ (hy := Z15)
 refine puh 27 110 (bl 39 268422775) HT_ HP ?_ (hy := Z14)
 refine puh 28 111 (bl 39 536858231) HT_ HP ?_ (hy := Z14)
 refine puh 29 112 (bl 39 1073729143) HT_ HP ?_ (hy := Z14)
 refine puh 30 113 (bl 39 2147470967) HT_ HP ?_ (hy := Z14)
 refine tkh 31 114 (bl 39 4294954615) HT_ HW_ HP hHeld ?_ (hy := Z15)
 refine puh 32 115 (bl 39 8589921911) HT_ HP ?_ (hy := Z14)
 refine puh 33 116 (bl 39 17179856503) HT_ HP ?_ (hy := Z14)
 refine tkh 34 117 (bl 39 34359725687) HT_ HW_ HP hHeld ?_ (hy := Z15)
 refine puh 35 118 (bl 39 68719464055) HT_ HP ?_ (hy := Z14)
 refine puh 36 119 (bl 39 137438940791) HT_ HP ?_ (hy := Z14)
 refine one_ (i := 3) (N := some 86) (bl 39 137438940799) rfl rfl (one_of HT_.out Z13) Z11 (fun K hK => ?_)
 refine goes_ Tryz.func53 Z13 rfl #[.int .i64 (s0 : Int), .int .i64 2] (by rfl) rfl rfl Z19 ?_
 refine (r2_right.calls _ _ _ _ R2.out).mono ?_
 rintro e we ⟨rfl, ⟨nd, rfl⟩⟩
 refine ⟨_, rfl, ?_⟩
 refine hK.out _ _ hHeld (fun hHeld => ?_)
 clear hK K
 have HD2 : Aside0 (∃ n, wd.drewN nd = wr.drewN n) := ⟨Z29⟩
 clear HD
 have HD := HD2
 clear HD2
 generalize wd.drewN nd = wd at HD hHeld ⊢
 refine norm_ (a' := ?_) ?_ ?_
 rotate_left; · show Act.put _ (some 86) _ = _; simp only [Act.put, List.setIfInBounds_toArray, List.set_cons_zero, List.set_cons_succ, i64_w, i32_w]; rfl
 refine one_ (i := 7) (N := some 90) (bl 39 137438940927) rfl rfl (one_of HT_.out Z13) Z11 (fun K hK => ?_)
 refine goes_ Tryz.func53 Z13 rfl #[.int .i64 (s0 : Int), .int .i64 13] (by rfl) rfl rfl Z19 ?_
 refine (r2_right.calls _ _ _ _ R13.out).mono ?_
 rintro e we ⟨rfl, ⟨nd, rfl⟩⟩
 refine ⟨_, rfl, ?_⟩
 refine hK.out _ _ hHeld (fun hHeld => ?_)
 clear hK K
 have HD2 : Aside0 (∃ n, wd.drewN nd = wr.drewN n) := ⟨Z29⟩
 clear HD
 have HD := HD2
 clear HD2
 generalize wd.drewN nd = wd at HD hHeld ⊢
 refine norm_ (a' := ?_) ?_ ?_
 rotate_left; · show Act.put _ (some 90) _ = _; simp only [Act.put, List.setIfInBounds_toArray, List.set_cons_zero, List.set_cons_succ, i64_w, i32_w]; rfl
 refine puh 8 91 (bl 39 137438941183) HT_ HP ?_ (hy := Z14)
 refine one_ (i := 12) (N := some 95) (bl 39 137438945279) rfl rfl (one_of HT_.out Z13) Z11 (fun K hK => ?_)
 refine goes_ Tryz.func53 Z13 rfl #[.int .i64 (s0 : Int), .int .i64 22] (by rfl) rfl rfl Z19 ?_
 refine (r2_right.calls _ _ _ _ R22.out).mono ?_
 rintro e we ⟨rfl, ⟨nd, rfl⟩⟩
 refine ⟨_, rfl, ?_⟩
 refine hK.out _ _ hHeld (fun hHeld => ?_)
 clear hK K
 have HD2 : Aside0 (∃ n, wd.drewN nd = wr.drewN n) := ⟨Z29⟩
 clear HD
 have HD := HD2
 clear HD2
 generalize wd.drewN nd = wd at HD hHeld ⊢
 refine norm_ (a' := ?_) ?_ ?_
 rotate_left; · show Act.put _ (some 95) _ = _; simp only [Act.put, List.setIfInBounds_toArray, List.set_cons_zero, List.set_cons_succ, i64_w, i32_w]; rfl
 refine puh 13 96 (bl 39 137438953471) HT_ HP ?_ (hy := Z14)
 refine puh 37 120 (bl 39 274877906943) HT_ HP ?_ (hy := Z14)
 refine puh 38 11 (bl 39 549755813887) HT_ HP ?_ (hy := Z14)
 refine done_ (done_of HT_.out Z13) ?_
 clear HT_ HW_
 obtain ⟨n, e⟩ := HD.out
 rw [e]
 exact HQ.out _ _ _ _ _ _ _ _ _ _ _ _ _ _ _ _ _ _ _ _ _ _ _ _ _ _ _ _ _ _ _ _ _ _ _ _ _ _ n HU.out.1 HU.out.2
set_option maxHeartbeats 8000000 in
set_option maxRecDepth 100000 in
theorem r14_wp (u0 u1 u2 u3 u4 u6 u12 u13 u14 u15 u16 u17 u18 u19 u20 u21 u22 u23 u24 u25 u26 u27 u28 u29 u30 u31 u32 u33 u34 u35 u36 u37 u38 u39 u40 u41 u42 u43 u44 u45 u46 u47 u48 u49 u50 u51 u52 u53 u54 u55 u56 u57 u58 u59 u60 u61 u62 u63 u64 u65 u66 u67 u68 u69 u70 u71 u72 u73 u74 u75 u76 u77 u78 u79 u80 u81 u82 u83 u84 u85 u86 u87 u88 u89 u90 u91 u92 u93 u94 u95 u96 u97 u98 u99 u100 u101 u102 u103 u104 u105 u106 u107 u108 u109 u110 u111 u112 u113 u114 u115 u116 u117 u118 u119 u120 u121 u122 u123 u124 u125 u126 u127 u128 u129 u130 u131 u132 u133 u134 u135 u136 u137 u138 u139 u140 u141 u142 u143 u144 u145 u146 u147 u148 u149 u150 u151 u152 u153 u154 u155 u156 u157 u158 u159 u160 u161 u162 u163 u164 u165 u166 u167 u168 u169 u170 u171 u172 u173 u174 u175 u176 u177 u178 u179 u180 u181 u182 u183 u184 u185 u186 u187 u188 u189 u190 u191 u192 u193 u194 u195 u196 u197 u198 u199 u200 u201 : Value) (gx gk gw k cx ck cw s0 s1 s2 s3 s4 s5 s6 s7 kk ww T U : Nat) (Q : Exit → Act → World → Prop) (HP : Aside0 (∀ c (a : Act) N v w, Q (.panic c) (a.put N v) w → Q (.panic c) a w)) (wr : World) (HCL : Aside0 (CL gx gk gw k s0 s1 s2 s3 s4 s5 s6 s7 kk ww wr)) (l0 : s0 < 4294967296) (l1 : s1 < 4294967296) (l2 : s2 < 4294967296) (l3 : s3 < 4294967296) (l4 : s4 < 4294967296) (l5 : s5 < 4294967296) (l6 : s6 < 4294967296) (l7 : s7 < 4294967296) (lk : kk < 4294967296) (lw : ww < 4294967296) (hlt : k < 64) (lT : T < 21474836480) (lU : U < 8589934592)
  (hQ : ∀ (gn : Nat) (v121 v122 v123 v124 v125 v126 v127 v128 v129 v130 v131 v132 v133 v134 v135 v136 v137 v138 v139 v140 v141 v142 v143 v144 v145 v146 v147 v148 v149 : Value) (wn : World), IRow wn gn [(T + U) % 4294967296, s0, s1, s2, (s3 + T) % 4294967296, s4, s5, s6] → Below wr.heap.size wr wn → wr.heap.size ≤ gn → Q .normal { tmps := #[u0, u1, u2, u3, u4, .slice (some ⟨gk, 0, none⟩) 64 ck, u6, .slice (some ⟨gw, 0, none⟩) 64 cw, .slice (some ⟨gn, 0, none⟩) 8 8, .int .i64 (k : Int), .int .i64 (T : Int), .int .i64 (U : Int), u12, u13, u14, u15, u16, u17, u18, u19, u20, u21, u22, u23, u24, u25, u26, u27, u28, u29, u30, u31, u32, u33, u34, u35, u36, u37, u38, u39, u40, u41, u42, u43, u44, u45, u46, u47, u48, u49, u50, u51, u52, u53, u54, u55, u56, u57, u58, u59, u60, u61, u62, u63, u64, u65, u66, u67, u68, u69, u70, u71, u72, u73, u74, u75, u76, u77, u78, u79, u80, u81, u82, u83, u84, u85, u86, u87, u88, u89, u90, u91, u92, u93, u94, u95, u96, u97, u98, u99, u100, u101, u102, u103, u104, u105, u106, u107, u108, u109, u110, u111, u112, u113, u114, u115, u116, u117, u118, u119, u120, v121, v122, v123, v124, v125, v126, v127, v128, v129, v130, v131, v132, v133, v134, v135, v136, v137, v138, v139, v140, v141, v142, v143, v144, v145, v146, v147, v148, v149, u150, u151, u152, u153, u154, u155, u156, u157, u158, u159, u160, u161, u162, u163, u164, u165, u166, u167, u168, u169, u170, u171, u172, u173, u174, u175, u176, u177, u178, u179, u180, u181, u182, u183, u184, u185, u186, u187, u188, u189, u190, u191, u192, u193, u194, u195, u196, u197, u198, u199, u200, u201], defers := [] } wn) :
  (Code.region 14 (opsOf Tryz.f28 14) true).wp Tryz.prog Q { tmps := #[u0, u1, u2, u3, u4, .slice (some ⟨gk, 0, none⟩) 64 ck, u6, .slice (some ⟨gw, 0, none⟩) 64 cw, .slice (some ⟨gx, 0, none⟩) 8 cx, .int .i64 (k : Int), .int .i64 (T : Int), .int .i64 (U : Int), u12, u13, u14, u15, u16, u17, u18, u19, u20, u21, u22, u23, u24, u25, u26, u27, u28, u29, u30, u31, u32, u33, u34, u35, u36, u37, u38, u39, u40, u41, u42, u43, u44, u45, u46, u47, u48, u49, u50, u51, u52, u53, u54, u55, u56, u57, u58, u59, u60, u61, u62, u63, u64, u65, u66, u67, u68, u69, u70, u71, u72, u73, u74, u75, u76, u77, u78, u79, u80, u81, u82, u83, u84, u85, u86, u87, u88, u89, u90, u91, u92, u93, u94, u95, u96, u97, u98, u99, u100, u101, u102, u103, u104, u105, u106, u107, u108, u109, u110, u111, u112, u113, u114, u115, u116, u117, u118, u119, u120, u121, u122, u123, u124, u125, u126, u127, u128, u129, u130, u131, u132, u133, u134, u135, u136, u137, u138, u139, u140, u141, u142, u143, u144, u145, u146, u147, u148, u149, u150, u151, u152, u153, u154, u155, u156, u157, u158, u159, u160, u161, u162, u163, u164, u165, u166, u167, u168, u169, u170, u171, u172, u173, u174, u175, u176, u177, u178, u179, u180, u181, u182, u183, u184, u185, u186, u187, u188, u189, u190, u191, u192, u193, u194, u195, u196, u197, u198, u199, u200, u201], defers := [] } wr := by
 conv in (opsOf _ _) => whnf
 have p0 : ((k : Int) < 64) = True := eq_true Z3
 have p1 : decide ((k : Int) < 64) = true := decide_eq_true Z3
 have p2 : (k < 64) = True := eq_true hlt
 have p3 : decide (k < 64) = true := decide_eq_true hlt
 obtain ⟨V, n0, V2, n4, j1, rl0, j2, rl4, hn0, hn4⟩ := xstep T U s3 lT lU l3
 have RL0 := Aside0.mk rl0
 have RL4 := Aside0.mk rl4
 have HQ := Aside0.mk hQ
 have HN2 := Aside0.mk (And.intro hn0 hn4)
 clear hQ rl0 rl4 hn0 hn4 l0 l1 l2 l3 l4 l5 l6 l7 lk lw lT lU hlt
 refine start_ (n := 30) (S := CL gx gk gw k s0 s1 s2 s3 s4 s5 s6 s7 kk ww) (ds := [28]) #[false, false, false, false, false, false, false, false, false, false, false, false, false, false, false, false, false, false, false, false, false, false, false, false, false, false, false, false, false, false] Z13 rfl rfl HCL.out (fun hHeld => ?_)
 refine with_tabW rsum.tab14 rsum.bits14 (fun HT_ HW_ => ?_)
 have HD : Aside0 (∃ n, wr.drew = wr.drewN n) := ⟨1, rfl⟩
 generalize wr.drew = wd at HD hHeld ⊢
 refine puh 0 121 (bl 30 1) HT_ HP ?_ (hy := Z20)
 refine puh 1 122 (bl 30 3) HT_ HP ?_ (hy := Z20)
 refine puh 2 123 (bl 30 7) HT_ HP ?_ (hy := Z20)
 refine puh 4 125 (bl 30 23) HT_ HP ?_ (hy := Z20)
 refine puh 5 126 (bl 30 55) HT_ HP ?_ (hy := Z20)
 refine tkh 6 127 (bl 30 119) HT_ HW_ HP hHeld ?_ (hy := Z15)
 refine puh 7 128 (bl 30 247) HT_ HP ?_ (hy := Z20)
 refine puh 8 129 (bl 30 503) HT_ HP ?_ (hy := Z20)
 refine tkh 9 130 (bl 30 1015) HT_ HW_ HP hHeld ?_ (hy := Z15)
 refine puh 10 131 (bl 30 2039) HT_ HP ?_ (hy := Z20)
 refine puh 11 132 (bl 30 4087) HT_ HP ?_ (hy := Z20)
 refine tkh 12 133 (bl 30 8183) HT_ HW_ HP hHeld ?_ (hy := Z15)
 refine puh 13 134 (bl 30 16375) HT_ HP ?_ (hy := Z20)
 refine puh 14 135 (bl 30 32759) HT_ HP ?_ (hy := Z20)
 refine tkh 15 136 (bl 30 65527) HT_ HW_ HP hHeld ?_ (hy := Z15)
 refine puh 16 137 (bl 30 131063) HT_ HP ?_ (hy := Z20)
 refine puh 17 138 (bl 30 262135) HT_ HP ?_ (hy := Z20)
 refine puh 19 140 (bl 30 786423) HT_ HP ?_ (hy := Z20)
 refine puh 20 141 (bl 30 1834999) HT_ HP ?_ (hy := Z20)
 refine tkh 21 142 (bl 30 3932151) HT_ HW_ HP hHeld ?_ (hy := Z15)
 refine puh 22 143 (bl 30 8126455) HT_ HP ?_ (hy := Z20)
 refine puh 23 144 (bl 30 16515063) HT_ HP ?_ (hy := Z20)
 refine tkh 24 145 (bl 30 33292279) HT_ HW_ HP hHeld ?_ (hy := Z15)
 refine puh 25 146 (bl 30 66846711) HT_ HP ?_ (hy := Z20)
 refine puh 26 147 (bl 30 133955575) HT_ HP ?_ (hy := Z20)
 refine tkh 27 148 (bl 30 268173303) HT_ HW_ HP hHeld ?_ (hy := Z15)
 refine one_ (i := 3) (N := some 124) (bl 30 268173311) rfl rfl (one_of HT_.out Z13) Z11 (fun K hK => ?_)
 refine goes_ Tryz.func54 Z13 rfl #[.int .i64 (V : Int)] (by rfl) rfl rfl Z19 ?_
 refine (r2_low.calls _ _ _ RL0.out).mono ?_
 rintro e we ⟨rfl, ⟨nd, rfl⟩⟩
 refine ⟨_, rfl, ?_⟩
 refine hK.out _ _ hHeld (fun hHeld => ?_)
 clear hK K
 have HD2 : Aside0 (∃ n, wd.drewN nd = wr.drewN n) := ⟨Z29⟩
 clear HD
 have HD := HD2
 clear HD2
 generalize wd.drewN nd = wd at HD hHeld ⊢
 refine norm_ (a' := ?_) ?_ ?_
 rotate_left; · show Act.put _ (some 124) _ = _; simp only [Act.put, List.setIfInBounds_toArray, List.set_cons_zero, List.set_cons_succ, i64_w, i32_w]; rfl
 refine one_ (i := 18) (N := some 139) (bl 30 268435455) rfl rfl (one_of HT_.out Z13) Z11 (fun K hK => ?_)
 refine goes_ Tryz.func54 Z13 rfl #[.int .i64 (V2 : Int)] (by rfl) rfl rfl Z19 ?_
 refine (r2_low.calls _ _ _ RL4.out).mono ?_
 rintro e we ⟨rfl, ⟨nd, rfl⟩⟩
 refine ⟨_, rfl, ?_⟩
 refine hK.out _ _ hHeld (fun hHeld => ?_)
 clear hK K
 have HD2 : Aside0 (∃ n, wd.drewN nd = wr.drewN n) := ⟨Z29⟩
 clear HD
 have HD := HD2
 clear HD2
 generalize wd.drewN nd = wd at HD hHeld ⊢
 refine norm_ (a' := ?_) ?_ ?_
 rotate_left; · show Act.put _ (some 139) _ = _; simp only [Act.put, List.setIfInBounds_toArray, List.set_cons_zero, List.set_cons_succ, i64_w, i32_w]; rfl
 refine last_ (i := 28) (N := some 149) (bl 30 536870911) rfl rfl (one_of HT_.out Z13) Z11 (fun K hK => ?_)
 refine value_ (v := .slice (some ⟨wd.heap.size, 0, none⟩) 8 8) (w1 := wd.alloc (.cells #[.int .i64 (n0 : Int), .int .i64 (s0 : Int), .int .i64 (s1 : Int), .int .i64 (s2 : Int), .int .i64 (n4 : Int), .int .i64 (s4 : Int), .int .i64 (s5 : Int), .int .i64 (s6 : Int)] 3 (0, 0))) (by rfl) rfl Z33 ?_
 obtain ⟨gn, hgn⟩ : ∃ gn, gn = wd.heap.size := ⟨_, rfl⟩
 have HN : Aside0 (IRow (wd.alloc (.cells #[.int .i64 (n0 : Int), .int .i64 (s0 : Int), .int .i64 (s1 : Int), .int .i64 (s2 : Int), .int .i64 (n4 : Int), .int .i64 (s4 : Int), .int .i64 (s5 : Int), .int .i64 (s6 : Int)] 3 (0, 0))) gn [n0, s0, s1, s2, n4, s4, s5, s6]) := ⟨by rw [hgn]; exact irow_lit (heap_alloc_new _ _) rfl⟩
 have HBn : Aside0 (Below wr.heap.size wr (wd.alloc (.cells #[.int .i64 (n0 : Int), .int .i64 (s0 : Int), .int .i64 (s1 : Int), .int .i64 (s2 : Int), .int .i64 (n4 : Int), .int .i64 (s4 : Int), .int .i64 (s5 : Int), .int .i64 (s6 : Int)] 3 (0, 0)))) := ⟨by obtain ⟨n, e⟩ := HD.out; rw [e]; exact below_alloc (pw_below_drewN (Below.refl _ _) n) _⟩
 have HGN : Aside0 (wr.heap.size ≤ gn) := ⟨by rw [hgn]; obtain ⟨n, e⟩ := HD.out; rw [e]; exact Nat.le_refl _⟩
 rw [← hgn]
 refine hK.out _ _ ?_
 clear hK K hHeld hgn HD
 generalize wd.alloc _ = wn at HN HBn ⊢
 refine norm_ (a' := ?_) ?_ ?_
 rotate_left; · show Act.put _ (some 149) _ = _; simp only [Act.put, List.setIfInBounds_toArray, List.set_cons_zero, List.set_cons_succ, i64_w, i32_w]; rfl
 refine puh 29 8 (bl 30 1073741823) HT_ HP ?_ (hy := Z20)
 refine done_ (done_of HT_.out Z13) ?_
 clear HT_ HW_
 exact HQ.out gn _ _ _ _ _ _ _ _ _ _ _ _ _ _ _ _ _ _ _ _ _ _ _ _ _ _ _ _ _ wn (by rw [← HN2.out.1, ← HN2.out.2]; exact HN.out) HBn.out HGN.out
set_option maxHeartbeats 8000000 in
set_option maxRecDepth 100000 in
theorem r18_wp (u0 u1 u2 u4 u5 u6 u7 u9 u10 u11 u13 u14 u15 u16 u17 u18 u19 u20 u21 u22 u23 u24 u25 u26 u27 u28 u29 u30 u31 u32 u33 u34 u35 u36 u37 u38 u39 u40 u41 u42 u43 u44 u45 u46 u47 u48 u49 u50 u51 u52 u53 u54 u55 u56 u57 u58 u59 u60 u61 u62 u63 u64 u65 u66 u67 u68 u69 u70 u71 u72 u73 u74 u75 u76 u77 u78 u79 u80 u81 u82 u83 u84 u85 u86 u87 u88 u89 u90 u91 u92 u93 u94 u95 u96 u97 u98 u99 u100 u101 u102 u103 u104 u105 u106 u107 u108 u109 u110 u111 u112 u113 u114 u115 u116 u117 u118 u119 u120 u121 u122 u123 u124 u125 u126 u127 u128 u129 u130 u131 u132 u133 u134 u135 u136 u137 u138 u139 u140 u141 u142 u143 u144 u145 u146 u147 u148 u149 u150 u151 u152 u153 u154 u155 u156 u157 u158 u159 u160 u161 u162 u163 u164 u165 u166 u167 u168 u169 u170 u171 u172 u173 u174 u175 u176 u177 u178 u179 u180 u181 u182 u183 u184 u185 u186 u187 u188 u189 u190 u191 u192 u193 u194 u195 u196 u197 u198 u199 u200 u201 : Value) (gh gx cx j hi xi : Nat) (Q : Exit → Act → World → Prop) (HP : Aside0 (∀ c (a : Act) N v w, Q (.panic c) (a.put N v) w → Q (.panic c) a w)) (wr : World) (HCL : Aside0 (wr.cell? ⟨gh, j, none⟩ = some (.int .i64 (hi : Int)) ∧ wr.cell? ⟨gx, j, none⟩ = some (.int .i64 (xi : Int)))) (HF : Aside0 (wr.frozen? ⟨gh, j, none⟩ = false)) (hlt : j < 8) (li : hi < 4294967296) (lx : xi < 4294967296)
  (hQ : ∀ (v154 v155 v156 v157 v158 v159 v160 v161 v162 v163 v164 v165 v166 : Value) (n : Nat), Q .normal { tmps := #[u0, u1, u2, .slice (some ⟨gh, 0, none⟩) 8 8, u4, u5, u6, u7, .slice (some ⟨gx, 0, none⟩) 8 cx, u9, u10, u11, .int .i64 (j : Int), u13, u14, u15, u16, u17, u18, u19, u20, u21, u22, u23, u24, u25, u26, u27, u28, u29, u30, u31, u32, u33, u34, u35, u36, u37, u38, u39, u40, u41, u42, u43, u44, u45, u46, u47, u48, u49, u50, u51, u52, u53, u54, u55, u56, u57, u58, u59, u60, u61, u62, u63, u64, u65, u66, u67, u68, u69, u70, u71, u72, u73, u74, u75, u76, u77, u78, u79, u80, u81, u82, u83, u84, u85, u86, u87, u88, u89, u90, u91, u92, u93, u94, u95, u96, u97, u98, u99, u100, u101, u102, u103, u104, u105, u106, u107, u108, u109, u110, u111, u112, u113, u114, u115, u116, u117, u118, u119, u120, u121, u122, u123, u124, u125, u126, u127, u128, u129, u130, u131, u132, u133, u134, u135, u136, u137, u138, u139, u140, u141, u142, u143, u144, u145, u146, u147, u148, u149, u150, u151, u152, u153, v154, v155, v156, v157, v158, v159, v160, v161, v162, v163, v164, v165, v166, u167, u168, u169, u170, u171, u172, u173, u174, u175, u176, u177, u178, u179, u180, u181, u182, u183, u184, u185, u186, u187, u188, u189, u190, u191, u192, u193, u194, u195, u196, u197, u198, u199, u200, u201], defers := [] } ((wr.drewN n).setCell ⟨gh, j, none⟩ (.int .i64 (((hi + xi) % 4294967296 : Nat) : Int)))) :
  (Code.region 18 (opsOf Tryz.f28 18) true).wp Tryz.prog Q { tmps := #[u0, u1, u2, .slice (some ⟨gh, 0, none⟩) 8 8, u4, u5, u6, u7, .slice (some ⟨gx, 0, none⟩) 8 cx, u9, u10, u11, .int .i64 (j : Int), u13, u14, u15, u16, u17, u18, u19, u20, u21, u22, u23, u24, u25, u26, u27, u28, u29, u30, u31, u32, u33, u34, u35, u36, u37, u38, u39, u40, u41, u42, u43, u44, u45, u46, u47, u48, u49, u50, u51, u52, u53, u54, u55, u56, u57, u58, u59, u60, u61, u62, u63, u64, u65, u66, u67, u68, u69, u70, u71, u72, u73, u74, u75, u76, u77, u78, u79, u80, u81, u82, u83, u84, u85, u86, u87, u88, u89, u90, u91, u92, u93, u94, u95, u96, u97, u98, u99, u100, u101, u102, u103, u104, u105, u106, u107, u108, u109, u110, u111, u112, u113, u114, u115, u116, u117, u118, u119, u120, u121, u122, u123, u124, u125, u126, u127, u128, u129, u130, u131, u132, u133, u134, u135, u136, u137, u138, u139, u140, u141, u142, u143, u144, u145, u146, u147, u148, u149, u150, u151, u152, u153, u154, u155, u156, u157, u158, u159, u160, u161, u162, u163, u164, u165, u166, u167, u168, u169, u170, u171, u172, u173, u174, u175, u176, u177, u178, u179, u180, u181, u182, u183, u184, u185, u186, u187, u188, u189, u190, u191, u192, u193, u194, u195, u196, u197, u198, u199, u200, u201], defers := [] } wr := by
 conv in (opsOf _ _) => whnf
 have p0 : ((j : Int) < 8) = True := eq_true Z3
 have p1 : decide ((j : Int) < 8) = true := decide_eq_true Z3
 have p2 : (j < 8) = True := eq_true hlt
 have p3 : decide (j < 8) = true := decide_eq_true hlt
 obtain ⟨V, nv, j1, rl0, hnv⟩ : ∃ V nv : Nat, wrap64 ((hi : Int) + (xi : Int)) = (V : Int) ∧ r2_low.f (V : Int) = some (nv : Int) ∧ nv = (hi + xi) % 4294967296 := ⟨hi + xi, (hi + xi) % 4294967296, add64 _ _ Z3, low_ev _ Z3, rfl⟩
 have RL0 := Aside0.mk rl0
 rw [← hnv] at hQ
 have HQ := Aside0.mk hQ
 clear hQ hnv rl0 li lx hlt
 refine start_ (n := 14) (S := fun w' => w'.cell? ⟨gh, j, none⟩ = some (.int .i64 (hi : Int)) ∧ w'.cell? ⟨gx, j, none⟩ = some (.int .i64 (xi : Int))) (ds := [13]) #[false, false, false, false, false, false, false, false, false, false, false, false, false, false] Z13 rfl rfl HCL.out (fun hHeld => ?_)
 refine with_tabW rsum.tab18 rsum.bits18 (fun HT_ HW_ => ?_)
 have HD : Aside0 (∃ n, wr.drew = wr.drewN n) := ⟨1, rfl⟩
 generalize wr.drew = wd at HD hHeld ⊢
 refine puh 0 154 (bl 14 1) HT_ HP ?_ (hy := Z27)
 refine puh 1 155 (bl 14 3) HT_ HP ?_ (hy := Z27)
 refine puh 2 156 (bl 14 7) HT_ HP ?_ (hy := Z27)
 refine puh 3 157 (bl 14 15) HT_ HP ?_ (hy := Z27)
 refine puh 4 158 (bl 14 31) HT_ HP ?_ (hy := Z27)
 refine tkh 5 159 (bl 14 63) HT_ HW_ HP hHeld ?_ (hy := by rintro w' ⟨x0, x1⟩; go_simp; with_reducible rfl)
 refine puh 6 160 (bl 14 127) HT_ HP ?_ (hy := Z27)
 refine puh 7 161 (bl 14 255) HT_ HP ?_ (hy := Z27)
 refine puh 8 162 (bl 14 511) HT_ HP ?_ (hy := Z27)
 refine tkh 9 163 (bl 14 1023) HT_ HW_ HP hHeld ?_ (hy := by rintro w' ⟨x0, x1⟩; go_simp; with_reducible rfl)
 refine puh 10 164 (bl 14 2047) HT_ HP ?_ (hy := Z27)
 refine one_ (i := 11) (N := some 165) (bl 14 4095) rfl rfl (one_of HT_.out Z13) Z11 (fun K hK => ?_)
 refine goes_ Tryz.func54 Z13 rfl #[.int .i64 (V : Int)] (by rfl) rfl rfl Z19 ?_
 refine (r2_low.calls _ _ _ RL0.out).mono ?_
 rintro e we ⟨rfl, ⟨nd, rfl⟩⟩
 refine ⟨_, rfl, ?_⟩
 refine hK.out _ _ hHeld (fun hHeld => ?_)
 clear hK K
 have HD2 : Aside0 (∃ n, wd.drewN nd = wr.drewN n) := ⟨Z29⟩
 clear HD
 have HD := HD2
 clear HD2
 generalize wd.drewN nd = wd at HD hHeld ⊢
 refine norm_ (a' := ?_) ?_ ?_
 rotate_left; · show Act.put _ (some 165) _ = _; simp only [Act.put, List.setIfInBounds_toArray, List.set_cons_zero, List.set_cons_succ, i64_w, i32_w]; rfl
 refine puh 12 166 (bl 14 8191) HT_ HP ?_ (hy := Z27)
 refine last_ (i := 13) (N := none) (bl 14 16383) rfl rfl (one_of HT_.out Z13) Z11 (fun K hK => ?_)
 have c0 := hHeld.1
 have f0 : wd.frozen? ⟨gh, j, none⟩ = false := by obtain ⟨n, e⟩ := HD.out; rw [e]; exact HF.out
 refine skip_ (w1 := wd.setCell ⟨gh, j, none⟩ (.int .i64 (nv : Int))) (by rfl) rfl Z33 ?_
 refine hK.out _ _ ?_
 clear hK K c0 f0
 refine done_ (done_of HT_.out Z13) ?_
 clear HT_ HW_
 obtain ⟨n, e⟩ := HD.out
 rw [e]
 exact HQ.out _ _ _ _ _ _ _ _ _ _ _ _ _ n
end Go.Proofs.YtkhblpmjmkhiiaaGreatDoor.T
