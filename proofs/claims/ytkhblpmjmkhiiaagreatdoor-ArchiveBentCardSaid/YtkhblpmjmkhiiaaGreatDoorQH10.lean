/- The document's sum: its end. -/
import Derived.Test.YtkhblpmjmkhiiaaGreatDoorQH9
import Derived.Test.YtkhblpmjmkhiiaaGreatDoorQK4
namespace Go.Proofs.YtkhblpmjmkhiiaaGreatDoor.T
open Go.RowKit Go.Proofs.YtkhblpmjmkhiiaaGreatDoorW.PrintWords Go.Proofs.YtkhblpmjmkhiiaaGreatDoorW.PrintLast Go.Proofs.YtkhblpmjmkhiiaaGreatDoorW.PrintMore Go.Proofs.YtkhblpmjmkhiiaaGreatDoor.PAll
set_option linter.unusedSimpArgs false
set_option linter.unusedVariables false
def hmix (st S : List Nat) (j : Nat) : List Nat := (addW st S).take j ++ st.drop j
theorem hmix_zero (st S : List Nat) : hmix st S 0 = st := by simp [hmix]
theorem hmix_len {st S : List Nat} (h : st.length = 8) {j : Nat} (hj : j ≤ 8) : (hmix st S j).length = 8 := by
 unfold hmix
 rw [List.length_append, List.length_take, List.length_drop, addW_length]
 omega
theorem hmix_at {st S : List Nat} (h : st.length = 8) {j : Nat} (hj : j < 8) : nt (hmix st S j) j = nt st j := by
 unfold hmix nt
 rw [List.getD_eq_getElem?_getD, List.getD_eq_getElem?_getD, List.getElem?_append_right (by rw [List.length_take, addW_length]; omega), List.length_take, addW_length, List.getElem?_drop]
 congr 2
 omega
theorem hmix_set {st S : List Nat} (h : st.length = 8) {j : Nat} (hj : j < 8) : (hmix st S j).set j ((nt st j + nt S j) % 4294967296) = hmix st S (j + 1) := by
 unfold hmix
 have hl : ((addW st S).take j).length = j := by rw [List.length_take, addW_length]; omega
 rw [List.set_append_right _ _ Z3, hl, Nat.sub_self, List.drop_eq_getElem_cons (Z3 : j < st.length), List.set_cons_zero, List.take_add_one, List.append_assoc]
 congr 1
 rw [show (addW st S)[j]? = some ((nt st j + nt S j) % 4294967296) by simp [addW, hj]]
 rfl
theorem hmix_full {st S : List Nat} (h : st.length = 8) : hmix st S 8 = addW st S := by
 unfold hmix
 rw [List.take_of_length_le (by rw [addW_length]; omega), List.drop_eq_nil_of_le Z3, List.append_nil]
theorem FRow.far {w : World} {base : Nat} {v : Value} {l : List UInt8} (h : FRow w base v l) (p : Addr) (hp : p.block < base) (u : Value) : FRow (w.setCell p u) base v l := by
 obtain ⟨g, cap, cur, fr, rfl, h1, hh, h2⟩ := h
 refine ⟨g, cap, cur, fr, rfl, h1, ?_, h2⟩
 simp only [World.setCell, Array.getElem?_modify, hh]
 rw [if_neg Z3]
theorem below_less {B B' : Nat} {w w' : World} (h : Below B w w') (hb : B' ≤ B) : Below B' w w' := ⟨h.os, h.tape, h.output, h.size, fun k hk => h.block k Z3⟩
theorem IRow.below_of {w w1 : World} {g B : Nat} {l : List Nat} (h : IRow w g l) (hb : Below B w w1) (hg : g < B) : IRow w1 g l := by
 obtain ⟨cur, hh, h2⟩ := h
 exact ⟨cur, by rw [hb.block g hg]; exact hh, h2⟩
theorem flat32_len : ∀ (l : List Nat), (l.flatMap bytes32).length = 4 * l.length
 | [] => rfl
 | x :: r => by
  rw [List.flatMap_cons, List.length_append, flat32_len r, bytes32_length, List.length_cons]
  omega
theorem flat32_snoc {H : List Nat} {i : Nat} (hi : i < H.length) : (H.take (i + 1)).flatMap bytes32 = (H.take i).flatMap bytes32 ++ bytes32 (nt H i) := by
 rw [List.take_add_one, List.getElem?_eq_getElem hi, List.flatMap_append]
 congr 1
 unfold nt
 rw [List.getD_eq_getElem?_getD, List.getElem?_eq_getElem hi]
 simp
theorem and255 (a : Nat) (h : a < 9223372036854775808) : bits .and .i64 (a : Int) 255 = ((a % 256 : Nat) : Int) := by
 have e := i64_and a 255 h Z11
 rw [show (((255 : Nat)) : Int) = 255 from rfl] at e
 rw [e, show (255 : Nat) = 2 ^ 8 - 1 by decide, Nat.and_two_pow_sub_one_eq_mod]
theorem four_bytes (x : Nat) (h : x < 4294967296) : ∃ b0 b1 b2 b3 : Nat, IntKind.u8.wrap ((x : Int) / 16777216) = (b0 : Int) ∧ bits .and .i64 ((x : Int) / 65536) 255 = (b1 : Int) ∧ bits .and .i64 ((x : Int) / 256) 255 = (b2 : Int) ∧ bits .and .i64 (x : Int) 255 = (b3 : Int) ∧
  IntKind.u8.wrap (b1 : Int) = (b1 : Int) ∧ IntKind.u8.wrap (b2 : Int) = (b2 : Int) ∧ IntKind.u8.wrap (b3 : Int) = (b3 : Int) ∧ (bytes32 x).map ub = [(b0 : Int), (b1 : Int), (b2 : Int), (b3 : Int)] := by
 refine ⟨x / 16777216 % 256, x / 65536 % 256, x / 256 % 256, x % 256, by rw [IntKind.wrap_u8]; omega, ?_, ?_, and255 x Z3, by rw [IntKind.wrap_u8]; omega, by rw [IntKind.wrap_u8]; omega, by rw [IntKind.wrap_u8]; omega, ?_⟩
 ·
  rw [show (x : Int) / 65536 = ((x / 65536 : Nat) : Int) by omega]
  exact and255 _ Z3
 ·
  rw [show (x : Int) / 256 = ((x / 256 : Nat) : Int) by omega]
  exact and255 _ Z3
 ·
  simp [bytes32, ub]
theorem four_C (w : World) (b0 b1 b2 b3 : Nat) : Kd.C (Kd.int .u8) (w.alloc (.cells #[.int .u8 (b0 : Int), .int .u8 (b1 : Int), .int .u8 (b2 : Int), .int .u8 (b3 : Int)] 5 (0, 0))) (some ⟨w.heap.size, 0, none⟩) 4 [(b0 : Int), (b1 : Int), (b2 : Int), (b3 : Int)] :=
 Kd.C_of_reads (enc := Value.int .u8) (d := (0 : Int)) (h1 := fun _ => rfl) ⟨rfl, Z11, fun _ => ⟨_, rfl, fun j hj => by
  rw [add_plain]
  show (w.alloc (.cells #[.int .u8 (b0 : Int), .int .u8 (b1 : Int), .int .u8 (b2 : Int), .int .u8 (b3 : Int)] 5 (0, 0))).cell? ⟨w.heap.size, j, none⟩ = _
  rw [blk_cell (heap_alloc_new _ _)]
  rcases (Z3 : j = 0 ∨ j = 1 ∨ j = 2 ∨ j = 3) with rfl | rfl | rfl | rfl <;> rfl⟩⟩
def CL (gx gk gw k s0 s1 s2 s3 s4 s5 s6 s7 kk ww : Nat) (w' : World) : Prop :=
 w'.cell? ⟨gx, 0, none⟩ = some (.int .i64 (s0 : Int)) ∧ w'.cell? ⟨gx, 1, none⟩ = some (.int .i64 (s1 : Int)) ∧ w'.cell? ⟨gx, 2, none⟩ = some (.int .i64 (s2 : Int)) ∧ w'.cell? ⟨gx, 3, none⟩ = some (.int .i64 (s3 : Int)) ∧
 w'.cell? ⟨gx, 4, none⟩ = some (.int .i64 (s4 : Int)) ∧ w'.cell? ⟨gx, 5, none⟩ = some (.int .i64 (s5 : Int)) ∧ w'.cell? ⟨gx, 6, none⟩ = some (.int .i64 (s6 : Int)) ∧ w'.cell? ⟨gx, 7, none⟩ = some (.int .i64 (s7 : Int)) ∧
 w'.cell? ⟨gk, k, none⟩ = some (.int .i64 (kk : Int)) ∧ w'.cell? ⟨gw, k, none⟩ = some (.int .i64 (ww : Int))
theorem infoI64 : (Tryz.prog.info? 3).map (fun i => (i.zero, i.size, i.bytes)) = some (some (.int .i64 0), 1, 8) := by kernel_rfl
theorem h0_row : (#[.int .i64 1779033703, .int .i64 3144134277, .int .i64 1013904242, .int .i64 2773480762, .int .i64 1359893119, .int .i64 2600822924, .int .i64 528734635, .int .i64 1541459225] : Array Value).toList = H0.map vi := by rfl
def rsum.T12 : Bool × List (List Nat × List Nat) := (true, [([], []), ([0], [0]), ([1], [1]), ([], []), ([3], [3]), ([4], [4]), ([5], [5]), ([], []), ([7], [7]), ([8], [8]), ([9, 6], [9]), ([6, 10], [6, 10]), ([], []), ([12], [12]), ([13], [13]), ([14, 10], [14]), ([11, 15], [11, 15]), ([2, 16], [2, 16]), ([], []), ([18], [18]), ([19], [19]), ([], []), ([21], [21]), ([22], [22]), ([20, 23], [20, 23]), ([], []), ([25], [25]), ([26], [26]), ([27], [27]), ([], []), ([29], [29]), ([30], [30]), ([28, 31], [28, 31]), ([24, 32], [24, 32]), ([17, 33], [17, 33]), ([], []), ([], []), ([35, 36], [35, 36]), ([37], [37]), ([34, 38], [34, 38]), ([], []), ([], []), ([40, 41], [40, 41]), ([42], [42]), ([39, 43], [39, 43]), ([44, 15, 0, 1, 2, 3, 4, 5, 6, 7, 8, 9, 10, 11, 12, 13, 14, 15, 16, 17, 18, 19, 20, 21, 22, 23, 24, 25, 26, 27, 28, 29, 30, 31, 32, 33, 34, 35, 36, 37, 38, 39, 40, 41, 42, 43, 44], [44])])
def rsum.B12 : List Nat := [0, 1, 3, 0, 8, 24, 56, 0, 128, 384, 1016, 2040, 0, 4096, 12288, 30712, 65528, 131071, 0, 262144, 786432, 0, 2097152, 6291456, 16515072, 0, 33554432, 100663296, 234881024, 0, 536870912, 1610612736, 4261412864, 8589672448, 17179869183, 0, 0, 103079215104, 240518168576, 549755813887, 0, 0, 3298534883328, 7696581394432, 17592186044415, 35184372088831]
theorem rsum.tab12 : rtab .any (opsOf Tryz.f28 12) = rsum.T12 := by kernel_rfl
theorem rsum.bits12 : waitsOk rsum.T12.2 rsum.B12 = true := by kernel_rfl
def rsum.T13 : Bool × List (List Nat × List Nat) := (true, [([], []), ([0], [0]), ([1], [1]), ([2], [2]), ([], []), ([4], [4]), ([5], [5]), ([6, 3], [6]), ([3, 7], [3, 7]), ([], []), ([9], [9]), ([10], [10]), ([11, 7], [11]), ([8, 12], [8, 12]), ([], []), ([14], [14]), ([15], [15]), ([], []), ([17], [17]), ([18], [18]), ([16, 19], [16, 19]), ([], []), ([21], [21]), ([22], [22]), ([], []), ([24], [24]), ([25], [25]), ([23, 26], [23, 26]), ([20, 27], [20, 27]), ([], []), ([29], [29]), ([30], [30]), ([], []), ([32], [32]), ([33], [33]), ([31, 34], [31, 34]), ([28, 35], [28, 35]), ([13, 36], [13, 36]), ([37, 12, 0, 1, 2, 3, 4, 5, 6, 7, 8, 9, 10, 11, 12, 13, 14, 15, 16, 17, 18, 19, 20, 21, 22, 23, 24, 25, 26, 27, 28, 29, 30, 31, 32, 33, 34, 35, 36, 37], [37])])
def rsum.B13 : List Nat := [0, 1, 3, 7, 0, 16, 48, 127, 255, 0, 512, 1536, 3839, 8191, 0, 16384, 49152, 0, 131072, 393216, 1032192, 0, 2097152, 6291456, 0, 16777216, 50331648, 132120576, 268419072, 0, 536870912, 1610612736, 0, 4294967296, 12884901888, 33822867456, 68719460352, 137438953471, 274877906943]
theorem rsum.tab13 : rtab .any (opsOf Tryz.f28 13) = rsum.T13 := by kernel_rfl
theorem rsum.bits13 : waitsOk rsum.T13.2 rsum.B13 = true := by kernel_rfl
def rsum.T14 : Bool × List (List Nat × List Nat) := (true, [([], []), ([], []), ([0, 1], [0, 1]), ([2], [2]), ([], []), ([4], [4]), ([5], [5]), ([], []), ([7], [7]), ([8], [8]), ([], []), ([10], [10]), ([11], [11]), ([], []), ([13], [13]), ([14], [14]), ([], []), ([15, 16], [15, 16]), ([17, 3], [17]), ([], []), ([19], [19]), ([20], [20]), ([], []), ([22], [22]), ([23], [23]), ([], []), ([25], [25]), ([26], [26]), ([3, 6, 9, 12, 18, 21, 24, 27], [3, 6, 9, 12, 18, 21, 24, 27]), ([28, 18, 0, 1, 2, 3, 4, 5, 6, 7, 8, 9, 10, 11, 12, 13, 14, 15, 16, 17, 18, 19, 20, 21, 22, 23, 24, 25, 26, 27, 28], [4, 7, 10, 13, 19, 22, 25, 28])])
def rsum.B14 : List Nat := [0, 0, 3, 7, 0, 16, 48, 0, 128, 384, 0, 1024, 3072, 0, 8192, 24576, 0, 122880, 253967, 0, 524288, 1572864, 0, 4194304, 12582912, 0, 33554432, 100663296, 268435455, 536870911]
theorem rsum.tab14 : rtab .any (opsOf Tryz.f28 14) = rsum.T14 := by kernel_rfl
theorem rsum.bits14 : waitsOk rsum.T14.2 rsum.B14 = true := by kernel_rfl
def rsum.T18 : Bool × List (List Nat × List Nat) := (true, [([], []), ([], []), ([], []), ([], []), ([2, 3], [2, 3]), ([4], [4]), ([], []), ([], []), ([6, 7], [6, 7]), ([8], [8]), ([5, 9], [5, 9]), ([10], [10]), ([0, 1, 0, 1, 2, 3, 4, 5, 6, 7, 8, 9, 10, 11], [0, 1]), ([12, 11, 11, 0, 1, 2, 3, 4, 5, 6, 7, 8, 9, 10, 11], [11, 12])])
def rsum.B18 : List Nat := [0, 0, 0, 0, 12, 28, 0, 0, 192, 448, 1020, 2044, 4095, 8191]
theorem rsum.tab18 : rtab .any (opsOf Tryz.f28 18) = rsum.T18 := by kernel_rfl
theorem rsum.bits18 : waitsOk rsum.T18.2 rsum.B18 = true := by kernel_rfl
def rsum.T23 : Bool × List (List Nat × List Nat) := (true, [([], []), ([], []), ([], []), ([1, 2], [1, 2]), ([3], [3]), ([4], [4]), ([5], [5]), ([], []), ([], []), ([7, 8], [7, 8]), ([9], [9]), ([10], [10]), ([11], [11]), ([12], [12]), ([], []), ([], []), ([14, 15], [14, 15]), ([16], [16]), ([17], [17]), ([18], [18]), ([19], [19]), ([], []), ([], []), ([21, 22], [21, 22]), ([23], [23]), ([24], [24]), ([25], [25]), ([6, 13, 20, 26], [6, 13, 20, 26]), ([0, 27], [0, 27]), ([28, 28, 0, 1, 2, 3, 4, 5, 6, 7, 8, 9, 10, 11, 12, 13, 14, 15, 16, 17, 18, 19, 20, 21, 22, 23, 24, 25, 26, 27, 28], [0, 28])])
def rsum.B23 : List Nat := [0, 0, 0, 6, 14, 30, 62, 0, 0, 384, 896, 1920, 3968, 8064, 0, 0, 49152, 114688, 245760, 507904, 1032192, 0, 0, 6291456, 14680064, 31457280, 65011712, 134217726, 268435455, 536870911]
theorem rsum.tab23 : rtab .any (opsOf Tryz.f28 23) = rsum.T23 := by kernel_rfl
theorem rsum.bits23 : waitsOk rsum.T23.2 rsum.B23 = true := by kernel_rfl
def nB (s : ByteArray) : Nat := (pad (pb s)).length / 64
theorem nB_len (s : ByteArray) : (pad (pb s)).length = 64 * nB s := by
 have := pad_length (pb s)
 unfold nB
 omega
theorem nB_le (s : ByteArray) : nB s ≤ s.size + 2 := by
 unfold nB pad
 rw [List.length_append, List.length_append, List.length_append, List.length_replicate, bytes64_length, pb_len]
 simp only [List.length_singleton]
 omega
def sndC : Code → Code
 | .seq _ b => b
 | c => c
def bodyC (f : Func) : Code := f.body.getD .skip
set_option maxHeartbeats 8000000 in
set_option maxRecDepth 100000 in
theorem rsum_tail (u0 u1 u2 u4 u5 u6 u7 u8 u9 u10 u11 u12 u13 u14 u15 u16 u17 u18 u19 u20 u21 u22 u23 u24 u25 u26 u27 u28 u29 u30 u31 u32 u33 u34 u35 u36 u37 u38 u39 u40 u41 u42 u43 u44 u45 u46 u47 u48 u49 u50 u51 u52 u53 u54 u55 u56 u57 u58 u59 u60 u61 u62 u63 u64 u65 u66 u67 u68 u69 u70 u71 u72 u73 u74 u75 u76 u77 u78 u79 u80 u81 u82 u83 u84 u85 u86 u87 u88 u89 u90 u91 u92 u93 u94 u95 u96 u97 u98 u99 u100 u101 u102 u103 u104 u105 u106 u107 u108 u109 u110 u111 u112 u113 u114 u115 u116 u117 u118 u119 u120 u121 u122 u123 u124 u125 u126 u127 u128 u129 u130 u131 u132 u133 u134 u135 u136 u137 u138 u139 u140 u141 u142 u143 u144 u145 u146 u147 u148 u149 u150 u151 u152 u153 u154 u155 u156 u157 u158 u159 u160 u161 u162 u163 u164 u165 u166 u167 u168 u169 u170 u171 u172 u173 u174 u175 u176 u177 u178 u179 u180 u181 u182 u183 u184 u185 u186 u187 u188 u189 u190 u191 u192 u193 u194 u195 u196 u197 u198 u199 u200 u201 : Value) (s : ByteArray) (gh : Nat) (H : List Nat) (w wr : World) (HG : Aside0 (gh = w.heap.size)) (HHH : Aside0 (H.length = 8 ∧ sha (pb s) = H.flatMap bytes32)) (HSI : Aside0 (H = stN (pad (pb s)) (nB s)))
  (HH : Aside0 (IRow wr gh H)) (HB : Aside0 (Below w.heap.size w wr)) :
  Code.wp Tryz.prog (sndC (sndC (sndC (sndC (sndC (bodyC Tryz.f28)))))) (bodyPost Tryz.prog Tryz.f28 fun e w' => e = .returned (.string ⟨(sha (pb s)).toArray⟩) ∧ Below w.heap.size w w') { tmps := #[u0, u1, u2, .slice (some ⟨gh, 0, none⟩) 8 8, u4, u5, u6, u7, u8, u9, u10, u11, u12, u13, u14, u15, u16, u17, u18, u19, u20, u21, u22, u23, u24, u25, u26, u27, u28, u29, u30, u31, u32, u33, u34, u35, u36, u37, u38, u39, u40, u41, u42, u43, u44, u45, u46, u47, u48, u49, u50, u51, u52, u53, u54, u55, u56, u57, u58, u59, u60, u61, u62, u63, u64, u65, u66, u67, u68, u69, u70, u71, u72, u73, u74, u75, u76, u77, u78, u79, u80, u81, u82, u83, u84, u85, u86, u87, u88, u89, u90, u91, u92, u93, u94, u95, u96, u97, u98, u99, u100, u101, u102, u103, u104, u105, u106, u107, u108, u109, u110, u111, u112, u113, u114, u115, u116, u117, u118, u119, u120, u121, u122, u123, u124, u125, u126, u127, u128, u129, u130, u131, u132, u133, u134, u135, u136, u137, u138, u139, u140, u141, u142, u143, u144, u145, u146, u147, u148, u149, u150, u151, u152, u153, u154, u155, u156, u157, u158, u159, u160, u161, u162, u163, u164, u165, u166, u167, u168, u169, u170, u171, u172, u173, u174, u175, u176, u177, u178, u179, u180, u181, u182, u183, u184, u185, u186, u187, u188, u189, u190, u191, u192, u193, u194, u195, u196, u197, u198, u199, u200, u201], defers := [] } wr := by
 conv in (sndC _) => whnf
 have HO0 : Aside0 (Kd.R (Kd.int .u8) 5 wr (gh + 1) (fun _ => True) (.slice none 0 0) (((H.take 0).flatMap bytes32).map ub)) := ⟨Kd.R_nil _ _ _ _ _⟩
 go_wp2_with fail
 go_loopw [13, 14] (fun u13 u14 wr => ∃ i : Nat, i ≤ 8 ∧ u14 = .int .i64 (i : Int) ∧ Aside0 (Kd.R (Kd.int .u8) 5 wr (gh + 1) (fun _ => True) u13 (((H.take i).flatMap bytes32).map ub)) ∧ Aside0 (IRow wr gh H) ∧ Aside0 (Below w.heap.size w wr)) (fun _ u14 _ => 8 - (intOf u14).toNat)
 case atStart => exact ⟨0, Z3, rfl, HO0, HH, HB⟩
 case round =>
  clear HO0 HH HB
  obtain ⟨i, hi8, rfl, HO, HH, HB⟩ := hrel
  rename_i u13 wr
  by_cases hlt : i < 8
  ·
   have p0 : ((i : Int) < 8) = True := eq_true Z3
   have p1 : decide ((i : Int) < 8) = true := decide_eq_true Z3
   have p2 : (i < 8) = True := eq_true hlt
   have p3 : decide (i < 8) = true := decide_eq_true hlt
   have w8 : wrap64 ((i : Int) + 1) = ((i + 1 : Nat) : Int) := by rw [w64 Z3 Z3]; rfl
   have HLE : Aside0 (((((H.take i).flatMap bytes32).map ub).length + 4) * 1 ≤ 140737488355328) := ⟨by
    have e : ((H.take i).flatMap bytes32).length = 4 * (H.take i).length := flat32_len _
    rw [List.length_map, e, List.length_take]
    omega⟩
   obtain ⟨x, ex⟩ : ∃ x, x = nt H i := ⟨_, rfl⟩
   have lx : x < 4294967296 := by rw [ex, HSI.out]; exact nt_lt (stN_lt _ _) i
   have HCL : Aside0 (wr.cell? ⟨gh, i, none⟩ = some (.int .i64 (x : Int))) := ⟨by rw [ex]; exact HH.out.cell (by rw [HHH.out.1]; exact hlt)⟩
   obtain ⟨b0, b1, b2, b3, k0, k1, k2, k3, k4, k5, k6, hbs⟩ := four_bytes x lx
   have HBS : Aside0 ((bytes32 (nt H i)).map ub = [(b0 : Int), (b1 : Int), (b2 : Int), (b3 : Int)]) := ⟨by rw [← ex]; exact hbs⟩
   have HLT := Aside0.mk hlt
   clear ex lx hbs hlt
   go_wp2_with fail
   refine start_ (n := 30) (S := fun w' => w'.cell? ⟨gh, i, none⟩ = some (.int .i64 (x : Int))) (ds := [27, 28]) #[false, false, false, false, false, false, false, false, false, false, false, false, false, false, false, false, false, false, false, false, false, false, false, false, false, false, false, false, false, false] Z13 rfl rfl HCL.out (fun hHeld => ?_)
   refine with_tabW rsum.tab23 rsum.bits23 (fun HT_ HW_ => ?_)
   have HD : Aside0 (∃ n, wr.drew = wr.drewN n) := ⟨1, rfl⟩
   generalize wr.drew = wd at HD hHeld ⊢
   refine pu 0 171 (bl 30 1) HT_ ?_ (hy := Z16)
   refine pu 1 172 (bl 30 3) HT_ ?_ (hy := Z16)
   refine pu 2 173 (bl 30 7) HT_ ?_ (hy := Z16)
   refine pu 3 174 (bl 30 15) HT_ ?_ (hy := Z16)
   refine tk 4 175 (bl 30 31) HT_ HW_ hHeld ?_ (hy := by rintro w' x0; go_simp; with_reducible rfl)
   refine pu 5 176 (bl 30 63) HT_ ?_ (hy := Z16)
   refine pu 6 177 (bl 30 127) HT_ ?_ (hy := Z16)
   refine pu 7 178 (bl 30 255) HT_ ?_ (hy := Z16)
   refine pu 8 179 (bl 30 511) HT_ ?_ (hy := Z16)
   refine pu 9 180 (bl 30 1023) HT_ ?_ (hy := Z16)
   refine tk 10 181 (bl 30 2047) HT_ HW_ hHeld ?_ (hy := by rintro w' x0; go_simp; with_reducible rfl)
   refine pu 11 182 (bl 30 4095) HT_ ?_ (hy := Z16)
   refine pu 12 183 (bl 30 8191) HT_ ?_ (hy := Z16)
   refine pu 13 184 (bl 30 16383) HT_ ?_ (hy := Z16)
   refine pu 14 185 (bl 30 32767) HT_ ?_ (hy := Z16)
   refine pu 15 186 (bl 30 65535) HT_ ?_ (hy := Z16)
   refine pu 16 187 (bl 30 131071) HT_ ?_ (hy := Z16)
   refine tk 17 188 (bl 30 262143) HT_ HW_ hHeld ?_ (hy := by rintro w' x0; go_simp; with_reducible rfl)
   refine pu 18 189 (bl 30 524287) HT_ ?_ (hy := Z16)
   refine pu 19 190 (bl 30 1048575) HT_ ?_ (hy := Z16)
   refine pu 20 191 (bl 30 2097151) HT_ ?_ (hy := Z16)
   refine pu 21 192 (bl 30 4194303) HT_ ?_ (hy := Z16)
   refine pu 22 193 (bl 30 8388607) HT_ ?_ (hy := Z16)
   refine pu 23 194 (bl 30 16777215) HT_ ?_ (hy := Z16)
   refine tk 24 195 (bl 30 33554431) HT_ HW_ hHeld ?_ (hy := by rintro w' x0; go_simp; with_reducible rfl)
   refine pu 25 196 (bl 30 67108863) HT_ ?_ (hy := Z16)
   refine pu 26 197 (bl 30 134217727) HT_ ?_ (hy := Z16)
   refine last_ (i := 27) (N := some 198) (bl 30 268435455) rfl rfl (one_of HT_.out Z13) Z11 (fun K hK => ?_)
   refine value_ (v := .slice (some ⟨wd.heap.size, 0, none⟩) 4 4) (w1 := wd.alloc (.cells #[.int .u8 (b0 : Int), .int .u8 (b1 : Int), .int .u8 (b2 : Int), .int .u8 (b3 : Int)] 5 (0, 0))) (by rfl) rfl Z33 ?_
   refine hK.out _ _ ?_
   clear hK K
   have HBa : Aside0 (Below (gh + 1) wr (wd.alloc (.cells #[.int .u8 (b0 : Int), .int .u8 (b1 : Int), .int .u8 (b2 : Int), .int .u8 (b3 : Int)] 5 (0, 0)))) := ⟨by obtain ⟨n, e⟩ := HD.out; rw [e]; exact below_less (below_alloc (pw_below_drewN (Below.refl _ _) n) _) (HH.out.lt)⟩
   have HRa : Aside0 (Kd.C (Kd.int .u8) (wd.alloc (.cells #[.int .u8 (b0 : Int), .int .u8 (b1 : Int), .int .u8 (b2 : Int), .int .u8 (b3 : Int)] 5 (0, 0))) (some ⟨wd.heap.size, 0, none⟩) 4 [(b0 : Int), (b1 : Int), (b2 : Int), (b3 : Int)]) := ⟨four_C _ _ _ _ _⟩
   have HOa : Aside0 (Kd.R (Kd.int .u8) 5 (wd.alloc (.cells #[.int .u8 (b0 : Int), .int .u8 (b1 : Int), .int .u8 (b2 : Int), .int .u8 (b3 : Int)] 5 (0, 0))) (gh + 1) (fun _ => True) u13 (((H.take i).flatMap bytes32).map ub)) := ⟨Kd.R_below HO.out (by obtain ⟨n, e⟩ := HD.out; rw [e]; exact below_alloc (pw_below_drewN (Below.refl _ _) n) _)⟩
   generalize wd.alloc (.cells #[.int .u8 (b0 : Int), .int .u8 (b1 : Int), .int .u8 (b2 : Int), .int .u8 (b3 : Int)] 5 (0, 0)) = we at HBa HRa HOa ⊢
   obtain ⟨ga, hga⟩ : ∃ ga, ga = wd.heap.size := ⟨_, rfl⟩
   rw [← hga] at HRa ⊢
   clear hga
   refine norm_ (a' := ?_) ?_ ?_
   rotate_left; · show Act.put _ (some 198) _ = _; simp only [Act.put, List.setIfInBounds_toArray, List.set_cons_zero, List.set_cons_succ, i64_w, i32_w]; rfl
   refine last_ (i := 28) (N := some 199) (bl 30 536870911) rfl rfl (one_of HT_.out Z13) Z11 (fun K hK => ?_)
   refine Kd.R_append_rows_step (Kd.int .u8) (w0 := wr) (gh + 1) (by rfl) (.tmp 171) (.tmp 198) 31 5 (.int .u8 0) 1 rfl Tryz.underlying31 infoByte rfl Z11 Z3 u13 (((H.take i).flatMap bytes32).map ub) [(b0 : Int), (b1 : Int), (b2 : Int), (b3 : Int)] (some ⟨ga, 0, none⟩) 4 4 (fun _ => True) (fun _ => False) rfl rfl HOa.out HRa.out (fun _ _ h => h) (fun _ h => h.elim) (fun _ _ => trivial) HBa.out (by have := HBa.out.size; have := HH.out.lt; omega) ?aL ?_
   case aL => exact HLE.out
   intro v7 w7 ho7 hb7 hg7 hat7
   have HO7 := Aside0.mk ho7
   have HB7 := Aside0.mk hb7
   refine hK.out _ _ ?_
   clear hK K ho7 hb7 hg7 hat7 HOa HRa HBa
   refine norm_ (a' := ?_) ?_ ?_
   rotate_left; · show Act.put _ (some 199) _ = _; simp only [Act.put, List.setIfInBounds_toArray, List.set_cons_zero, List.set_cons_succ, i64_w, i32_w]; rfl
   refine pu 29 13 (bl 30 1073741823) HT_ ?_ (hy := Z16)
   refine done_ (done_of HT_.out Z13) ?_
   clear HT_ HW_
   have HOn : Aside0 (Kd.R (Kd.int .u8) 5 w7 (gh + 1) (fun _ => True) v7 (((H.take (i + 1)).flatMap bytes32).map ub)) := ⟨by
    rw [flat32_snoc (by rw [HHH.out.1]; exact HLT.out), List.map_append, HBS.out]
    exact HO7.out⟩
   have HHn : Aside0 (IRow w7 gh H) := ⟨HH.out.below_of HB7.out Z3⟩
   have HBn : Aside0 (Below w.heap.size w w7) := ⟨HB.out.trans (below_less HB7.out (by have := HG.out; omega))⟩
   clear HO7 HB7 HO HH HB HCL hHeld HD HBS
   go_wp2_with fail
   go_roundw
   case rel => exact ⟨i + 1, by have := HLT.out; omega, by first | rfl | rw [w8], HOn, HHn, HBn⟩
   case measure => have := HLT.out; simp [intOf]; omega
  ·
   obtain rfl : i = 8 := by omega
   have e8 : (H.take 8).flatMap bytes32 = sha (pb s) := by rw [HHH.out.2, List.take_of_length_le (by rw [HHH.out.1]; exact Nat.le_refl _)]
   rw [e8] at HO
   obtain ⟨Ao, co, eo⟩ := Kd.R_slice HO.out
   subst eo
   have hcv : (convert 31 9 (.slice Ao (((sha (pb s)).map ub)).length co)).run Tryz.prog wr = .ok (.string ⟨(sha (pb s)).toArray⟩) wr := by
    rw [Kd.C_string (c := co) Tryz.underlying31 Tryz.underlying5 Tryz.underlying9 (Kd.R_reads' HO.out).2.2]
    rw [show (sha (pb s)).map ub = (sha (pb s)).map fun b => (b.toNat : Int) from rfl, Lib.Lz.strOfNums_map]
   rw [List.length_map] at hcv
   clear e8
   go_wp2_with fail
   go_ret
   exact ⟨rfl, HB.out⟩
end Go.Proofs.YtkhblpmjmkhiiaaGreatDoor.T
