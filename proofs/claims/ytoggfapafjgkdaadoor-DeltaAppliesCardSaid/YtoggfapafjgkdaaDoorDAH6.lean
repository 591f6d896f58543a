/- What the law asks of Diff, in plain words; the document's Stays. -/
import Derived.Test.YtoggfapafjgkdaaDoorDAH5
import Derived.Test.YtoggfapafjgkdaaDoorDAH1

namespace Go.Proofs.YtoggfapafjgkdaaDoor.T
open Go.RowKit Go.Proofs.YtoggfapafjgkdaaDoorW.PrintWords Go.Proofs.YtoggfapafjgkdaaDoorW.PrintLast Go.Proofs.YtoggfapafjgkdaaDoorW.PrintMore Go.Proofs.YtoggfapafjgkdaaDoor.PAll
set_option linter.unusedSimpArgs false
set_option linter.unusedVariables false
def DiffRet (a b : List S46) (w : World) (e : Ending) (w' : World) : Prop :=
 ∃ v, e = .returned (.tuple #[v, .int .i64 (diffT a b).2]) ∧ Kd.R k33 33 w' w.heap.size (fun _ => True) v (diffT a b).1 ∧ Below w.heap.size w w'
theorem gone_step (a b : List S46) {m : Nat} (hm : m < a.length) : goneT a b (a.drop m).reverse = goneT a b (a.drop (m + 1)).reverse ++ (if staysT a b (pth (rd_T46 a (m : Int))) then [] else [goneE (rd_T46 a (m : Int))]) := by
 rw [List.drop_eq_getElem_cons hm, List.reverse_cons, ← show rd_T46 a (m : Int) = a[m] from rd_at hm]
 unfold goneT
 rw [List.filter_append, List.map_append]
 congr 1
 cases hS : staysT a b (pth (rd_T46 a (m : Int))) <;> simp [List.filter_cons, hS]
theorem gone_len (a b l : List S46) : (goneT a b l).length ≤ l.length := by
 unfold goneT
 rw [List.length_map]
 exact List.length_filter_le _ _
theorem come_len1 (a b : List S46) (n : S46) : (comeT a b n).length ≤ 1 := by
 unfold comeT
 split
 ·
  split <;> simp
 ·
  simp
theorem come_len (a b : List S46) : ∀ (l : List S46), (l.flatMap (comeT a b)).length ≤ l.length
 | [] => by simp
 | n :: l => by
  rw [List.flatMap_cons, List.length_append, List.length_cons]
  have := come_len a b l
  have := come_len1 a b n
  omega
theorem come_step (a b : List S46) {k : Nat} (hk : k < b.length) (l : List S33) : l ++ (b.take (k + 1)).flatMap (comeT a b) = (l ++ (b.take k).flatMap (comeT a b)) ++ comeT a b (rd_T46 b (k : Int)) := by
 rw [List.take_add_one, List.getElem?_eq_getElem hk, ← show rd_T46 b (k : Int) = b[k] from rd_at hk]
 simp
set_option maxHeartbeats 16000000 in
set_option maxRecDepth 100000 in
theorem diff_c (a b : List S46) (A B : Option Addr) (ca cb : Nat) (w : World) (hra : Kd.C k46 w A a.length a) (hca : a.length ≤ ca) (hrb : Kd.C k46 w B b.length b) (hcb : b.length ≤ cb)
  (hla : a.length < 2147483648) (hlb : b.length < 2147483648) (hwa : Wf a) (hwb : Wf b) (hT : Tab w) :
  Calls Tryd.prog 13 #[.slice A a.length ca, .slice B b.length cb] w fun e w' => DiffRet a b w e w' := by
 have hu46 := Tryd.underlying46
 have hu44 := Tryd.underlying44
 have hu33 := Tryd.underlying33
 have HRA := Aside0.mk hra
 have HCA := Aside0.mk hca
 have HRB := Aside0.mk hrb
 have HCB := Aside0.mk hcb
 have HLA := Aside0.mk hla
 have HLB := Aside0.mk hlb
 have HWA := Aside0.mk hwa
 have HWB := Aside0.mk hwb
 have HT := Aside0.mk hT
 clear hra hca hrb hcb hla hlb hwa hwb hT
 go_enter Tryd.func13, Tryd.ntmps13
 go_wp2_with fail
 refine (formed_c a A ca w HRA.out HCA.out HLA.out HWA.out HT.out).mono ?_
 rintro e w1 (⟨hFa, ga, rfl, hfa, hb1⟩ | ⟨hFa, rfl, hb1⟩)
 ·
  have FA1 := Aside0.mk hfa
  have HFa := Aside0.mk hFa
  have HB1 := Aside0.mk hb1
  clear hfa hFa hb1
  go_wp2_with fail
  refine (formed_c b B cb w1 (Kd.C_below HRB.out HB1.out) HCB.out HLB.out HWB.out (HT.out.below HB1.out)).mono ?_
  rintro e w2 (⟨hFb, gb, rfl, hfb, hb2⟩ | ⟨hFb, rfl, hb2⟩)
  ·
   have HBw := Aside0.mk (below_then HB1.out HB1.out.size hb2)
   have FA2 := Aside0.mk (FA1.out.below hb2)
   have FB2 := Aside0.mk hfb
   have HFb := Aside0.mk hFb
   have HRA2 := Aside0.mk (Kd.C_below HRA.out HBw.out)
   have HRB2 := Aside0.mk (Kd.C_below HRB.out HBw.out)
   clear hfb hFb hb2 FA1 HB1 HRA HRB
   have HIA := Aside0.mk HFa.out.ir
   have HIB := Aside0.mk HFb.out.ir
   have HSA : Aside0 (∀ n ∈ a, n.f0.size ≤ maxLen) := ⟨fun n hn => by have := may_size (HFa.out.1.may n hn); unfold maxLen; omega⟩
   have HSB : Aside0 (∀ n ∈ b, n.f0.size ≤ maxLen) := ⟨fun n hn => by have := may_size (HFb.out.1.may n hn); unfold maxLen; omega⟩
   have HB := Aside0.mk (Below.refl w2.heap.size w2)
   have hw0 : wrap64 ((a.length : Int) - 1) = (a.length : Int) - 1 := by have := HLA.out; rw [w64 (by omega) (by omega)]
   go_wp2_with fail
   go_loopw [10, 11] (fun v10 v11 wr => ∃ m : Nat, m ≤ a.length ∧ ∃ x : Int, v11 = .int .i64 x ∧ x = (m : Int) - 1 ∧ Aside0 (Kd.R k33 33 wr w2.heap.size (fun _ => True) v10 (goneT a b (a.drop m).reverse)) ∧ Aside0 (Below w2.heap.size w2 wr)) (fun _ i _ => (intOf i + 1).toNat)
   case atStart => exact ⟨a.length, by omega, _, rfl, hw0, ⟨by rw [List.drop_length]; exact Kd.R_nil _ _ _ _ _⟩, HB⟩
   case round =>
    clear HB hw0
    obtain ⟨m, hm, x, rfl, hx, HO, HB⟩ := hrel
    cases m with
    | succ m =>
     have HM := Aside0.mk (show m < a.length by omega)
     have hxm : x = (m : Int) := by omega
     subst hxm
     clear hx hm
     have hx : (0 : Int) ≤ (m : Int) := by omega
     have g0 : decide ((0 : Int) ≤ (m : Int)) = true := decide_eq_true (by omega)
     have p1 : (0 ≤ (m : Int)) = True := eq_true (by omega)
     have q1 : ((m : Int) < (a.length : Int)) = True := eq_true (by have := HM.out; omega)
     obtain ⟨ad, ea, x0, _⟩ := at_T46 (Kd.C_below HRA2.out HB.out) (m : Int) (by omega) (by have := HM.out; omega)
     cases ea
     simp only [Int.toNat_natCast] at x0
     clear hx
     obtain ⟨r, hr⟩ : ∃ r, staysT a b (pb (rd_T46 a (m : Int)).f0) = r := ⟨_, rfl⟩
     have HRr := Aside0.mk hr
     clear hr
     go_wp2_with fail
     refine (kept_c a b (some ad) B ca cb ga gb (rd_T46 a (m : Int)).f0 r wr (FA2.out.below HB.out) (FB2.out.below HB.out) HLA.out HLB.out HIA.out HIB.out (HSA.out _ (rdn_mem HM.out)) HRr.out).mono ?_
     rintro e w7 ⟨rfl, hd7⟩
     have n0_ := Aside0.mk (Kd.R_below HO.out (below_drawn hd7))
     have n1_ := Aside0.mk (below_then HB.out HB.out.size (below_drawn hd7))
     have x0' : w7.cell? (ad.add (m * 7)) = some (.string (rd_T46 a (m : Int)).f0) := ((below_drawn hd7).cell (World.block_lt_of_cell? wr _ x0)).trans x0
     clear HO HB x0 hd7
     have HO := n0_
     have HB := n1_
     clear n0_ n1_
     have HGS := Aside0.mk (gone_step a b HM.out)
     rw [show pth (rd_T46 a (m : Int)) = pb (rd_T46 a (m : Int)).f0 from rfl, HRr.out] at HGS
     have HLX : Aside0 (((goneT a b (a.drop (m + 1)).reverse).length + 1) * 56 ≤ 140737488355328) := ⟨by
      have h1 := gone_len a b (a.drop (m + 1)).reverse
      rw [List.length_reverse, List.length_drop] at h1
      have := HLA.out
      omega⟩
     cases r with
     | true =>
      have HO2 : Aside0 (Kd.R k33 33 w7 w2.heap.size (fun _ => True) u10 (goneT a b (a.drop m).reverse)) := ⟨by rw [HGS.out]; simpa using HO.out⟩
      go_wp2_with fail
      go_roundw
      case rel =>
       exact ⟨m, by have := HM.out; omega, _, rfl, by have := HM.out; have := HLA.out; rw [w64 (by omega) (by omega)], HO2, HB⟩
      case measure =>
       have := HM.out
       have := HLA.out
       rw [w64 (by omega) (by omega)]
       first
        | (simp [intOf]; done)
        | (simp [intOf]; omega)
     | false =>
      go_wp2_with (first | ((with_reducible refine gate_builtin (b := .append) (xs := #[.tmp 46, .tmp 53]) rfl ?_); at_builtin; refine Kd.R_append k33 (w0 := w2) w2.heap.size rfl (.tmp 46) (.tmp 53) 24 33 (.agg #[(.int .i64 0), (.string ⟨#[]⟩), (.string ⟨#[]⟩), (.string ⟨#[]⟩)]) 56 rfl Tryd.underlying24 info33 rfl (by decide) (by omega) u10 (goneT a b (a.drop (m + 1)).reverse) (⟨1, (rd_T46 a (m : Int)).f0, (⟨#[]⟩ : ByteArray), (⟨#[]⟩ : ByteArray)⟩ : S33) [.int .i64 1, .string ((rd_T46 a (m : Int)).f0), .string (⟨#[]⟩ : ByteArray), .string (⟨#[]⟩ : ByteArray)] (fun _ => True) (fun _ => False) rfl rfl ?aP (fun _ hk => hk.elim) ?aF ?aO ?aB ?aS ?aL ?_; (case aP => exact k33_mkM _ _ _ (⟨1, (rd_T46 a (m : Int)).f0, (⟨#[]⟩ : ByteArray), (⟨#[]⟩ : ByteArray)⟩ : S33)); (case aB => exact HB.out); (case aF => exact (fun _ _ => trivial)); (case aO => exact HO.out); (case aS => exact (below_size HB.out)); (case aL => exact HLX.out); intro v9 w9 ho hb hg hat; have n0_ := Aside0.mk hb; have n1_ := Aside0.mk ho; clear HB HO; have HB := n0_; have HO := n1_; clear n0_ n1_ ho hb hg hat))
      have HO2 : Aside0 (Kd.R k33 33 w9 w2.heap.size (fun _ => True) v9 (goneT a b (a.drop m).reverse)) := ⟨by rw [HGS.out]; exact HO.out⟩
      go_roundw
      case rel =>
       exact ⟨m, by have := HM.out; omega, _, rfl, by have := HM.out; have := HLA.out; rw [w64 (by omega) (by omega)], HO2, HB⟩
      case measure =>
       have := HM.out
       have := HLA.out
       rw [w64 (by omega) (by omega)]
       first
        | (simp [intOf]; done)
        | (simp [intOf]; omega)
    | zero =>
     have hxm : x = -1 := by omega
     subst hxm
     clear hx hm
     have g0 : decide ((0 : Int) ≤ -1) = false := decide_eq_false (by omega)
     have HO1 : Aside0 (Kd.R k33 33 wr w2.heap.size (fun _ => True) u10 (goneT a b a.reverse ++ (b.take 0).flatMap (comeT a b))) := ⟨by simpa using HO.out⟩
     clear HO
     have HB3 := HB
     clear HB
     go_wp2_with fail
     go_loopw [10, 57] (fun v10 v57 wr => ∃ k : Nat, k ≤ b.length ∧ v57 = .int .i64 k ∧ Aside0 (Kd.R k33 33 wr w2.heap.size (fun _ => True) v10 (goneT a b a.reverse ++ (b.take k).flatMap (comeT a b))) ∧ Aside0 (Below w2.heap.size w2 wr)) (fun _ i _ => b.length - (intOf i).toNat)
     case atStart => exact ⟨0, by omega, rfl, HO1, HB3⟩
     case round =>
      clear HO1 HB3
      obtain ⟨k, hk, rfl, HO, HB⟩ := hrel
      by_cases hkl : k < b.length
      ·
       have HK := Aside0.mk hkl
       obtain ⟨bd, ea, x0, x1, x2, x3, x4, x5, x6⟩ := at_T46 (Kd.C_below HRB2.out HB.out) (k : Int) (by omega) (by omega)
       cases ea
       simp only [Int.toNat_natCast] at x0 x1 x2 x3 x4 x5 x6
       have p1 : (0 ≤ (k : Int)) = True := eq_true (by omega)
       have q1 : ((k : Int) < (b.length : Int)) = True := eq_true (by omega)
       clear hkl hk
       obtain ⟨r, hr⟩ : ∃ r, staysT a b (pb (rd_T46 b (k : Int)).f0) = r := ⟨_, rfl⟩
       have HRr := Aside0.mk hr
       clear hr
       go_wp2_with (first | ((with_reducible refine gate_dst (N := 13) rfl ?_); refine box_event ?hg (N := 13) ?hd (cs := #[.string (⟨#[]⟩ : ByteArray), .int .i64 0, .int .i64 0, .int .i64 0, .int .i64 0, .int .i64 0, .string (⟨#[]⟩ : ByteArray)]) (t := 46) ?hr ?_; (case hd => rfl); (case hg => rfl); (case hr => first | (go_simp; done) | (go_simp; rfl)); intro gx hg w5 hbox hb; have n0_ := Aside0.mk (Kd.R_below (Kd.R_elderB HO.out gx (Nat.le_of_eq hg.symm)) hb); have n1_ := Aside0.mk (below_then HB.out HB.out.size hb); have n2_ := Aside0.mk hbox; have n3_ := Aside0.mk ((by rw [hg]; exact below_size HB.out) : w2.heap.size ≤ gx); clear HO HB; have HO := n0_; have HB := n1_; have BK := n2_; have GE := n3_; clear n0_ n1_ n2_ n3_ hb hbox hg) | ((with_reducible refine gate_store (t := 46) rfl ?_); refine store_node' rfl rfl _ _ rfl gx _ (rd_T46 b (k : Int)) BK.out rfl rfl rfl ?_; intro w6 hS1 hS2; have s0_ := Aside0.mk (Kd.R_mono (Kd.R_grown HO.out hS2 (fun q hq e => hq.2 (Option.some.inj e))) (fun _ _ => trivial) : Kd.R k33 33 w6 w2.heap.size (fun _ => True) _ _); have s1_ := Aside0.mk (HB.out.grown hS2 HB.out.size (fun q hq => by injection hq with hq; rw [← hq]; exact GE.out)); have s2_ := Aside0.mk hS1; clear HO HB BK hS1 hS2; have HO := s0_; have HB := s1_; have BK := s2_; clear s0_ s1_ s2_; have c0 : w6.cell? ⟨gx, 0, none⟩ = some (.string (rd_T46 b (k : Int)).f0) := (blk_cell BK.out 0).trans rfl))
       clear x0 x1 x2 x3 x4 x5 x6
       have HSK : Aside0 ((rd_T46 b (k : Int)).f0.size ≤ maxLen) := ⟨HSB.out _ (rdn_mem HK.out)⟩
       refine (kept_c a b A (some bd) ca cb ga gb (rd_T46 b (k : Int)).f0 r w6 (FA2.out.below HB.out) (FB2.out.below HB.out) HLA.out HLB.out HIA.out HIB.out HSK.out HRr.out).mono ?_
       rintro e w7 ⟨rfl, hd7⟩
       have n0_ := Aside0.mk (Kd.R_below HO.out (below_drawn hd7))
       have n1_ := Aside0.mk (below_then HB.out HB.out.size (below_drawn hd7))
       have n2_ := Aside0.mk (blk_below BK.out (below_drawn hd7))
       clear HO HB BK c0 hd7
       have HO := n0_
       have HB := n1_
       have BK := n2_
       clear n0_ n1_ n2_
       have HCS := Aside0.mk (come_step a b HK.out (goneT a b a.reverse))
       have HLX : Aside0 (((goneT a b a.reverse ++ (b.take k).flatMap (comeT a b)).length + 1) * 56 ≤ 140737488355328) := ⟨by
        have h1 := gone_len a b a.reverse
        have h2 := come_len a b (b.take k)
        rw [List.length_reverse] at h1
        rw [List.length_take] at h2
        rw [List.length_append]
        have := HLA.out
        have := HLB.out
        omega⟩
       obtain ⟨j, hj, hij⟩ := HIB.out.at HK.out
       have HJ := Aside0.mk hj
       have HIJ := Aside0.mk hij
       clear hj hij
       have c0 : w7.cell? ⟨gx, 0, none⟩ = some (.string (rd_T46 b (k : Int)).f0) := (blk_cell BK.out 0).trans rfl
       have c1 : w7.cell? ⟨gx, 1, none⟩ = some (.int .i64 (rd_T46 b (k : Int)).f1.f0) := (blk_cell BK.out 1).trans rfl
       have c2 : w7.cell? ⟨gx, 2, none⟩ = some (.int .i64 (rd_T46 b (k : Int)).f1.f1) := (blk_cell BK.out 2).trans rfl
       have c3 : w7.cell? ⟨gx, 3, none⟩ = some (.int .i64 (rd_T46 b (k : Int)).f1.f2) := (blk_cell BK.out 3).trans rfl
       have c4 : w7.cell? ⟨gx, 4, none⟩ = some (.int .i64 (rd_T46 b (k : Int)).f1.f3) := (blk_cell BK.out 4).trans rfl
       have c5 : w7.cell? ⟨gx, 5, none⟩ = some (.int .i64 (rd_T46 b (k : Int)).f1.f4) := (blk_cell BK.out 5).trans rfl
       have c6 : w7.cell? ⟨gx, 6, none⟩ = some (.string (rd_T46 b (k : Int)).f2) := (blk_cell BK.out 6).trans rfl
       have c13 : w7.cell? ⟨gx, 1 + 2, none⟩ = some (.int .i64 (rd_T46 b (k : Int)).f1.f2) := c3
       have FA := Aside0.mk (FA2.out.below HB.out)
       have FB := Aside0.mk (FB2.out.below HB.out)
       cases r with
       | false =>
        have hcm : comeT a b (rd_T46 b (k : Int)) = [madeT b (rd_T46 b (k : Int))] := by
         unfold comeT
         rw [if_neg (by rw [show pth (rd_T46 b (k : Int)) = pb (rd_T46 b (k : Int)).f0 from rfl, HRr.out]; decide)]
        rw [hcm] at HCS
        clear hcm
        obtain ⟨ed, hed⟩ : ∃ ed, madeT b (rd_T46 b (k : Int)) = ed := ⟨_, rfl⟩
        have HED := Aside0.mk hed
        rw [hed] at HCS
        clear hed
        go_wp2_with fail
        refine (made_c b (some bd) cb gb (rd_T46 b (k : Int)) ed w7 FB.out HLB.out j HJ.out HIJ.out HED.out).mono ?_
        rintro e w8 ⟨rfl, hb8⟩
        have n0_ := Aside0.mk (Kd.R_below HO.out hb8)
        have n1_ := Aside0.mk (below_then HB.out HB.out.size hb8)
        clear HO HB BK FA FB c0 c1 c2 c3 c4 c5 c6 c13 hb8
        have HO := n0_
        have HB := n1_
        clear n0_ n1_
        go_wp2_with (first | ((with_reducible refine gate_builtin (b := .append) (xs := #[.tmp 67, .tmp 71]) rfl ?_); at_builtin; refine Kd.R_append k33 (w0 := w2) w2.heap.size rfl (.tmp 67) (.tmp 71) 24 33 (.agg #[(.int .i64 0), (.string ⟨#[]⟩), (.string ⟨#[]⟩), (.string ⟨#[]⟩)]) 56 rfl Tryd.underlying24 info33 rfl (by decide) (by omega) u10 (goneT a b a.reverse ++ (b.take k).flatMap (comeT a b)) (ed : S33) [.int .i64 ed.f0, .string ed.f1, .string ed.f2, .string ed.f3] (fun _ => True) (fun _ => False) rfl rfl ?aP (fun _ hk => hk.elim) ?aF ?aO ?aB ?aS ?aL ?_; (case aP => exact k33_mkM _ _ _ (ed : S33)); (case aB => exact HB.out); (case aF => exact (fun _ _ => trivial)); (case aO => exact HO.out); (case aS => exact (below_size HB.out)); (case aL => exact HLX.out); intro v9 w9 ho hb hg hat; have n0_ := Aside0.mk hb; have n1_ := Aside0.mk ho; clear HB HO; have HB := n0_; have HO := n1_; clear n0_ n1_ ho hb hg hat))
        have HO2 : Aside0 (Kd.R k33 33 w9 w2.heap.size (fun _ => True) v9 (goneT a b a.reverse ++ (b.take (k + 1)).flatMap (comeT a b))) := ⟨by rw [HCS.out]; exact HO.out⟩
        go_roundw
        case rel =>
         have h1 := HK.out
         have h2 := HLB.out
         exact ⟨k + 1, by omega, by rw [w64 (by omega) (by omega)]; rfl, HO2, HB⟩
        case measure =>
         have := HK.out
         have := HLB.out
         rw [w64 (by omega) (by omega)]
         first
          | (simp [intOf]; done)
          | (simp [intOf]; omega)
       | true =>
        have hcm : comeT a b (rd_T46 b (k : Int)) = if knd (rd_T46 b (k : Int)) = 1 ∧ pth (leadN b (rd_T46 b (k : Int))) = pth (rd_T46 b (k : Int)) ∧ dat (rd_T46 a (findI (pth (rd_T46 b (k : Int))) 0 a)) ≠ dat (rd_T46 b (k : Int)) then [⟨6, (rd_T46 b (k : Int)).f0, eB, (rd_T46 b (k : Int)).f2⟩] else [] := by
         unfold comeT
         rw [if_pos (show staysT a b (pth (rd_T46 b (k : Int))) = true from HRr.out)]
        rw [hcm] at HCS
        clear hcm
        by_cases h1 : (rd_T46 b (k : Int)).f1.f2 = 1
        ·
         have z1 : ((rd_T46 b (k : Int)).f1.f2 == 1) = true := beq_iff_eq.2 h1
         have hlead : leadN b (rd_T46 b (k : Int)) = rd_T46 b (j : Int) := by
          unfold leadN
          rw [HIJ.out, Int.add_sub_cancel]
         rw [hlead] at HCS
         clear hlead
         by_cases h2 : pb (rd_T46 b (j : Int)).f0 = pb (rd_T46 b (k : Int)).f0
         ·
          have z2 : ((rd_T46 b (j : Int)).f0.toList == (rd_T46 b (k : Int)).f0.toList) = true := by rw [toL, toL]; exact beq_iff_eq.2 h2
          obtain ⟨i, hi, hfi⟩ : ∃ i : Nat, i < a.length ∧ findI (pb (rd_T46 b (k : Int)).f0) 0 a = (i : Int) := by
           rcases findI_cases (pb (rd_T46 b (k : Int)).f0) a 0 with ⟨e, _⟩ | ⟨i, hi, e, _⟩
           ·
            have := HRr.out
            unfold staysT at this
            rw [if_pos (.inl (by rw [e]; decide))] at this
            cases this
           ·
            exact ⟨i, hi, by rw [e, Nat.zero_add]⟩
          have HI := Aside0.mk hi
          have HFI := Aside0.mk hfi
          clear hi hfi
          obtain ⟨ad, rfl⟩ := FA.out.ad HI.out
          have y6 := (FA.out.pt HI.out).p6
          rw [show pth (rd_T46 b (k : Int)) = pb (rd_T46 b (k : Int)).f0 from rfl, HFI.out] at HCS
          by_cases h3 : pb (rd_T46 a (i : Int)).f2 = pb (rd_T46 b (k : Int)).f2
          ·
           have z3 : ((rd_T46 a (i : Int)).f2.toList == (rd_T46 b (k : Int)).f2.toList) = true := by rw [toL, toL]; exact beq_iff_eq.2 h3
           rw [if_neg (fun q => q.2.2 h3), List.append_nil] at HCS
           clear h1 h2 h3
           go_wp2_with fail
           go_big_quiet (first | (go_at_call 28; refine (leader_c b bd cb gb ⟨gx, 0, none⟩ (rd_T46 b (k : Int)) j _ (FB.out.below (pw_below_drewN (Below.refl _ _) _)) HLB.out ((pt_box BK.out).below (pw_below_drewN (Below.refl _ _) _)) HJ.out HIJ.out).mono ?_; rintro e w' ⟨rfl, ⟨nd, rfl⟩⟩; first | exact ⟨rfl, _, World.drewN_drewN _ _ _⟩ | exact ⟨rfl, _, Eq.trans (World.drewN_drewN _ _ _) (congrArg (World.drewN _) (Nat.add_assoc _ _ _))⟩) | (go_at_call 29; refine (node_some a ad ca ga (rd_T46 b (k : Int)).f0 i _ (FA.out.below (pw_below_drewN (Below.refl _ _) _)) HLA.out HSK.out HI.out HFI.out).mono ?_; rintro e w' ⟨rfl, rfl⟩; exact ⟨rfl, _, rfl⟩))
           have HO2 : Aside0 (Kd.R k33 33 (w7.drewN nq) w2.heap.size (fun _ => True) u10 (goneT a b a.reverse ++ (b.take (k + 1)).flatMap (comeT a b))) := ⟨by rw [HCS.out]; exact Kd.R_drewN HO.out _⟩
           have HB7 := Aside0.mk (below_then HB.out HB.out.size (pw_below_drewN (Below.refl w7.heap.size w7) nq))
           clear HB HO BK FA FB c0 c1 c2 c3 c4 c5 c6 c13 y6
           have HB := HB7
           clear HB7
           go_wp2_with fail
           go_roundw
           case rel =>
            have h1 := HK.out
            have h2 := HLB.out
            exact ⟨k + 1, by omega, by rw [w64 (by omega) (by omega)]; rfl, HO2, HB⟩
           case measure =>
            have := HK.out
            have := HLB.out
            rw [w64 (by omega) (by omega)]
            first
             | (simp [intOf]; done)
             | (simp [intOf]; omega)
          ·
           have z3 : ((rd_T46 a (i : Int)).f2.toList == (rd_T46 b (k : Int)).f2.toList) = false := by rw [toL, toL]; exact beq_eq_false_iff_ne.2 h3
           rw [if_pos ⟨h1, h2, h3⟩] at HCS
           clear h1 h2 h3
           go_wp2_with fail
           go_big_quiet (first | (go_at_call 28; refine (leader_c b bd cb gb ⟨gx, 0, none⟩ (rd_T46 b (k : Int)) j _ (FB.out.below (pw_below_drewN (Below.refl _ _) _)) HLB.out ((pt_box BK.out).below (pw_below_drewN (Below.refl _ _) _)) HJ.out HIJ.out).mono ?_; rintro e w' ⟨rfl, ⟨nd, rfl⟩⟩; first | exact ⟨rfl, _, World.drewN_drewN _ _ _⟩ | exact ⟨rfl, _, Eq.trans (World.drewN_drewN _ _ _) (congrArg (World.drewN _) (Nat.add_assoc _ _ _))⟩) | (go_at_call 29; refine (node_some a ad ca ga (rd_T46 b (k : Int)).f0 i _ (FA.out.below (pw_below_drewN (Below.refl _ _) _)) HLA.out HSK.out HI.out HFI.out).mono ?_; rintro e w' ⟨rfl, rfl⟩; exact ⟨rfl, _, rfl⟩))
           have hdn := pw_below_drewN (Below.refl w7.heap.size w7) nq
           have n0_ := Aside0.mk (Kd.R_below HO.out hdn)
           have n1_ := Aside0.mk (below_then HB.out HB.out.size hdn)
           have n2_ := Aside0.mk (blk_below BK.out hdn)
           clear HB HO BK FA FB c0 c1 c2 c3 c4 c5 c6 c13 y6 hdn
           have HO := n0_
           have HB := n1_
           have BK := n2_
           clear n0_ n1_ n2_
           generalize w7.drewN nq = w8 at HO HB BK ⊢
           have c0 : w8.cell? ⟨gx, 0, none⟩ = some (.string (rd_T46 b (k : Int)).f0) := (blk_cell BK.out 0).trans rfl
           have c6 : w8.cell? ⟨gx, 6, none⟩ = some (.string (rd_T46 b (k : Int)).f2) := (blk_cell BK.out 6).trans rfl
           go_wp2_with (first | ((with_reducible refine gate_builtin (b := .append) (xs := #[.tmp 96, .tmp 102]) rfl ?_); at_builtin; refine Kd.R_append k33 (w0 := w2) w2.heap.size rfl (.tmp 96) (.tmp 102) 24 33 (.agg #[(.int .i64 0), (.string ⟨#[]⟩), (.string ⟨#[]⟩), (.string ⟨#[]⟩)]) 56 rfl Tryd.underlying24 info33 rfl (by decide) (by omega) u10 (goneT a b a.reverse ++ (b.take k).flatMap (comeT a b)) (⟨6, (rd_T46 b (k : Int)).f0, (⟨#[]⟩ : ByteArray), (rd_T46 b (k : Int)).f2⟩ : S33) [.int .i64 6, .string ((rd_T46 b (k : Int)).f0), .string (⟨#[]⟩ : ByteArray), .string ((rd_T46 b (k : Int)).f2)] (fun _ => True) (fun _ => False) rfl rfl ?aP (fun _ hk => hk.elim) ?aF ?aO ?aB ?aS ?aL ?_; (case aP => exact k33_mkM _ _ _ (⟨6, (rd_T46 b (k : Int)).f0, (⟨#[]⟩ : ByteArray), (rd_T46 b (k : Int)).f2⟩ : S33)); (case aB => exact HB.out); (case aF => exact (fun _ _ => trivial)); (case aO => exact HO.out); (case aS => exact (below_size HB.out)); (case aL => exact HLX.out); intro v9 w9 ho hb hg hat; have n0_ := Aside0.mk hb; have n1_ := Aside0.mk ho; clear HB HO; have HB := n0_; have HO := n1_; clear n0_ n1_ ho hb hg hat))
           have HO2 : Aside0 (Kd.R k33 33 w9 w2.heap.size (fun _ => True) v9 (goneT a b a.reverse ++ (b.take (k + 1)).flatMap (comeT a b))) := ⟨by rw [HCS.out]; exact HO.out⟩
           go_roundw
           case rel =>
            have h1 := HK.out
            have h2 := HLB.out
            exact ⟨k + 1, by omega, by rw [w64 (by omega) (by omega)]; rfl, HO2, HB⟩
           case measure =>
            have := HK.out
            have := HLB.out
            rw [w64 (by omega) (by omega)]
            first
             | (simp [intOf]; done)
             | (simp [intOf]; omega)
         ·
          have z2 : ((rd_T46 b (j : Int)).f0.toList == (rd_T46 b (k : Int)).f0.toList) = false := by rw [toL, toL]; exact beq_eq_false_iff_ne.2 h2
          rw [if_neg (fun q => h2 q.2.1), List.append_nil] at HCS
          clear h1 h2
          go_wp2_with fail
          go_big_quiet (first | (go_at_call 28; refine (leader_c b bd cb gb ⟨gx, 0, none⟩ (rd_T46 b (k : Int)) j _ (FB.out.below (pw_below_drewN (Below.refl _ _) _)) HLB.out ((pt_box BK.out).below (pw_below_drewN (Below.refl _ _) _)) HJ.out HIJ.out).mono ?_; rintro e w' ⟨rfl, ⟨nd, rfl⟩⟩; first | exact ⟨rfl, _, World.drewN_drewN _ _ _⟩ | exact ⟨rfl, _, Eq.trans (World.drewN_drewN _ _ _) (congrArg (World.drewN _) (Nat.add_assoc _ _ _))⟩))
          have HO2 : Aside0 (Kd.R k33 33 (w7.drewN nq) w2.heap.size (fun _ => True) u10 (goneT a b a.reverse ++ (b.take (k + 1)).flatMap (comeT a b))) := ⟨by rw [HCS.out]; exact Kd.R_drewN HO.out _⟩
          have HB7 := Aside0.mk (below_then HB.out HB.out.size (pw_below_drewN (Below.refl w7.heap.size w7) nq))
          clear HB HO BK FA FB c0 c1 c2 c3 c4 c5 c6 c13
          have HB := HB7
          clear HB7
          go_wp2_with fail
          go_roundw
          case rel =>
           have h1 := HK.out
           have h2 := HLB.out
           exact ⟨k + 1, by omega, by rw [w64 (by omega) (by omega)]; rfl, HO2, HB⟩
          case measure =>
           have := HK.out
           have := HLB.out
           rw [w64 (by omega) (by omega)]
           first
            | (simp [intOf]; done)
            | (simp [intOf]; omega)
        ·
         have z1 : ((rd_T46 b (k : Int)).f1.f2 == 1) = false := beq_eq_false_iff_ne.2 h1
         rw [if_neg (fun q => h1 q.1), List.append_nil] at HCS
         clear h1
         go_wp2_with fail
         go_big_quiet (fail)
         have HO2 : Aside0 (Kd.R k33 33 (w7.drewN nq) w2.heap.size (fun _ => True) u10 (goneT a b a.reverse ++ (b.take (k + 1)).flatMap (comeT a b))) := ⟨by rw [HCS.out]; exact Kd.R_drewN HO.out _⟩
         have HB7 := Aside0.mk (below_then HB.out HB.out.size (pw_below_drewN (Below.refl w7.heap.size w7) nq))
         clear HB HO BK FA FB c0 c1 c2 c3 c4 c5 c6 c13
         have HB := HB7
         clear HB7
         go_wp2_with fail
         go_roundw
         case rel =>
          have h1 := HK.out
          have h2 := HLB.out
          exact ⟨k + 1, by omega, by rw [w64 (by omega) (by omega)]; rfl, HO2, HB⟩
         case measure =>
          have := HK.out
          have := HLB.out
          rw [w64 (by omega) (by omega)]
          first
           | (simp [intOf]; done)
           | (simp [intOf]; omega)
      ·
       have hke : k = b.length := by omega
       subst hke
       have q1 : ((b.length : Int) < (b.length : Int)) = False := eq_false (by omega)
       have hdt : diffT a b = (goneT a b a.reverse ++ b.flatMap (comeT a b), 0) := by
        unfold diffT
        rw [if_pos ⟨HFa.out, HFb.out⟩]
       have HX : Aside0 (DiffRet a b w (.returned (.tuple #[u10, .int .i64 0])) wr) := ⟨u10, by rw [hdt], by
        rw [hdt]
        have := HO.out
        rw [List.take_length] at this
        exact Kd.R_lower this (below_size HBw.out), below_then HBw.out HBw.out.size HB.out⟩
       clear hdt hkl hk HO HB
       go_wp2_with fail
       go_ret2
       exact HX.out
  ·
   have HX : Aside0 (DiffRet a b w (.returned (.tuple #[.slice none 0 0, .int .i64 5])) w2) := ⟨_, by
    unfold diffT
    rw [if_neg (fun q => hFb q.2)], by
    unfold diffT
    rw [if_neg (fun q => hFb q.2)]
    exact Kd.R_nil _ _ _ _ _, below_then HB1.out HB1.out.size hb2⟩
   clear hFb hb2
   go_wp2_with fail
   go_ret2
   exact HX.out
 ·
  have HB1 := Aside0.mk hb1
  have HFa := Aside0.mk hFa
  clear hb1 hFa
  go_wp2_with fail
  refine (formed_c b B cb w1 (Kd.C_below HRB.out HB1.out) HCB.out HLB.out HWB.out (HT.out.below HB1.out)).mono ?_
  intro e w2 hq
  have HX : Aside0 (DiffRet a b w (.returned (.tuple #[.slice none 0 0, .int .i64 5])) w2) := ⟨_, by
   unfold diffT
   rw [if_neg (fun q => HFa.out q.1)], by
   unfold diffT
   rw [if_neg (fun q => HFa.out q.1)]
   exact Kd.R_nil _ _ _ _ _, below_then HB1.out HB1.out.size (by rcases hq with ⟨_, _, _, _, h⟩ | ⟨_, _, h⟩ <;> exact h)⟩
  rcases hq with ⟨_, gb, rfl, _, _⟩ | ⟨_, rfl, _⟩
  ·
   go_wp2_with fail
   go_ret2
   exact HX.out
  ·
   go_wp2_with fail
   go_ret2
   exact HX.out
end Go.Proofs.YtoggfapafjgkdaaDoor.T
namespace Go.Proofs.YtoggfapafjgkdaaDoor.T
open Go.RowKit Go.Proofs.YtoggfapafjgkdaaDoorW.PrintWords Go.Proofs.YtoggfapafjgkdaaDoorW.PrintLast Go.Proofs.YtoggfapafjgkdaaDoorW.PrintMore Go.Proofs.YtoggfapafjgkdaaDoor.PAll
set_option linter.unusedSimpArgs false
set_option linter.unusedVariables false
end Go.Proofs.YtoggfapafjgkdaaDoor.T
