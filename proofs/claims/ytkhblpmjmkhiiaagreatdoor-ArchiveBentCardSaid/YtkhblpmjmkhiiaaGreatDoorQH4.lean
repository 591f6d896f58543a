/- What a law's few nodes are: at most 40, with at most 60000 bytes. -/
import Derived.Test.YtkhblpmjmkhiiaaGreatDoorQH3
import Derived.Test.YtkhblpmjmkhiiaaGreatDoorQH2
import Derived.Test.YtkhblpmjmkhiiaaGreatDoorQH1
namespace Go.Proofs.YtkhblpmjmkhiiaaGreatDoor.T
open Go.RowKit Go.Proofs.YtkhblpmjmkhiiaaGreatDoorW.PrintWords Go.Proofs.YtkhblpmjmkhiiaaGreatDoorW.PrintLast Go.Proofs.YtkhblpmjmkhiiaaGreatDoorW.PrintMore Go.Proofs.YtkhblpmjmkhiiaaGreatDoor.PAll
set_option linter.unusedSimpArgs false
set_option linter.unusedVariables false
def NormRet (l : List S38) (w : World) (e : Ending) (w' : World) : Prop :=
 ∃ v, e = .returned (.tuple #[v, .int .i64 (normT l).2]) ∧ Kd.R k38 38 w' w.heap.size (fun _ => True) v (normT l).1 ∧ Below w.heap.size w w'
def Wf (l : List S38) : Prop := ∀ n ∈ l, (Lit.int .i64 (ino n)).wf = true
theorem MapI.mono {w : World} {b n n' : Nat} {f : Int → Int} (h : MapI w b n f) (hn : n ≤ n') : MapI w b n' f := by
 obtain ⟨D, h1, h2⟩ := h
 exact ⟨D, h1.mono hn, h2⟩
theorem nat_wf {k : Nat} (h : k < 4294967296) : (Lit.int .i64 (k : Int)).wf = true := by
 rw [← w64 (x := (k : Int)) Z3 Z3]
 exact wrap64_wf _
theorem set_canon {s : List S38} {f g : Int → Int} (h : FMap s s.length f) (hg : LMap s s.length f g) {k : Nat} (hk : k < s.length) :
  ((canon s).take k ++ s.drop k).set k ⟨(rdn s k).f0, ⟨f (ino (rdn s k)), 0, (rdn s k).f1.f2, g (f (ino (rdn s k))), (((rdn s k).f2.size : Nat) : Int)⟩, (rdn s k).f2⟩ = (canon s).take (k + 1) ++ s.drop (k + 1) := by
 have hl : (canon s).length = s.length := canon_len s
 have e1 : ((canon s).take k).length = k := by rw [List.length_take]; omega
 rw [List.set_append_right _ _ Z3, e1, Nat.sub_self, List.drop_eq_getElem_cons hk, List.set_cons_zero, List.take_add_one, canon_at h hg hk]
 simp
theorem mix_at {s : List S38} {k : Nat} (hk : k < s.length) : ((canon s).take k ++ s.drop k)[k]? = some (rdn s k) := by
 have hl : (canon s).length = s.length := canon_len s
 have e1 : ((canon s).take k).length = k := by rw [List.length_take]; omega
 rw [List.getElem?_append_right Z3, e1, Nat.sub_self, List.getElem?_drop, Nat.add_zero, List.getElem?_eq_getElem hk]
 exact congrArg some (rd_at hk).symm
theorem mix_len {s : List S38} {k : Nat} (hk : k ≤ s.length) : ((canon s).take k ++ s.drop k).length = s.length := by
 have hl : (canon s).length = s.length := canon_len s
 rw [List.length_append, List.length_take, List.length_drop]
 omega
theorem put_new {w w6 : World} {b1 b2 gb k : Nat} {f g : Int → Int} {base : Nat} {v : Value} {s : List S38} {x : Int} {cs : Array Value} (HM1 : MapI w6 b1 k f) (HM2 : MapI w6 b2 k g) (hk : k < maxLen) (hx : (Lit.int .i64 x).wf = true)
  (h12 : b1 < b2 ∧ w.heap.size ≤ b1) (hgb : b1 < gb ∧ b2 < gb) (HO : Kd.R k38 38 w6 base (fun q => q < b1) v s) (HB : Below w.heap.size w w6) (BK : w6.heap[gb]? = some (.cells cs 38 (0, 0))) (p : Int) (hp : (Lit.int .i64 p).wf = true) :
  ∃ w7 w8, (Instr.mapUpdate 64 (.map (some b1)) (.int .i64 x) (.int .i64 p)).run Tryz.prog w6 = .ok () w7 ∧ (Instr.lookup 64 (.map (some b1)) (.int .i64 x) false).run Tryz.prog w7 = .ok (.int .i64 p) w7 ∧
   (Instr.lookup 64 (.map (some b2)) (.int .i64 p) false).run Tryz.prog w7 = .ok (.int .i64 (g p)) w7 ∧ (Instr.mapUpdate 64 (.map (some b2)) (.int .i64 p) (.int .i64 (wrap64 (g p + 1)))).run Tryz.prog w7 = .ok () w8 ∧
   MapI w8 b1 (k + 1) (fun t => if t = x then p else f t) ∧ MapI w8 b2 (k + 1) (fun t => if t = p then wrap64 (g p + 1) else g t) ∧ Kd.R k38 38 w8 base (fun q => q < b1) v s ∧ Below w.heap.size w w8 ∧ w7.heap[gb]? = some (.cells cs 38 (0, 0)) := by
 obtain ⟨w7, hput, hm7, hg7⟩ := HM1.put hk x hx p hp
 have M2 := HM2.kept hg7 (fun e => by have := Option.some.inj e; omega)
 have hlk2 := hm7.look x hx
 simp only [if_true] at hlk2
 have hlk3 := M2.look p hp
 obtain ⟨w8, hput2, hm8, hg8⟩ := M2.put hk p hp (wrap64 (g p + 1)) (wrap64_wf _)
 have hB7 := HB.grown hg7 HB.size (fun q hq => by injection hq with hq; omega)
 refine ⟨w7, w8, hput, hlk2, hlk3, hput2, hm7.kept hg8 (fun e => by have := Option.some.inj e; omega), hm8, Kd.R_grown (Kd.R_grown HO hg7 (fun q hq e => by have := Option.some.inj e; omega)) hg8 (fun q hq e => by have := Option.some.inj e; omega), hB7.grown hg8 hB7.size (fun q hq => by injection hq with hq; omega), ?_⟩
 exact blk_grown BK hg7 (fun e => by have := Option.some.inj e; omega)
theorem put_old {w w6 : World} {b1 b2 k : Nat} {f g : Int → Int} {base : Nat} {v : Value} {s : List S38} (HM1 : MapI w6 b1 k f) (HM2 : MapI w6 b2 k g) (hk : k < maxLen)
  (h12 : b1 < b2 ∧ w.heap.size ≤ b1) (HO : Kd.R k38 38 w6 base (fun q => q < b1) v s) (HB : Below w.heap.size w w6) (p : Int) (hp : (Lit.int .i64 p).wf = true) :
  ∃ w8, (Instr.lookup 64 (.map (some b2)) (.int .i64 p) false).run Tryz.prog w6 = .ok (.int .i64 (g p)) w6 ∧ (Instr.mapUpdate 64 (.map (some b2)) (.int .i64 p) (.int .i64 (wrap64 (g p + 1)))).run Tryz.prog w6 = .ok () w8 ∧
   MapI w8 b1 (k + 1) f ∧ MapI w8 b2 (k + 1) (fun t => if t = p then wrap64 (g p + 1) else g t) ∧ Kd.R k38 38 w8 base (fun q => q < b1) v s ∧ Below w.heap.size w w8 := by
 obtain ⟨w8, hput2, hm8, hg8⟩ := HM2.put hk p hp (wrap64 (g p + 1)) (wrap64_wf _)
 exact ⟨w8, HM2.look p hp, hput2, (HM1.kept hg8 (fun e => by have := Option.some.inj e; omega)).mono Z3, hm8, Kd.R_grown HO hg8 (fun q hq e => by have := Option.some.inj e; omega), HB.grown hg8 HB.size (fun q hq => by injection hq with hq; omega)⟩
set_option maxHeartbeats 8000000 in
set_option maxRecDepth 100000 in
theorem normal_c (l : List S38) (A : Option Addr) (c : Nat) (w : World) (hr0 : Kd.C k38 w A l.length l) (hc : l.length ≤ c) (hl : l.length < 2147483648) (hwf : Wf l) (hT : Tab w) :
  Calls Tryz.prog 10 #[.slice A l.length c] w fun e w' => NormRet l w e w' := by
 have hu46 := Tryz.underlying38
 have hu44 := Tryz.underlying36
 have HR := Aside0.mk hr0
 have HL := Aside0.mk hl
 have HT := Aside0.mk hT
 have HW := Aside0.mk hwf
 have HB := Aside0.mk (Below.refl w.heap.size w)
 clear hr0 hT hl hwf
 go_enter Tryz.func10, Tryz.ntmps10
 go_wp2_with (first | ((with_reducible refine gate_dst (N := 15) rfl ?_); refine Kd.R_lit k38 _ 38 ?hg (N := 15) ?hd (xs := ([] : List (S38))) (inner := []) (ok := fun _ => True) (okp := fun _ => True) ?hr ?hp (fun _ hk => hk) trivial (Below.refl _ _) (Nat.le_refl _) Z23 ?_; (case hd => rfl); (case hg => rfl); (case hr => first | (go_simp; done) | (go_simp; rfl)); (case hp => exact (Reps.none _ _)); intro v299 w6 ho7 hb hg_ hnew_; clear hg_ hnew_; have n0_ := Aside0.mk (Kd.R_lower ho7 (below_size HB.out)); have n1_ := Aside0.mk (below_step HB.out hb); clear HB; have HO := n0_; have HB := n1_; clear n0_ n1_; clear hb ho7) | ((with_reducible refine gate_builtin (b := .append) (xs := #[.tmp 15, .tmp 16]) rfl ?_); at_builtin; refine Kd.R_append_rows k38 (w0 := w) w.heap.size rfl (.tmp 15) (.tmp 16) 22 38 (.agg #[(.string ⟨#[]⟩), (.int .i64 0), (.int .i64 0), (.int .i64 0), (.int .i64 0), (.int .i64 0), (.string ⟨#[]⟩)]) 72 rfl Tryz.underlying22 info38 rfl Z11 Z3 v299 ([] : List S38) l _ _ _ (fun _ => True) (fun _ => False) rfl rfl ?aO ?aR (fun _ _ h => h) (fun _ h => h.elim) ?aF ?aB ?aS ?aL ?_; (case aR => repeat (first | exact (Kd.C_below HR.out HB.out) | (with_reducible refine Kd.C_alloc ?_ _) | (with_reducible refine Kd.C_drewN ?_ _) | (with_reducible refine Kd.C_drew ?_))); (case aB => exact HB.out); (case aF => exact (fun _ _ => trivial)); (case aO => exact HO.out); (case aS => exact (below_size HB.out)); (case aL => have := HL.out; simp; omega); intro v302 w8 ho hb hg hat; have n0_ := Aside0.mk hb; have n1_ : Aside0 (Kd.R k38 38 w8 w.heap.size (fun _ => True) v302 l) := ⟨by simpa using ho⟩; clear HB HO; have HB := n0_; have HO := n1_; clear n0_ n1_ ho hb hg hat; obtain ⟨A8, c8, e8⟩ := Kd.R_slice HO.out; subst e8))
 go_loopw [20] (fun i wr => ∃ (k : Nat), k ≤ l.length ∧ i = .int .i64 k ∧ Aside0 (∀ j, j < k → mayN (rdn l j) = true) ∧ Aside0 (Kd.R k38 38 wr w.heap.size (fun _ => True) (.slice A8 l.length c8) l) ∧ Aside0 (Below w.heap.size w wr)) (fun i _ => l.length - (intOf i).toNat)
 case atStart => exact ⟨0, Z3, rfl, ⟨fun j hj => absurd hj Z3⟩, HO, HB⟩
 case round =>
  clear HO HB
  obtain ⟨k, hk, rfl, HMy, HO, HB⟩ := hrel
  by_cases hkl : k < l.length
  ·
   have HK := Aside0.mk hkl
   obtain ⟨ad, ea, x0, x1, x2, x3, x4, x5, x6⟩ := at_T38 (Kd.R_reads' HO.out).2.2 (k : Int) Z3 Z3
   cases ea
   simp only [Int.toNat_natCast] at x0 x1 x2 x3 x4 x5 x6
   have p1 : (0 ≤ (k : Int)) = True := eq_true Z3
   have q1 : ((k : Int) < (l.length : Int)) = True := eq_true Z3
   go_wp2_with (first | ((with_reducible refine gate_dst (N := 6) rfl ?_); refine box_event ?hg (N := 6) ?hd (cs := #[.string (⟨#[]⟩ : ByteArray), .int .i64 0, .int .i64 0, .int .i64 0, .int .i64 0, .int .i64 0, .string (⟨#[]⟩ : ByteArray)]) (t := 38) ?hr ?_; (case hd => rfl); (case hg => rfl); (case hr => first | (go_simp; done) | (go_simp; rfl)); intro gb hg w5 hbox hb; have n0_ := Aside0.mk (Kd.R_below (Kd.R_elderB HO.out gb (Nat.le_of_eq hg.symm)) hb); have n1_ := Aside0.mk (below_then HB.out HB.out.size hb); have n2_ := Aside0.mk hbox; have n3_ := Aside0.mk ((by rw [hg]; exact below_size HB.out) : w.heap.size ≤ gb); clear HO HB; have HO := n0_; have HB := n1_; have BK := n2_; have GE := n3_; clear n0_ n1_ n2_ n3_ hb hbox hg) | ((with_reducible refine gate_store (t := 38) rfl ?_); refine store_node' rfl rfl _ _ rfl gb _ (rdn l k) BK.out rfl rfl rfl ?_; intro w6 hS1 hS2; have s0_ := Aside0.mk (Kd.R_mono (Kd.R_grown HO.out hS2 (fun q hq e => hq.2 (Option.some.inj e))) (fun _ _ => trivial) : Kd.R k38 38 w6 w.heap.size (fun _ => True) _ l); have s1_ := Aside0.mk (HB.out.grown hS2 HB.out.size (fun q hq => by injection hq with hq; rw [← hq]; exact GE.out)); have s2_ := Aside0.mk hS1; clear HO HB BK hS1 hS2; have HO := s0_; have HB := s1_; have BK := s2_; clear s0_ s1_ s2_; have c0 : w6.cell? ⟨gb, 0, none⟩ = some (.string (rdn l k).f0) := (blk_cell BK.out 0).trans rfl; have c1 : w6.cell? ⟨gb, 1, none⟩ = some (.int .i64 (rdn l k).f1.f0) := (blk_cell BK.out 1).trans rfl; have c2 : w6.cell? ⟨gb, 2, none⟩ = some (.int .i64 (rdn l k).f1.f1) := (blk_cell BK.out 2).trans rfl; have c3 : w6.cell? ⟨gb, 3, none⟩ = some (.int .i64 (rdn l k).f1.f2) := (blk_cell BK.out 3).trans rfl; have c4 : w6.cell? ⟨gb, 4, none⟩ = some (.int .i64 (rdn l k).f1.f3) := (blk_cell BK.out 4).trans rfl; have c5 : w6.cell? ⟨gb, 5, none⟩ = some (.int .i64 (rdn l k).f1.f4) := (blk_cell BK.out 5).trans rfl; have c6 : w6.cell? ⟨gb, 6, none⟩ = some (.string (rdn l k).f2) := (blk_cell BK.out 6).trans rfl))
   clear x0 x1 x2 x3 x4 x5 x6
   obtain ⟨b, hb⟩ : ∃ b, mayN (rdn l k) = b := ⟨_, rfl⟩
   have HBm := Aside0.mk hb
   clear hb
   refine (may_c (rdn l k) b w6 (HT.out.below HB.out) HBm.out).mono ?_
   rintro e w7 ⟨rfl, hb7⟩
   have HO7 := Aside0.mk (Kd.R_below HO.out hb7)
   have HB7 := Aside0.mk (below_then HB.out HB.out.size hb7)
   clear hb7 c0 c1 c2 c3 c4 c5 c6 BK HO HB
   cases b with
   | false =>
    have hbad : normT l = bad := by
     unfold normT
     rw [if_neg (fun T => by
      have := T.may _ (rdn_mem HK.out)
      rw [HBm.out] at this
      cases this)]
    go_wp2_with fail
    go_ret2
    exact ⟨_, by rw [hbad]; rfl, by rw [hbad]; exact Kd.R_nil _ _ _ _ _, HB7.out⟩
   | true =>
    go_wp2_with fail
    go_roundw
    case rel =>
     have := HK.out
     have := HL.out
     exact ⟨k + 1, Z3, Z38, ⟨fun j hj => by
      by_cases hjk : j = k
      ·
       rw [hjk]; exact HBm.out
      ·
       exact HMy.out j Z3⟩, HO7, HB7⟩
    case measure =>
     have := HK.out
     have := HL.out
     rw [w64 Z3 Z3]
     simp [intOf]
     omega
  ·
   have HMa : Aside0 (∀ n ∈ l, mayN n = true) := ⟨fun n hn => by
    obtain ⟨i, hi, rfl⟩ := mem_rdn hn
    exact HMy.out i Z3⟩
   have q1 : ((k : Int) < (l.length : Int)) = False := eq_false Z3
   clear HMy hkl hk
   go_wp2_with fail
   refine (sort_any HMa.out HO.out Z46).mono ?_
   rintro e w8 ⟨rfl, s, hp, hw, hR, hbl⟩
   have HI := Aside0.mk (normP_iff HMa.out hp hw)
   have HMs : Aside0 (∀ n ∈ s, mayN n = true) := ⟨fun n hn => HMa.out n (hp.mem_iff.1 hn)⟩
   have HWs : Aside0 (Wf s) := ⟨fun n hn => HW.out n (hp.mem_iff.1 hn)⟩
   have hsl : l.length = s.length := hp.length_eq.symm
   have HB8 := Aside0.mk (hbl w HB.out (Nat.le_refl _))
   have HLs : Aside0 (s.length < 2147483648) := ⟨Z46⟩
   have HO8 := Aside0.mk hR
   clear HO HB HMa HW HR HL hp hw hR hbl q1
   obtain ⟨n, hn⟩ : ∃ n, n = l.length := ⟨_, rfl⟩
   rw [← hn] at hsl
   simp only [← hn] at HO8 ⊢
   clear hn hc
   subst hsl
   go_wp2_with fail
   obtain ⟨r, hr⟩ : ∃ r : Bool, r = true ↔ Placed s := by
    classical
    exact ⟨decide (Placed s), Z23⟩
   refine (placed_c s A8 c8 r w8 (Kd.R_reads' HO8.out).2.2 (Kd.R_reads' HO8.out).2.1 HLs.out HMs.out hr).mono ?_
   rintro e w9 ⟨rfl, hb9⟩
   have HO9 := Aside0.mk (Kd.R_bound (Kd.R_below HO8.out hb9))
   have HB9 := Aside0.mk (below_then HB8.out HB8.out.size hb9)
   clear hb9 HO8 HB8
   cases r with
   | false =>
    have hbad : normT l = bad := by
     unfold normT
     rw [if_neg (fun T => by
      have := hr.2 (HI.out.1.2 T).1
      cases this)]
    go_wp2_with fail
    go_ret2
    exact ⟨_, by rw [hbad]; rfl, by rw [hbad]; exact Kd.R_nil _ _ _ _ _, HB9.out⟩
   | true =>
    have HPl := Aside0.mk (hr.1 rfl)
    clear hr
    have hmk : ∀ W : World, (Instr.makeMap 64 none).run Tryz.prog W = .ok (.map (some W.heap.size)) (W.alloc (.map #[] 0)) := fun W => run_makeMap 64 W
    obtain ⟨b1, hb1⟩ : ∃ b, b = w9.heap.size := ⟨_, rfl⟩
    obtain ⟨b2, hb2⟩ : ∃ b, b = b1 + 1 := ⟨_, rfl⟩
    have hsz : (w9.alloc (.map #[] 0)).heap.size = b1 + 1 := by
     rw [hb1]
     show (w9.heap.push _).size = _
     simp
    have hA1 := below_alloc (Below.refl w9.heap.size w9) (.map #[] 0)
    have hA2 := below_alloc (Below.refl (w9.alloc (.map #[] 0)).heap.size (w9.alloc (.map #[] 0))) (.map #[] 0)
    have HM1 : Aside0 (MapI ((w9.alloc (.map #[] 0)).alloc (.map #[] 0)) b1 0 (fun _ => 0)) := ⟨by rw [hb1]; exact (MapI.made w9).below hA2⟩
    have HM2 : Aside0 (MapI ((w9.alloc (.map #[] 0)).alloc (.map #[] 0)) b2 0 (fun _ => 0)) := ⟨by rw [hb2, ← hsz]; exact MapI.made _⟩
    have HO : Aside0 (Kd.R k38 38 ((w9.alloc (.map #[] 0)).alloc (.map #[] 0)) w.heap.size (fun q => q < b1) (.slice A8 s.length c8) s) := ⟨Kd.R_mono (Kd.R_below (Kd.R_below HO9.out hA1) hA2) (fun q hq => by rw [hb1]; exact hq.2.2.1)⟩
    have HB : Aside0 (Below w.heap.size w ((w9.alloc (.map #[] 0)).alloc (.map #[] 0))) := ⟨below_alloc (below_alloc HB9.out _) _⟩
    have HBB : Aside0 (b1 < b2 ∧ w.heap.size ≤ b1) := ⟨by
     have h1 : b1 < b2 := by omega
     exact ⟨h1, by rw [hb1]; exact below_size HB9.out⟩⟩
    go_wp2_with fail
    try rw [← hb1]
    try rw [← hb2]
    clear hb1 hb2 hA1 hA2 hmk HO9 HB9 hsz
    generalize (w9.alloc (.map #[] 0)).alloc (.map #[] 0) = w10 at HM1 HM2 HO HB ⊢
    go_loopw [37] (fun i wr => ∃ (k : Nat) (f g : Int → Int), k ≤ s.length ∧ i = .int .i64 k ∧ Aside0 (MapI wr b1 k f) ∧ Aside0 (MapI wr b2 k g) ∧ Aside0 (FMap s k f) ∧ Aside0 (LMap s k f g) ∧ Aside0 (∀ j, j < k → InoAt s j) ∧ Aside0 (Kd.R k38 38 wr w.heap.size (fun q => q < b1) (.slice A8 s.length c8) s) ∧ Aside0 (Below w.heap.size w wr)) (fun i _ => s.length - (intOf i).toNat)
    case atStart => exact ⟨0, _, _, Z3, rfl, HM1, HM2, ⟨FMap.zero s⟩, ⟨LMap.zero s⟩, ⟨fun j hj => absurd hj Z3⟩, HO, HB⟩
    case round =>
     clear HO HB HM1 HM2
     obtain ⟨k, f, g, hk, rfl, HM1, HM2, HF, HG, HN, HO, HB⟩ := hrel
     by_cases hkl : k < s.length
     ·
      have HK := Aside0.mk hkl
      obtain ⟨ad, ea, x0, x1, x2, x3, x4, x5, x6⟩ := at_T38 (Kd.R_reads' HO.out).2.2 (k : Int) Z3 Z3
      cases ea
      simp only [Int.toNat_natCast] at x0 x1 x2 x3 x4 x5 x6
      have p1 : (0 ≤ (k : Int)) = True := eq_true Z3
      have q1 : ((k : Int) < (s.length : Int)) = True := eq_true Z3
      have hwk := HWs.out _ (rdn_mem hkl)
      obtain ⟨v, hv⟩ : ∃ v, f (rdn s k).f1.f0 = v := ⟨_, rfl⟩
      have HV := Aside0.mk hv
      clear hv
      by_cases hv0 : v = 0
      ·
       have z0 : (v == 0) = true := beq_iff_eq.2 hv0
       have HF0 := Aside0.mk (HV.out.trans hv0)
       clear hv0 hkl hk
       go_wp2_with (first | ((with_reducible refine gate_dst (N := 10) rfl ?_); refine box_event ?hg (N := 10) ?hd (cs := #[.string (⟨#[]⟩ : ByteArray), .int .i64 0, .int .i64 0, .int .i64 0, .int .i64 0, .int .i64 0, .string (⟨#[]⟩ : ByteArray)]) (t := 38) ?hr ?_; (case hd => rfl); (case hg => rfl); (case hr => first | (go_simp; done) | (go_simp; rfl)); intro gb hg w5 hbox hb; have n0_ := Aside0.mk (Kd.R_below HO.out hb); have m1_ := Aside0.mk (HM1.out.below hb); have m2_ := Aside0.mk (HM2.out.below hb); have n1_ := Aside0.mk (below_then HB.out HB.out.size hb); have n2_ := Aside0.mk hbox; have n3_ := Aside0.mk ((by rw [hg]; exact below_size HB.out) : w.heap.size ≤ gb); have n4_ : Aside0 (b1 < gb ∧ b2 < gb) := ⟨by have := HM1.out.lt; have := HM2.out.lt; rw [hg]; omega⟩; clear HO HB HM1 HM2; have HO := n0_; have HM1 := m1_; have HM2 := m2_; have HB := n1_; have BK := n2_; have GE := n3_; have GN := n4_; clear n0_ n1_ n2_ n3_ n4_ m1_ m2_ hb hbox hg) | ((with_reducible refine gate_store (t := 38) rfl ?_); refine store_node' rfl rfl _ _ rfl gb _ (rdn s k) BK.out rfl rfl rfl ?_; intro w6 hS1 hS2; have s0_ := Aside0.mk (Kd.R_grown HO.out hS2 (fun q hq e => by have := Option.some.inj e; have := GN.out; omega)); have m1_ := Aside0.mk (HM1.out.kept hS2 (fun e => by have := Option.some.inj e; have := GN.out; omega)); have m2_ := Aside0.mk (HM2.out.kept hS2 (fun e => by have := Option.some.inj e; have := GN.out; omega)); have s1_ := Aside0.mk (HB.out.grown hS2 HB.out.size (fun q hq => by injection hq with hq; rw [← hq]; exact GE.out)); have s2_ := Aside0.mk hS1; clear HO HB BK HM1 HM2 hS1 hS2; have HO := s0_; have HB := s1_; have BK := s2_; have HM1 := m1_; have HM2 := m2_; clear s0_ s1_ s2_ m1_ m2_; have c1 : w6.cell? ⟨gb, 1, none⟩ = some (.int .i64 (rdn s k).f1.f0) := (blk_cell BK.out 1).trans rfl; have c3 : w6.cell? ⟨gb, 3, none⟩ = some (.int .i64 (rdn s k).f1.f2) := (blk_cell BK.out 3).trans rfl; have c6 : w6.cell? ⟨gb, 6, none⟩ = some (.string (rdn s k).f2) := (blk_cell BK.out 6).trans rfl; have c13 : w6.cell? ⟨gb, 1 + 2, none⟩ = some (.int .i64 (rdn s k).f1.f2) := c3; have hlk := HM1.out.look (rdn s k).f1.f0 hwk; rw [HV.out] at hlk; obtain ⟨w7, w8, hput, hlk2, hlk3, hput2, hm1, hm2, hO8, hB8, hbk⟩ := put_new (x := (rdn s k).f1.f0) HM1.out HM2.out (by have := HK.out; have := HLs.out; unfold maxLen; omega) hwk HBB.out GN.out HO.out HB.out BK.out (wrap64 ((k : Int) + 1)) (wrap64_wf _); have c1 : w7.cell? ⟨gb, 1, none⟩ = some (.int .i64 (rdn s k).f1.f0) := (blk_cell hbk 1).trans rfl; clear HO HB BK HM1 HM2 hbk; have HO := Aside0.mk hO8; have HB := Aside0.mk hB8; have HM1 := Aside0.mk hm1; have HM2 := Aside0.mk hm2; clear hO8 hB8 hm1 hm2))
       go_roundw
       case rel =>
        have := HK.out
        have := HLs.out
        have hk1 : wrap64 ((k : Int) + 1) = ((k + 1 : Nat) : Int) := by rw [w64 Z3 Z3]; rfl
        rw [hk1] at HM1 HM2 ⊢
        exact ⟨k + 1, _, _, Z3, rfl, HM1, HM2, ⟨HF.out.add HK.out HF0.out⟩, ⟨HG.out.add HF.out HK.out HF0.out⟩, ⟨fun j hj => by
         by_cases hjk : j = k
         ·
          rw [hjk]; exact inoAt_new HF.out HK.out HF0.out
         ·
          exact HN.out j Z3⟩, HO, HB⟩
       case measure =>
        have := HK.out
        have := HLs.out
        rw [w64 Z3 Z3]
        simp [intOf]
        omega
      ·
       have z0 : (v == 0) = false := beq_eq_false_iff_ne.2 hv0
       obtain ⟨j, hj⟩ : ∃ j : Nat, v = ((j + 1 : Nat) : Int) := by
        rcases HF.out.form Z3 (rdn s k).f1.f0 with ⟨q, _⟩ | ⟨j, _, q, _⟩
        ·
         exact absurd (HV.out.symm.trans q) hv0
        ·
         exact ⟨j, HV.out.symm.trans q⟩
       have HJ := Aside0.mk (inoAt_old HF.out hkl (HV.out.trans hj))
       have hjk : j < k := HJ.out.1
       have hwj : wrap64 (v - 1) = (j : Int) := by have := HLs.out; rw [w64 Z3 Z3]; omega
       have HVJ := Aside0.mk hj
       clear hv0 hj
       go_wp2_with (first | ((with_reducible refine gate_dst (N := 10) rfl ?_); refine box_event ?hg (N := 10) ?hd (cs := #[.string (⟨#[]⟩ : ByteArray), .int .i64 0, .int .i64 0, .int .i64 0, .int .i64 0, .int .i64 0, .string (⟨#[]⟩ : ByteArray)]) (t := 38) ?hr ?_; (case hd => rfl); (case hg => rfl); (case hr => first | (go_simp; done) | (go_simp; rfl)); intro gb hg w5 hbox hb; have n0_ := Aside0.mk (Kd.R_below HO.out hb); have m1_ := Aside0.mk (HM1.out.below hb); have m2_ := Aside0.mk (HM2.out.below hb); have n1_ := Aside0.mk (below_then HB.out HB.out.size hb); have n2_ := Aside0.mk hbox; have n3_ := Aside0.mk ((by rw [hg]; exact below_size HB.out) : w.heap.size ≤ gb); have n4_ : Aside0 (b1 < gb ∧ b2 < gb) := ⟨by have := HM1.out.lt; have := HM2.out.lt; rw [hg]; omega⟩; clear HO HB HM1 HM2; have HO := n0_; have HM1 := m1_; have HM2 := m2_; have HB := n1_; have BK := n2_; have GE := n3_; have GN := n4_; clear n0_ n1_ n2_ n3_ n4_ m1_ m2_ hb hbox hg) | ((with_reducible refine gate_store (t := 38) rfl ?_); refine store_node' rfl rfl _ _ rfl gb _ (rdn s k) BK.out rfl rfl rfl ?_; intro w6 hS1 hS2; have s0_ := Aside0.mk (Kd.R_grown HO.out hS2 (fun q hq e => by have := Option.some.inj e; have := GN.out; omega)); have m1_ := Aside0.mk (HM1.out.kept hS2 (fun e => by have := Option.some.inj e; have := GN.out; omega)); have m2_ := Aside0.mk (HM2.out.kept hS2 (fun e => by have := Option.some.inj e; have := GN.out; omega)); have s1_ := Aside0.mk (HB.out.grown hS2 HB.out.size (fun q hq => by injection hq with hq; rw [← hq]; exact GE.out)); have s2_ := Aside0.mk hS1; clear HO HB BK HM1 HM2 hS1 hS2; have HO := s0_; have HB := s1_; have BK := s2_; have HM1 := m1_; have HM2 := m2_; clear s0_ s1_ s2_ m1_ m2_; have c1 : w6.cell? ⟨gb, 1, none⟩ = some (.int .i64 (rdn s k).f1.f0) := (blk_cell BK.out 1).trans rfl; have c3 : w6.cell? ⟨gb, 3, none⟩ = some (.int .i64 (rdn s k).f1.f2) := (blk_cell BK.out 3).trans rfl; have c6 : w6.cell? ⟨gb, 6, none⟩ = some (.string (rdn s k).f2) := (blk_cell BK.out 6).trans rfl; have c13 : w6.cell? ⟨gb, 1 + 2, none⟩ = some (.int .i64 (rdn s k).f1.f2) := c3; have hlk := HM1.out.look (rdn s k).f1.f0 hwk; rw [HV.out] at hlk; skip))
       obtain ⟨ad', ea', y0, y1, y2, y3, y4, y5, y6⟩ := at_T38 (Kd.R_reads' HO.out).2.2 (j : Int) Z3 Z3
       injection ea' with ea'
       subst ea'
       simp only [Int.toNat_natCast] at y0 y1 y2 y3 y4 y5 y6
       have qm : (j < s.length) = True := eq_true Z3
       clear x0 x1 x2 x3 x4 x5 x6 y0 y1 y2 y4 y5
       by_cases hA : (rdn s k).f1.f2 = 1
       ·
        have zA : ((rdn s k).f1.f2 != 1) = false := by simpa using hA
        by_cases hB : (rdn s j).f1.f2 = 1
        ·
         have zB : ((rdn s j).f1.f2 != 1) = false := by simpa using hB
         by_cases hC : pb (rdn s j).f2 = pb (rdn s k).f2
         ·
          have zC : ((rdn s j).f2.toList == (rdn s k).f2.toList) = true := by rw [toL, toL]; exact beq_iff_eq.2 hC
          have HNk : Aside0 (InoAt s k) := ⟨HJ.out.2.2 ⟨hA, hB, hC⟩⟩
          clear hkl hk hjk hA hB hC
          go_big_quiet (fail)
          have hdn : Below w6.heap.size w6 (w6.drewN nq) := pw_below_drewN (Below.refl w6.heap.size w6) nq
          obtain ⟨w8, hlk3, hput2, hm1, hm2, hO8, hB8⟩ := put_old (HM1.out.below hdn) (HM2.out.below hdn) (by have := HK.out; have := HLs.out; unfold maxLen; omega) HBB.out (Kd.R_below HO.out hdn) (below_then HB.out HB.out.size hdn) v (by
           rw [HVJ.out]
           have := HJ.out.1
           have := HK.out
           have := HLs.out
           exact nat_wf Z3)
          have hlk2 := (HM1.out.below hdn).look (rdn s k).f1.f0 hwk
          rw [HV.out] at hlk2
          have c1' : (w6.drewN nq).cell? ⟨gb, 1, none⟩ = some (.int .i64 (rdn s k).f1.f0) := (blk_cell (blk_below BK.out hdn) 1).trans rfl
          clear hdn hlk c1 c3 c6 c13 HM1 HM2 HO HB BK y3 y6
          have HM1 := Aside0.mk hm1
          have HM2 := Aside0.mk hm2
          have HO := Aside0.mk hO8
          have HB := Aside0.mk hB8
          clear hm1 hm2 hO8 hB8
          generalize w6.drewN nq = w7 at hlk2 hlk3 hput2 c1' ⊢
          go_wp2_with fail
          go_roundw
          case rel =>
           have h1 := HK.out
           have h2 := HLs.out
           have hne : f (ino (rdn s k)) ≠ 0 := by
            rw [show f (ino (rdn s k)) = v from HV.out, HVJ.out]
            omega
           have hG := HG.out.keep HF.out HK.out HLs.out hne
           rw [show f (ino (rdn s k)) = v from HV.out] at hG
           exact ⟨k + 1, f, _, Z3, Z38, HM1, HM2, ⟨HF.out.keep HK.out hne⟩, ⟨hG⟩, ⟨fun j hj => by
            by_cases hjk : j = k
            ·
             rw [hjk]; exact HNk.out
            ·
             exact HN.out j Z3⟩, HO, HB⟩
          case measure =>
           have := HK.out
           have := HLs.out
           rw [w64 Z3 Z3]
           simp [intOf]
           omega
         ·
          have zC : ((rdn s j).f2.toList == (rdn s k).f2.toList) = false := by rw [toL, toL]; exact beq_eq_false_iff_ne.2 hC
          have HNo : Aside0 (¬ InoAt s k) := ⟨fun q => hC (HJ.out.2.1 q).2.2⟩
          clear hA hB hC
          have er : normT l = bad := by
           unfold normT
           rw [if_neg (fun T => HNo.out ((HI.out.1.2 T).2 k HK.out))]
          clear hkl hk hjk
          go_big_quiet (fail)
          have HBq := Aside0.mk (below_then HB.out HB.out.size (by repeat (first | exact Below.refl _ _ | apply pw_below_drewN) : Below w6.heap.size w6 (w6.drewN nq)))
          clear c1 c3 c6 c13
          go_wp2_with fail
          go_ret2
          exact ⟨_, by rw [er]; rfl, by rw [er]; exact Kd.R_nil _ _ _ _ _, HBq.out⟩
        ·
         have zB : ((rdn s j).f1.f2 != 1) = true := by simpa using hB
         have HNo : Aside0 (¬ InoAt s k) := ⟨fun q => hB (HJ.out.2.1 q).2.1⟩
         clear hA hB
         have er : normT l = bad := by
          unfold normT
          rw [if_neg (fun T => HNo.out ((HI.out.1.2 T).2 k HK.out))]
         clear hkl hk hjk
         go_big_quiet (fail)
         have HBq := Aside0.mk (below_then HB.out HB.out.size (by repeat (first | exact Below.refl _ _ | apply pw_below_drewN) : Below w6.heap.size w6 (w6.drewN nq)))
         clear c1 c3 c6 c13
         go_wp2_with fail
         go_ret2
         exact ⟨_, by rw [er]; rfl, by rw [er]; exact Kd.R_nil _ _ _ _ _, HBq.out⟩
       ·
        have zA : ((rdn s k).f1.f2 != 1) = true := by simpa using hA
        have HNo : Aside0 (¬ InoAt s k) := ⟨fun q => hA (HJ.out.2.1 q).1⟩
        clear hA
        have er : normT l = bad := by
         unfold normT
         rw [if_neg (fun T => HNo.out ((HI.out.1.2 T).2 k HK.out))]
        clear hkl hk hjk
        go_big_quiet (fail)
        have HBq := Aside0.mk (below_then HB.out HB.out.size (by repeat (first | exact Below.refl _ _ | apply pw_below_drewN) : Below w6.heap.size w6 (w6.drewN nq)))
        clear c1 c3 c6 c13
        go_wp2_with fail
        go_ret2
        exact ⟨_, by rw [er]; rfl, by rw [er]; exact Kd.R_nil _ _ _ _ _, HBq.out⟩
     ·
      have hke : k = s.length := by omega
      subst hke
      have HTr := Aside0.mk (HI.out.1.1 ⟨HPl.out, HN.out⟩)
      have HS := Aside0.mk (HI.out.2 HTr.out)
      have q1 : ((s.length : Int) < (s.length : Int)) = False := eq_false Z3
      have HP0 := Aside0.mk HPl.out.2.1
      clear hkl hk HN HPl HI
      obtain ⟨gA, capA, eA, gA1, gA2, _⟩ := Kd.R_form HO.out HP0.out
      injection eA with eA1 eA2 eA3
      subst eA1
      have GA : Aside0 (gA < b1 ∧ w.heap.size ≤ gA) := ⟨HO.out.1 gA rfl, gA1⟩
      clear gA1 gA2 eA2 eA3
      go_wp2_with fail
      go_loopw [93] (fun i wr => ∃ (k : Nat), k ≤ s.length ∧ i = .int .i64 k ∧ Aside0 (MapI wr b1 s.length f) ∧ Aside0 (MapI wr b2 s.length g) ∧ Aside0 (Kd.R k38 38 wr w.heap.size (fun q => q < b1) (.slice (some ⟨gA, 0, none⟩) s.length c8) ((canon s).take k ++ s.drop k)) ∧ Aside0 (Below w.heap.size w wr)) (fun i _ => s.length - (intOf i).toNat)
      case atStart => exact ⟨0, Z3, rfl, HM1, HM2, ⟨by simpa using HO.out⟩, HB⟩
      case round =>
       clear HO HB HM1 HM2 q1
       obtain ⟨k, hk, rfl, HM1, HM2, HO, HB⟩ := hrel
       by_cases hkl : k < s.length
       ·
        have HK := Aside0.mk hkl
        have hml : ((canon s).take k ++ s.drop k).length = s.length := mix_len Z3
        have hmr : rd_T38 ((canon s).take k ++ s.drop k) (k : Int) = rd_T38 s (k : Int) := by
         have h1 := mix_at hkl
         obtain ⟨h2, h3⟩ := List.getElem?_eq_some_iff.1 h1
         exact (rd_at h2).trans h3
        obtain ⟨ad, ea, x0, x1, x2, x3, x4, x5, x6⟩ := at_T38 (Kd.R_reads' HO.out).2.2 (k : Int) Z3 Z3
        cases ea
        rw [hmr] at x0 x1 x2 x3 x4 x5 x6
        have e0 : (⟨gA, 0, none⟩ : Addr).add (k * 7) = ⟨gA, k * 7, none⟩ := by rw [Addr.add_lit, Nat.zero_add]
        simp only [Int.toNat_natCast, e0] at x0 x1 x2 x3 x4 x5 x6
        clear e0
        have p1 : (0 ≤ (k : Int)) = True := eq_true Z3
        have q1 : ((k : Int) < (s.length : Int)) = True := eq_true Z3
        have hwk := HWs.out _ (rdn_mem hkl)
        obtain ⟨v, hv⟩ : ∃ v, f (rdn s k).f1.f0 = v := ⟨_, rfl⟩
        have HV := Aside0.mk hv
        have HVW : Aside0 ((Lit.int .i64 v).wf = true) := ⟨by
         have h1 := HF.out.le (Nat.le_refl _) (rdn s k).f1.f0
         have h2 := HLs.out
         rw [hv] at h1
         rw [← w64 (x := v) Z3 Z3]
         exact wrap64_wf _⟩
        have HSC := Aside0.mk (set_canon HF.out HG.out hkl)
        rw [show f (ino (rdn s k)) = v from hv] at HSC
        rw [hml.symm] at HO
        clear hkl hk hv hml hmr
        go_wp2_with (first | ((with_reducible refine gate_dst (N := 13) rfl ?_); refine box_event ?hg (N := 13) ?hd (cs := #[.string (⟨#[]⟩ : ByteArray), .int .i64 0, .int .i64 0, .int .i64 0, .int .i64 0, .int .i64 0, .string (⟨#[]⟩ : ByteArray)]) (t := 38) ?hr ?_; (case hd => rfl); (case hg => rfl); (case hr => first | (go_simp; done) | (go_simp; rfl)); intro gb hg w5 hbox hb; have n0_ := Aside0.mk (Kd.R_below HO.out hb); have m1_ := Aside0.mk (HM1.out.below hb); have m2_ := Aside0.mk (HM2.out.below hb); have n1_ := Aside0.mk (below_then HB.out HB.out.size hb); have n2_ := Aside0.mk hbox; have n3_ := Aside0.mk ((by rw [hg]; exact below_size HB.out) : w.heap.size ≤ gb); have n4_ : Aside0 (b1 < gb ∧ b2 < gb) := ⟨by have := HM1.out.lt; have := HM2.out.lt; rw [hg]; omega⟩; clear HO HB HM1 HM2; have HO := n0_; have HM1 := m1_; have HM2 := m2_; have HB := n1_; have BK := n2_; have GE := n3_; have GN := n4_; clear n0_ n1_ n2_ n3_ n4_ m1_ m2_ hb hbox hg) | ((with_reducible refine gate_store (t := 38) rfl ?_); refine store_node' rfl rfl _ _ rfl gb _ (rdn s k) BK.out rfl rfl rfl ?_; intro w6 hS1 hS2; have s0_ := Aside0.mk (Kd.R_grown HO.out hS2 (fun q hq e => by have := Option.some.inj e; have := GN.out; omega)); have m1_ := Aside0.mk (HM1.out.kept hS2 (fun e => by have := Option.some.inj e; have := GN.out; omega)); have m2_ := Aside0.mk (HM2.out.kept hS2 (fun e => by have := Option.some.inj e; have := GN.out; omega)); have s1_ := Aside0.mk (HB.out.grown hS2 HB.out.size (fun q hq => by injection hq with hq; rw [← hq]; exact GE.out)); have s2_ := Aside0.mk hS1; clear HO HB BK HM1 HM2 hS1 hS2; have HO := s0_; have HB := s1_; have BK := s2_; have HM1 := m1_; have HM2 := m2_; clear s0_ s1_ s2_ m1_ m2_; have c1 : w6.cell? ⟨gb, 1, none⟩ = some (.int .i64 (rdn s k).f1.f0) := (blk_cell BK.out 1).trans rfl; have c3 : w6.cell? ⟨gb, 3, none⟩ = some (.int .i64 (rdn s k).f1.f2) := (blk_cell BK.out 3).trans rfl; have c6 : w6.cell? ⟨gb, 6, none⟩ = some (.string (rdn s k).f2) := (blk_cell BK.out 6).trans rfl; have c13 : w6.cell? ⟨gb, 1 + 2, none⟩ = some (.int .i64 (rdn s k).f1.f2) := c3; have hlk := HM1.out.look (rdn s k).f1.f0 hwk; rw [HV.out] at hlk; have hlk2 := HM2.out.look v HVW.out) | ((with_reducible refine gate_store (t := 36) rfl ?_); refine store_stat rfl rfl _ _ rfl gA c8 k w.heap.size _ _ (rdn s k) ⟨v, 0, (rdn s k).f1.f2, g v, (((rdn s k).f2.size : Nat) : Int)⟩ HO.out (mix_at HK.out) ?hx ?hy ?_; (case hx => first | rfl | (go_simp; done) | (go_simp; rfl)); (case hy => first | rfl | (go_simp; done) | (go_simp; rfl)); intro w7 hR7 hg7; have s0_ := Aside0.mk hR7; have m1_ := Aside0.mk (HM1.out.kept hg7 (fun e => by have := Option.some.inj e; have := GA.out; omega)); have m2_ := Aside0.mk (HM2.out.kept hg7 (fun e => by have := Option.some.inj e; have := GA.out; have := HBB.out; omega)); have s1_ := Aside0.mk (HB.out.grown hg7 HB.out.size (fun q hq => by injection hq with hq; have := GA.out; omega)); clear HO HB HM1 HM2 hR7 hg7 BK c1 c3 c6 c13 hlk hlk2; have HO := s0_; have HB := s1_; have HM1 := m1_; have HM2 := m2_; clear s0_ s1_ m1_ m2_))
        go_roundw
        case rel =>
         have h1 := HK.out
         have h2 := HLs.out
         refine ⟨k + 1, Z3, Z38, HM1, HM2, ⟨?_⟩, HB⟩
         have hR := HO.out
         rw [HSC.out, mix_len Z3] at hR
         exact Kd.R_reok rfl hR (fun q hq => by
          have e : gA = q := Option.some.inj hq
          rw [← e]
          exact GA.out.1)
        case measure =>
         have := HK.out
         have := HLs.out
         rw [w64 Z3 Z3]
         simp [intOf]
         omega
       ·
        have hke : k = s.length := by omega
        subst hke
        have hR := HO.out
        rw [List.drop_length, List.append_nil, List.take_of_length_le (by rw [canon_len]; omega)] at hR
        have q1 : ((s.length : Int) < (s.length : Int)) = False := eq_false Z3
        have HF2 : Aside0 (NormRet l w (.returned (.tuple #[.slice (some ⟨gA, 0, none⟩) s.length c8, .int .i64 0])) wr) := ⟨_, by
         have e : normT l = (canon (sortT l), 0) := by
          unfold normT
          rw [if_pos HTr.out]
         rw [e], by
         have e : normT l = (canon (sortT l), 0) := by
          unfold normT
          rw [if_pos HTr.out]
         rw [e, ← HS.out]
         exact Kd.R_mono hR (fun _ _ => trivial), HB.out⟩
        clear hR hkl hk HM1 HM2 HO
        go_wp2_with fail
        go_ret2
        exact HF2.out
theorem may_small {n : S38} (h : mayN n = true) : n.f0.size < 4294967296 := by
 have := may_size h
 omega
theorem l1_ev2 (l out : List S38) (i : Nat) (hi : i < l.length) (hl : l.length < 4294967296) (hb : (rd_T38 l (i : Int)).f0.size < 4294967296) (ho : out.length < 4294967296) (R : List S38 × Int) :
  ∀ (n j : Nat) (acc : List S38) (d : Bool), j + n = out.length → acc.length ≤ j + (if d then 1 else 0) →
  Evs (fun k => r8_Normal.l0 k l (acc ++ (if d then out.drop j else ins (rd_T38 l (i : Int)) (out.drop j))) ((i + 1 : Nat) : Int)) R →
  Evs (fun k => r8_Normal.l1 k l out (i : Int) acc d (j : Int)) R := by
 have wi : wrap64 ((i : Int) + 1) = ((i + 1 : Nat) : Int) := by rw [w64 Z3 Z3]; rfl
 intro n
 induction n with
 | zero =>
  intro j acc d hj ha h
  rw [List.drop_eq_nil_of_le Z3] at h
  have ha2 : acc.length ≤ j + 1 := by cases d <;> simp at ha <;> omega
  cases d with
  | true =>
   refine evs_step (fun k => by rw [r8_Normal.l1, if_neg Z3, if_pos rfl, wi]) ?_
   simpa using h
  | false =>
   refine evs_step (fun k => by rw [r8_Normal.l1, if_neg Z3, if_neg Z11, if_pos Z3, if_pos Z3, if_pos Z3, wi]) ?_
   simpa [ins] using h
 | succ n ih =>
  intro j acc d hj ha h
  have hjl : j < out.length := by omega
  have wj : wrap64 ((j : Int) + 1) = ((j + 1 : Nat) : Int) := by rw [w64 Z3 Z3]; rfl
  rw [dropN hjl] at h
  have ha2 : acc.length ≤ j + 1 := by cases d <;> simp at ha <;> omega
  cases d with
  | true =>
   simp only [if_true] at ha
   refine evs_step (fun k => by rw [r8_Normal.l1, if_pos Z3, if_pos rfl, if_pos Z3, if_pos Z3, wj]) ?_
   exact ih (j + 1) (acc ++ [rd_T38 out (j : Int)]) true Z3 Z43 (by simpa using h)
  | false =>
   simp only [Bool.false_eq_true, if_false, Nat.add_zero] at ha
   refine evs_step (fun k => by rw [r8_Normal.l1, if_pos Z3, if_neg Z11, if_pos Z3, if_pos Z3, if_pos Z3, wj]) ?_
   refine evs_bind (less_ev _ _ hb) ?_
   simp only [Bool.false_eq_true, if_false, ins] at h
   by_cases hL : lessL (pth (rd_T38 l (i : Int))) (pth (rd_T38 out (j : Int))) = true
   ·
    rw [if_pos hL] at h
    refine evs_pos hL (evs_pos Z3 ?_)
    refine evs_bind (evs_const _) (evs_pos Z43 ?_)
    exact ih (j + 1) (acc ++ [rd_T38 l (i : Int)] ++ [rd_T38 out (j : Int)]) true Z3 Z43 (by simpa using h)
   ·
    rw [if_neg hL] at h
    refine evs_neg hL (evs_pos Z3 ?_)
    exact ih (j + 1) (acc ++ [rd_T38 out (j : Int)]) false Z3 Z43 (by simpa using h)
theorem l0_ev2 (l : List S38) (hl : l.length < 2147483648) : ∀ (n i : Nat) (out : List S38), i + n = l.length → out.length ≤ i → (∀ n ∈ out, n.f0.size < 4294967296) →
  Evs (fun k => r8_Normal.l0 k l out (i : Int)) (match ph1 (l.drop i) out with | none => bad | some s => rest s) := by
 intro n
 induction n with
 | zero =>
  intro i out hi ho hob
  rw [List.drop_eq_nil_of_le Z3, ph1]
  refine evs_step (fun k => by rw [r8_Normal.l0, if_neg Z3]) ?_
  have hj := j3_ev out Z3 hob
  show Evs _ (rest out)
  cases out with
  | nil => exact evs_pos rfl hj
  | cons m r =>
   refine evs_neg (by simp only [List.length_cons]; omega) (evs_pos (by simp only [List.length_cons]; omega) ?_)
   have e0 : rd_T38 (m :: r) 0 = m := rfl
   simp only [e0, toL]
   by_cases hp : pb m.f0 = [47]
   ·
    refine evs_pos hp ?_
    have : (m.f1.f2 != 2) = !rootOk (m :: r) := by
     show _ = !(decide (pth m = [47]) && decide (knd m = 2))
     rw [decide_eq_true (show pth m = [47] from hp), Bool.true_and]
     by_cases h2 : m.f1.f2 = 2
     ·
      rw [decide_eq_true (show knd m = 2 from h2), h2]; rfl
     ·
      rw [decide_eq_false (show ¬ knd m = 2 from h2)]; simpa using h2
    rw [this]
    exact hj
   ·
    refine evs_neg hp ?_
    have : rootOk (m :: r) = false := by
     show (decide (pth m = [47]) && decide (knd m = 2)) = false
     rw [decide_eq_false (show ¬ pth m = [47] from hp), Bool.false_and]
    rw [this] at hj
    exact hj
 | succ n ih =>
  intro i out hi ho hob
  have hil : i < l.length := by omega
  rw [dropN hil, ph1]
  refine evs_step (fun k => by rw [r8_Normal.l0, if_pos Z3, if_pos Z3]) ?_
  refine evs_bind (may_ev (rd_T38 l (i : Int))) ?_
  have jt : Evs (fun k => r8_Normal.j1 k l out (i : Int) true) bad := evs_step (fun k => by rw [r8_Normal.j1, if_pos rfl]) (evs_const _)
  by_cases hm : mayN (rd_T38 l (i : Int)) = true
  ·
   refine evs_pos hm ?_
   refine evs_bind (find_ev out _ Z3) ?_
   by_cases hf : findI (pth (rd_T38 l (i : Int))) 0 out ≥ 0
   ·
    have hex := (findI_ge _ _ _).1 hf
    rw [if_neg (fun e => e.2 hex)]
    rw [show decide (findI (pb (rd_T38 l (i : Int)).f0) 0 out ≥ 0) = true from decide_eq_true hf]
    exact jt
   ·
    have hex : ¬ ∃ m ∈ out, pth m = pth (rd_T38 l (i : Int)) := fun e => hf ((findI_ge _ _ _).2 e)
    rw [if_pos ⟨hm, hex⟩, show decide (findI (pb (rd_T38 l (i : Int)).f0) 0 out ≥ 0) = false from decide_eq_false hf]
    refine evs_step (fun k => by rw [r8_Normal.j1, if_neg Z11]) ?_
    refine l1_ev2 l out i hil Z3 (may_small hm) Z3 _ out.length 0 [] false Z3 Z23 ?_
    have hmem : rd_T38 l (i : Int) ∈ l := by rw [rd_at hil]; exact List.getElem_mem hil
    have := ih (i + 1) (ins (rd_T38 l (i : Int)) out) Z3 (by rw [ins_len]; omega) (fun m hmm => by
     rcases ins_mem.1 hmm with rfl | hmm
     ·
      exact may_small hm
     ·
      exact hob _ hmm)
    simpa using this
  ·
   rw [if_neg (fun e => hm e.1)]
   exact evs_neg hm jt
theorem normT_ev (l : List S38) (hl : l.length < 2147483648) : Evs (fun k => r8_Normal.f k l) (normT l) := by
 have := l0_ev2 l hl l.length 0 [] Z3 Z23 (fun _ h => by cases h)
 rw [← normR_T]
 rw [List.drop_zero] at this
 unfold normR
 show Evs (fun k => r8_Normal.l0 k l [] 0) _
 cases h : ph1 l [] with
 | none =>
  rw [h] at this
  exact this
 | some s =>
  rw [h] at this
  exact this
theorem Wf.snoc {l : List S38} {n : S38} (h : Wf l) (hn : (Lit.int .i64 (ino n)).wf = true) : Wf (l ++ [n]) := fun m hm => by
 rcases List.mem_append.1 hm with hm | hm
 ·
  exact h m hm
 ·
  rcases List.mem_cons.1 hm with rfl | hm
  ·
   exact hn
  ·
   cases hm
theorem wf_canon {s : List S38} (hs : s.length < 2147483648) : Wf (canon s) := by
 intro n hn
 unfold canon at hn
 obtain ⟨m, hm, rfl⟩ := List.mem_map.1 hn
 obtain ⟨k, hk, e⟩ := fst_lt hm
 show (Lit.int .i64 (fstI (ino m) 0 s + 1)).wf = true
 rw [e]
 exact nat_wf (k := k + 1) Z3
theorem wf_norm {l : List S38} (hl : l.length < 2147483648) : Wf (normT l).1 := by
 unfold normT
 split
 ·
  exact wf_canon (by rw [(sortT_perm l).length_eq]; exact hl)
 ·
  intro n hn
  cases hn
def tot (l : List S38) : Nat := (l.map fun n => n.f2.size).sum
theorem tot_snoc (l : List S38) (n : S38) : tot (l ++ [n]) = tot l + n.f2.size := by
 simp [tot]
theorem few18_l0 (l : List S38) (hw : Wf l) : ∀ (n i : Nat) (out : List S38) (s : Int), i + n = 40 → out.length = i → (tot out : Int) = s → i ≤ l.length → Wf out → 0 ≤ s → s ≤ 60000 →
  EvP (fun k => l8_few.l0 k l out s (i : Int)) (fun z => z.length ≤ 40 ∧ Wf z ∧ tot z ≤ 60000) := by
 intro n
 induction n with
 | zero =>
  intro i out s hi ho ht hl hwo h0 h1
  have stop : EvP (fun k => l8_few.j1 k l out s (i : Int) false) (fun z => z.length ≤ 40 ∧ Wf z ∧ tot z ≤ 60000) :=
   evp_step (g := fun _ => some out) (fun k => by rw [l8_few.j1, if_neg Z11]) (evp_const ⟨Z3, hwo, Z3⟩)
  by_cases hil : (i : Int) < (l.length : Int)
  ·
   exact evp_step (fun k => by rw [l8_few.l0, if_pos hil, show decide ((i : Int) < 40) = false from decide_eq_false Z3]) stop
  ·
   exact evp_step (fun k => by rw [l8_few.l0, if_neg hil]) stop
 | succ n ih =>
  intro i out s hi ho ht hl hwo h0 h1
  by_cases hil : (i : Int) < (l.length : Int)
  ·
   refine evp_step (fun k => by rw [l8_few.l0, if_pos hil, show decide ((i : Int) < 40) = true from decide_eq_true Z3]) ?_
   have hmem : rd_T38 l (i : Int) ∈ l := by
    rw [show rd_T38 l (i : Int) = l[i]'Z3 from rd_at Z3]
    exact List.getElem_mem Z3
   have hwi := hw _ hmem
   refine evp_step (fun k => by rw [l8_few.j1, if_pos rfl, if_pos Z3, if_pos hil, show wrap64 (60000 - s) = 60000 - s from w64 Z3 Z3, show wrap64 ((i : Int) + 1) = ((i + 1 : Nat) : Int) from by rw [w64 Z3 Z3]; rfl]) ?_
   by_cases hb : ((rd_T38 l (i : Int)).f2.size : Int) > 60000 - s
   ·
    refine evp_pos hb (evp_pos Z3 ?_)
    rw [show wrap64 (s + 0) = s from by rw [Int.add_zero, w64 Z3 Z3]]
    exact ih (i + 1) _ s Z3 Z43 (by rw [tot_snoc]; show ((tot out + 0 : Nat) : Int) = s; omega) Z3 (hwo.snoc hwi) h0 h1
   ·
    refine evp_neg hb (evp_pos Z3 ?_)
    rw [show wrap64 (s + ((rd_T38 l (i : Int)).f2.size : Int)) = s + ((rd_T38 l (i : Int)).f2.size : Int) from w64 Z3 Z3]
    exact ih (i + 1) _ _ Z3 Z43 (by rw [tot_snoc]; show ((tot out + (rd_T38 l (i : Int)).f2.size : Nat) : Int) = _; omega) Z3 (hwo.snoc hwi) Z3 Z3
  ·
   exact evp_step (fun k => by rw [l8_few.l0, if_neg hil]) (evp_step (g := fun _ => some out) (fun k => by rw [l8_few.j1, if_neg Z11]) (evp_const ⟨Z3, hwo, Z3⟩))
theorem few18_ev (l : List S38) (hw : Wf l) : EvP (fun k => l8_few.f k l) (fun z => z.length ≤ 40 ∧ Wf z ∧ tot z ≤ 60000) :=
 few18_l0 l hw 40 0 [] 0 Z3 rfl rfl Z3 (fun _ h => by cases h) Z3 Z3
end Go.Proofs.YtkhblpmjmkhiiaaGreatDoor.T
