/- What archive.Normal's two maps tell of the places ahead. -/
import Derived.Test.YtkhblpmjmkhiiaaGreatDoorQH2
import Derived.Test.YtkhblpmjmkhiiaaGreatDoorQH1
import Derived.Test.YtkhblpmjmkhiiaaGreatDoorQK1
import Derived.Carry
import Derived.LoopTactic
namespace Go.Proofs.YtkhblpmjmkhiiaaGreatDoor.T
open Go.RowKit Go.Proofs.YtkhblpmjmkhiiaaGreatDoorW.PrintWords Go.Proofs.YtkhblpmjmkhiiaaGreatDoorW.PrintLast Go.Proofs.YtkhblpmjmkhiiaaGreatDoorW.PrintMore Go.Proofs.YtkhblpmjmkhiiaaGreatDoor.PAll
set_option linter.unusedSimpArgs false
set_option linter.unusedVariables false
abbrev rdn (l : List S38) (i : Nat) : S38 := rd_T38 l (i : Int)
def PlAt (l : List S38) (i : Nat) : Prop :=
 (i = 0 ↔ pth (rdn l i) = [47]) ∧ (0 < i → ordL (pth (rdn l (i - 1))) (pth (rdn l i)) < 0 ∧ ∃ j, j < i ∧ pth (rdn l j) = abv (pth (rdn l i)) ∧ knd (rdn l j) = 2)
def Placed (l : List S38) : Prop := (∀ i, i < l.length → PlAt l i) ∧ 0 < l.length ∧ knd (rdn l 0) = 2
def DirMap (l : List S38) (i : Nat) (f : List UInt8 → Int) : Prop := ∀ s, 0 ≤ f s ∧ f s ≤ i ∧ (f s ≠ 0 ↔ ∃ j, j < i ∧ pth (rdn l j) = s ∧ knd (rdn l j) = 2)
theorem DirMap.zero (l : List S38) : DirMap l 0 (fun _ => 0) := fun s => ⟨Int.le_refl 0, Int.le_refl 0, ⟨fun h => absurd rfl h, fun ⟨j, hj, _⟩ => by omega⟩⟩
theorem abv_len (p : List UInt8) : (abv p).length ≤ max 1 p.length := by
 unfold abv
 rcases abvN_form (p.length - 1) p with e | ⟨j, h0, h1, e⟩
 ·
  rw [e]; simp; omega
 ·
  rw [e, List.length_take]; omega
theorem MapS.mono {w : World} {b n n' : Nat} {f : List UInt8 → Int} (h : MapS w b n f) (hn : n ≤ n') : MapS w b n' f := by
 obtain ⟨D, h1, h2⟩ := h
 exact ⟨D, h1.mono hn, h2⟩
theorem DirMap.skip {l : List S38} {k : Nat} {f : List UInt8 → Int} (h : DirMap l k f) (hk : ¬ knd (rdn l k) = 2) : DirMap l (k + 1) f := by
 intro s
 obtain ⟨h1, h2, h3⟩ := h s
 refine ⟨h1, Z3, h3.trans ⟨fun ⟨j, hj, e⟩ => ⟨j, Z3, e⟩, fun ⟨j, hj, e1, e2⟩ => ?_⟩⟩
 by_cases hjk : j = k
 ·
  subst hjk
  exact absurd e2 hk
 ·
  exact ⟨j, Z3, e1, e2⟩
theorem DirMap.add {l : List S38} {k : Nat} {f : List UInt8 → Int} (h : DirMap l k f) (hk : knd (rdn l k) = 2) (hb : k < 2147483648) :
  DirMap l (k + 1) (fun t => if t = pth (rdn l k) then wrap64 (f (pth (rdn l k)) + 1) else f t) := by
 intro s
 obtain ⟨h1, h2, h3⟩ := h s
 show 0 ≤ (if s = pth (rdn l k) then wrap64 (f (pth (rdn l k)) + 1) else f s) ∧ _ ∧ _
 by_cases hs : s = pth (rdn l k)
 ·
  subst hs
  have e : wrap64 (f (pth (rdn l k)) + 1) = f (pth (rdn l k)) + 1 := w64 Z3 Z3
  simp only [if_true, e]
  exact ⟨Z3, Z3, ⟨fun _ => ⟨k, Z3, rfl, hk⟩, fun _ => by omega⟩⟩
 ·
  simp only [if_neg hs]
  refine ⟨h1, Z3, h3.trans ⟨fun ⟨j, hj, e⟩ => ⟨j, Z3, e⟩, fun ⟨j, hj, e1, e2⟩ => ?_⟩⟩
  by_cases hjk : j = k
  ·
   subst hjk
   exact absurd e1.symm hs
  ·
   exact ⟨j, Z3, e1, e2⟩
theorem store_node' {op : Oper} {ops : Array Oper} {rest : List Oper} {a : Act} {w : World} {Q : Exit → Act → World → Prop} (hgd : op.guard = none) (hd : op.dst = none) (x y : Operand) (ho : op.op = .store 38 x y)
  (g : Nat) (cur : Array Value) (n : S38) (hg : w.heap[g]? = some (.cells cur 38 (0, 0))) (hc : cur.size = 7) (hx : a.eval x = .pointer (some ⟨g, 0, none⟩))
  (hy : a.eval y = .agg #[.string n.f0, .int .i64 n.f1.f0, .int .i64 n.f1.f1, .int .i64 n.f1.f2, .int .i64 n.f1.f3, .int .i64 n.f1.f4, .string n.f2])
  (h : ∀ w', w'.heap[g]? = some (.cells #[.string n.f0, .int .i64 n.f1.f0, .int .i64 n.f1.f1, .int .i64 n.f1.f2, .int .i64 n.f1.f3, .int .i64 n.f1.f4, .string n.f2] 38 (0, 0)) → w.grownBy w' (some g) → wpList Tryz.prog ops Q rest a w') :
  wpList Tryz.prog ops Q (op :: rest) a w :=
 store_node hgd x y ho g cur n hg hc hx hy (fun w' h1 h2 => by
  rw [hd]
  exact h w' h1 h2)
set_option maxHeartbeats 8000000 in
set_option maxRecDepth 100000 in
theorem placed_c (l : List S38) (A : Option Addr) (c : Nat) (r : Bool) (w : World) (hr0 : Kd.C k38 w A l.length l) (hc : l.length ≤ c) (hl : l.length < 2147483648) (hm : ∀ n ∈ l, mayN n = true) (h : r = true ↔ Placed l) :
  Calls Tryz.prog 33 #[.slice A l.length c] w fun e w' => e = .returned (.bool r) ∧ Below w.heap.size w w' := by
 have hu46 := Tryz.underlying38
 have hu44 := Tryz.underlying36
 have HR := Aside0.mk hr0
 have HL := Aside0.mk hl
 have HM := Aside0.mk hm
 have HH := Aside0.mk h
 clear hr0 hm h
 go_enter Tryz.func33, Tryz.ntmps33
 have hmk : ∀ W : World, (Instr.makeMap 88 none).run Tryz.prog W = .ok (.map (some W.heap.size)) (W.alloc (.map #[] 0)) := fun W => run_makeMap 88 W
 have HB0 : Aside0 (Below w.heap.size w (w.alloc (.map #[] 0))) := ⟨below_alloc (Below.refl _ _) _⟩
 have HM0 := Aside0.mk (MapS.made w)
 go_wp2
 go_loopw [9] (fun i wr => ∃ (k : Nat) (f : List UInt8 → Int), k ≤ l.length ∧ i = .int .i64 k ∧ Aside0 (MapS wr w.heap.size k f) ∧ Aside0 (DirMap l k f) ∧ Aside0 (∀ j, j < k → PlAt l j) ∧ Aside0 (Below w.heap.size w wr)) (fun i _ => l.length - (intOf i).toNat)
 case atStart => exact ⟨0, _, Z3, rfl, HM0, ⟨DirMap.zero l⟩, ⟨fun j hj => absurd hj Z3⟩, HB0⟩
 case round =>
  obtain ⟨k, f, hk, rfl, HMp, HD, HP, HB⟩ := hrel
  clear HB0 HM0 hmk
  by_cases hkl : k < l.length
  ·
   have HK := Aside0.mk hkl
   obtain ⟨ad, ea, x0, x1, x2, x3, x4, x5, x6⟩ := at_T38 HR.out (k : Int) Z3 Z3
   cases ea
   replace x0 := (HB.out.cell (World.block_lt_of_cell? w _ x0)).trans x0
   replace x1 := (HB.out.cell (World.block_lt_of_cell? w _ x1)).trans x1
   replace x2 := (HB.out.cell (World.block_lt_of_cell? w _ x2)).trans x2
   replace x3 := (HB.out.cell (World.block_lt_of_cell? w _ x3)).trans x3
   replace x4 := (HB.out.cell (World.block_lt_of_cell? w _ x4)).trans x4
   replace x5 := (HB.out.cell (World.block_lt_of_cell? w _ x5)).trans x5
   replace x6 := (HB.out.cell (World.block_lt_of_cell? w _ x6)).trans x6
   simp only [Int.toNat_natCast] at x0 x1 x2 x3 x4 x5 x6
   have p1 : (0 ≤ (k : Int)) = True := eq_true Z3
   have q1 : ((k : Int) < (l.length : Int)) = True := eq_true Z3
   go_wp2_with (first | ((with_reducible refine gate_dst (N := 5) rfl ?_); refine box_event ?hg (N := 5) ?hd (cs := #[.string (⟨#[]⟩ : ByteArray), .int .i64 0, .int .i64 0, .int .i64 0, .int .i64 0, .int .i64 0, .string (⟨#[]⟩ : ByteArray)]) (t := 38) ?hr ?_; (case hd => rfl); (case hg => rfl); (case hr => first | (go_simp; done) | (go_simp; rfl)); intro gb hg w5 hbox hb; have n0_ := Aside0.mk (HMp.out.below hb); have n1_ := Aside0.mk (below_then HB.out HB.out.size hb); have n2_ := Aside0.mk hbox; have n3_ := Aside0.mk ((by rw [hg]; exact below_size HB.out) : w.heap.size ≤ gb); have n4_ : Aside0 (some w.heap.size ≠ some gb) := ⟨(by rw [hg]; intro e; have := Option.some.inj e; have := HMp.out.lt; omega)⟩; clear HMp HB; have HMp := n0_; have HB := n1_; have BK := n2_; have GE := n3_; have GN := n4_; clear n0_ n1_ n2_ n3_ n4_ hb hbox hg) | ((with_reducible refine gate_store (t := 38) rfl ?_); refine store_node' rfl rfl _ _ rfl gb _ (rdn l k) BK.out rfl rfl rfl ?_; intro w6 hS1 hS2; have s0_ := Aside0.mk (HMp.out.kept hS2 GN.out); have s1_ := Aside0.mk (HB.out.grown hS2 HB.out.size (fun q hq => by injection hq with hq; rw [← hq]; exact GE.out)); have s2_ := Aside0.mk hS1; clear HMp HB BK hS1 hS2; have HMp := s0_; have HB := s1_; have BK := s2_; clear s0_ s1_ s2_; have c0 : w6.cell? ⟨gb, 0, none⟩ = some (.string (rdn l k).f0) := (blk_cell BK.out 0).trans rfl; have c3 : w6.cell? ⟨gb, 3, none⟩ = some (.int .i64 (rdn l k).f1.f2) := (blk_cell BK.out 3).trans rfl))
   by_cases hp : (rdn l k).f0.toList = ([47] : List UInt8)
   ·
    have b1 : ((rdn l k).f0.toList == ([47] : List UInt8)) = true := beq_iff_eq.mpr hp
    have HPt := Aside0.mk (show pth (rdn l k) = [47] by unfold pth; rw [← toL]; exact hp)
    clear hp
    by_cases h0 : k = 0
    ·
     have kz : ((k : Int) == 0) = true := by rw [h0]; rfl
     have g0 : decide (0 < k) = false := decide_eq_false Z3
     have H0 := Aside0.mk h0
     clear h0 x0 x1 x2 x3 x4 x5 x6 p1 q1 hkl hk hc hl
     go_big_quiet (fail)
     have HMq := Aside0.mk (HMp.out.below Z41 : MapS (w6.drewN nq) w.heap.size k f)
     have hst : PlAt l k := ⟨⟨fun _ => HPt.out, fun _ => H0.out⟩, fun hpos => absurd hpos (by have := H0.out; omega)⟩
     have HPk : Aside0 (∀ j, j < k + 1 → PlAt l j) := ⟨fun j hj => by
      by_cases hjk : j = k
      ·
       rw [hjk]; exact hst
      ·
       exact HP.out j Z3⟩
     have HBq := Aside0.mk (below_then HB.out HB.out.size (by repeat (first | exact Below.refl _ _ | apply pw_below_drewN) : Below w6.heap.size w6 (w6.drewN nq)))
     have HBKq : Aside0 ((w6.drewN nq).heap[gb]? = _) := ⟨BK.out⟩
     clear hst HMp HB HP BK c0 c3
     generalize w6.drewN nq = w8 at HMq HBq HBKq ⊢
     have d0 : w8.cell? ⟨gb, 0, none⟩ = some (.string (rdn l k).f0) := (blk_cell HBKq.out 0).trans rfl
     have d3 : w8.cell? ⟨gb, 3, none⟩ = some (.int .i64 (rdn l k).f1.f2) := (blk_cell HBKq.out 3).trans rfl
     by_cases h2 : (rdn l k).f1.f2 = 2
     ·
      have z2 : ((rdn l k).f1.f2 == 2) = true := beq_iff_eq.2 h2
      have hsz : (rdn l k).f0.size ≤ maxLen := by
       have := may_size (HM.out (rdn l k) (by rw [show rdn l k = l[k]'HK.out from rd_at HK.out]; exact List.getElem_mem HK.out))
       unfold maxLen
       omega
      have hlk := HMq.out.look (rdn l k).f0 hsz
      obtain ⟨w9, hput, hm9, hg9⟩ := HMq.out.put (by have := HK.out; have := HL.out; unfold maxLen; omega) (rdn l k).f0 hsz (wrap64 (f (pb (rdn l k).f0) + 1)) (wrap64_wf _)
      have HM9 := Aside0.mk hm9
      have HB9 := Aside0.mk (HBq.out.grown hg9 HBq.out.size (fun q hq => by injection hq with hq; omega))
      have HD9 := Aside0.mk (HD.out.add h2 (by have := HK.out; have := HL.out; omega))
      clear h2 hsz hm9 hg9
      go_wp2_with fail
      go_roundw
      case rel =>
       have := HK.out
       have := HL.out
       exact ⟨k + 1, _, Z3, Z38, HM9, HD9, HPk, HB9⟩
      case measure =>
       have := HK.out
       have := HL.out
       rw [w64 Z3 Z3]
       simp [intOf]
       omega
     ·
      have z2 : ((rdn l k).f1.f2 == 2) = false := beq_eq_false_iff_ne.2 h2
      have HD9 := Aside0.mk (HD.out.skip h2)
      have HM9 := Aside0.mk (HMq.out.mono (Nat.le_succ k))
      clear h2
      go_wp2_with fail
      go_roundw
      case rel =>
       have := HK.out
       have := HL.out
       exact ⟨k + 1, f, Z3, Z38, HM9, HD9, HPk, HBq⟩
      case measure =>
       have := HK.out
       have := HL.out
       rw [w64 Z3 Z3]
       simp [intOf]
       omega
    ·
     have kz : ((k : Int) == 0) = false := beq_eq_false_iff_ne.2 Z3
     have HNP : Aside0 (¬ PlAt l k) := ⟨fun q => h0 (q.1.2 HPt.out)⟩
     clear h0 x0 x1 x2 x3 x4 x5 x6 p1 q1 hkl hk hc hl
     have er : r = false := by
      cases r with
      | false => rfl
      | true => exact absurd ((HH.out.1 rfl).1 k HK.out) HNP.out
     subst er
     go_big_quiet (fail)
     have HBq := Aside0.mk (below_then HB.out HB.out.size (by repeat (first | exact Below.refl _ _ | apply pw_below_drewN) : Below w6.heap.size w6 (w6.drewN nq)))
     clear c0 c3
     go_wp2_with fail
     go_ret
     exact ⟨rfl, HBq.out⟩
   ·
    have b1 : ((rdn l k).f0.toList == ([47] : List UInt8)) = false := beq_eq_false_iff_ne.mpr hp
    have HPt := Aside0.mk (show ¬ pth (rdn l k) = [47] by unfold pth; rw [← toL]; exact hp)
    clear hp
    by_cases h0 : k = 0
    ·
     have kz : ((k : Int) == 0) = true := by rw [h0]; rfl
     have HNP : Aside0 (¬ PlAt l k) := ⟨fun q => HPt.out (q.1.1 h0)⟩
     clear h0 x0 x1 x2 x3 x4 x5 x6 p1 q1 hkl hk hc hl
     have er : r = false := by
      cases r with
      | false => rfl
      | true => exact absurd ((HH.out.1 rfl).1 k HK.out) HNP.out
     subst er
     go_big_quiet (fail)
     have HBq := Aside0.mk (below_then HB.out HB.out.size (by repeat (first | exact Below.refl _ _ | apply pw_below_drewN) : Below w6.heap.size w6 (w6.drewN nq)))
     clear c0 c3
     go_wp2_with fail
     go_ret
     exact ⟨rfl, HBq.out⟩
    ·
     have kz : ((k : Int) == 0) = false := beq_eq_false_iff_ne.2 Z3
     have g0 : decide (0 < k) = true := decide_eq_true Z3
     obtain ⟨m, hm⟩ : ∃ m, m = k - 1 := ⟨_, rfl⟩
     have hml : m < l.length := by omega
     have hw : wrap64 ((k : Int) - 1) = (m : Int) := by rw [w64 Z3 Z3]; omega
     obtain ⟨ad', ea', y0, y1, y2, y3, y4, y5, y6⟩ := at_T38 HR.out (m : Int) Z3 Z3
     injection ea' with ea'
     subst ea'
     replace y0 := (HB.out.cell (World.block_lt_of_cell? w _ y0)).trans y0
     simp only [Int.toNat_natCast] at y0
     have qm : (m < l.length) = True := eq_true hml
     have hmem : ∀ i, i < l.length → mayN (rdn l i) = true := fun i hi => HM.out _ (by rw [show rdn l i = l[i]'hi from rd_at hi]; exact List.getElem_mem hi)
     have HSm : Aside0 ((rdn l m).f0.size < 4294967296) := ⟨by have := may_size (hmem m hml); omega⟩
     have HSk : Aside0 ((rdn l k).f0.size < 4294967296) := ⟨by have := may_size (hmem k hkl); omega⟩
     have HMk := Aside0.mk (hmem k hkl)
     obtain ⟨o, ho⟩ : ∃ o, ordL (pb (rdn l m).f0) (pb (rdn l k).f0) = o := ⟨_, rfl⟩
     have HO := Aside0.mk ho
     have HM1 := Aside0.mk (show k - 1 = m from hm.symm)
     have HK0 := Aside0.mk h0
     clear x0 x1 x2 x3 x4 x5 x6 y1 y2 y3 y4 y5 y6 p1 q1 hkl hk hc hl ho h0 hmem hml hm
     obtain ⟨a, ha, hA⟩ := aabove_ev (rdn l k).f0 HSk.out (splitE_form (may_split HMk.out)).choose_spec.1
     obtain ⟨K, hK⟩ := evs_get hA
     have HA := Aside0.mk hK
     have HAp := Aside0.mk ha
     clear hA hK ha
     by_cases ho : 0 ≤ o
     ·
      have o1 : decide (0 ≤ o) = true := decide_eq_true ho
      have HNP : Aside0 (¬ PlAt l k) := ⟨fun q => by
       have := (q.2 (by have := HK0.out; omega)).1
       rw [HM1.out] at this
       have e : ordL (pth (rdn l m)) (pth (rdn l k)) = o := HO.out
       omega⟩
      clear ho
      have er : r = false := by
       cases r with
       | false => rfl
       | true => exact absurd ((HH.out.1 rfl).1 k HK.out) HNP.out
      subst er
      go_big_quiet (first | (go_at_call 32; refine (order_c (rdn l m).f0 (rdn l k).f0 o _ HSm.out HSk.out HO.out).mono ?_; rintro e w' ⟨rfl, ⟨nd, rfl⟩⟩; first | exact ⟨rfl, _, World.drewN_drewN _ _ _⟩ | exact ⟨rfl, _, Eq.trans (World.drewN_drewN _ _ _) (congrArg (World.drewN _) (Nat.add_assoc _ _ _))⟩) | (go_at_call 58; refine (archive_above.calls K (rdn l k).f0 a _ HA.out).mono ?_; rintro e w' ⟨rfl, ⟨nd, rfl⟩⟩; first | exact ⟨rfl, _, World.drewN_drewN _ _ _⟩ | exact ⟨rfl, _, Eq.trans (World.drewN_drewN _ _ _) (congrArg (World.drewN _) (Nat.add_assoc _ _ _))⟩))
      have HBq := Aside0.mk (below_then HB.out HB.out.size (by repeat (first | exact Below.refl _ _ | apply pw_below_drewN) : Below w6.heap.size w6 (w6.drewN nq)))
      clear c0 c3
      go_wp2_with fail
      go_ret
      exact ⟨rfl, HBq.out⟩
     ·
      have o1 : decide (0 ≤ o) = false := decide_eq_false ho
      have hsa : a.size ≤ maxLen := by
       have h1 := abv_len (pth (rdn l k))
       have h2 : (pth (rdn l k)).length = (rdn l k).f0.size := pb_len _
       have h3 := HSk.out
       have h4 : (pb a).length = (abv (pth (rdn l k))).length := by rw [HAp.out]; rfl
       rw [pb_len] at h4
       unfold maxLen
       omega
      obtain ⟨v, hv⟩ : ∃ v, f (pb a) = v := ⟨_, rfl⟩
      have hlk : ∀ n, (Instr.lookup 88 (.map (some w.heap.size)) (.string a) false).run Tryz.prog (w6.drewN n) = .ok (.int .i64 v) (w6.drewN n) := fun n => by
       rw [← hv]
       exact (HMp.out.below (by repeat (first | exact Below.refl _ _ | apply pw_below_drewN) : Below w6.heap.size w6 (w6.drewN n))).look a hsa
      have HVa : Aside0 (f (abv (pth (rdn l k))) = v) := ⟨by rw [← hv, HAp.out]; rfl⟩
      have HOn := Aside0.mk ho
      clear hv hsa ho
      by_cases hv0 : v = 0
      ·
       have v1 : (v == 0) = true := beq_iff_eq.2 hv0
       have HNP : Aside0 (¬ PlAt l k) := ⟨fun q => ((HD.out (abv (pth (rdn l k)))).2.2.2 (q.2 (by have := HK0.out; omega)).2) (HVa.out.trans hv0)⟩
       clear hv0
       have er : r = false := by
        cases r with
        | false => rfl
        | true => exact absurd ((HH.out.1 rfl).1 k HK.out) HNP.out
       subst er
       go_big_quiet (first | (go_at_call 32; refine (order_c (rdn l m).f0 (rdn l k).f0 o _ HSm.out HSk.out HO.out).mono ?_; rintro e w' ⟨rfl, ⟨nd, rfl⟩⟩; first | exact ⟨rfl, _, World.drewN_drewN _ _ _⟩ | exact ⟨rfl, _, Eq.trans (World.drewN_drewN _ _ _) (congrArg (World.drewN _) (Nat.add_assoc _ _ _))⟩) | (go_at_call 58; refine (archive_above.calls K (rdn l k).f0 a _ HA.out).mono ?_; rintro e w' ⟨rfl, ⟨nd, rfl⟩⟩; first | exact ⟨rfl, _, World.drewN_drewN _ _ _⟩ | exact ⟨rfl, _, Eq.trans (World.drewN_drewN _ _ _) (congrArg (World.drewN _) (Nat.add_assoc _ _ _))⟩))
       have HBq := Aside0.mk (below_then HB.out HB.out.size (by repeat (first | exact Below.refl _ _ | apply pw_below_drewN) : Below w6.heap.size w6 (w6.drewN nq)))
       clear c0 c3
       go_wp2_with fail
       go_ret
       exact ⟨rfl, HBq.out⟩
      ·
       have v1 : (v == 0) = false := beq_eq_false_iff_ne.2 hv0
       have HVn := Aside0.mk hv0
       clear hv0
       go_big_quiet (first | (go_at_call 32; refine (order_c (rdn l m).f0 (rdn l k).f0 o _ HSm.out HSk.out HO.out).mono ?_; rintro e w' ⟨rfl, ⟨nd, rfl⟩⟩; first | exact ⟨rfl, _, World.drewN_drewN _ _ _⟩ | exact ⟨rfl, _, Eq.trans (World.drewN_drewN _ _ _) (congrArg (World.drewN _) (Nat.add_assoc _ _ _))⟩) | (go_at_call 58; refine (archive_above.calls K (rdn l k).f0 a _ HA.out).mono ?_; rintro e w' ⟨rfl, ⟨nd, rfl⟩⟩; first | exact ⟨rfl, _, World.drewN_drewN _ _ _⟩ | exact ⟨rfl, _, Eq.trans (World.drewN_drewN _ _ _) (congrArg (World.drewN _) (Nat.add_assoc _ _ _))⟩))
       have HMq := Aside0.mk (HMp.out.below Z41 : MapS (w6.drewN nq) w.heap.size k f)
       have hst : PlAt l k := ⟨⟨fun e => absurd e HK0.out, fun e => absurd e HPt.out⟩, fun _ => ⟨by
        rw [HM1.out]
        have e : ordL (pth (rdn l m)) (pth (rdn l k)) = o := HO.out
        have := HOn.out
        omega, (HD.out (abv (pth (rdn l k)))).2.2.1 (by rw [HVa.out]; exact HVn.out)⟩⟩
       have HPk : Aside0 (∀ j, j < k + 1 → PlAt l j) := ⟨fun j hj => by
        by_cases hjk : j = k
        ·
         rw [hjk]; exact hst
        ·
         exact HP.out j Z3⟩
       have HBq := Aside0.mk (below_then HB.out HB.out.size (by repeat (first | exact Below.refl _ _ | apply pw_below_drewN) : Below w6.heap.size w6 (w6.drewN nq)))
       have HBKq : Aside0 ((w6.drewN nq).heap[gb]? = _) := ⟨BK.out⟩
       clear hst HMp HB HP BK c0 c3 hlk
       generalize w6.drewN nq = w8 at HMq HBq HBKq ⊢
       have d0 : w8.cell? ⟨gb, 0, none⟩ = some (.string (rdn l k).f0) := (blk_cell HBKq.out 0).trans rfl
       have d3 : w8.cell? ⟨gb, 3, none⟩ = some (.int .i64 (rdn l k).f1.f2) := (blk_cell HBKq.out 3).trans rfl
       by_cases h2 : (rdn l k).f1.f2 = 2
       ·
        have z2 : ((rdn l k).f1.f2 == 2) = true := beq_iff_eq.2 h2
        have hsz : (rdn l k).f0.size ≤ maxLen := by
         have := may_size (HM.out (rdn l k) (by rw [show rdn l k = l[k]'HK.out from rd_at HK.out]; exact List.getElem_mem HK.out))
         unfold maxLen
         omega
        have hlk2 := HMq.out.look (rdn l k).f0 hsz
        obtain ⟨w9, hput, hm9, hg9⟩ := HMq.out.put (by have := HK.out; have := HL.out; unfold maxLen; omega) (rdn l k).f0 hsz (wrap64 (f (pb (rdn l k).f0) + 1)) (wrap64_wf _)
        have HM9 := Aside0.mk hm9
        have HB9 := Aside0.mk (HBq.out.grown hg9 HBq.out.size (fun q hq => by injection hq with hq; omega))
        have HD9 := Aside0.mk (HD.out.add h2 (by have := HK.out; have := HL.out; omega))
        clear h2 hsz hm9 hg9
        go_wp2_with fail
        go_roundw
        case rel =>
         have := HK.out
         have := HL.out
         exact ⟨k + 1, _, Z3, Z38, HM9, HD9, HPk, HB9⟩
        case measure =>
         have := HK.out
         have := HL.out
         rw [w64 Z3 Z3]
         simp [intOf]
         omega
       ·
        have z2 : ((rdn l k).f1.f2 == 2) = false := beq_eq_false_iff_ne.2 h2
        have HD9 := Aside0.mk (HD.out.skip h2)
        have HM9 := Aside0.mk (HMq.out.mono (Nat.le_succ k))
        clear h2
        go_wp2_with fail
        go_roundw
        case rel =>
         have := HK.out
         have := HL.out
         exact ⟨k + 1, f, Z3, Z38, HM9, HD9, HPk, HBq⟩
        case measure =>
         have := HK.out
         have := HL.out
         rw [w64 Z3 Z3]
         simp [intOf]
         omega
  ·
   have hke : k = l.length := by omega
   subst hke
   by_cases hz : l.length = 0
   ·
    have g0 : decide (0 < l.length) = false := decide_eq_false Z3
    have er : r = false := by
     cases r with
     | false => rfl
     | true => exact absurd (HH.out.1 rfl).2.1 Z3
    subst er
    clear hz hkl hk hc hl
    go_wp2_with fail
    go_ret
    exact ⟨rfl, HB.out⟩
   ·
    have g0 : decide (0 < l.length) = true := decide_eq_true Z3
    have g1 : (0 < l.length) = True := eq_true Z3
    obtain ⟨ad, ea, x0, x1, x2, x3, x4, x5, x6⟩ := at_T38 HR.out 0 Z3 Z3
    cases ea
    replace x3 := (HB.out.cell (World.block_lt_of_cell? w _ x3)).trans x3
    rw [show ((0 : Int)).toNat = 0 from rfl, show 0 * 7 = 0 from rfl, Addr.add_zero'] at x3
    have x3' : wr.cell? ⟨ad.block, ad.off + 1 + 2, none⟩ = some (.int .i64 (rd_T38 l 0).f1.f2) := x3
    have er : r = ((rdn l 0).f1.f2 == 2) := by
     have hiff : r = true ↔ (rdn l 0).f1.f2 = 2 := HH.out.trans ⟨fun q => q.2.2, fun q => ⟨HP.out, Z3, q⟩⟩
     cases r with
     | false =>
      have : ¬ (rdn l 0).f1.f2 = 2 := fun q => absurd (hiff.2 q) Z11
      exact (beq_eq_false_iff_ne.2 this).symm
     | true => exact (beq_iff_eq.2 (hiff.1 rfl)).symm
    clear x0 x1 x2 x4 x5 x6 hz hkl hk hc hl
    subst er
    go_wp2_with fail
    go_ret
    exact ⟨rfl, HB.out⟩
def InoAt (s : List S38) (i : Nat) : Prop :=
 ∀ j, j < i → ino (rdn s j) = ino (rdn s i) → (∀ t, t < j → ino (rdn s t) ≠ ino (rdn s i)) → knd (rdn s i) = 1 ∧ knd (rdn s j) = 1 ∧ dat (rdn s j) = dat (rdn s i)
theorem rdn_mem {s : List S38} {i : Nat} (h : i < s.length) : rdn s i ∈ s := by
 rw [show rdn s i = s[i] from rd_at h]
 exact List.getElem_mem h
theorem mem_rdn {s : List S38} {n : S38} (h : n ∈ s) : ∃ i, i < s.length ∧ rdn s i = n := by
 obtain ⟨i, hi, e⟩ := List.mem_iff_getElem.1 h
 exact ⟨i, hi, by rw [← e]; exact rd_at hi⟩
theorem first_ino (s : List S38) (a : Int) : ∀ i, ino (rdn s i) = a → ∃ j, j ≤ i ∧ ino (rdn s j) = a ∧ ∀ t, t < j → ino (rdn s t) ≠ a := by
 intro i
 induction i using Nat.strongRecOn with
 | _ i ih =>
  intro h
  by_cases hx : ∃ t, t < i ∧ ino (rdn s t) = a
  ·
   obtain ⟨t, ht, e⟩ := hx
   obtain ⟨j, h1, h2, h3⟩ := ih t ht e
   exact ⟨j, Z3, h2, h3⟩
  ·
   exact ⟨i, Nat.le_refl _, h, fun t ht e => hx ⟨t, ht, e⟩⟩
theorem placed_ss {s : List S38} (hm : ∀ n ∈ s, mayN n = true) (h : Placed s) : ∀ i j, i < j → j < s.length → key (pth (rdn s i)) < key (pth (rdn s j)) := by
 intro i j hij
 induction j with
 | zero => omega
 | succ j ih =>
  intro hj
  have h1 := ((h.1 (j + 1) hj).2 Z3).1
  rw [Nat.add_sub_cancel] at h1
  have h2 := (ordL_lt (may_clean (hm _ (rdn_mem Z3))) (may_clean (hm _ (rdn_mem hj)))).1 h1
  by_cases hje : i = j
  ·
   rw [hje]; exact h2
  ·
   exact key_trans (ih Z3 Z3) h2
theorem ss_of {s : List S38} (h : ∀ i j, i < j → j < s.length → key (pth (rdn s i)) < key (pth (rdn s j))) : SS s := by
 unfold SS
 rw [List.pairwise_iff_getElem]
 intro i j hi hj hij
 have := h i j hij hj
 rwa [show rdn s i = s[i] from rd_at hi, show rdn s j = s[j] from rd_at hj] at this
theorem normP_to {s : List S38} (hm : ∀ n ∈ s, mayN n = true) (h : Placed s) (hi : ∀ i, i < s.length → InoAt s i) : Tree s := by
 have hS := placed_ss hm h
 refine ⟨hm, ss_nodup (ss_of hS), ⟨rdn s 0, rdn_mem h.2.1, (h.1 0 h.2.1).1.1 rfl, h.2.2⟩, fun n hn hr => ?_, fun n hn m hmm e => ?_⟩
 ·
  obtain ⟨i, hil, rfl⟩ := mem_rdn hn
  obtain ⟨j, hj, e1, e2⟩ := ((h.1 i hil).2 (by
   rcases Nat.eq_zero_or_pos i with e | e
   ·
    exact absurd ((h.1 i hil).1.1 e) hr
   ·
    exact e)).2
  exact ⟨_, rdn_mem Z3, e1, e2⟩
 ·
  obtain ⟨i, hil, rfl⟩ := mem_rdn hn
  obtain ⟨k, hkl, rfl⟩ := mem_rdn hmm
  obtain ⟨j, h1, h2, h3⟩ := first_ino s (ino (rdn s k)) k rfl
  obtain ⟨j', g1, g2, g3⟩ := first_ino s (ino (rdn s k)) i e
  have hjj : j = j' := by
   rcases Nat.lt_trichotomy j j' with q | q | q
   ·
    exact absurd h2 (g3 j q)
   ·
    exact q
   ·
    exact absurd g2 (h3 j' q)
  subst hjj
  by_cases hik : i = k
  ·
   exact .inl (by rw [hik])
  ·
   refine .inr ?_
   have A (hlt : j < k) := hi k hkl j hlt h2 h3
   have B (hlt : j < i) := hi i hil j hlt (by rw [e]; exact h2) (by rw [e]; exact h3)
   by_cases hj1 : j = k
   ·
    have b := B Z3
    rw [hj1] at b
    exact ⟨b.1, b.2.1, b.2.2.symm⟩
   ·
    by_cases hj2 : j = i
    ·
     have a := A Z3
     rw [hj2] at a
     exact ⟨a.2.1, a.1, a.2.2⟩
    ·
     have a := A Z3
     have b := B Z3
     exact ⟨b.1, a.1, by rw [← b.2.2, a.2.2]⟩
theorem normP_from {s : List S38} (hS : SS s) (T : Tree s) : Placed s ∧ ∀ i, i < s.length → InoAt s i := by
 have hd := ss_nodup hS
 obtain ⟨r, hr, hp, h2⟩ := T.root
 obtain ⟨t, hst⟩ := head_root hS T.may hr hp
 have hpos : 0 < s.length := by rw [hst]; simp
 have h0 : rdn s 0 = r := by rw [show rdn s 0 = s[0] from rd_at hpos]; simp [hst]
 have hK : ∀ i j, i < j → j < s.length → key (pth (rdn s i)) < key (pth (rdn s j)) := fun i j hij hj => by
  have := List.pairwise_iff_getElem.1 hS i j Z3 hj hij
  rwa [show rdn s i = s[i]'Z3 from rd_at Z3, show rdn s j = s[j] from rd_at hj]
 have hinj : ∀ i j, i < s.length → j < s.length → pth (rdn s i) = pth (rdn s j) → i = j := fun i j hi hj e =>
  nodup_at hd hi hj (by rwa [show rdn s i = s[i] from rd_at hi, show rdn s j = s[j] from rd_at hj] at e)
 refine ⟨⟨fun i hi => ⟨⟨fun e => by rw [e, h0]; exact hp, fun e => hinj i 0 hi hpos (by rw [e, h0, hp])⟩, fun hip => ⟨?_, ?_⟩⟩, hpos, by rw [h0]; exact h2⟩, fun i hi j hj e hf => ?_⟩
 ·
  exact (ordL_lt (may_clean (T.may _ (rdn_mem Z3))) (may_clean (T.may _ (rdn_mem hi)))).2 (hK (i - 1) i Z3 hi)
 ·
  have hne : pth (rdn s i) ≠ [47] := fun e => by
   have := hinj i 0 hi hpos (by rw [e, h0, hp])
   omega
  obtain ⟨d, hdm, e1, e2⟩ := T.up _ (rdn_mem hi) hne
  obtain ⟨j, hj, rfl⟩ := mem_rdn hdm
  refine ⟨j, ?_, e1, e2⟩
  rcases Nat.lt_trichotomy j i with q | q | q
  ·
   exact q
  ·
   subst q
   have := abv_lt (T.may _ (rdn_mem hi)) hne
   rw [← e1] at this
   exact absurd this (key_irrefl _)
  ·
   have h4 := hK i j q hj
   rw [e1] at h4
   exact absurd (key_trans h4 (abv_lt (T.may _ (rdn_mem hi)) hne)) (key_irrefl _)
 ·
  rcases T.twins _ (rdn_mem (Z3 : j < s.length)) _ (rdn_mem hi) e with q | q
  ·
   have := hinj j i Z3 hi q
   omega
  ·
   exact ⟨q.2.1, q.1, q.2.2⟩
theorem weak_ss {s : List S38} (hm : ∀ n ∈ s, mayN n = true) (hd : (s.map pth).Nodup) (hw : s.Pairwise (fun a b => ¬ key (pth b) < key (pth a))) : SS s := by
 unfold SS
 unfold List.Nodup at hd
 rw [List.pairwise_map] at hd
 refine (hw.and hd).imp_of_mem (fun {a b} ha hb h => ?_)
 rcases key_tri (key (pth a)) (key (pth b)) with e | e | e
 ·
  exact e
 ·
  exact absurd (key_inj (may_clean (hm a ha)) (may_clean (hm b hb)) e) h.2
 ·
  exact absurd e h.1
theorem normP_iff {l s : List S38} (hm : ∀ n ∈ l, mayN n = true) (hp : s.Perm l) (hw : s.Pairwise (fun a b => ¬ key (pth b) < key (pth a))) :
  ((Placed s ∧ ∀ i, i < s.length → InoAt s i) ↔ Tree l) ∧ (Tree l → s = sortT l) := by
 have hms : ∀ n ∈ s, mayN n = true := fun n hn => hm n (hp.mem_iff.1 hn)
 refine ⟨⟨fun h => (normP_to hms h.1 h.2).perm hp, fun T => ?_⟩, fun T => ?_⟩
 ·
  have Ts := T.perm hp.symm
  exact normP_from (weak_ss hms Ts.nodup hw) Ts
 ·
  have Ts := T.perm hp.symm
  refine ss_uniq _ _ (weak_ss hms Ts.nodup hw) (sortT_ss (fun n hn => may_clean (hm n hn)) T.nodup) (fun x => ?_)
  rw [hp.mem_iff, (sortT_perm l).mem_iff]
theorem fstI_form (a : Int) : ∀ (l : List S38) (j : Nat), fstI a j l = -1 ∧ (∀ t (h : t < l.length), ino l[t] ≠ a) ∨ ∃ k, ∃ h : k < l.length, fstI a j l = ((j + k : Nat) : Int) ∧ ino l[k] = a ∧ ∀ t (h2 : t < k), ino (l[t]'Z3) ≠ a
 | [], j => .inl ⟨rfl, fun t h => by simp at h⟩
 | m :: r, j => by
  unfold fstI
  by_cases h : ino m = a
  ·
   rw [if_pos h]
   exact .inr ⟨0, Z23, rfl, h, fun t h2 => by omega⟩
  ·
   rw [if_neg h]
   rcases fstI_form a r (j + 1) with ⟨e, e2⟩ | ⟨k, hk, e, e1, e2⟩
   ·
    refine .inl ⟨e, fun t ht => ?_⟩
    cases t with
    | zero => exact h
    | succ t => exact e2 t (by simpa using ht)
   ·
    refine .inr ⟨k + 1, by simpa using hk, by rw [e]; congr 1; omega, by simpa using e1, fun t h2 => ?_⟩
    cases t with
    | zero => exact h
    | succ t => simpa using e2 t Z3
theorem fstI_snoc (a : Int) (m : S38) : ∀ (l : List S38) (j : Nat), fstI a j (l ++ [m]) = if 0 ≤ fstI a j l then fstI a j l else if ino m = a then ((j + l.length : Nat) : Int) else -1
 | [], j => by
  show fstI a j [m] = _
  unfold fstI fstI
  rfl
 | n :: r, j => by
  rw [List.cons_append]
  unfold fstI
  by_cases h : ino n = a
  ·
   rw [if_pos h, if_pos h, if_pos Z3]
  ·
   rw [if_neg h, if_neg h, fstI_snoc a m r (j + 1), List.length_cons, show j + 1 + r.length = j + (r.length + 1) by omega]
theorem cnt_snoc (a : Int) (m : S38) : ∀ (l : List S38), cnt a (l ++ [m]) = if ino m = a then cnt a l + 1 else cnt a l
 | [] => rfl
 | n :: r => by
  rw [List.cons_append]
  simp only [cnt]
  rw [cnt_snoc a m r]
  split <;> split <;> rfl
theorem cnt_none (a : Int) : ∀ (l : List S38), (∀ t (h : t < l.length), ino l[t] ≠ a) → cnt a l = 0
 | [], _ => rfl
 | n :: r, h => by
  unfold cnt
  rw [if_neg (show ¬ ino n = a from h 0 Z23), cnt_none a r (fun t ht => by have := h (t + 1) (by simpa using ht); simpa using this)]
theorem cnt_le (a : Int) : ∀ (l : List S38), 0 ≤ cnt a l ∧ cnt a l ≤ l.length
 | [] => ⟨Int.le_refl 0, Int.le_refl 0⟩
 | n :: r => by
  have := cnt_le a r
  unfold cnt
  rw [List.length_cons]
  split <;> omega
theorem take_snoc {s : List S38} {k : Nat} (h : k < s.length) : s.take (k + 1) = s.take k ++ [rdn s k] := by
 rw [List.take_add_one, show rdn s k = s[k] from rd_at h, List.getElem?_eq_getElem h]
 rfl
def FMap (s : List S38) (k : Nat) (f : Int → Int) : Prop := ∀ a, f a = fstI a 0 (s.take k) + 1
def LMap (s : List S38) (k : Nat) (f g : Int → Int) : Prop := (∀ a, f a ≠ 0 → g (f a) = cnt a (s.take k)) ∧ ∀ p, (k : Int) < p → g p = 0
theorem FMap.zero (s : List S38) : FMap s 0 (fun _ => 0) := fun a => by simp [fstI]
theorem LMap.zero (s : List S38) : LMap s 0 (fun _ => 0) (fun _ => 0) := ⟨fun a h => absurd rfl h, fun p _ => rfl⟩
theorem FMap.form {s : List S38} {k : Nat} {f : Int → Int} (h : FMap s k f) (hk : k ≤ s.length) (a : Int) :
  f a = 0 ∧ (∀ t, t < k → ino (rdn s t) ≠ a) ∨ ∃ j, j < k ∧ f a = ((j + 1 : Nat) : Int) ∧ ino (rdn s j) = a ∧ ∀ t, t < j → ino (rdn s t) ≠ a := by
 have R : ∀ t (ht : t < (s.take k).length), (s.take k)[t] = rdn s t := fun t ht => by
  rw [List.length_take] at ht
  rw [List.getElem_take]
  exact (rd_at Z3).symm
 have hl : (s.take k).length = k := by rw [List.length_take]; omega
 rcases fstI_form a (s.take k) 0 with ⟨e, e2⟩ | ⟨j, hj, e, e1, e2⟩
 ·
  refine .inl ⟨by rw [h, e]; rfl, fun t ht => ?_⟩
  have := e2 t Z3
  rwa [R] at this
 ·
  refine .inr ⟨j, Z3, by rw [h, e, Nat.zero_add]; rfl, by rwa [R] at e1, fun t ht => ?_⟩
  have := e2 t ht
  rwa [R] at this
theorem FMap.le {s : List S38} {k : Nat} {f : Int → Int} (h : FMap s k f) (hk : k ≤ s.length) (a : Int) : 0 ≤ f a ∧ f a ≤ k := by
 rcases h.form hk a with ⟨e, _⟩ | ⟨j, hj, e, _⟩ <;> omega
theorem FMap.add {s : List S38} {k : Nat} {f : Int → Int} (h : FMap s k f) (hk : k < s.length) (h0 : f (ino (rdn s k)) = 0) :
  FMap s (k + 1) (fun t => if t = ino (rdn s k) then ((k + 1 : Nat) : Int) else f t) := by
 intro a
 have hl : (s.take k).length = k := by rw [List.length_take]; omega
 have ha := h a
 rw [take_snoc hk, fstI_snoc, hl]
 show (if a = _ then _ else _) = _
 by_cases e : a = ino (rdn s k)
 ·
  rw [if_pos e, if_neg (by rw [e] at ha ⊢; omega), if_pos e.symm]
  omega
 ·
  rw [if_neg e, if_neg (show ¬ ino (rdn s k) = a from fun q => e q.symm), ha]
  rcases fstI_form a (s.take k) 0 with ⟨q, _⟩ | ⟨j, _, q, _⟩
  ·
   rw [q]; rfl
  ·
   rw [q, if_pos Z3]
theorem FMap.keep {s : List S38} {k : Nat} {f : Int → Int} (h : FMap s k f) (hk : k < s.length) (h0 : f (ino (rdn s k)) ≠ 0) : FMap s (k + 1) f := by
 intro a
 have ha := h a
 have hi := h (ino (rdn s k))
 rw [take_snoc hk, fstI_snoc, ha]
 rcases fstI_form a (s.take k) 0 with ⟨q, _⟩ | ⟨j, _, q, _⟩
 ·
  rw [q, if_neg Z3, if_neg (show ¬ ino (rdn s k) = a from fun e => h0 (by rw [e, ha, q]; rfl))]
 ·
  rw [q, if_pos Z3]
theorem LMap.add {s : List S38} {k : Nat} {f g : Int → Int} (h : FMap s k f) (hg : LMap s k f g) (hk : k < s.length) (h0 : f (ino (rdn s k)) = 0) :
  LMap s (k + 1) (fun t => if t = ino (rdn s k) then ((k + 1 : Nat) : Int) else f t) (fun p => if p = ((k + 1 : Nat) : Int) then wrap64 (g ((k + 1 : Nat) : Int) + 1) else g p) := by
 refine ⟨fun a ha => ?_, fun p hp => ?_⟩
 ·
  rw [take_snoc hk, cnt_snoc]
  have hp0 : g ((k + 1 : Nat) : Int) = 0 := hg.2 _ Z3
  by_cases e : a = ino (rdn s k)
  ·
   rw [if_pos e.symm]
   simp only [if_pos e, if_true]
   rw [hp0]
   rcases h.form Z3 a with ⟨_, q⟩ | ⟨j, _, q, _⟩
   ·
    rw [cnt_none a _ (fun t ht => by
     have ht' : t < k := by rw [List.length_take] at ht; omega
     have := q t ht'
     rw [List.getElem_take]
     rwa [show rdn s t = s[t] from rd_at Z3] at this)]
    exact w64 Z11 Z11
   ·
    rw [e, h0] at q
    omega
  ·
   rw [if_neg (fun q => e q.symm)]
   simp only [if_neg e] at ha ⊢
   have := (h.le Z3 a).2
   rw [if_neg Z3]
   exact hg.1 a ha
 ·
  show (if _ then _ else _) = _
  rw [if_neg Z3]
  exact hg.2 p Z3
theorem LMap.keep {s : List S38} {k : Nat} {f g : Int → Int} (h : FMap s k f) (hg : LMap s k f g) (hk : k < s.length) (hb : s.length < 2147483648) (h0 : f (ino (rdn s k)) ≠ 0) :
  LMap s (k + 1) f (fun p => if p = f (ino (rdn s k)) then wrap64 (g (f (ino (rdn s k))) + 1) else g p) := by
 refine ⟨fun a ha => ?_, fun p hp => ?_⟩
 ·
  rw [take_snoc hk, cnt_snoc]
  by_cases e : a = ino (rdn s k)
  ·
   rw [if_pos e.symm]
   simp only [e, if_true]
   rw [hg.1 _ h0]
   have := cnt_le (ino (rdn s k)) (s.take k)
   rw [List.length_take] at this
   exact w64 Z3 Z3
  ·
   rw [if_neg (fun q => e q.symm)]
   have hne : f a ≠ f (ino (rdn s k)) := fun q => by
    rcases h.form Z3 a with ⟨q1, _⟩ | ⟨j, _, q1, q2, _⟩
    ·
     exact ha q1
    ·
     rcases h.form Z3 (ino (rdn s k)) with ⟨r1, _⟩ | ⟨i, _, r1, r2, _⟩
     ·
      exact h0 r1
     ·
      have : j = i := by omega
      subst this
      exact e (q2.symm.trans r2)
   simp only [if_neg hne]
   exact hg.1 a ha
 ·
  show (if _ then _ else _) = _
  have := (h.le Z3 (ino (rdn s k))).2
  rw [if_neg Z3]
  exact hg.2 p Z3
theorem inoAt_new {s : List S38} {k : Nat} {f : Int → Int} (h : FMap s k f) (hk : k < s.length) (h0 : f (ino (rdn s k)) = 0) : InoAt s k := by
 intro j hj e _
 rcases h.form Z3 (ino (rdn s k)) with ⟨_, q⟩ | ⟨i, _, q, _⟩
 ·
  exact absurd e (q j hj)
 ·
  omega
theorem inoAt_old {s : List S38} {k j : Nat} {f : Int → Int} (h : FMap s k f) (hk : k < s.length) (hj : f (ino (rdn s k)) = ((j + 1 : Nat) : Int)) :
  j < k ∧ (InoAt s k ↔ knd (rdn s k) = 1 ∧ knd (rdn s j) = 1 ∧ dat (rdn s j) = dat (rdn s k)) := by
 rcases h.form Z3 (ino (rdn s k)) with ⟨q, _⟩ | ⟨i, hi, q, q1, q2⟩
 ·
  omega
 ·
  have : i = j := by omega
  subst this
  refine ⟨hi, fun A => A i hi q1 q2, fun A t ht e1 e2 => ?_⟩
  have : t = i := by
   rcases Nat.lt_trichotomy t i with z | z | z
   ·
    exact absurd e1 (q2 t z)
   ·
    exact z
   ·
    exact absurd q1 (e2 i z)
  subst this
  exact A
theorem canon_at {s : List S38} {f g : Int → Int} (h : FMap s s.length f) (hg : LMap s s.length f g) {k : Nat} (hk : k < s.length) :
  (canon s)[k]? = some ⟨(rdn s k).f0, ⟨f (ino (rdn s k)), 0, (rdn s k).f1.f2, g (f (ino (rdn s k))), (((rdn s k).f2.size : Nat) : Int)⟩, (rdn s k).f2⟩ := by
 unfold canon
 rw [List.getElem?_map, List.getElem?_eq_getElem hk, ← show rdn s k = s[k] from rd_at hk]
 have h1 := h (ino (rdn s k))
 rw [List.take_length] at h1
 have h2 : f (ino (rdn s k)) ≠ 0 := by
  rcases h.form (Nat.le_refl _) (ino (rdn s k)) with ⟨_, q⟩ | ⟨j, _, q, _⟩
  ·
   exact absurd rfl (q k hk)
  ·
   omega
 have h3 := hg.1 _ h2
 rw [List.take_length] at h3
 rw [h3, h1]
 simp [statOf, dat, pb_len, knd]
end Go.Proofs.YtkhblpmjmkhiiaaGreatDoor.T
