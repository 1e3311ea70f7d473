/- It is proved that the statement GangMost holds of the given program for every book and every list of numbers; there are no conditions. -/
import Derived.Test.YtikfghnkbgdbgaaDoorZGangMost3
import Derived.Test.YtikfghnkbgdbgaaDoorTie
import Derived.Test.YtikfghnkbgdbgaaDoorCards
import Derived.SevenTiedAt
set_option linter.unusedSimpArgs false
set_option linter.unusedVariables false
section
namespace Go.Proofs.YtikfghnkbgdbgaaDoor.Q
set_option linter.unusedSimpArgs false
set_option linter.unusedVariables false
open Go.RowKit Go.Proofs.YtikfghnkbgdbgaaDoorW.PrintWords Go.Proofs.YtikfghnkbgdbgaaDoorW.PrintLast Go.Proofs.YtikfghnkbgdbgaaDoorW.PrintMore
theorem keeps_setCell1 {n0 : Nat} {S : Nat → Prop} {X Y : World} (h : Keeps n0 S X Y) {p : Addr} (hS : S p.block) (hp : n0 ≤ p.block) (v : Value) : Keeps n0 S X (Y.setCell p v) :=
  ⟨h.bel.setCell hp v, h.kept.setCell (.inl hS) v⟩
attribute [local go_sem] Oper.semAt_some wide_fn wide_depth
def hv (ms : List M) (gs : List G) (pre : List (List Wk)) (m : Int) : Int := if pre.any (fun p => (mendedL ms gs p).contains m) = true then 1 else 0
theorem pick_hv (ms : List M) (gs : List G) (pre : List (List Wk)) (m : Int) (h0 : 0 ≤ m) (h4 : m < 4) : pick4 (hv ms gs pre 0) (hv ms gs pre 1) (hv ms gs pre 2) (hv ms gs pre 3) m = hv ms gs pre m := by
  obtain rfl | rfl | rfl | rfl : m = 0 ∨ m = 1 ∨ m = 2 ∨ m = 3 := by omega
  all_goals rfl
structure FirstI (w W : World) (ms : List M) (gs : List G) (n : Int) (b g gx gh : Nat) (A0 : Option Addr) (c0 : Nat) (A1 : Option Addr) (c1 : Nat) (pre : List (List Wk)) : Prop where
  box : BoxAt w W A0 ms.length c0 A1 gs.length c1 n b g
  x : W.heap[gx]? = some (.cells #[.slice A0 ms.length c0, .slice A1 gs.length c1, .int .i64 n] 25 (0, 0))
  had : DoneIs W gh (hv ms gs pre 0) (hv ms gs pre 1) (hv ms gs pre 2) (hv ms gs pre 3)
def hk (pre : List (List Wk)) (ms : List M) (gs : List G) (L : List Int) (k : Nat) (m : Int) : Int := if (pre.any (fun p => (mendedL ms gs p).contains m) || (L.take k).contains m) = true then 1 else 0
theorem hk_zero (pre : List (List Wk)) (ms : List M) (gs : List G) (L : List Int) (m : Int) : hk pre ms gs L 0 m = hv ms gs pre m := by simp [hk, hv]
theorem hk_full (pre : List (List Wk)) (ms : List M) (gs : List G) (x : List Wk) (m : Int) : hk pre ms gs (mendedL ms gs x) (mendedL ms gs x).length m = hv ms gs (pre ++ [x]) m := by
  simp [hk, hv, List.any_append]
theorem hk_succ (pre : List (List Wk)) (ms : List M) (gs : List G) (L : List Int) (k : Nat) (hk' : k < L.length) (m : Int) : hk pre ms gs L (k + 1) m = if rd L (k : Int) = m then 1 else hk pre ms gs L k m := by
  have hr : rd L (k : Int) = L[k] := by simp [rd, List.getD_eq_getElem?_getD, List.getElem?_eq_getElem hk']
  have e : (L.take (k + 1)).contains m = ((L.take k).contains m || (m == L[k])) := by
    rw [List.take_succ_eq_append_getElem hk']
    rw [Bool.eq_iff_iff]
    simp only [Bool.or_eq_true, List.contains_iff_mem, beq_iff_eq, List.mem_append, List.mem_singleton]
  unfold hk
  rw [e, hr]
  by_cases h : L[k] = m
  · simp [h]
  · have h2 : (m == L[k]) = false := beq_eq_false_iff_ne.2 (fun q => h q.symm)
    rw [if_neg h, h2, Bool.or_false]
theorem mended_mem {ms : List M} {gs : List G} {p : List Wk} {k : Nat} (h : k < (mendedL ms gs p).length) : 0 ≤ rd (mendedL ms gs p) (k : Int) ∧ rd (mendedL ms gs p) (k : Int) < ms.length := by
  have hr : rd (mendedL ms gs p) (k : Int) = (mendedL ms gs p)[k] := by simp [rd, List.getD_eq_getElem?_getD, List.getElem?_eq_getElem h]
  rw [hr]
  have hm := List.getElem_mem h
  unfold mendedL at hm
  have := (List.mem_filter.1 hm).1
  simp only [upTo, List.mem_map, List.mem_range] at this
  obtain ⟨j, hj, e⟩ := this
  have e2 : (mendedL ms gs p)[k] = Int.ofNat j := e.symm
  have hj2 : j < ms.length := by simpa using hj
  rw [e2]
  constructor
  · exact Int.natCast_nonneg j
  · exact Int.ofNat_lt.2 hj2
set_option maxRecDepth 100000 in
set_option maxHeartbeats 4000000 in
theorem gang_First.calls (A0_0 : Option Addr) (c0_0 : Nat) (l0_0 : List (M)) (A0_1 : Option Addr) (c0_1 : Nat) (l0_1 : List (G)) (a0_2 : Int) (r1 : Int) (r2 : Int) (w : World) (hr0_0 : Kd.C k66 w A0_0 l0_0.length l0_0) (hc0_0 : l0_0.length ≤ c0_0) (hr0_1 : Kd.C k63 w A0_1 l0_1.length l0_1) (hc0_1 : l0_1.length ≤ c0_1) (hG : GV w) (h : gang_First.f l0_0 l0_1 a0_2 = some (r1, r2)) :
    Calls Tryd.prog 36 #[.agg #[.slice A0_0 l0_0.length c0_0, .slice A0_1 l0_1.length c0_1, .int .i64 a0_2]] w fun e w' => e = .returned (.tuple #[.int .i64 r1, .int .i64 r2]) ∧ Below w.heap.size w w' := by
  have HR0 := Aside0.mk hr0_0
  have HR1 := Aside0.mk hr0_1
  have HG0 := Aside0.mk hG
  have H := Aside0.mk h
  have hB := ((Below.refl w.heap.size w).alloc (Nat.le_refl _) (.cells #[.slice A0_0 l0_0.length c0_0, .slice A0_1 l0_1.length c0_1, .int .i64 a0_2] 25))
  have HB := Aside0.mk hB
  have hx := World.alloc_heap_new w (.cells #[.slice A0_0 l0_0.length c0_0, .slice A0_1 l0_1.length c0_1, .int .i64 a0_2] 25)
  have HX := Aside0.mk hx
  clear hr0_0 hr0_1 hG hB h hx
  refine calls_marks Tryd.func36 rfl ?_
  simp only [Tryd.ntmps36, List.size_toArray, List.length_cons, List.length_nil, Nat.reduceAdd, Nat.reduceSub, Array.replicate_succ, Array.replicate_zero, List.push_toArray, List.append_toArray, List.nil_append, List.cons_append]
  go_wp2_with (fail)
  refine (asked_any l0_0 l0_1 A0_0 c0_0 A0_1 c0_1 a0_2 none 0 [] _ (Kd.C_below HR0.out HB.out) hc0_0 (Kd.C_below HR1.out HB.out) hc0_1 ⟨rfl, by simp, fun h => by simp at h⟩ (Nat.le_refl _) (gv_below HG0.out HB.out)).mono ?_
  rintro e w1 ⟨B0, n0, d0, B1, n1, d1, m, bm, E, rfl, hE, hs, hb⟩
  have HB1 := Aside0.mk (below_then HB.out HB.out.size hb)
  have HX1 := Aside0.mk ((hb.block w.heap.size (by simp)).trans HX.out)
  clear hb
  by_cases hE0 : E = 0
  · obtain ⟨b, ⟨rfl, rfl, rfl⟩, ⟨rfl, rfl, rfl⟩, rfl, rfl, hm, hl⟩ := hs hE0
    subst hE0
    have HE := Aside0.mk hE
    have HM := Aside0.mk hm
    have HH : Aside0 ((match (upTo l0_0.length).find? (fun i => !hadAny l0_0 l0_1 a0_2 i) with | some i => some (i, (0 : Int)) | none => some (0, 4)) = some (r1, r2)) := ⟨by rw [← H.out]; unfold gang_First.f; rw [if_pos (askedE_ok hE.symm).1]; rfl⟩
    have hx2 := (blk_cell HX1.out 2).trans rfl
    have hxl := (Array.getElem?_eq_some_iff.1 HX1.out).1
    have hbd := okB_bounds (askedE_ok hE.symm).1
    have hg2 := hbd.2.1.2
    have hg1 := hbd.2.1.1
    have hm4 := hbd.1.2
    have hn4 : a0_2 ≤ 4 := by omega
    have hn0 : 0 ≤ a0_2 := by omega
    have HBV := Aside0.mk ((HB1.out.alloc HB1.out.size (.cells #[.slice A0_0 l0_0.length c0_0, .slice A0_1 l0_1.length c0_1, .int .i64 a0_2, .map (some b)] 86)).alloc (by simp; have := HB1.out.size; omega) (.cells #[.int .i64 0, .int .i64 0, .int .i64 0, .int .i64 0] 97))
    have HV1 := Aside0.mk (blk_alloc (World.alloc_heap_new w1 (.cells #[.slice A0_0 l0_0.length c0_0, .slice A0_1 l0_1.length c0_1, .int .i64 a0_2, .map (some b)] 86)) (.cells #[.int .i64 0, .int .i64 0, .int .i64 0, .int .i64 0] 97))
    have HV2 := Aside0.mk (World.alloc_heap_new (w1.alloc (.cells #[.slice A0_0 l0_0.length c0_0, .slice A0_1 l0_1.length c0_1, .int .i64 a0_2, .map (some b)] 86)) (.cells #[.int .i64 0, .int .i64 0, .int .i64 0, .int .i64 0] 97))
    have HV3 := Aside0.mk (blk_alloc (blk_alloc HX1.out (.cells #[.slice A0_0 l0_0.length c0_0, .slice A0_1 l0_1.length c0_1, .int .i64 a0_2, .map (some b)] 86)) (.cells #[.int .i64 0, .int .i64 0, .int .i64 0, .int .i64 0] 97))
    have HV4 := Aside0.mk ((HM.out.below ((Below.refl _ w1).alloc (Nat.le_refl _) (.cells #[.slice A0_0 l0_0.length c0_0, .slice A0_1 l0_1.length c0_1, .int .i64 a0_2, .map (some b)] 86))).below ((Below.refl _ _).alloc (Nat.le_refl _) (.cells #[.int .i64 0, .int .i64 0, .int .i64 0, .int .i64 0] 97)))
    have hVs : ((w1.alloc (.cells #[.slice A0_0 l0_0.length c0_0, .slice A0_1 l0_1.length c0_1, .int .i64 a0_2, .map (some b)] 86)).alloc (.cells #[.int .i64 0, .int .i64 0, .int .i64 0, .int .i64 0] 97)).heap.size = w1.heap.size + 2 := by simp
    have HVS := Aside0.mk hVs
    have hbl1 := HM.out.lt
    have HBL := Aside0.mk (show b < w1.heap.size from hbl1)
    clear hm hs hE hl H hbd hVs hbl1
    go_wp2_with (fail)
    refine (plans_calls A0_0 l0_0.length c0_0 A0_1 l0_1.length c0_1 a0_2 b a0_2 _).mono ?_
    generalize (w1.alloc (.cells #[.slice A0_0 l0_0.length c0_0, .slice A0_1 l0_1.length c0_1, .int .i64 a0_2, .map (some b)] 86)).alloc (.cells #[.int .i64 0, .int .i64 0, .int .i64 0, .int .i64 0] 97) = V at HBV HV1 HV2 HV3 HV4 HVS ⊢
    rintro e wl ⟨rfl, hwl⟩
    have hbl : Below V.heap.size V wl := by rw [hwl]; exact ((Below.refl _ V).alloc (Nat.le_refl _) _).alloc (by simp) _
    have hsl : wl.heap.size = V.heap.size + 2 := by rw [hwl]; simp
    have HBl := Aside0.mk (HBV.out.trans (hbl.mono HBV.out.size))
    have HI := Aside0.mk (FirstI.mk (w := w) (W := wl) (ms := l0_0) (gs := l0_1) (n := a0_2) (b := b) (g := w1.heap.size) (gx := w.heap.size) (gh := w1.heap.size + 1) (A0 := A0_0) (c0 := c0_0) (A1 := A0_1) (c1 := c0_1) (pre := [])
      ⟨(hbl.block _ (Array.getElem?_eq_some_iff.1 HV1.out).1).trans HV1.out, HBl.out⟩ ((hbl.block _ (Array.getElem?_eq_some_iff.1 HV3.out).1).trans HV3.out)
      (show DoneIs wl (w1.heap.size + 1) 0 0 0 0 from by have q := HV2.out; rw [World.size_alloc] at q; exact (hbl.block _ (Array.getElem?_eq_some_iff.1 q).1).trans q))
    have HSr := Aside0.mk (Src.mk (w := w) (W := wl) (ms := l0_0) (gs := l0_1) (n := a0_2) (b := b) (g := V.heap.size) (gm := V.heap.size + 1) (many := a0_2) (A0 := A0_0) (c0 := c0_0) (A1 := A0_1) (c1 := c0_1)
      ⟨by rw [hwl]; exact blk_alloc (World.alloc_heap_new V _) _, HBl.out⟩ (HV4.out.below hbl) (by rw [hwl]; have q := World.alloc_heap_new (V.alloc (.cells #[.slice A0_0 l0_0.length c0_0, .slice A0_1 l0_1.length c0_1, .int .i64 a0_2, .map (some b)] 86)) (.cells #[.int .i64 a0_2] 3); rwa [World.size_alloc] at q))
    have HSL := Aside0.mk hsl
    clear hbl hwl hsl hx2 hxl
    go_wp2_with (fail)
    refine wpIn_range_all (P := Tryd.prog) (w := wl) (n := 0) rfl (enters_ Tryd.func100 (by kernel_rfl) rfl) w.heap.size HBl.out.size (fun k => k = w1.heap.size + 1) (fun k hk => by have hw1 := HB1.out.size; have hVS := HVS.out; have hSL := HSL.out; omega) (plansL l0_0 l0_1 a0_2 a0_2) (fun x v W => Pr8 l0_0 l0_1 a0_2 (wl.heap.size + 2) x v W) w HBl.out ?hit ?hPr
      (fun pre W => FirstI w W l0_0 l0_1 a0_2 b w1.heap.size w.heap.size (w1.heap.size + 1) A0_0 c0_0 A0_1 c0_1 pre) ?hI1 ?hI2 HI.out ?a1 ?assign ?body ?done
    case hit =>
      have hw1 := HB1.out.size
      have hVS := HVS.out
      have hSL := HSL.out
      intro l J W hl hW hb hJ hY h0
      exact plans1_calls wl (fun k => k = w1.heap.size + 1) (fun k hk => by omega) (by omega) (by have := HBL.out; omega) (by omega) HSr.out hg1 hg2 hn0 hn4 hn0 hm4 HR1.out HG0.out l J W hl hW hb hJ hY h0
    case hPr =>
      have hSL := HSL.out
      rintro x v W o ⟨A, c, rfl, h1, h2, h3, h4⟩ _
      exact ⟨A, c, rfl, h1, h2, Kd.F_grown h3 (grownBy_putObj' W _ o) (fun k hk e => by injection e with e; omega), h4⟩
    case hI1 =>
      rintro pre X Y ⟨h1, h2, h3⟩ hb
      exact ⟨h1.step hb, (hb.block _ (Array.getElem?_eq_some_iff.1 h2).1).trans h2, h3.below hb⟩
    case hI2 =>
      have hw1 := HB1.out.size
      have hVS := HVS.out
      have hSL := HSL.out
      have hxl := (Array.getElem?_eq_some_iff.1 HX1.out).1
      rintro pre X o ⟨h1, h2, h3⟩ _
      refine ⟨⟨(World.putObj_heap_other (by omega)).trans h1.box, h1.bel.trans (below_putObj X _ _ o (by omega))⟩, (World.putObj_heap_other (by omega)).trans h2, (World.putObj_heap_other (by omega)).trans h3⟩
    case assign =>
      intro x v W K hK
      gi_wp2
      exact hK
    case body =>
      rintro pre x v W hWs hI ⟨A, c, rfl, hlc, _, hF, hfair⟩
      have hgW : w1.heap.size + 1 < W.heap.size := by have hVS := HVS.out; have hSL := HSL.out; omega
      clear hWs
      have q0 := (blk_cell hI.box.box 0).trans rfl
      have q1 := (blk_cell hI.box.box 1).trans rfl
      have q2 := (blk_cell hI.box.box 2).trans rfl
      have q3 := (blk_cell hI.box.box 3).trans rfl
      have HII := Aside0.mk hI
      have HF := Aside0.mk hF
      have HFA := Aside0.mk hfair
      clear hI hF hfair
      gi_wp2
      refine (CallsIn.inRound (wl.heap.size + 1) (callsIn_wide.2 (mended_calls l0_0 l0_1 A0_0 c0_0 A0_1 c0_1 a0_2 b A c x W (Kd.C_below HR0.out HII.out.box.bel) (Kd.C_below HR1.out HII.out.box.bel) (Kd.F_now HF.out) (gv_below HG0.out HII.out.box.bel) (askedE_ok HE.out.symm).1 HFA.out))).mono ?_
      rintro e W2 ⟨v2, rfl, hR, hb⟩
      obtain ⟨A2, c2, rfl⟩ := Kd.R_slice hR
      have hlen := mended_len l0_0 l0_1 x
      have HB2 := Aside0.mk (HII.out.box.step hb)
      have HX2 := Aside0.mk ((hb.block _ (Array.getElem?_eq_some_iff.1 HII.out.x).1).trans HII.out.x)
      have HD2 := Aside0.mk (HII.out.had.below hb)
      have HK2 := Aside0.mk ((Keeps.refl w.heap.size (fun k => k = w1.heap.size + 1) W).step hb HII.out.box.bel.size)
      have HL2 := Aside0.mk (Kd.R_F (Kd.R_bound hR))
      have HG2 := Aside0.mk hgW
      clear hR hb q0 q1 q2 q3 hgW
      gi_wp2
      gi_loopw [28] (fun v28 wr => ∃ k : Nat, k ≤ (mendedL l0_0 l0_1 x).length ∧ v28 = .int .i64 k ∧
        Aside0 (DoneIs wr (w1.heap.size + 1) (hk pre l0_0 l0_1 (mendedL l0_0 l0_1 x) k 0) (hk pre l0_0 l0_1 (mendedL l0_0 l0_1 x) k 1) (hk pre l0_0 l0_1 (mendedL l0_0 l0_1 x) k 2) (hk pre l0_0 l0_1 (mendedL l0_0 l0_1 x) k 3)) ∧
        Aside0 (Keeps w.heap.size (fun k => k = w1.heap.size + 1) W2 wr)) (fun v28 _ => (mendedL l0_0 l0_1 x).length - (intOf v28).toNat)
      case atStart => exact ⟨0, Nat.zero_le _, rfl, ⟨by simpa only [hk_zero] using HD2.out⟩, ⟨Keeps.refl _ _ _⟩⟩
      case round =>
        obtain ⟨k, hk', rfl, HDr, HKr⟩ := hrel
        by_cases hlt : k < (mendedL l0_0 l0_1 x).length
        · have HCr := Aside0.mk (Kd.F_now (Kd.F_kept HL2.out HKr.out.kept (fun q hq e => by have h1 := hq.2.1; have h2 := HG2.out; omega)))
          obtain ⟨ad, hA, hx0⟩ := Kd.at_int HCr.out (k : Int) (by omega) (by omega)
          rw [Int.toNat_natCast] at hx0
          subst hA
          have hm := mended_mem hlt
          have hm0 := hm.1
          have hm4' : rd (mendedL l0_0 l0_1 x) (k : Int) < 4 := by omega
          have hd := HDr.out.cell _ hm0 hm4'
          have hd1 := hd.1
          have hd2 := hd.2
          clear hm hd
          gi_wp2
          go_roundw
          case rel =>
            refine ⟨k + 1, by omega, by go_num, ⟨?_⟩, ⟨keeps_setCell1 HKr.out (p := ⟨w1.heap.size + 1, _, none⟩) rfl (by have := HB1.out.size; show w.heap.size ≤ w1.heap.size + 1; omega) _⟩⟩
            rw [hk_succ _ _ _ _ k hlt, hk_succ _ _ _ _ k hlt, hk_succ _ _ _ _ k hlt, hk_succ _ _ _ _ k hlt]
            exact HDr.out.set _ 1 hm0 hm4'
          case measure => simp [intOf]; omega
        · obtain rfl : k = (mendedL l0_0 l0_1 x).length := by omega
          have hD := HDr.out
          rw [hk_full, hk_full, hk_full, hk_full] at hD
          have HDF := Aside0.mk hD
          have HKF := Aside0.mk (HK2.out.trans HKr.out)
          clear hD
          gi_wp2
          refine ⟨⟨⟨blk_kept HII.out.box.box HKF.out.kept (by omega), HII.out.box.bel.trans HKF.out.bel⟩, blk_kept HII.out.x HKF.out.kept ?_, HDF.out⟩, HKF.out⟩
          have hxl := (Array.getElem?_eq_some_iff.1 HX1.out).1
          omega
    case done =>
      intro W hD hI hK hdef
      have HII := Aside0.mk hI
      have hx0 := (blk_cell HII.out.x 0).trans rfl
      have HDF := Aside0.mk hdef
      have HBD := Aside0.mk hI.box.bel
      clear hI hK hdef hD
      go_wp2_with (fail)
      clear hx0
      go_loopw [38] (fun v38 wr => ∃ k : Nat, k ≤ l0_0.length ∧ v38 = .int .i64 k ∧ Aside0 (∀ i : Nat, i < k → (!hadAny l0_0 l0_1 a0_2 i) = false) ∧ Aside0 (W = wr)) (fun v38 _ => l0_0.length - (intOf v38).toNat)
      case atStart => exact ⟨0, Nat.zero_le _, rfl, ⟨fun i h => absurd h (Nat.not_lt_zero _)⟩, ⟨rfl⟩⟩
      case round =>
        obtain ⟨k, hk', rfl, HA, ⟨rfl⟩⟩ := hrel
        by_cases hlt : k < l0_0.length
        · have hd := (HII.out.had.cell (k : Int) (by omega) (by omega)).1
          rw [Int.toNat_natCast, pick_hv _ _ _ _ (by omega) (by omega)] at hd
          have hk4 : (k : Int) < 4 := by omega
          cases hc : hadAny l0_0 l0_1 a0_2 k with
          | false =>
            rw [show hv l0_0 l0_1 (plansL l0_0 l0_1 a0_2 a0_2) k = 0 by unfold hadAny at hc; unfold hv; rw [hc]; rfl] at hd
            have HF := Aside0.mk (find_some (fun i => !hadAny l0_0 l0_1 a0_2 i) l0_0.length k hlt HA.out (by simp only [hc]; rfl))
            have hq : some ((k : Int), (0 : Int)) = some (r1, r2) := by rw [← HH.out, HF.out]
            obtain ⟨rfl, rfl⟩ : (k : Int) = r1 ∧ 0 = r2 := by simpa using hq
            clear hc hq
            go_wp2
            exact postM_ret [wl.heap.size] rfl (by simp) (fun _ h => by simp at h; rw [h]; exact HDF.out) (results_tmp2 rfl _ _ _) ⟨rfl, HBD.out.trans (takeAll_below w.heap.size _ _ (fun D h => by simp at h; rw [h]; exact HBl.out.size))⟩
          | true =>
            rw [show hv l0_0 l0_1 (plansL l0_0 l0_1 a0_2 a0_2) k = 1 by unfold hadAny at hc; unfold hv; rw [hc]; rfl] at hd
            have HC := Aside0.mk hc
            clear hc
            go_wp2
            go_roundw
            case rel => exact ⟨k + 1, by omega, by go_num, ⟨fun i hi => by
              by_cases q : i = k
              · rw [q, HC.out]; rfl
              · exact HA.out i (by omega)⟩, ⟨by first | trivial | rfl⟩⟩
            case measure => simp [intOf]; omega
        · obtain rfl : k = l0_0.length := by omega
          have HF := Aside0.mk (find_none (fun i => !hadAny l0_0 l0_1 a0_2 i) l0_0.length HA.out)
          have hq : some ((0 : Int), (4 : Int)) = some (r1, r2) := by rw [← HH.out, HF.out]
          obtain ⟨rfl, rfl⟩ : (0 : Int) = r1 ∧ 4 = r2 := by simpa using hq
          clear hq
          go_wp2
          exact postM_ret [wl.heap.size] rfl (by simp) (fun _ h => by simp at h; rw [h]; exact HDF.out) (results_tmp2 rfl _ _ _) ⟨rfl, HBD.out.trans (takeAll_below w.heap.size _ _ (fun D h => by simp at h; rw [h]; exact HBl.out.size))⟩
  · have HE := Aside0.mk hE
    have hE1 : (E == 0) = false := beq_eq_false_iff_ne.2 hE0
    have hE2 : (E != 0) = true := bne_iff_ne.2 hE0
    have h41 : some ((0 : Int), E) = some (r1, r2) := by
      rw [← H.out]
      unfold gang_First.f
      unfold askedE at hE
      split at hE
      · rename_i q
        exact absurd (by rw [hE]; rfl) hE0
      · rename_i q
        rw [if_neg q, hE]
    obtain ⟨rfl, rfl⟩ : 0 = r1 ∧ E = r2 := by simpa using h41
    clear hE hs hE0 h41
    go_wp2
    exact postM_ret [] rfl List.nodup_nil (fun _ h => by simp at h) (results_tmp2 rfl _ _ _) ⟨rfl, HB1.out.alloc HB1.out.size _⟩
end Go.Proofs.YtikfghnkbgdbgaaDoor.Q
end
section
namespace Go.Proofs.YtikfghnkbgdbgaaDoor.Q
open Go.RowKit Go.Proofs.YtikfghnkbgdbgaaDoorW.PrintWords Go.Proofs.YtikfghnkbgdbgaaDoorW.PrintLast Go.Proofs.YtikfghnkbgdbgaaDoorW.PrintMore
attribute [local go_sem] max2_int min2_int max_two min_two max_three min_three max_four min_four   -- for this text's walks alone
set_option linter.unusedVariables false
set_option linter.unusedSimpArgs false
def macadamlaw04_mile.f (a0_0 : Int) (a0_1 : Int) (a1 : Int) : Option (Int × Int × Int) := some (a0_0, a0_1, a1)
set_option maxHeartbeats 8000000 in
set_option maxRecDepth 100000 in
theorem macadamlaw04_mile.calls (a0_0 : Int) (a0_1 : Int) (a1 : Int) (r1 : Int) (r2 : Int) (r3 : Int) (w : World) (h : macadamlaw04_mile.f a0_0 a0_1 a1 = some (r1, r2, r3)) :
  Calls Tryd.prog 88 #[.agg #[.int .i64 a0_0, .int .i64 a0_1], .int .i64 a1] w fun e w' => e = .returned (.agg #[.int .i64 r1, .int .i64 r2, .int .i64 r3]) ∧ Below w.heap.size w w' := by
 have hu40 := Tryd.underlying40
 have hu66 := Tryd.underlying66
 have HB := Aside0.mk (Below.refl w.heap.size w)
 have H : (some (a0_0, a0_1, a1)) = some (r1, r2, r3) := h
 clear h
 simp only [Option.some.injEq, Prod.mk.injEq] at H
 obtain ⟨rfl, rfl, rfl⟩ := H
 go_enter Tryd.func88, Tryd.ntmps88
 go_wp2_with (first | ((with_reducible refine gate_dst (N := 2) rfl ?_); refine bx 2 #[.int .i64 a0_0, .int .i64 a0_1] 40 ?_; intro gb712 hg w3 hbox hb; have n0_ := Aside0.mk (below_step (bw HB) hb); have n1_ := Aside0.mk (hbox); have n2_ := Aside0.mk (bz (bw HB) hg); have n3_ := Aside0.mk (bz (bw HB) hg); clear HB; have HB := n0_; have BK712 := n1_; have GW712 := n2_; have GE712 := n3_; clear n0_ n1_ n2_ n3_; clear hb hbox hg) | ((with_reducible refine gate_dst (N := 4) rfl ?_); refine bx 4 #[.int .i64 0, .int .i64 0, .int .i64 0] 66 ?_; intro gb713 hg w4 hbox hb; have n0_ := Aside0.mk (blk_below (bm BK712) hb); have n1_ := Aside0.mk (below_step (bw1 HB GE712) hb); have n2_ := Aside0.mk (hbox); have n3_ := Aside0.mk (bz (bw1 HB GE712) hg); have n4_ := Aside0.mk (bz (bw1 HB GE712) hg); have n5_ := Aside0.mk (bl (bm BK712) hg); have n6_ := Aside0.mk (bg (bm BK712) hg); clear BK712; clear HB; have BK712 := n0_; have HB := n1_; have BK713 := n2_; have GW713 := n3_; have GE713 := n4_; have NB712_713 := n5_; have NB713_712 := n6_; clear n0_ n1_ n2_ n3_ n4_ n5_ n6_; clear hb hbox hg; have hnb5 := NB712_713.out; have hnc5 := NB713_712.out; obtain ⟨hcz6_0, hcz6_1, hfz6_0, hfz6_1⟩ := b2 BK712; obtain ⟨hcz7_0, hcz7_1, hcz7_2, hfz7_0, hfz7_1, hfz7_2⟩ := b3 BK713))
 refine bodyPost_ret (results_cell_row rfl _ _ gb713 66 #[.int .i64 a0_0, .int .i64 a0_1, .int .i64 a1] (0, 0) _ rfl (by (with_reducible repeat (first | refine blk_drewN ?_ _ | refine blk_drew ?_ | refine blk_alloc ?_ _)); refine blk_put (cs := #[.int .i64 a0_0, .int .i64 a0_1, .int .i64 0]) ?_ 2 _ rfl; (with_reducible repeat (first | refine blk_drewN ?_ _ | refine blk_drew ?_ | refine blk_alloc ?_ _)); refine blk_put (cs := #[.int .i64 a0_0, .int .i64 0, .int .i64 0]) ?_ 1 _ rfl; (with_reducible repeat (first | refine blk_drewN ?_ _ | refine blk_drew ?_ | refine blk_alloc ?_ _)); refine blk_put (cs := #[.int .i64 0, .int .i64 0, .int .i64 0]) ?_ 0 _ rfl; (with_reducible repeat (first | refine blk_drewN ?_ _ | refine blk_drew ?_ | refine blk_alloc ?_ _)); exact BK713.out) Tryd.underlying66 rfl (by kernel_rfl)) rfl ?_
 exact ⟨by first | rfl | (simp [errW_none, errW_some] <;> rfl) | (simp [*, errW_none, errW_some] <;> rfl), bw2 HB GE712 GE713⟩
def macadamlaw04_crew.f (a0 : Int) (a1 : Int) (a2_0 : Int) (a2_1 : Int) : Option (Int × Int × Int × Int) := some (a0, a1, a2_0, a2_1)
set_option maxHeartbeats 8000000 in
set_option maxRecDepth 100000 in
theorem macadamlaw04_crew.calls (a0 : Int) (a1 : Int) (a2_0 : Int) (a2_1 : Int) (r1 : Int) (r2 : Int) (r3 : Int) (r4 : Int) (w : World) (h : macadamlaw04_crew.f a0 a1 a2_0 a2_1 = some (r1, r2, r3, r4)) :
  Calls Tryd.prog 89 #[.int .i64 a0, .int .i64 a1, .agg #[.int .i64 a2_0, .int .i64 a2_1]] w fun e w' => e = .returned (.agg #[.int .i64 r1, .int .i64 r2, .int .i64 r3, .int .i64 r4]) ∧ Below w.heap.size w w' := by
 have hu40 := Tryd.underlying40
 have hu63 := Tryd.underlying63
 have HB := Aside0.mk (Below.refl w.heap.size w)
 have H : (some (a0, a1, a2_0, a2_1)) = some (r1, r2, r3, r4) := h
 clear h
 simp only [Option.some.injEq, Prod.mk.injEq] at H
 obtain ⟨rfl, rfl, rfl, rfl⟩ := H
 go_enter Tryd.func89, Tryd.ntmps89
 go_wp2_with (first | ((with_reducible refine gate_dst (N := 5) rfl ?_); refine bx 5 #[.int .i64 a2_0, .int .i64 a2_1] 40 ?_; intro gb714 hg w4 hbox hb; have n0_ := Aside0.mk (below_step (bw HB) hb); have n1_ := Aside0.mk (hbox); have n2_ := Aside0.mk (bz (bw HB) hg); have n3_ := Aside0.mk (bz (bw HB) hg); clear HB; have HB := n0_; have BK714 := n1_; have GW714 := n2_; have GE714 := n3_; clear n0_ n1_ n2_ n3_; clear hb hbox hg) | ((with_reducible refine gate_dst (N := 6) rfl ?_); refine bx 6 #[.int .i64 0, .int .i64 0, .int .i64 0, .int .i64 0] 63 ?_; intro gb715 hg w5 hbox hb; have n0_ := Aside0.mk (blk_below (bm BK714) hb); have n1_ := Aside0.mk (below_step (bw1 HB GE714) hb); have n2_ := Aside0.mk (hbox); have n3_ := Aside0.mk (bz (bw1 HB GE714) hg); have n4_ := Aside0.mk (bz (bw1 HB GE714) hg); have n5_ := Aside0.mk (bl (bm BK714) hg); have n6_ := Aside0.mk (bg (bm BK714) hg); clear BK714; clear HB; have BK714 := n0_; have HB := n1_; have BK715 := n2_; have GW715 := n3_; have GE715 := n4_; have NB714_715 := n5_; have NB715_714 := n6_; clear n0_ n1_ n2_ n3_ n4_ n5_ n6_; clear hb hbox hg; have hnb6 := NB714_715.out; have hnc6 := NB715_714.out; obtain ⟨hcz7_0, hcz7_1, hfz7_0, hfz7_1⟩ := b2 BK714; obtain ⟨hcz8_0, hcz8_1, hcz8_2, hcz8_3, hfz8_0, hfz8_1, hfz8_2, hfz8_3⟩ := b4 BK715))
 refine bodyPost_ret (results_cell_row rfl _ _ gb715 63 #[.int .i64 a0, .int .i64 a1, .int .i64 a2_0, .int .i64 a2_1] (0, 0) _ rfl (by (with_reducible repeat (first | refine blk_drewN ?_ _ | refine blk_drew ?_ | refine blk_alloc ?_ _)); refine blk_put (cs := #[.int .i64 a0, .int .i64 a1, .int .i64 a2_0, .int .i64 0]) ?_ 3 _ rfl; (with_reducible repeat (first | refine blk_drewN ?_ _ | refine blk_drew ?_ | refine blk_alloc ?_ _)); refine blk_put (cs := #[.int .i64 a0, .int .i64 a1, .int .i64 0, .int .i64 0]) ?_ 2 _ rfl; (with_reducible repeat (first | refine blk_drewN ?_ _ | refine blk_drew ?_ | refine blk_alloc ?_ _)); refine blk_put (cs := #[.int .i64 a0, .int .i64 0, .int .i64 0, .int .i64 0]) ?_ 1 _ rfl; (with_reducible repeat (first | refine blk_drewN ?_ _ | refine blk_drew ?_ | refine blk_alloc ?_ _)); refine blk_put (cs := #[.int .i64 0, .int .i64 0, .int .i64 0, .int .i64 0]) ?_ 0 _ rfl; (with_reducible repeat (first | refine blk_drewN ?_ _ | refine blk_drew ?_ | refine blk_alloc ?_ _)); exact BK715.out) Tryd.underlying63 rfl (by kernel_rfl)) rfl ?_
 exact ⟨by first | rfl | (simp [errW_none, errW_some] <;> rfl) | (simp [*, errW_none, errW_some] <;> rfl), bw2 HB GE714 GE715⟩
def macadamlaw04_book.f (a0 : Int) (a1 : Int) : Option ((List (S66)) × (List (S63)) × Int) := (macadamref00_Reach.f 2 3).bind fun bt717 => ((macadamlaw04_mile.f bt717.1 bt717.2 0).bind fun bt719 => ((macadamref00_Reach.f 1 2).bind fun bt722 => ((macadamlaw04_mile.f bt722.1 bt722.2 1).bind fun bt724 => ((macadamref00_Just.f 2).bind fun bt727 => ((macadamlaw04_mile.f bt727.1 bt727.2 2).bind fun bt729 => ((macadamref00_Reach.f 1 2).bind fun bt735 => ((macadamlaw04_crew.f 0 1 bt735.1 bt735.2).bind fun bt737 => ((macadamref00_Just.f 2).bind fun bt741 => ((macadamlaw04_crew.f 1 a1 bt741.1 bt741.2).bind fun bt743 => (some ((([(⟨(⟨bt719.1, bt719.2.1⟩ : S40), bt719.2.2⟩ : S66), (⟨(⟨bt724.1, bt724.2.1⟩ : S40), bt724.2.2⟩ : S66), (⟨(⟨bt729.1, bt729.2.1⟩ : S40), bt729.2.2⟩ : S66)] : List (S66))), (([(⟨bt737.1, bt737.2.1, (⟨bt737.2.2.1, bt737.2.2.2⟩ : S40)⟩ : S63), (⟨bt743.1, bt743.2.1, (⟨bt743.2.2.1, bt743.2.2.2⟩ : S40)⟩ : S63)] : List (S63))), a0)))))))))))
set_option maxHeartbeats 8000000 in
set_option maxRecDepth 100000 in
theorem macadamlaw04_book.calls (a0 : Int) (a1 : Int) (r1 : List (S66)) (r2 : List (S63)) (r3 : Int) (w : World) (h : macadamlaw04_book.f a0 a1 = some (r1, r2, r3)) :
  Calls Tryd.prog 57 #[.int .i64 a0, .int .i64 a1] w fun e w' => ∃ v0_ v1_ : Value, e = .returned (.agg #[v0_, v1_, .int .i64 r3]) ∧ Kd.R k66 66 w' w.heap.size (fun _ => True) v0_ r1 ∧ Kd.R k63 63 w' w.heap.size (fun _ => True) v1_ r2 ∧ Below w.heap.size w w' := by
 have hu25 := Tryd.underlying25
 have HB := Aside0.mk (Below.refl w.heap.size w)
 have H : ((macadamref00_Reach.f 2 3).bind fun bt717 => ((macadamlaw04_mile.f bt717.1 bt717.2 0).bind fun bt719 => ((macadamref00_Reach.f 1 2).bind fun bt722 => ((macadamlaw04_mile.f bt722.1 bt722.2 1).bind fun bt724 => ((macadamref00_Just.f 2).bind fun bt727 => ((macadamlaw04_mile.f bt727.1 bt727.2 2).bind fun bt729 => ((macadamref00_Reach.f 1 2).bind fun bt735 => ((macadamlaw04_crew.f 0 1 bt735.1 bt735.2).bind fun bt737 => ((macadamref00_Just.f 2).bind fun bt741 => ((macadamlaw04_crew.f 1 a1 bt741.1 bt741.2).bind fun bt743 => (some ((([(⟨(⟨bt719.1, bt719.2.1⟩ : S40), bt719.2.2⟩ : S66), (⟨(⟨bt724.1, bt724.2.1⟩ : S40), bt724.2.2⟩ : S66), (⟨(⟨bt729.1, bt729.2.1⟩ : S40), bt729.2.2⟩ : S66)] : List (S66))), (([(⟨bt737.1, bt737.2.1, (⟨bt737.2.2.1, bt737.2.2.2⟩ : S40)⟩ : S63), (⟨bt743.1, bt743.2.1, (⟨bt743.2.2.1, bt743.2.2.2⟩ : S40)⟩ : S63)] : List (S63))), a0)))))))))))) = some (r1, r2, r3) := h
 clear h
 replace H := Option.bind_eq_some_iff.mp H
 obtain ⟨⟨t717, t718⟩, A30, H⟩ := H
 replace H : ((macadamlaw04_mile.f t717 t718 0).bind fun bt719 => ((macadamref00_Reach.f 1 2).bind fun bt722 => ((macadamlaw04_mile.f bt722.1 bt722.2 1).bind fun bt724 => ((macadamref00_Just.f 2).bind fun bt727 => ((macadamlaw04_mile.f bt727.1 bt727.2 2).bind fun bt729 => ((macadamref00_Reach.f 1 2).bind fun bt735 => ((macadamlaw04_crew.f 0 1 bt735.1 bt735.2).bind fun bt737 => ((macadamref00_Just.f 2).bind fun bt741 => ((macadamlaw04_crew.f 1 a1 bt741.1 bt741.2).bind fun bt743 => (some ((([(⟨(⟨bt719.1, bt719.2.1⟩ : S40), bt719.2.2⟩ : S66), (⟨(⟨bt724.1, bt724.2.1⟩ : S40), bt724.2.2⟩ : S66), (⟨(⟨bt729.1, bt729.2.1⟩ : S40), bt729.2.2⟩ : S66)] : List (S66))), (([(⟨bt737.1, bt737.2.1, (⟨bt737.2.2.1, bt737.2.2.2⟩ : S40)⟩ : S63), (⟨bt743.1, bt743.2.1, (⟨bt743.2.2.1, bt743.2.2.2⟩ : S40)⟩ : S63)] : List (S63))), a0))))))))))) = some (r1, r2, r3) := H
 have A3 := Aside0.mk A30
 clear A30
 replace H := Option.bind_eq_some_iff.mp H
 obtain ⟨⟨t719, t720, t721⟩, A40, H⟩ := H
 replace H : ((macadamref00_Reach.f 1 2).bind fun bt722 => ((macadamlaw04_mile.f bt722.1 bt722.2 1).bind fun bt724 => ((macadamref00_Just.f 2).bind fun bt727 => ((macadamlaw04_mile.f bt727.1 bt727.2 2).bind fun bt729 => ((macadamref00_Reach.f 1 2).bind fun bt735 => ((macadamlaw04_crew.f 0 1 bt735.1 bt735.2).bind fun bt737 => ((macadamref00_Just.f 2).bind fun bt741 => ((macadamlaw04_crew.f 1 a1 bt741.1 bt741.2).bind fun bt743 => (some ((([(⟨(⟨t719, t720⟩ : S40), t721⟩ : S66), (⟨(⟨bt724.1, bt724.2.1⟩ : S40), bt724.2.2⟩ : S66), (⟨(⟨bt729.1, bt729.2.1⟩ : S40), bt729.2.2⟩ : S66)] : List (S66))), (([(⟨bt737.1, bt737.2.1, (⟨bt737.2.2.1, bt737.2.2.2⟩ : S40)⟩ : S63), (⟨bt743.1, bt743.2.1, (⟨bt743.2.2.1, bt743.2.2.2⟩ : S40)⟩ : S63)] : List (S63))), a0)))))))))) = some (r1, r2, r3) := H
 have A4 := Aside0.mk A40
 clear A40
 replace H := Option.bind_eq_some_iff.mp H
 obtain ⟨⟨t722, t723⟩, A50, H⟩ := H
 replace H : ((macadamlaw04_mile.f t722 t723 1).bind fun bt724 => ((macadamref00_Just.f 2).bind fun bt727 => ((macadamlaw04_mile.f bt727.1 bt727.2 2).bind fun bt729 => ((macadamref00_Reach.f 1 2).bind fun bt735 => ((macadamlaw04_crew.f 0 1 bt735.1 bt735.2).bind fun bt737 => ((macadamref00_Just.f 2).bind fun bt741 => ((macadamlaw04_crew.f 1 a1 bt741.1 bt741.2).bind fun bt743 => (some ((([(⟨(⟨t719, t720⟩ : S40), t721⟩ : S66), (⟨(⟨bt724.1, bt724.2.1⟩ : S40), bt724.2.2⟩ : S66), (⟨(⟨bt729.1, bt729.2.1⟩ : S40), bt729.2.2⟩ : S66)] : List (S66))), (([(⟨bt737.1, bt737.2.1, (⟨bt737.2.2.1, bt737.2.2.2⟩ : S40)⟩ : S63), (⟨bt743.1, bt743.2.1, (⟨bt743.2.2.1, bt743.2.2.2⟩ : S40)⟩ : S63)] : List (S63))), a0))))))))) = some (r1, r2, r3) := H
 have A5 := Aside0.mk A50
 clear A50
 replace H := Option.bind_eq_some_iff.mp H
 obtain ⟨⟨t724, t725, t726⟩, A60, H⟩ := H
 replace H : ((macadamref00_Just.f 2).bind fun bt727 => ((macadamlaw04_mile.f bt727.1 bt727.2 2).bind fun bt729 => ((macadamref00_Reach.f 1 2).bind fun bt735 => ((macadamlaw04_crew.f 0 1 bt735.1 bt735.2).bind fun bt737 => ((macadamref00_Just.f 2).bind fun bt741 => ((macadamlaw04_crew.f 1 a1 bt741.1 bt741.2).bind fun bt743 => (some ((([(⟨(⟨t719, t720⟩ : S40), t721⟩ : S66), (⟨(⟨t724, t725⟩ : S40), t726⟩ : S66), (⟨(⟨bt729.1, bt729.2.1⟩ : S40), bt729.2.2⟩ : S66)] : List (S66))), (([(⟨bt737.1, bt737.2.1, (⟨bt737.2.2.1, bt737.2.2.2⟩ : S40)⟩ : S63), (⟨bt743.1, bt743.2.1, (⟨bt743.2.2.1, bt743.2.2.2⟩ : S40)⟩ : S63)] : List (S63))), a0)))))))) = some (r1, r2, r3) := H
 have A6 := Aside0.mk A60
 clear A60
 replace H := Option.bind_eq_some_iff.mp H
 obtain ⟨⟨t727, t728⟩, A70, H⟩ := H
 replace H : ((macadamlaw04_mile.f t727 t728 2).bind fun bt729 => ((macadamref00_Reach.f 1 2).bind fun bt735 => ((macadamlaw04_crew.f 0 1 bt735.1 bt735.2).bind fun bt737 => ((macadamref00_Just.f 2).bind fun bt741 => ((macadamlaw04_crew.f 1 a1 bt741.1 bt741.2).bind fun bt743 => (some ((([(⟨(⟨t719, t720⟩ : S40), t721⟩ : S66), (⟨(⟨t724, t725⟩ : S40), t726⟩ : S66), (⟨(⟨bt729.1, bt729.2.1⟩ : S40), bt729.2.2⟩ : S66)] : List (S66))), (([(⟨bt737.1, bt737.2.1, (⟨bt737.2.2.1, bt737.2.2.2⟩ : S40)⟩ : S63), (⟨bt743.1, bt743.2.1, (⟨bt743.2.2.1, bt743.2.2.2⟩ : S40)⟩ : S63)] : List (S63))), a0))))))) = some (r1, r2, r3) := H
 have A7 := Aside0.mk A70
 clear A70
 replace H := Option.bind_eq_some_iff.mp H
 obtain ⟨⟨t729, t730, t731⟩, A80, H⟩ := H
 replace H : ((macadamref00_Reach.f 1 2).bind fun bt735 => ((macadamlaw04_crew.f 0 1 bt735.1 bt735.2).bind fun bt737 => ((macadamref00_Just.f 2).bind fun bt741 => ((macadamlaw04_crew.f 1 a1 bt741.1 bt741.2).bind fun bt743 => (some ((([(⟨(⟨t719, t720⟩ : S40), t721⟩ : S66), (⟨(⟨t724, t725⟩ : S40), t726⟩ : S66), (⟨(⟨t729, t730⟩ : S40), t731⟩ : S66)] : List (S66))), (([(⟨bt737.1, bt737.2.1, (⟨bt737.2.2.1, bt737.2.2.2⟩ : S40)⟩ : S63), (⟨bt743.1, bt743.2.1, (⟨bt743.2.2.1, bt743.2.2.2⟩ : S40)⟩ : S63)] : List (S63))), a0)))))) = some (r1, r2, r3) := H
 have A8 := Aside0.mk A80
 clear A80
 obtain ⟨y732, hy732⟩ : ∃ y_ : List (S66), y_ = (([(⟨(⟨t719, t720⟩ : S40), t721⟩ : S66), (⟨(⟨t724, t725⟩ : S40), t726⟩ : S66), (⟨(⟨t729, t730⟩ : S40), t731⟩ : S66)] : List (S66))) := ⟨_, rfl⟩
 replace H : ((macadamref00_Reach.f 1 2).bind fun bt735 => ((macadamlaw04_crew.f 0 1 bt735.1 bt735.2).bind fun bt737 => ((macadamref00_Just.f 2).bind fun bt741 => ((macadamlaw04_crew.f 1 a1 bt741.1 bt741.2).bind fun bt743 => (some (y732, (([(⟨bt737.1, bt737.2.1, (⟨bt737.2.2.1, bt737.2.2.2⟩ : S40)⟩ : S63), (⟨bt743.1, bt743.2.1, (⟨bt743.2.2.1, bt743.2.2.2⟩ : S40)⟩ : S63)] : List (S63))), a0)))))) = some (r1, r2, r3) := by first | (rw [hy732]; with_reducible exact H) | (have H2_ := (Option.bind_some _ _).symm.trans H; rw [hy732]; with_reducible exact H2_) | (have H2_ := (Option.bind_some _ _).symm.trans H; with_reducible exact H2_) | with_reducible exact H | (rw [hy732]; exact H) | exact H
 have Ny732 := Aside0.mk hy732
 clear hy732
 replace H := Option.bind_eq_some_iff.mp H
 obtain ⟨⟨t735, t736⟩, A90, H⟩ := H
 replace H : ((macadamlaw04_crew.f 0 1 t735 t736).bind fun bt737 => ((macadamref00_Just.f 2).bind fun bt741 => ((macadamlaw04_crew.f 1 a1 bt741.1 bt741.2).bind fun bt743 => (some (y732, (([(⟨bt737.1, bt737.2.1, (⟨bt737.2.2.1, bt737.2.2.2⟩ : S40)⟩ : S63), (⟨bt743.1, bt743.2.1, (⟨bt743.2.2.1, bt743.2.2.2⟩ : S40)⟩ : S63)] : List (S63))), a0))))) = some (r1, r2, r3) := H
 have A9 := Aside0.mk A90
 clear A90
 replace H := Option.bind_eq_some_iff.mp H
 obtain ⟨⟨t737, t738, t739, t740⟩, A100, H⟩ := H
 replace H : ((macadamref00_Just.f 2).bind fun bt741 => ((macadamlaw04_crew.f 1 a1 bt741.1 bt741.2).bind fun bt743 => (some (y732, (([(⟨t737, t738, (⟨t739, t740⟩ : S40)⟩ : S63), (⟨bt743.1, bt743.2.1, (⟨bt743.2.2.1, bt743.2.2.2⟩ : S40)⟩ : S63)] : List (S63))), a0)))) = some (r1, r2, r3) := H
 have A10 := Aside0.mk A100
 clear A100
 replace H := Option.bind_eq_some_iff.mp H
 obtain ⟨⟨t741, t742⟩, A110, H⟩ := H
 replace H : ((macadamlaw04_crew.f 1 a1 t741 t742).bind fun bt743 => (some (y732, (([(⟨t737, t738, (⟨t739, t740⟩ : S40)⟩ : S63), (⟨bt743.1, bt743.2.1, (⟨bt743.2.2.1, bt743.2.2.2⟩ : S40)⟩ : S63)] : List (S63))), a0))) = some (r1, r2, r3) := H
 have A11 := Aside0.mk A110
 clear A110
 replace H := Option.bind_eq_some_iff.mp H
 obtain ⟨⟨t743, t744, t745, t746⟩, A120, H⟩ := H
 replace H : (some (y732, (([(⟨t737, t738, (⟨t739, t740⟩ : S40)⟩ : S63), (⟨t743, t744, (⟨t745, t746⟩ : S40)⟩ : S63)] : List (S63))), a0)) = some (r1, r2, r3) := H
 have A12 := Aside0.mk A120
 clear A120
 obtain ⟨y747, hy747⟩ : ∃ y_ : List (S63), y_ = (([(⟨t737, t738, (⟨t739, t740⟩ : S40)⟩ : S63), (⟨t743, t744, (⟨t745, t746⟩ : S40)⟩ : S63)] : List (S63))) := ⟨_, rfl⟩
 replace H : (some (y732, y747, a0)) = some (r1, r2, r3) := by first | (rw [hy747]; with_reducible exact H) | (have H2_ := (Option.bind_some _ _).symm.trans H; rw [hy747]; with_reducible exact H2_) | (have H2_ := (Option.bind_some _ _).symm.trans H; with_reducible exact H2_) | with_reducible exact H | (rw [hy747]; exact H) | exact H
 have Ny747 := Aside0.mk hy747
 clear hy747
 simp only [Option.some.injEq, Prod.mk.injEq] at H
 obtain ⟨rfl, rfl, rfl⟩ := H
 go_enter Tryd.func57, Tryd.ntmps57
 go_wp2_with (first | ((with_reducible refine gate_dst (N := 4) rfl ?_); refine bx 4 #[.slice none 0 0, .slice none 0 0, .int .i64 0] 25 ?_; intro gb716 hg w13 hbox hb; have n0_ := Aside0.mk (below_step (bw HB) hb); have n1_ := Aside0.mk (hbox); have n2_ := Aside0.mk (bz (bw HB) hg); have n3_ := Aside0.mk (bz (bw HB) hg); clear HB; have HB := n0_; have BK716 := n1_; have GW716 := n2_; have GE716 := n3_; clear n0_ n1_ n2_ n3_; clear hb hbox hg) | ((with_reducible refine gate_callee (f := 50) rfl ?_); refine gL (some 5) Tryd.func50 #[.int .i64 2, .int .i64 3] ?_; (with_reducible refine (macadamref00_Reach.calls 2 3 t717 t718 _ A3.out).mono ?_); rintro e w14 ⟨rfl, hb⟩; refine ⟨_, rfl, ?_⟩; have n0_ := Aside0.mk (blk_below (bm BK716) hb); have n1_ := Aside0.mk (below_step (bw1 HB GE716) hb); clear BK716; clear HB; have BK716 := n0_; have HB := n1_; clear n0_ n1_; (try clear hb); (try clear hb2); (try clear hk); (try clear hi)) | ((with_reducible refine gate_callee (f := 88) rfl ?_); refine gL (some 6) Tryd.func88 #[.agg #[.int .i64 t717, .int .i64 t718], .int .i64 0] ?_; (with_reducible refine (macadamlaw04_mile.calls t717 t718 0 t719 t720 t721 _ A4.out).mono ?_); rintro e w15 ⟨rfl, hb⟩; refine ⟨_, rfl, ?_⟩; have n0_ := Aside0.mk (blk_below (bm BK716) hb); have n1_ := Aside0.mk (below_step (bw1 HB GE716) hb); clear BK716; clear HB; have BK716 := n0_; have HB := n1_; clear n0_ n1_; (try clear hb); (try clear hb2); (try clear hk); (try clear hi)) | ((with_reducible refine gate_callee (f := 50) rfl ?_); refine gL (some 7) Tryd.func50 #[.int .i64 1, .int .i64 2] ?_; (with_reducible refine (macadamref00_Reach.calls 1 2 t722 t723 _ A5.out).mono ?_); rintro e w16 ⟨rfl, hb⟩; refine ⟨_, rfl, ?_⟩; have n0_ := Aside0.mk (blk_below (bm BK716) hb); have n1_ := Aside0.mk (below_step (bw1 HB GE716) hb); clear BK716; clear HB; have BK716 := n0_; have HB := n1_; clear n0_ n1_; (try clear hb); (try clear hb2); (try clear hk); (try clear hi)) | ((with_reducible refine gate_callee (f := 88) rfl ?_); refine gL (some 8) Tryd.func88 #[.agg #[.int .i64 t722, .int .i64 t723], .int .i64 1] ?_; (with_reducible refine (macadamlaw04_mile.calls t722 t723 1 t724 t725 t726 _ A6.out).mono ?_); rintro e w17 ⟨rfl, hb⟩; refine ⟨_, rfl, ?_⟩; have n0_ := Aside0.mk (blk_below (bm BK716) hb); have n1_ := Aside0.mk (below_step (bw1 HB GE716) hb); clear BK716; clear HB; have BK716 := n0_; have HB := n1_; clear n0_ n1_; (try clear hb); (try clear hb2); (try clear hk); (try clear hi)) | ((with_reducible refine gate_callee (f := 58) rfl ?_); refine gL (some 9) Tryd.func58 #[.int .i64 2] ?_; (with_reducible refine (macadamref00_Just.calls 2 t727 t728 _ A7.out).mono ?_); rintro e w18 ⟨rfl, hb⟩; refine ⟨_, rfl, ?_⟩; have n0_ := Aside0.mk (blk_below (bm BK716) hb); have n1_ := Aside0.mk (below_step (bw1 HB GE716) hb); clear BK716; clear HB; have BK716 := n0_; have HB := n1_; clear n0_ n1_; (try clear hb); (try clear hb2); (try clear hk); (try clear hi)) | ((with_reducible refine gate_callee (f := 88) rfl ?_); refine gL (some 10) Tryd.func88 #[.agg #[.int .i64 t727, .int .i64 t728], .int .i64 2] ?_; (with_reducible refine (macadamlaw04_mile.calls t727 t728 2 t729 t730 t731 _ A8.out).mono ?_); rintro e w19 ⟨rfl, hb⟩; refine ⟨_, rfl, ?_⟩; have n0_ := Aside0.mk (blk_below (bm BK716) hb); have n1_ := Aside0.mk (below_step (bw1 HB GE716) hb); clear BK716; clear HB; have BK716 := n0_; have HB := n1_; clear n0_ n1_; (try clear hb); (try clear hb2); (try clear hk); (try clear hi)) | ((with_reducible refine gate_dst (N := 11) rfl ?_); refine Kd.R_lit k66 _ 66 ?hg (N := 11) ?hd (xs := ([(⟨(⟨t719, t720⟩ : S40), t721⟩ : S66), (⟨(⟨t724, t725⟩ : S40), t726⟩ : S66), (⟨(⟨t729, t730⟩ : S40), t731⟩ : S66)] : List (S66))) (inner := [.int .i64 t719, .int .i64 t720, .int .i64 t721, .int .i64 t724, .int .i64 t725, .int .i64 t726, .int .i64 t729, .int .i64 t730, .int .i64 t731]) (ok := fun _ => True) (okp := fun _ => True) ?hr ?hp (fun _ hk => hk) trivial (Below.refl _ _) (Nat.le_refl _) (by simp) ?_; (case hd => rfl); (case hg => rfl); (case hr => first | (go_simp; done) | (go_simp; rfl)); (case hp => exact (Reps.c3 (show Kd.M k66 _ _ _ (⟨(⟨t719, t720⟩ : S40), t721⟩ : S66) [.int .i64 t719, .int .i64 t720, .int .i64 t721] from (k66_mkM _ _ _ (⟨(⟨t719, t720⟩ : S40), t721⟩ : S66) )) (Reps.c3 (show Kd.M k66 _ _ _ (⟨(⟨t724, t725⟩ : S40), t726⟩ : S66) [.int .i64 t724, .int .i64 t725, .int .i64 t726] from (k66_mkM _ _ _ (⟨(⟨t724, t725⟩ : S40), t726⟩ : S66) )) (Reps.c3 (show Kd.M k66 _ _ _ (⟨(⟨t729, t730⟩ : S40), t731⟩ : S66) [.int .i64 t729, .int .i64 t730, .int .i64 t731] from (k66_mkM _ _ _ (⟨(⟨t729, t730⟩ : S40), t731⟩ : S66) )) (Reps.none _ _))))); intro v733 w20 ho21 hb hg_ hnew_; clear hg_ hnew_; (first | rw [← Ny732.out] at ho21 | (simp only [Int.reduceToNat] at ho21; rw [← Ny732.out] at ho21)); have n0_ := Aside0.mk (Kd.R_lower ho21 (below_size (bw1 HB GE716))); have n1_ := Aside0.mk (blk_below (bm BK716) hb); have n2_ := Aside0.mk (below_step (bw1 HB GE716) hb); clear BK716; clear HB; have HO734 := n0_; have BK716 := n1_; have HB := n2_; clear n0_ n1_ n2_; clear hb ho21) | ((with_reducible refine gate_callee (f := 50) rfl ?_); refine gL (some 12) Tryd.func50 #[.int .i64 1, .int .i64 2] ?_; (with_reducible refine (macadamref00_Reach.calls 1 2 t735 t736 _ A9.out).mono ?_); rintro e w22 ⟨rfl, hb⟩; refine ⟨_, rfl, ?_⟩; have n0_ := Aside0.mk (Kd.R_below (by (with_reducible repeat (first | apply Kd.R_alloc | apply Kd.R_drewN | apply Kd.R_drew)); exact HO734.out) hb); have n1_ := Aside0.mk (blk_below (bm BK716) hb); have n2_ := Aside0.mk (below_step (bw1 HB GE716) hb); clear HO734; clear BK716; clear HB; have HO734 := n0_; have BK716 := n1_; have HB := n2_; clear n0_ n1_ n2_; (try clear hb); (try clear hb2); (try clear hk); (try clear hi)) | ((with_reducible refine gate_callee (f := 89) rfl ?_); refine gL (some 13) Tryd.func89 #[.int .i64 0, .int .i64 1, .agg #[.int .i64 t735, .int .i64 t736]] ?_; (with_reducible refine (macadamlaw04_crew.calls 0 1 t735 t736 t737 t738 t739 t740 _ A10.out).mono ?_); rintro e w23 ⟨rfl, hb⟩; refine ⟨_, rfl, ?_⟩; have n0_ := Aside0.mk (Kd.R_below (by (with_reducible repeat (first | apply Kd.R_alloc | apply Kd.R_drewN | apply Kd.R_drew)); exact HO734.out) hb); have n1_ := Aside0.mk (blk_below (bm BK716) hb); have n2_ := Aside0.mk (below_step (bw1 HB GE716) hb); clear HO734; clear BK716; clear HB; have HO734 := n0_; have BK716 := n1_; have HB := n2_; clear n0_ n1_ n2_; (try clear hb); (try clear hb2); (try clear hk); (try clear hi)) | ((with_reducible refine gate_callee (f := 58) rfl ?_); refine gL (some 15) Tryd.func58 #[.int .i64 2] ?_; (with_reducible refine (macadamref00_Just.calls 2 t741 t742 _ A11.out).mono ?_); rintro e w24 ⟨rfl, hb⟩; refine ⟨_, rfl, ?_⟩; have n0_ := Aside0.mk (Kd.R_below (by (with_reducible repeat (first | apply Kd.R_alloc | apply Kd.R_drewN | apply Kd.R_drew)); exact HO734.out) hb); have n1_ := Aside0.mk (blk_below (bm BK716) hb); have n2_ := Aside0.mk (below_step (bw1 HB GE716) hb); clear HO734; clear BK716; clear HB; have HO734 := n0_; have BK716 := n1_; have HB := n2_; clear n0_ n1_ n2_; (try clear hb); (try clear hb2); (try clear hk); (try clear hi)) | ((with_reducible refine gate_callee (f := 89) rfl ?_); refine gL (some 16) Tryd.func89 #[.int .i64 1, .int .i64 a1, .agg #[.int .i64 t741, .int .i64 t742]] ?_; (with_reducible refine (macadamlaw04_crew.calls 1 a1 t741 t742 t743 t744 t745 t746 _ A12.out).mono ?_); rintro e w25 ⟨rfl, hb⟩; refine ⟨_, rfl, ?_⟩; have n0_ := Aside0.mk (Kd.R_below (by (with_reducible repeat (first | apply Kd.R_alloc | apply Kd.R_drewN | apply Kd.R_drew)); exact HO734.out) hb); have n1_ := Aside0.mk (blk_below (bm BK716) hb); have n2_ := Aside0.mk (below_step (bw1 HB GE716) hb); clear HO734; clear BK716; clear HB; have HO734 := n0_; have BK716 := n1_; have HB := n2_; clear n0_ n1_ n2_; (try clear hb); (try clear hb2); (try clear hk); (try clear hi)) | ((with_reducible refine gate_dst (N := 17) rfl ?_); refine Kd.R_lit k63 _ 63 ?hg (N := 17) ?hd (xs := ([(⟨t737, t738, (⟨t739, t740⟩ : S40)⟩ : S63), (⟨t743, t744, (⟨t745, t746⟩ : S40)⟩ : S63)] : List (S63))) (inner := [.int .i64 t737, .int .i64 t738, .int .i64 t739, .int .i64 t740, .int .i64 t743, .int .i64 t744, .int .i64 t745, .int .i64 t746]) (ok := fun _ => True) (okp := fun _ => True) ?hr ?hp (fun _ hk => hk) trivial (Below.refl _ _) (Nat.le_refl _) (by simp) ?_; (case hd => rfl); (case hg => rfl); (case hr => first | (go_simp; done) | (go_simp; rfl)); (case hp => exact (Reps.c4 (show Kd.M k63 _ _ _ (⟨t737, t738, (⟨t739, t740⟩ : S40)⟩ : S63) [.int .i64 t737, .int .i64 t738, .int .i64 t739, .int .i64 t740] from (k63_mkM _ _ _ (⟨t737, t738, (⟨t739, t740⟩ : S40)⟩ : S63) )) (Reps.c4 (show Kd.M k63 _ _ _ (⟨t743, t744, (⟨t745, t746⟩ : S40)⟩ : S63) [.int .i64 t743, .int .i64 t744, .int .i64 t745, .int .i64 t746] from (k63_mkM _ _ _ (⟨t743, t744, (⟨t745, t746⟩ : S40)⟩ : S63) )) (Reps.none _ _)))); intro v748 w26 ho27 hb hg_ hnew_; clear hg_ hnew_; (first | rw [← Ny747.out] at ho27 | (simp only [Int.reduceToNat] at ho27; rw [← Ny747.out] at ho27)); have n0_ := Aside0.mk (Kd.R_below (by (with_reducible repeat (first | apply Kd.R_alloc | apply Kd.R_drewN | apply Kd.R_drew)); exact HO734.out) hb); have n1_ := Aside0.mk (Kd.R_lower ho27 (below_size (bw1 HB GE716))); have n2_ := Aside0.mk (blk_below (bm BK716) hb); have n3_ := Aside0.mk (below_step (bw1 HB GE716) hb); clear HO734; clear BK716; clear HB; have HO734 := n0_; have HO749 := n1_; have BK716 := n2_; have HB := n3_; clear n0_ n1_ n2_ n3_; clear hb ho27; obtain ⟨Ao28, co28, eo28⟩ := Kd.R_slice HO749.out; subst eo28; obtain ⟨Ao29, co29, eo29⟩ := Kd.R_slice HO734.out; subst eo29; obtain ⟨hcz30_0, hcz30_1, hcz30_2, hfz30_0, hfz30_1, hfz30_2⟩ := b3 BK716))
 refine bodyPost_ret (results_cell_row rfl _ _ gb716 25 #[.slice Ao29 y732.length co29, .slice Ao28 y747.length co28, .int .i64 a0] (0, 0) _ rfl (by (with_reducible repeat (first | refine blk_drewN ?_ _ | refine blk_drew ?_ | refine blk_alloc ?_ _)); refine blk_put (cs := #[.slice Ao29 y732.length co29, .slice Ao28 y747.length co28, .int .i64 0]) ?_ 2 _ rfl; (with_reducible repeat (first | refine blk_drewN ?_ _ | refine blk_drew ?_ | refine blk_alloc ?_ _)); refine blk_put (cs := #[.slice Ao29 y732.length co29, .slice none 0 0, .int .i64 0]) ?_ 1 _ rfl; (with_reducible repeat (first | refine blk_drewN ?_ _ | refine blk_drew ?_ | refine blk_alloc ?_ _)); refine blk_put (cs := #[.slice none 0 0, .slice none 0 0, .int .i64 0]) ?_ 0 _ rfl; (with_reducible repeat (first | refine blk_drewN ?_ _ | refine blk_drew ?_ | refine blk_alloc ?_ _)); exact BK716.out) Tryd.underlying25 rfl (by kernel_rfl)) rfl ?_
 exact ⟨_, _, by first | rfl | (simp [errW_none, errW_some] <;> rfl) | (simp [*, errW_none, errW_some] <;> rfl), by (with_reducible repeat (first | apply Kd.R_alloc | apply Kd.R_drewN | apply Kd.R_drew)); exact Kd.R_mono (Kd.R_far (p := ⟨gb716, 2, none⟩) (Kd.R_far (p := ⟨gb716, 1, none⟩) (Kd.R_far (p := ⟨gb716, 0, none⟩) (Kd.R_types HO734.out BK716.out (by decide)) (fun _ hk => hk.2) (.slice Ao29 y732.length co29)) (fun _ hk => hk.2) (.slice Ao28 y747.length co28)) (fun _ hk => hk.2) (.int .i64 a0)) (fun _ hk => trivial), by (with_reducible repeat (first | apply Kd.R_alloc | apply Kd.R_drewN | apply Kd.R_drew)); exact Kd.R_mono (Kd.R_far (p := ⟨gb716, 2, none⟩) (Kd.R_far (p := ⟨gb716, 1, none⟩) (Kd.R_far (p := ⟨gb716, 0, none⟩) (Kd.R_types HO749.out BK716.out (by decide)) (fun _ hk => hk.2) (.slice Ao29 y732.length co29)) (fun _ hk => hk.2) (.slice Ao28 y747.length co28)) (fun _ hk => hk.2) (.int .i64 a0)) (fun _ hk => trivial), bw1 HB GE716⟩
def macadamlaw04_own.f  : Option ((List (S66)) × (List (S63)) × Int) := (macadamlaw04_book.f 4 2).bind fun bt751 => (some (bt751.1, bt751.2.1, bt751.2.2))
set_option maxHeartbeats 8000000 in
set_option maxRecDepth 100000 in
theorem macadamlaw04_own.calls  (r1 : List (S66)) (r2 : List (S63)) (r3 : Int) (w : World) (h : macadamlaw04_own.f  = some (r1, r2, r3)) :
  Calls Tryd.prog 56 #[] w fun e w' => ∃ v0_ v1_ : Value, e = .returned (.agg #[v0_, v1_, .int .i64 r3]) ∧ Kd.R k66 66 w' w.heap.size (fun _ => True) v0_ r1 ∧ Kd.R k63 63 w' w.heap.size (fun _ => True) v1_ r2 ∧ Below w.heap.size w w' := by
 have hu25 := Tryd.underlying25
 have HB := Aside0.mk (Below.refl w.heap.size w)
 have H : ((macadamlaw04_book.f 4 2).bind fun bt751 => (some (bt751.1, bt751.2.1, bt751.2.2))) = some (r1, r2, r3) := h
 clear h
 replace H := Option.bind_eq_some_iff.mp H
 obtain ⟨⟨t751, t754, t757⟩, A10, H⟩ := H
 replace H : (some (t751, t754, t757)) = some (r1, r2, r3) := H
 have A1 := Aside0.mk A10
 clear A10
 simp only [Option.some.injEq, Prod.mk.injEq] at H
 obtain ⟨rfl, rfl, rfl⟩ := H
 go_enter Tryd.func56, Tryd.ntmps56
 go_wp2_with (first | ((with_reducible refine gate_dst (N := 0) rfl ?_); refine bx 0 #[.slice none 0 0, .slice none 0 0, .int .i64 0] 25 ?_; intro gb750 hg w2 hbox hb; have n0_ := Aside0.mk (below_step (bw HB) hb); have n1_ := Aside0.mk (hbox); have n2_ := Aside0.mk (bz (bw HB) hg); have n3_ := Aside0.mk (bz (bw HB) hg); clear HB; have HB := n0_; have BK750 := n1_; have GW750 := n2_; have GE750 := n3_; clear n0_ n1_ n2_ n3_; clear hb hbox hg) | ((with_reducible refine gate_callee (f := 57) rfl ?_); refine gL (some 1) Tryd.func57 #[.int .i64 4, .int .i64 2] ?_; (with_reducible refine (macadamlaw04_book.calls 4 2 t751 t754 t757 _ A1.out).mono ?_); rintro e w3 ⟨v752, v755, rfl, ho0, ho1, hb⟩; refine ⟨_, rfl, ?_⟩; have n0_ := Aside0.mk (Kd.R_lower ho0 (below_size (bw1 HB GE750))); have n1_ := Aside0.mk (Kd.R_lower ho1 (below_size (bw1 HB GE750))); have n2_ := Aside0.mk (blk_below (bm BK750) hb); have n3_ := Aside0.mk (below_step (bw1 HB GE750) hb); clear BK750; clear HB; have HO753 := n0_; have HO756 := n1_; have BK750 := n2_; have HB := n3_; clear n0_ n1_ n2_ n3_; (try clear hb); (try clear hb2); (try clear hk); (try clear hi); (try clear ho0); (try clear ho1); obtain ⟨Ao4, co4, eo4⟩ := Kd.R_slice HO753.out; subst eo4; obtain ⟨hcz5_0, hcz5_1, hcz5_2, hfz5_0, hfz5_1, hfz5_2⟩ := b3 BK750; obtain ⟨Ao6, co6, eo6⟩ := Kd.R_slice HO756.out; subst eo6))
 refine bodyPost_ret (results_cell_row rfl _ _ gb750 25 #[.slice Ao4 t751.length co4, .slice Ao6 t754.length co6, .int .i64 t757] (0, 0) _ rfl (by (with_reducible repeat (first | refine blk_drewN ?_ _ | refine blk_drew ?_ | refine blk_alloc ?_ _)); refine blk_put (cs := #[.slice Ao4 t751.length co4, .slice Ao6 t754.length co6, .int .i64 0]) ?_ 2 _ rfl; (with_reducible repeat (first | refine blk_drewN ?_ _ | refine blk_drew ?_ | refine blk_alloc ?_ _)); refine blk_put (cs := #[.slice Ao4 t751.length co4, .slice none 0 0, .int .i64 0]) ?_ 1 _ rfl; (with_reducible repeat (first | refine blk_drewN ?_ _ | refine blk_drew ?_ | refine blk_alloc ?_ _)); refine blk_put (cs := #[.slice none 0 0, .slice none 0 0, .int .i64 0]) ?_ 0 _ rfl; (with_reducible repeat (first | refine blk_drewN ?_ _ | refine blk_drew ?_ | refine blk_alloc ?_ _)); exact BK750.out) Tryd.underlying25 rfl (by kernel_rfl)) rfl ?_
 exact ⟨_, _, by first | rfl | (simp [errW_none, errW_some] <;> rfl) | (simp [*, errW_none, errW_some] <;> rfl), by (with_reducible repeat (first | apply Kd.R_alloc | apply Kd.R_drewN | apply Kd.R_drew)); exact Kd.R_mono (Kd.R_far (p := ⟨gb750, 2, none⟩) (Kd.R_far (p := ⟨gb750, 1, none⟩) (Kd.R_far (p := ⟨gb750, 0, none⟩) (Kd.R_types HO753.out BK750.out (by decide)) (fun _ hk => hk.2) (.slice Ao4 t751.length co4)) (fun _ hk => hk.2) (.slice Ao6 t754.length co6)) (fun _ hk => hk.2) (.int .i64 t757)) (fun _ hk => trivial), by (with_reducible repeat (first | apply Kd.R_alloc | apply Kd.R_drewN | apply Kd.R_drew)); exact Kd.R_mono (Kd.R_far (p := ⟨gb750, 2, none⟩) (Kd.R_far (p := ⟨gb750, 1, none⟩) (Kd.R_far (p := ⟨gb750, 0, none⟩) (Kd.R_types HO756.out BK750.out (by decide)) (fun _ hk => hk.2) (.slice Ao4 t751.length co4)) (fun _ hk => hk.2) (.slice Ao6 t754.length co6)) (fun _ hk => hk.2) (.int .i64 t757)) (fun _ hk => trivial), bw1 HB GE750⟩
def macadamlaw04_short.f  : Option ((List (S66)) × (List (S63)) × Int) := (macadamlaw04_book.f 3 2).bind fun bt759 => (some (bt759.1, bt759.2.1, bt759.2.2))
set_option maxHeartbeats 8000000 in
set_option maxRecDepth 100000 in
theorem macadamlaw04_short.calls  (r1 : List (S66)) (r2 : List (S63)) (r3 : Int) (w : World) (h : macadamlaw04_short.f  = some (r1, r2, r3)) :
  Calls Tryd.prog 59 #[] w fun e w' => ∃ v0_ v1_ : Value, e = .returned (.agg #[v0_, v1_, .int .i64 r3]) ∧ Kd.R k66 66 w' w.heap.size (fun _ => True) v0_ r1 ∧ Kd.R k63 63 w' w.heap.size (fun _ => True) v1_ r2 ∧ Below w.heap.size w w' := by
 have hu25 := Tryd.underlying25
 have HB := Aside0.mk (Below.refl w.heap.size w)
 have H : ((macadamlaw04_book.f 3 2).bind fun bt759 => (some (bt759.1, bt759.2.1, bt759.2.2))) = some (r1, r2, r3) := h
 clear h
 replace H := Option.bind_eq_some_iff.mp H
 obtain ⟨⟨t759, t762, t765⟩, A10, H⟩ := H
 replace H : (some (t759, t762, t765)) = some (r1, r2, r3) := H
 have A1 := Aside0.mk A10
 clear A10
 simp only [Option.some.injEq, Prod.mk.injEq] at H
 obtain ⟨rfl, rfl, rfl⟩ := H
 go_enter Tryd.func59, Tryd.ntmps59
 go_wp2_with (first | ((with_reducible refine gate_dst (N := 0) rfl ?_); refine bx 0 #[.slice none 0 0, .slice none 0 0, .int .i64 0] 25 ?_; intro gb758 hg w2 hbox hb; have n0_ := Aside0.mk (below_step (bw HB) hb); have n1_ := Aside0.mk (hbox); have n2_ := Aside0.mk (bz (bw HB) hg); have n3_ := Aside0.mk (bz (bw HB) hg); clear HB; have HB := n0_; have BK758 := n1_; have GW758 := n2_; have GE758 := n3_; clear n0_ n1_ n2_ n3_; clear hb hbox hg) | ((with_reducible refine gate_callee (f := 57) rfl ?_); refine gL (some 1) Tryd.func57 #[.int .i64 3, .int .i64 2] ?_; (with_reducible refine (macadamlaw04_book.calls 3 2 t759 t762 t765 _ A1.out).mono ?_); rintro e w3 ⟨v760, v763, rfl, ho0, ho1, hb⟩; refine ⟨_, rfl, ?_⟩; have n0_ := Aside0.mk (Kd.R_lower ho0 (below_size (bw1 HB GE758))); have n1_ := Aside0.mk (Kd.R_lower ho1 (below_size (bw1 HB GE758))); have n2_ := Aside0.mk (blk_below (bm BK758) hb); have n3_ := Aside0.mk (below_step (bw1 HB GE758) hb); clear BK758; clear HB; have HO761 := n0_; have HO764 := n1_; have BK758 := n2_; have HB := n3_; clear n0_ n1_ n2_ n3_; (try clear hb); (try clear hb2); (try clear hk); (try clear hi); (try clear ho0); (try clear ho1); obtain ⟨Ao4, co4, eo4⟩ := Kd.R_slice HO761.out; subst eo4; obtain ⟨hcz5_0, hcz5_1, hcz5_2, hfz5_0, hfz5_1, hfz5_2⟩ := b3 BK758; obtain ⟨Ao6, co6, eo6⟩ := Kd.R_slice HO764.out; subst eo6))
 refine bodyPost_ret (results_cell_row rfl _ _ gb758 25 #[.slice Ao4 t759.length co4, .slice Ao6 t762.length co6, .int .i64 t765] (0, 0) _ rfl (by (with_reducible repeat (first | refine blk_drewN ?_ _ | refine blk_drew ?_ | refine blk_alloc ?_ _)); refine blk_put (cs := #[.slice Ao4 t759.length co4, .slice Ao6 t762.length co6, .int .i64 0]) ?_ 2 _ rfl; (with_reducible repeat (first | refine blk_drewN ?_ _ | refine blk_drew ?_ | refine blk_alloc ?_ _)); refine blk_put (cs := #[.slice Ao4 t759.length co4, .slice none 0 0, .int .i64 0]) ?_ 1 _ rfl; (with_reducible repeat (first | refine blk_drewN ?_ _ | refine blk_drew ?_ | refine blk_alloc ?_ _)); refine blk_put (cs := #[.slice none 0 0, .slice none 0 0, .int .i64 0]) ?_ 0 _ rfl; (with_reducible repeat (first | refine blk_drewN ?_ _ | refine blk_drew ?_ | refine blk_alloc ?_ _)); exact BK758.out) Tryd.underlying25 rfl (by kernel_rfl)) rfl ?_
 exact ⟨_, _, by first | rfl | (simp [errW_none, errW_some] <;> rfl) | (simp [*, errW_none, errW_some] <;> rfl), by (with_reducible repeat (first | apply Kd.R_alloc | apply Kd.R_drewN | apply Kd.R_drew)); exact Kd.R_mono (Kd.R_far (p := ⟨gb758, 2, none⟩) (Kd.R_far (p := ⟨gb758, 1, none⟩) (Kd.R_far (p := ⟨gb758, 0, none⟩) (Kd.R_types HO761.out BK758.out (by decide)) (fun _ hk => hk.2) (.slice Ao4 t759.length co4)) (fun _ hk => hk.2) (.slice Ao6 t762.length co6)) (fun _ hk => hk.2) (.int .i64 t765)) (fun _ hk => trivial), by (with_reducible repeat (first | apply Kd.R_alloc | apply Kd.R_drewN | apply Kd.R_drew)); exact Kd.R_mono (Kd.R_far (p := ⟨gb758, 2, none⟩) (Kd.R_far (p := ⟨gb758, 1, none⟩) (Kd.R_far (p := ⟨gb758, 0, none⟩) (Kd.R_types HO764.out BK758.out (by decide)) (fun _ hk => hk.2) (.slice Ao4 t759.length co4)) (fun _ hk => hk.2) (.slice Ao6 t762.length co6)) (fun _ hk => hk.2) (.int .i64 t765)) (fun _ hk => trivial), bw1 HB GE758⟩
def macadamlaw04_far.f  : Option ((List (S66)) × (List (S63)) × Int) := (macadamlaw04_book.f 4 1).bind fun bt767 => (some (bt767.1, bt767.2.1, bt767.2.2))
set_option maxHeartbeats 8000000 in
set_option maxRecDepth 100000 in
theorem macadamlaw04_far.calls  (r1 : List (S66)) (r2 : List (S63)) (r3 : Int) (w : World) (h : macadamlaw04_far.f  = some (r1, r2, r3)) :
  Calls Tryd.prog 60 #[] w fun e w' => ∃ v0_ v1_ : Value, e = .returned (.agg #[v0_, v1_, .int .i64 r3]) ∧ Kd.R k66 66 w' w.heap.size (fun _ => True) v0_ r1 ∧ Kd.R k63 63 w' w.heap.size (fun _ => True) v1_ r2 ∧ Below w.heap.size w w' := by
 have hu25 := Tryd.underlying25
 have HB := Aside0.mk (Below.refl w.heap.size w)
 have H : ((macadamlaw04_book.f 4 1).bind fun bt767 => (some (bt767.1, bt767.2.1, bt767.2.2))) = some (r1, r2, r3) := h
 clear h
 replace H := Option.bind_eq_some_iff.mp H
 obtain ⟨⟨t767, t770, t773⟩, A10, H⟩ := H
 replace H : (some (t767, t770, t773)) = some (r1, r2, r3) := H
 have A1 := Aside0.mk A10
 clear A10
 simp only [Option.some.injEq, Prod.mk.injEq] at H
 obtain ⟨rfl, rfl, rfl⟩ := H
 go_enter Tryd.func60, Tryd.ntmps60
 go_wp2_with (first | ((with_reducible refine gate_dst (N := 0) rfl ?_); refine bx 0 #[.slice none 0 0, .slice none 0 0, .int .i64 0] 25 ?_; intro gb766 hg w2 hbox hb; have n0_ := Aside0.mk (below_step (bw HB) hb); have n1_ := Aside0.mk (hbox); have n2_ := Aside0.mk (bz (bw HB) hg); have n3_ := Aside0.mk (bz (bw HB) hg); clear HB; have HB := n0_; have BK766 := n1_; have GW766 := n2_; have GE766 := n3_; clear n0_ n1_ n2_ n3_; clear hb hbox hg) | ((with_reducible refine gate_callee (f := 57) rfl ?_); refine gL (some 1) Tryd.func57 #[.int .i64 4, .int .i64 1] ?_; (with_reducible refine (macadamlaw04_book.calls 4 1 t767 t770 t773 _ A1.out).mono ?_); rintro e w3 ⟨v768, v771, rfl, ho0, ho1, hb⟩; refine ⟨_, rfl, ?_⟩; have n0_ := Aside0.mk (Kd.R_lower ho0 (below_size (bw1 HB GE766))); have n1_ := Aside0.mk (Kd.R_lower ho1 (below_size (bw1 HB GE766))); have n2_ := Aside0.mk (blk_below (bm BK766) hb); have n3_ := Aside0.mk (below_step (bw1 HB GE766) hb); clear BK766; clear HB; have HO769 := n0_; have HO772 := n1_; have BK766 := n2_; have HB := n3_; clear n0_ n1_ n2_ n3_; (try clear hb); (try clear hb2); (try clear hk); (try clear hi); (try clear ho0); (try clear ho1); obtain ⟨Ao4, co4, eo4⟩ := Kd.R_slice HO769.out; subst eo4; obtain ⟨hcz5_0, hcz5_1, hcz5_2, hfz5_0, hfz5_1, hfz5_2⟩ := b3 BK766; obtain ⟨Ao6, co6, eo6⟩ := Kd.R_slice HO772.out; subst eo6))
 refine bodyPost_ret (results_cell_row rfl _ _ gb766 25 #[.slice Ao4 t767.length co4, .slice Ao6 t770.length co6, .int .i64 t773] (0, 0) _ rfl (by (with_reducible repeat (first | refine blk_drewN ?_ _ | refine blk_drew ?_ | refine blk_alloc ?_ _)); refine blk_put (cs := #[.slice Ao4 t767.length co4, .slice Ao6 t770.length co6, .int .i64 0]) ?_ 2 _ rfl; (with_reducible repeat (first | refine blk_drewN ?_ _ | refine blk_drew ?_ | refine blk_alloc ?_ _)); refine blk_put (cs := #[.slice Ao4 t767.length co4, .slice none 0 0, .int .i64 0]) ?_ 1 _ rfl; (with_reducible repeat (first | refine blk_drewN ?_ _ | refine blk_drew ?_ | refine blk_alloc ?_ _)); refine blk_put (cs := #[.slice none 0 0, .slice none 0 0, .int .i64 0]) ?_ 0 _ rfl; (with_reducible repeat (first | refine blk_drewN ?_ _ | refine blk_drew ?_ | refine blk_alloc ?_ _)); exact BK766.out) Tryd.underlying25 rfl (by kernel_rfl)) rfl ?_
 exact ⟨_, _, by first | rfl | (simp [errW_none, errW_some] <;> rfl) | (simp [*, errW_none, errW_some] <;> rfl), by (with_reducible repeat (first | apply Kd.R_alloc | apply Kd.R_drewN | apply Kd.R_drew)); exact Kd.R_mono (Kd.R_far (p := ⟨gb766, 2, none⟩) (Kd.R_far (p := ⟨gb766, 1, none⟩) (Kd.R_far (p := ⟨gb766, 0, none⟩) (Kd.R_types HO769.out BK766.out (by decide)) (fun _ hk => hk.2) (.slice Ao4 t767.length co4)) (fun _ hk => hk.2) (.slice Ao6 t770.length co6)) (fun _ hk => hk.2) (.int .i64 t773)) (fun _ hk => trivial), by (with_reducible repeat (first | apply Kd.R_alloc | apply Kd.R_drewN | apply Kd.R_drew)); exact Kd.R_mono (Kd.R_far (p := ⟨gb766, 2, none⟩) (Kd.R_far (p := ⟨gb766, 1, none⟩) (Kd.R_far (p := ⟨gb766, 0, none⟩) (Kd.R_types HO772.out BK766.out (by decide)) (fun _ hk => hk.2) (.slice Ao4 t767.length co4)) (fun _ hk => hk.2) (.slice Ao6 t770.length co6)) (fun _ hk => hk.2) (.int .i64 t773)) (fun _ hk => trivial), bw1 HB GE766⟩
end Go.Proofs.YtikfghnkbgdbgaaDoor.Q
end
section
namespace Go.Proofs.YtikfghnkbgdbgaaDoor.Q
set_option linter.unusedSimpArgs false
set_option linter.unusedVariables false
open Go.RowKit Go.Proofs.YtikfghnkbgdbgaaDoorW.PrintWords Go.Proofs.YtikfghnkbgdbgaaDoorW.PrintLast Go.Proofs.YtikfghnkbgdbgaaDoorW.PrintMore
def ownM : List M := [⟨⟨2, 3⟩, 0⟩, ⟨⟨1, 2⟩, 1⟩, ⟨⟨2, 2⟩, 2⟩]
def ownG (tt : Int) : List G := [⟨0, 1, ⟨1, 2⟩⟩, ⟨1, tt, ⟨2, 2⟩⟩]
def bothP : List Wk := [⟨0, 0, 0⟩, ⟨0, 1, 2⟩]
def twoP : List Wk := [⟨0, 0, 0⟩, ⟨1, 0, 0⟩]
def planP : List Wk := [⟨0, 0, 0⟩, ⟨0, 1, 2⟩, ⟨1, 0, 0⟩, ⟨2, 0, 0⟩, ⟨3, 1, 1⟩]
def canL : List Int := [0, 2, 3]
def cloL : List Int := [0, 2]
def menL : List Int := [2]
def mosL : List Int := [0, 2]
def nonL : List Wk := []
set_option maxRecDepth 100000
theorem own_eq : macadamlaw04_own.f = some (ownM, ownG 2, 4) := by kernel_rfl
theorem short_eq : macadamlaw04_short.f = some (ownM, ownG 2, 3) := by kernel_rfl
theorem far_eq : macadamlaw04_far.f = some (ownM, ownG 1, 4) := by kernel_rfl
theorem sh_can : gang_Can.f ownM (ownG 2) 4 1 2 = some (canL, 0) := by kernel_rfl
theorem sh_may : gang_May.f ownM (ownG 2) 4 bothP = some (true, 0) := by kernel_rfl
theorem sh_closed : gang_Closed.f ownM (ownG 2) 4 bothP 0 = some (cloL, 0) := by kernel_rfl
theorem sh_done : gang_Done.f ownM (ownG 2) 4 twoP 0 = some (2, 4, 0) := by kernel_rfl
theorem sh_mended : gang_Mended.f ownM (ownG 2) 4 bothP = some (menL, 0) := by kernel_rfl
theorem sh_open : gang_Open.f ownM (ownG 2) 4 bothP = some (0, 0) := by kernel_rfl
theorem sh_plan : gang_Plan.f ownM (ownG 2) 4 = some (planP, 0) := by kernel_rfl
theorem sh_most : gang_Most.f ownM (ownG 2) 3 = some (mosL, 0) := by kernel_rfl
theorem sh_first : gang_First.f ownM (ownG 1) 4 = some (2, 0) := by kernel_rfl
theorem sh_noplan : gang_Plan.f ownM (ownG 2) 3 = some (nonL, 4) := by kernel_rfl
theorem lit2 (a b : Wk) (w : World) (base : Nat) (ok : Nat → Prop) : Reps (Kd.M k59 w base ok) 3 [a, b] [.int .i64 a.f0, .int .i64 a.f1, .int .i64 a.f2, .int .i64 b.f0, .int .i64 b.f1, .int .i64 b.f2] :=
  Reps.c3 (show Kd.M k59 _ _ _ a [.int .i64 a.f0, .int .i64 a.f1, .int .i64 a.f2] from (k59_mkM _ _ _ a)) (Reps.c3 (show Kd.M k59 _ _ _ b [.int .i64 b.f0, .int .i64 b.f1, .int .i64 b.f2] from (k59_mkM _ _ _ b)) (Reps.none _ _))
theorem list_of_step {P : Program} {ops : Array Oper} {o : Oper} {a : Act} {Q : Exit → Act → World → Prop} {rest : List Oper} {W : World} (h : if Region.wanted o (yielded ops a.tmps) = true then Oper.wp P o a W (wpList P ops Q rest) Q else wpList P ops Q rest (a.put o.dst undef) W) : wpList P ops Q (o :: rest) a W := by
  simp only [wpList]
  by_cases hw : Region.wanted o (yielded ops a.tmps) = true
  · rw [if_pos hw] at h ⊢; exact Or.inl h
  · rw [if_neg hw] at h ⊢; exact h
theorem lit5 (a b c d e : Wk) (w : World) (base : Nat) (ok : Nat → Prop) : Reps (Kd.M k59 w base ok) 3 [a, b, c, d, e] [.int .i64 a.f0, .int .i64 a.f1, .int .i64 a.f2, .int .i64 b.f0, .int .i64 b.f1, .int .i64 b.f2, .int .i64 c.f0, .int .i64 c.f1, .int .i64 c.f2, .int .i64 d.f0, .int .i64 d.f1, .int .i64 d.f2, .int .i64 e.f0, .int .i64 e.f1, .int .i64 e.f2] :=
  Reps.c3 (show Kd.M k59 _ _ _ a [.int .i64 a.f0, .int .i64 a.f1, .int .i64 a.f2] from (k59_mkM _ _ _ a)) (Reps.c3 (show Kd.M k59 _ _ _ b [.int .i64 b.f0, .int .i64 b.f1, .int .i64 b.f2] from (k59_mkM _ _ _ b)) (Reps.c3 (show Kd.M k59 _ _ _ c [.int .i64 c.f0, .int .i64 c.f1, .int .i64 c.f2] from (k59_mkM _ _ _ c)) (Reps.c3 (show Kd.M k59 _ _ _ d [.int .i64 d.f0, .int .i64 d.f1, .int .i64 d.f2] from (k59_mkM _ _ _ d)) (Reps.c3 (show Kd.M k59 _ _ _ e [.int .i64 e.f0, .int .i64 e.f1, .int .i64 e.f2] from (k59_mkM _ _ _ e)) (Reps.none _ _)))))
theorem eqSpan (d : Nat) (w : World) (x0 y0 x1 y1 : Int) :
    (Op.equalIn (d + 2) 40 (.agg #[.int .i64 x0, .int .i64 x1]) (.agg #[.int .i64 y0, .int .i64 y1])).run Tryd.prog w = .ok (x0 == y0 && (x1 == y1)) w := by
  refine eqA_of Tryd.underlying40 (by kernel_rfl) ?_
  refine eqf_cons (by rfl) (by go_simp; rfl) (by go_simp; rfl) (by go_simp) ?_
  exact eqf_last (by rfl) (by go_simp; rfl) (by go_simp; rfl) (by go_simp)
theorem equal_span (w : World) : (Op.equalIn 10000 40 (.agg #[.int .i64 2, .int .i64 4]) (.agg #[.int .i64 2, .int .i64 4])).run Tryd.prog w = .ok true w := eqSpan 9998 w 2 2 4 4
def X_shov.T6 : Bool × List (List Nat × List Nat) := (true, [([], []), ([0], [0]), ([1], [1]), ([2], [2]), ([3, 2], [2, 3]), ([2, 4], [2, 4]), ([5, 2], [5]), ([6], [6]), ([7, 6], [6, 7]), ([6, 8], [6, 8]), ([9, 6], [9]), ([10], [10]), ([11, 10], [10, 11]), ([10, 12], [10, 12]), ([13, 10], [13]), ([14], [14]), ([15, 14], [14, 15]), ([14, 16], [14, 16]), ([17, 14], [17]), ([18], [18]), ([18], [18]), ([19, 20, 18, 18], [18, 19, 20]), ([21, 18], [18, 21]), ([18, 22], [18, 22]), ([23, 21], [23]), ([24], [24]), ([25, 24], [24, 25]), ([24, 26], [24, 26]), ([27, 24], [27]), ([28], [28]), ([28], [28]), ([29, 30, 28, 28], [28, 29, 30]), ([31, 28], [28, 31]), ([28, 32], [28, 32]), ([33, 31], [33]), ([34], [34]), ([34, 34], [34]), ([35, 36, 34], [34, 35, 36]), ([34, 37], [34, 37]), ([38, 36], [38]), ([39], [39]), ([39], [39]), ([40, 41, 39, 39], [39, 40, 41]), ([42, 39], [39, 42]), ([39, 43], [39, 43])])
def X_shov.B6 : List Nat := [0, 1, 3, 7, 15, 31, 63, 127, 255, 511, 1023, 2047, 4095, 8191, 16383, 32767, 65535, 131071, 262143, 524287, 524287, 2097151, 4194303, 8388607, 16777215, 33554431, 67108863, 134217727, 268435455, 536870911, 536870911, 2147483647, 4294967295, 8589934591, 17179869183, 34359738367, 34359738367, 137438953471, 274877906943, 549755813887, 1099511627775, 1099511627775, 4398046511103, 8796093022207, 17592186044415]
theorem X_shov.tab6 : rtab .any (opsOf Tryd.f24 6) = X_shov.T6 := by kernel_rfl
theorem X_shov.bits6 : waitsOk X_shov.T6.2 X_shov.B6 = true := by kernel_rfl
theorem macadamlaw04_both.calls (r : List Wk) (w : World) (h : bothP = r) :
    Calls Tryd.prog 74 #[] w fun e w' => ∃ v0_ : Value, e = .returned (v0_) ∧ Kd.R k59 59 w' w.heap.size (fun _ => True) v0_ r ∧ Below w.heap.size w w' := by
  subst h
  have HB0 := Aside0.mk (Below.refl w.heap.size w)
  go_enter Tryd.func74, Tryd.ntmps74
  go_wp2_with (fail)
  refine (macadamlaw04_work.calls 0 0 0 0 0 0 _ (by kernel_rfl)).mono ?_
  rintro e w1 ⟨rfl, hb⟩
  have HB1 := Aside0.mk (below_then HB0.out HB0.out.size hb)
  clear hb HB0
  go_wp2_with (fail)
  refine (macadamlaw04_work.calls 0 1 2 0 1 2 _ (by kernel_rfl)).mono ?_
  rintro e w2 ⟨rfl, hb⟩
  have HB2 := Aside0.mk (below_then HB1.out HB1.out.size hb)
  clear hb HB1
  go_wp2_with ((with_reducible refine gate_dst (N := 3) rfl ?_); refine Kd.R_lit k59 _ 59 ?hg (N := 3) ?hd (xs := bothP) (inner := [.int .i64 0, .int .i64 0, .int .i64 0, .int .i64 0, .int .i64 1, .int .i64 2]) (ok := fun _ => True) (okp := fun _ => True) ?hr ?hp (fun _ hk => hk) trivial (Below.refl _ _) (Nat.le_refl _) (by simp [bothP]) ?_; (case hd => rfl); (case hg => rfl); (case hr => first | (go_simp; done) | (go_simp; rfl)); (case hp => exact lit2 _ _ _ _ _); intro v3 w3 ho hb hg_ hnew_; clear hg_ hnew_; have HO := Aside0.mk (Kd.R_lower ho HB2.out.size); have HB3 := Aside0.mk (below_then HB2.out HB2.out.size hb); clear hb ho HB2)
  go_ret
  exact ⟨_, by rfl, HO.out, HB3.out⟩
set_option maxHeartbeats 8000000 in
theorem macadamlaw04_shovelled.calls0 (w : World) (hG : GV w) :
    Calls Tryd.prog 24 #[] w fun e w' => e = .returned (.bool true) ∧ Below w.heap.size w w' := by
  have HG0 := Aside0.mk hG
  have HB0 := Aside0.mk (Below.refl w.heap.size w)
  clear hG
  go_enter Tryd.func24, Tryd.ntmps24
  go_wp2_with (fail)
  refine (macadamlaw04_own.calls ownM (ownG 2) 4 _ own_eq).mono ?_
  rintro e w1 ⟨va, vb, rfl, ha, hbb, hb⟩
  have HB1 := Aside0.mk (below_then HB0.out HB0.out.size hb)
  clear hb HB0
  obtain ⟨Aa, ca, rfl⟩ := Kd.R_slice ha
  have CA := Aside0.mk (Kd.R_reads' ha)
  clear ha
  obtain ⟨Ab, cb, rfl⟩ := Kd.R_slice hbb
  have CB := Aside0.mk (Kd.R_reads' hbb)
  clear hbb
  go_wp2_with (fail)
  refine (gang_Can.calls _ _ _ _ _ _ _ _ _ canL 0 _ CA.out.2.2 CA.out.2.1 CB.out.2.2 CB.out.2.1 (gv_below HG0.out HB1.out) sh_can).mono ?_
  rintro e w2 ⟨v1, rfl, hv, hb⟩
  have HB2 := Aside0.mk (below_then HB1.out HB1.out.size hb)
  replace CA := Aside0.mk (⟨CA.out.1, CA.out.2.1, Kd.C_below CA.out.2.2 hb⟩ : _ ∧ _ ∧ Kd.C _ _ _ _ _)
  replace CB := Aside0.mk (⟨CB.out.1, CB.out.2.1, Kd.C_below CB.out.2.2 hb⟩ : _ ∧ _ ∧ Kd.C _ _ _ _ _)
  clear hb HB1
  obtain ⟨A1, c1, rfl⟩ := Kd.V_slice hv
  have C1 := Aside0.mk (Kd.V_reads' hv)
  clear hv
  clear CA
  clear CB
  go_wp2_with (fail)
  refine (macadamlaw04_own.calls ownM (ownG 2) 4 _ own_eq).mono ?_
  rintro e w3 ⟨va, vb, rfl, ha, hbb, hb⟩
  have HB3 := Aside0.mk (below_then HB2.out HB2.out.size hb)
  replace C1 := Aside0.mk (⟨C1.out.1, C1.out.2.1, Kd.C_below C1.out.2.2 hb⟩ : _ ∧ _ ∧ Kd.C _ _ _ _ _)
  clear hb HB2
  obtain ⟨Aa, ca, rfl⟩ := Kd.R_slice ha
  have CA := Aside0.mk (Kd.R_reads' ha)
  clear ha
  obtain ⟨Ab, cb, rfl⟩ := Kd.R_slice hbb
  have CB := Aside0.mk (Kd.R_reads' hbb)
  clear hbb
  go_wp2_with (fail)
  refine (macadamlaw04_both.calls bothP _ (by kernel_rfl)).mono ?_
  rintro e w4 ⟨vp, rfl, hp, hb⟩
  have HB4 := Aside0.mk (below_then HB3.out HB3.out.size hb)
  replace C1 := Aside0.mk (⟨C1.out.1, C1.out.2.1, Kd.C_below C1.out.2.2 hb⟩ : _ ∧ _ ∧ Kd.C _ _ _ _ _)
  replace CA := Aside0.mk (⟨CA.out.1, CA.out.2.1, Kd.C_below CA.out.2.2 hb⟩ : _ ∧ _ ∧ Kd.C _ _ _ _ _)
  replace CB := Aside0.mk (⟨CB.out.1, CB.out.2.1, Kd.C_below CB.out.2.2 hb⟩ : _ ∧ _ ∧ Kd.C _ _ _ _ _)
  clear hb HB3
  obtain ⟨Ap, cp, rfl⟩ := Kd.R_slice hp
  have CP := Aside0.mk (Kd.R_reads' hp)
  clear hp
  go_wp2_with (fail)
  refine (gang_May.calls _ _ _ _ _ _ _ _ _ bothP true 0 _ CA.out.2.2 CA.out.2.1 CB.out.2.2 CB.out.2.1 CP.out.2.2 CP.out.2.1 (gv_below HG0.out HB4.out) sh_may).mono ?_
  rintro e w5 ⟨rfl, hb⟩
  have HB5 := Aside0.mk (below_then HB4.out HB4.out.size hb)
  replace C1 := Aside0.mk (⟨C1.out.1, C1.out.2.1, Kd.C_below C1.out.2.2 hb⟩ : _ ∧ _ ∧ Kd.C _ _ _ _ _)
  replace CA := Aside0.mk (⟨CA.out.1, CA.out.2.1, Kd.C_below CA.out.2.2 hb⟩ : _ ∧ _ ∧ Kd.C _ _ _ _ _)
  replace CB := Aside0.mk (⟨CB.out.1, CB.out.2.1, Kd.C_below CB.out.2.2 hb⟩ : _ ∧ _ ∧ Kd.C _ _ _ _ _)
  replace CP := Aside0.mk (⟨CP.out.1, CP.out.2.1, Kd.C_below CP.out.2.2 hb⟩ : _ ∧ _ ∧ Kd.C _ _ _ _ _)
  clear hb HB4
  clear CA
  clear CB
  clear CP
  go_wp2_with (fail)
  refine (macadamlaw04_own.calls ownM (ownG 2) 4 _ own_eq).mono ?_
  rintro e w6 ⟨va, vb, rfl, ha, hbb, hb⟩
  have HB6 := Aside0.mk (below_then HB5.out HB5.out.size hb)
  replace C1 := Aside0.mk (⟨C1.out.1, C1.out.2.1, Kd.C_below C1.out.2.2 hb⟩ : _ ∧ _ ∧ Kd.C _ _ _ _ _)
  clear hb HB5
  obtain ⟨Aa, ca, rfl⟩ := Kd.R_slice ha
  have CA := Aside0.mk (Kd.R_reads' ha)
  clear ha
  obtain ⟨Ab, cb, rfl⟩ := Kd.R_slice hbb
  have CB := Aside0.mk (Kd.R_reads' hbb)
  clear hbb
  go_wp2_with (fail)
  refine (macadamlaw04_both.calls bothP _ (by kernel_rfl)).mono ?_
  rintro e w7 ⟨vp, rfl, hp, hb⟩
  have HB7 := Aside0.mk (below_then HB6.out HB6.out.size hb)
  replace C1 := Aside0.mk (⟨C1.out.1, C1.out.2.1, Kd.C_below C1.out.2.2 hb⟩ : _ ∧ _ ∧ Kd.C _ _ _ _ _)
  replace CA := Aside0.mk (⟨CA.out.1, CA.out.2.1, Kd.C_below CA.out.2.2 hb⟩ : _ ∧ _ ∧ Kd.C _ _ _ _ _)
  replace CB := Aside0.mk (⟨CB.out.1, CB.out.2.1, Kd.C_below CB.out.2.2 hb⟩ : _ ∧ _ ∧ Kd.C _ _ _ _ _)
  clear hb HB6
  obtain ⟨Ap, cp, rfl⟩ := Kd.R_slice hp
  have CP := Aside0.mk (Kd.R_reads' hp)
  clear hp
  go_wp2_with (fail)
  refine (gang_Closed.calls _ _ _ _ _ _ _ _ _ bothP 0 cloL 0 _ CA.out.2.2 CA.out.2.1 CB.out.2.2 CB.out.2.1 CP.out.2.2 CP.out.2.1 (gv_below HG0.out HB7.out) sh_closed).mono ?_
  rintro e w8 ⟨v5, rfl, hv, hb⟩
  have HB8 := Aside0.mk (below_then HB7.out HB7.out.size hb)
  replace C1 := Aside0.mk (⟨C1.out.1, C1.out.2.1, Kd.C_below C1.out.2.2 hb⟩ : _ ∧ _ ∧ Kd.C _ _ _ _ _)
  replace CA := Aside0.mk (⟨CA.out.1, CA.out.2.1, Kd.C_below CA.out.2.2 hb⟩ : _ ∧ _ ∧ Kd.C _ _ _ _ _)
  replace CB := Aside0.mk (⟨CB.out.1, CB.out.2.1, Kd.C_below CB.out.2.2 hb⟩ : _ ∧ _ ∧ Kd.C _ _ _ _ _)
  replace CP := Aside0.mk (⟨CP.out.1, CP.out.2.1, Kd.C_below CP.out.2.2 hb⟩ : _ ∧ _ ∧ Kd.C _ _ _ _ _)
  clear hb HB7
  obtain ⟨A5, c5, rfl⟩ := Kd.V_slice hv
  have C5 := Aside0.mk (Kd.V_reads' hv)
  clear hv
  clear CA
  clear CB
  clear CP
  go_wp2_with (fail)
  refine (macadamlaw04_own.calls ownM (ownG 2) 4 _ own_eq).mono ?_
  rintro e w9 ⟨va, vb, rfl, ha, hbb, hb⟩
  have HB9 := Aside0.mk (below_then HB8.out HB8.out.size hb)
  replace C1 := Aside0.mk (⟨C1.out.1, C1.out.2.1, Kd.C_below C1.out.2.2 hb⟩ : _ ∧ _ ∧ Kd.C _ _ _ _ _)
  replace C5 := Aside0.mk (⟨C5.out.1, C5.out.2.1, Kd.C_below C5.out.2.2 hb⟩ : _ ∧ _ ∧ Kd.C _ _ _ _ _)
  clear hb HB8
  obtain ⟨Aa, ca, rfl⟩ := Kd.R_slice ha
  have CA := Aside0.mk (Kd.R_reads' ha)
  clear ha
  obtain ⟨Ab, cb, rfl⟩ := Kd.R_slice hbb
  have CB := Aside0.mk (Kd.R_reads' hbb)
  clear hbb
  go_wp2_with (fail)
  refine (macadamlaw04_work.calls 0 0 0 0 0 0 _ (by kernel_rfl)).mono ?_
  rintro e w10 ⟨rfl, hb⟩
  have HB10 := Aside0.mk (below_then HB9.out HB9.out.size hb)
  replace C1 := Aside0.mk (⟨C1.out.1, C1.out.2.1, Kd.C_below C1.out.2.2 hb⟩ : _ ∧ _ ∧ Kd.C _ _ _ _ _)
  replace C5 := Aside0.mk (⟨C5.out.1, C5.out.2.1, Kd.C_below C5.out.2.2 hb⟩ : _ ∧ _ ∧ Kd.C _ _ _ _ _)
  replace CA := Aside0.mk (⟨CA.out.1, CA.out.2.1, Kd.C_below CA.out.2.2 hb⟩ : _ ∧ _ ∧ Kd.C _ _ _ _ _)
  replace CB := Aside0.mk (⟨CB.out.1, CB.out.2.1, Kd.C_below CB.out.2.2 hb⟩ : _ ∧ _ ∧ Kd.C _ _ _ _ _)
  clear hb HB9
  go_wp2_with (fail)
  refine (macadamlaw04_work.calls 1 0 0 1 0 0 _ (by kernel_rfl)).mono ?_
  rintro e w11 ⟨rfl, hb⟩
  have HB11 := Aside0.mk (below_then HB10.out HB10.out.size hb)
  replace C1 := Aside0.mk (⟨C1.out.1, C1.out.2.1, Kd.C_below C1.out.2.2 hb⟩ : _ ∧ _ ∧ Kd.C _ _ _ _ _)
  replace C5 := Aside0.mk (⟨C5.out.1, C5.out.2.1, Kd.C_below C5.out.2.2 hb⟩ : _ ∧ _ ∧ Kd.C _ _ _ _ _)
  replace CA := Aside0.mk (⟨CA.out.1, CA.out.2.1, Kd.C_below CA.out.2.2 hb⟩ : _ ∧ _ ∧ Kd.C _ _ _ _ _)
  replace CB := Aside0.mk (⟨CB.out.1, CB.out.2.1, Kd.C_below CB.out.2.2 hb⟩ : _ ∧ _ ∧ Kd.C _ _ _ _ _)
  clear hb HB10
  go_wp2_with ((with_reducible refine gate_dst (N := 36) rfl ?_); refine Kd.R_lit k59 _ 59 ?hg (N := 36) ?hd (xs := twoP) (inner := [.int .i64 0, .int .i64 0, .int .i64 0, .int .i64 1, .int .i64 0, .int .i64 0]) (ok := fun _ => True) (okp := fun _ => True) ?hr ?hp (fun _ hk => hk) trivial (Below.refl _ _) (Nat.le_refl _) (by simp [twoP]) ?_; (case hd => rfl); (case hg => rfl); (case hr => first | (go_simp; done) | (go_simp; rfl)); (case hp => exact lit2 _ _ _ _ _); intro v3 w12 ho hb hg_ hnew_; clear hg_ hnew_; have HO := Aside0.mk ho; have HB12 := Aside0.mk (below_then HB11.out HB11.out.size hb); replace C1 := Aside0.mk (⟨C1.out.1, C1.out.2.1, Kd.C_below C1.out.2.2 hb⟩ : _ ∧ _ ∧ Kd.C _ _ _ _ _); replace C5 := Aside0.mk (⟨C5.out.1, C5.out.2.1, Kd.C_below C5.out.2.2 hb⟩ : _ ∧ _ ∧ Kd.C _ _ _ _ _); replace CA := Aside0.mk (⟨CA.out.1, CA.out.2.1, Kd.C_below CA.out.2.2 hb⟩ : _ ∧ _ ∧ Kd.C _ _ _ _ _); replace CB := Aside0.mk (⟨CB.out.1, CB.out.2.1, Kd.C_below CB.out.2.2 hb⟩ : _ ∧ _ ∧ Kd.C _ _ _ _ _); clear hb ho HB11; (obtain ⟨Ap, cp, rfl⟩ := Kd.R_slice HO.out); have CP := Aside0.mk (Kd.R_reads' HO.out); clear HO)
  go_wp2_with (fail)
  refine (gang_Done.calls _ _ _ _ _ _ _ _ _ twoP 0 2 4 0 _ CA.out.2.2 CA.out.2.1 CB.out.2.2 CB.out.2.1 CP.out.2.2 CP.out.2.1 (gv_below HG0.out HB12.out) sh_done).mono ?_
  rintro e w13 ⟨rfl, hb⟩
  have HB13 := Aside0.mk (below_then HB12.out HB12.out.size hb)
  replace C1 := Aside0.mk (⟨C1.out.1, C1.out.2.1, Kd.C_below C1.out.2.2 hb⟩ : _ ∧ _ ∧ Kd.C _ _ _ _ _)
  replace C5 := Aside0.mk (⟨C5.out.1, C5.out.2.1, Kd.C_below C5.out.2.2 hb⟩ : _ ∧ _ ∧ Kd.C _ _ _ _ _)
  replace CA := Aside0.mk (⟨CA.out.1, CA.out.2.1, Kd.C_below CA.out.2.2 hb⟩ : _ ∧ _ ∧ Kd.C _ _ _ _ _)
  replace CB := Aside0.mk (⟨CB.out.1, CB.out.2.1, Kd.C_below CB.out.2.2 hb⟩ : _ ∧ _ ∧ Kd.C _ _ _ _ _)
  replace CP := Aside0.mk (⟨CP.out.1, CP.out.2.1, Kd.C_below CP.out.2.2 hb⟩ : _ ∧ _ ∧ Kd.C _ _ _ _ _)
  clear hb HB12
  clear CA
  clear CB
  clear CP
  go_wp2_with ((with_reducible refine gate_dst (N := 7) rfl ?_); refine bx 7 #[.int .i64 0, .int .i64 0] 40 ?_; intro gb hg w14 hbox hb; have HBB := Aside0.mk hb; have BX := Aside0.mk hbox; have GE := Aside0.mk (show w13.heap.size ≤ gb by rw [hg]; exact Nat.le_refl _); clear hb hbox hg; have hc0 : w14.cell? ⟨gb, 0, none⟩ = some (.int .i64 0) := (blk_cell BX.out 0).trans rfl; have hc1 : w14.cell? ⟨gb, 1, none⟩ = some (.int .i64 0) := (blk_cell BX.out 1).trans rfl; have hf0 := blk_frozen BX.out 0; have hf1 := blk_frozen BX.out 1)
  clear hc0 hc1 hf0 hf1
  have hb := below_set (v := .int .i64 4) (j := 1) (below_set (v := .int .i64 2) (j := 0) HBB.out GE.out) GE.out
  have BX2 := blk_put (blk_put BX.out 0 (.int .i64 2) rfl) 1 (.int .i64 4) rfl
  generalize (World.setCell (World.setCell _ _ _) _ _) = w15 at hb BX2 ⊢
  replace BX := Aside0.mk BX2
  clear BX2
  have HB15 := Aside0.mk (below_then HB13.out HB13.out.size hb)
  replace C1 := Aside0.mk (⟨C1.out.1, C1.out.2.1, Kd.C_below C1.out.2.2 hb⟩ : _ ∧ _ ∧ Kd.C _ _ _ _ _)
  replace C5 := Aside0.mk (⟨C5.out.1, C5.out.2.1, Kd.C_below C5.out.2.2 hb⟩ : _ ∧ _ ∧ Kd.C _ _ _ _ _)
  clear hb HB13
  clear HBB GE
  go_wp2_with (fail)
  refine (macadamlaw04_own.calls ownM (ownG 2) 4 _ own_eq).mono ?_
  rintro e w16 ⟨va, vb, rfl, ha, hbb, hb⟩
  have HB16 := Aside0.mk (below_then HB15.out HB15.out.size hb)
  replace C1 := Aside0.mk (⟨C1.out.1, C1.out.2.1, Kd.C_below C1.out.2.2 hb⟩ : _ ∧ _ ∧ Kd.C _ _ _ _ _)
  replace C5 := Aside0.mk (⟨C5.out.1, C5.out.2.1, Kd.C_below C5.out.2.2 hb⟩ : _ ∧ _ ∧ Kd.C _ _ _ _ _)
  replace BX := Aside0.mk (blk_below BX.out hb)
  clear hb HB15
  obtain ⟨Aa, ca, rfl⟩ := Kd.R_slice ha
  have CA := Aside0.mk (Kd.R_reads' ha)
  clear ha
  obtain ⟨Ab, cb, rfl⟩ := Kd.R_slice hbb
  have CB := Aside0.mk (Kd.R_reads' hbb)
  clear hbb
  go_wp2_with (fail)
  refine (macadamlaw04_both.calls bothP _ (by kernel_rfl)).mono ?_
  rintro e w17 ⟨vp, rfl, hp, hb⟩
  have HB17 := Aside0.mk (below_then HB16.out HB16.out.size hb)
  replace C1 := Aside0.mk (⟨C1.out.1, C1.out.2.1, Kd.C_below C1.out.2.2 hb⟩ : _ ∧ _ ∧ Kd.C _ _ _ _ _)
  replace C5 := Aside0.mk (⟨C5.out.1, C5.out.2.1, Kd.C_below C5.out.2.2 hb⟩ : _ ∧ _ ∧ Kd.C _ _ _ _ _)
  replace CA := Aside0.mk (⟨CA.out.1, CA.out.2.1, Kd.C_below CA.out.2.2 hb⟩ : _ ∧ _ ∧ Kd.C _ _ _ _ _)
  replace CB := Aside0.mk (⟨CB.out.1, CB.out.2.1, Kd.C_below CB.out.2.2 hb⟩ : _ ∧ _ ∧ Kd.C _ _ _ _ _)
  replace BX := Aside0.mk (blk_below BX.out hb)
  clear hb HB16
  obtain ⟨Ap, cp, rfl⟩ := Kd.R_slice hp
  have CP := Aside0.mk (Kd.R_reads' hp)
  clear hp
  go_wp2_with (fail)
  refine (gang_Mended.calls _ _ _ _ _ _ _ _ _ bothP menL 0 _ CA.out.2.2 CA.out.2.1 CB.out.2.2 CB.out.2.1 CP.out.2.2 CP.out.2.1 (gv_below HG0.out HB17.out) sh_mended).mono ?_
  rintro e w18 ⟨v9, rfl, hv, hb⟩
  have HB18 := Aside0.mk (below_then HB17.out HB17.out.size hb)
  replace C1 := Aside0.mk (⟨C1.out.1, C1.out.2.1, Kd.C_below C1.out.2.2 hb⟩ : _ ∧ _ ∧ Kd.C _ _ _ _ _)
  replace C5 := Aside0.mk (⟨C5.out.1, C5.out.2.1, Kd.C_below C5.out.2.2 hb⟩ : _ ∧ _ ∧ Kd.C _ _ _ _ _)
  replace CA := Aside0.mk (⟨CA.out.1, CA.out.2.1, Kd.C_below CA.out.2.2 hb⟩ : _ ∧ _ ∧ Kd.C _ _ _ _ _)
  replace CB := Aside0.mk (⟨CB.out.1, CB.out.2.1, Kd.C_below CB.out.2.2 hb⟩ : _ ∧ _ ∧ Kd.C _ _ _ _ _)
  replace CP := Aside0.mk (⟨CP.out.1, CP.out.2.1, Kd.C_below CP.out.2.2 hb⟩ : _ ∧ _ ∧ Kd.C _ _ _ _ _)
  replace BX := Aside0.mk (blk_below BX.out hb)
  clear hb HB17
  obtain ⟨A9, c9, rfl⟩ := Kd.V_slice hv
  have C9 := Aside0.mk (Kd.V_reads' hv)
  clear hv
  clear CA
  clear CB
  clear CP
  go_wp2_with (fail)
  have HBX := Aside0.mk (show Below w.heap.size w _ from HB18.out)
  clear HB18
  have hb := (Below.refl (World.heap w18).size w18).drew
  replace C1 := Aside0.mk (⟨C1.out.1, C1.out.2.1, Kd.C_below C1.out.2.2 hb⟩ : _ ∧ _ ∧ Kd.C _ _ _ _ _)
  replace C5 := Aside0.mk (⟨C5.out.1, C5.out.2.1, Kd.C_below C5.out.2.2 hb⟩ : _ ∧ _ ∧ Kd.C _ _ _ _ _)
  replace C9 := Aside0.mk (⟨C9.out.1, C9.out.2.1, Kd.C_below C9.out.2.2 hb⟩ : _ ∧ _ ∧ Kd.C _ _ _ _ _)
  replace BX := Aside0.mk (blk_below BX.out hb)
  replace HBX := Aside0.mk (below_then HBX.out HBX.out.size hb)
  clear hb
  have heq := equal_span
  refine start_ (n := 45) (S := fun w' => w'.cell? ⟨gb, 0, none⟩ = some (.int .i64 2) ∧ w'.cell? ⟨gb, 1, none⟩ = some (.int .i64 4)) (ds := []) (bs 45 0) (by kernel_rfl) rfl rfl ⟨(blk_cell BX.out 0).trans rfl, (blk_cell BX.out 1).trans rfl⟩ (fun hHeld => ?_)
  refine with_tabW X_shov.tab6 X_shov.bits6 (fun HT_ HW_ => ?_)
  generalize World.drew _ = wd at C1 C5 C9 BX HBX hHeld ⊢
  refine pu HT_ 0 (some 46) (bs 45 1) ?_
  refine pu HT_ 1 (some 47) (bs 45 3) ?_
  refine pu HT_ 2 (some 48) (bs 45 7) ?_
  refine pu HT_ 3 (some 49) (bs 45 15) ?_
  refine pu HT_ 4 (some 50) (bs 45 31) ?_
  refine pu HT_ 5 (some 51) (bs 45 63) ?_
  refine pu HT_ 6 (some 52) (bs 45 127) ?_
  refine pu HT_ 7 (some 53) (bs 45 255) ?_
  refine pu HT_ 8 (some 54) (bs 45 511) ?_
  refine pu HT_ 9 (some 55) (bs 45 1023) ?_
  refine pu HT_ 10 (some 56) (bs 45 2047) ?_
  refine pu HT_ 11 (some 57) (bs 45 4095) ?_
  refine pu HT_ 12 (some 58) (bs 45 8191) ?_
  refine pu HT_ 13 (some 59) (bs 45 16383) ?_
  refine pu HT_ 14 (some 60) (bs 45 32767) ?_
  refine pu HT_ 15 (some 61) (bs 45 65535) ?_
  refine pu HT_ 16 (some 62) (bs 45 131071) ?_
  refine pu HT_ 17 (some 63) (bs 45 262143) ?_
  refine pu HT_ 18 (some 64) (bs 45 524287) ?_
  refine pu HT_ 19 (some 65) (bs 45 1048575) ?_
  refine on HT_ 20 (some 66) (bs 45 2097151) (fun K hK => ?_)
  refine Kd.R_lit_step (Kd.int .i64) _ 3 ?hg (N := 66) ?hd (xs := canL) (inner := [.int .i64 0, .int .i64 2, .int .i64 3]) (ok := fun _ => True) (okp := fun _ => True) ?hr ?hp (fun _ hk => hk) trivial (Below.refl _ _) (Nat.le_refl _) (by simp [canL]) ?_; (case hd => rfl); (case hg => rfl); (case hr => first | (go_simp; done) | (go_simp; rfl)); (case hp => exact (Reps.one (show Kd.M (Kd.int .i64) _ _ _ (0 : Int) [.int .i64 0] from rfl) (Reps.one (show Kd.M (Kd.int .i64) _ _ _ (2 : Int) [.int .i64 2] from rfl) (Reps.one (show Kd.M (Kd.int .i64) _ _ _ (3 : Int) [.int .i64 3] from rfl) (Reps.none _ _)))))
  intro pv pw ho hb hg_ hnew_
  clear hg_ hnew_
  obtain ⟨pA, pc, rfl⟩ := Kd.R_slice ho
  have pC := Aside0.mk (Kd.R_reads' ho)
  clear ho
  replace C1 := Aside0.mk (⟨C1.out.1, C1.out.2.1, Kd.C_below C1.out.2.2 hb⟩ : _ ∧ _ ∧ Kd.C _ _ _ _ _)
  replace C5 := Aside0.mk (⟨C5.out.1, C5.out.2.1, Kd.C_below C5.out.2.2 hb⟩ : _ ∧ _ ∧ Kd.C _ _ _ _ _)
  replace C9 := Aside0.mk (⟨C9.out.1, C9.out.2.1, Kd.C_below C9.out.2.2 hb⟩ : _ ∧ _ ∧ Kd.C _ _ _ _ _)
  replace BX := Aside0.mk (blk_below BX.out hb)
  replace HBX := Aside0.mk (below_then HBX.out HBX.out.size hb)
  clear hb
  refine hK.out _ _ ⟨(blk_cell BX.out 0).trans rfl, (blk_cell BX.out 1).trans rfl⟩ (fun hHeld => ?_)
  clear hK K
  refine nm 66 ?_
  refine on HT_ 21 (some 67) (bs 45 4194303) (fun K hK => ?_)
  refine goes_ Tryd.func17 (by kernel_rfl) rfl #[.slice A1 canL.length c1, .slice pA canL.length pc] (by rfl) rfl rfl (by (try simp only [List.map_toArray, List.map_cons, List.map_nil]); first | done | rfl) ?_
  with_reducible refine (macadamref00_Like.calls 10 _ _ canL _ _ canL true _ C1.out.2.2 C1.out.2.1 pC.out.2.2 pC.out.2.1 (by kernel_rfl)).mono ?_
  rintro e px ⟨rfl, hd⟩
  refine ⟨_, rfl, ?_⟩
  have hb := hd.below
  clear hd
  replace C1 := Aside0.mk (⟨C1.out.1, C1.out.2.1, Kd.C_below C1.out.2.2 hb⟩ : _ ∧ _ ∧ Kd.C _ _ _ _ _)
  replace C5 := Aside0.mk (⟨C5.out.1, C5.out.2.1, Kd.C_below C5.out.2.2 hb⟩ : _ ∧ _ ∧ Kd.C _ _ _ _ _)
  replace C9 := Aside0.mk (⟨C9.out.1, C9.out.2.1, Kd.C_below C9.out.2.2 hb⟩ : _ ∧ _ ∧ Kd.C _ _ _ _ _)
  replace BX := Aside0.mk (blk_below BX.out hb)
  replace HBX := Aside0.mk (below_then HBX.out HBX.out.size hb)
  clear hb
  refine hK.out _ _ ⟨(blk_cell BX.out 0).trans rfl, (blk_cell BX.out 1).trans rfl⟩ (fun hHeld => ?_)
  clear hK K
  refine nm 67 ?_
  refine pu HT_ 22 (some 68) (bs 45 8388607) ?_
  refine pu HT_ 23 (some 69) (bs 45 16777215) ?_
  refine pu HT_ 24 (some 70) (bs 45 33554431) ?_
  refine pu HT_ 25 (some 71) (bs 45 67108863) ?_
  refine pu HT_ 26 (some 72) (bs 45 134217727) ?_
  refine pu HT_ 27 (some 73) (bs 45 268435455) ?_
  refine pu HT_ 28 (some 74) (bs 45 536870911) ?_
  refine pu HT_ 29 (some 75) (bs 45 1073741823) ?_
  refine on HT_ 30 (some 76) (bs 45 2147483647) (fun K hK => ?_)
  refine Kd.R_lit_step (Kd.int .i64) _ 3 ?hg (N := 76) ?hd (xs := cloL) (inner := [.int .i64 0, .int .i64 2]) (ok := fun _ => True) (okp := fun _ => True) ?hr ?hp (fun _ hk => hk) trivial (Below.refl _ _) (Nat.le_refl _) (by simp [cloL]) ?_; (case hd => rfl); (case hg => rfl); (case hr => first | (go_simp; done) | (go_simp; rfl)); (case hp => exact (Reps.one (show Kd.M (Kd.int .i64) _ _ _ (0 : Int) [.int .i64 0] from rfl) (Reps.one (show Kd.M (Kd.int .i64) _ _ _ (2 : Int) [.int .i64 2] from rfl) (Reps.none _ _))))
  intro qv qw ho hb hg_ hnew_
  clear hg_ hnew_
  obtain ⟨qA, qc, rfl⟩ := Kd.R_slice ho
  have qC := Aside0.mk (Kd.R_reads' ho)
  clear ho
  replace C1 := Aside0.mk (⟨C1.out.1, C1.out.2.1, Kd.C_below C1.out.2.2 hb⟩ : _ ∧ _ ∧ Kd.C _ _ _ _ _)
  replace C5 := Aside0.mk (⟨C5.out.1, C5.out.2.1, Kd.C_below C5.out.2.2 hb⟩ : _ ∧ _ ∧ Kd.C _ _ _ _ _)
  replace C9 := Aside0.mk (⟨C9.out.1, C9.out.2.1, Kd.C_below C9.out.2.2 hb⟩ : _ ∧ _ ∧ Kd.C _ _ _ _ _)
  replace BX := Aside0.mk (blk_below BX.out hb)
  replace HBX := Aside0.mk (below_then HBX.out HBX.out.size hb)
  clear hb
  refine hK.out _ _ ⟨(blk_cell BX.out 0).trans rfl, (blk_cell BX.out 1).trans rfl⟩ (fun hHeld => ?_)
  clear hK K
  refine nm 76 ?_
  refine on HT_ 31 (some 77) (bs 45 4294967295) (fun K hK => ?_)
  refine goes_ Tryd.func17 (by kernel_rfl) rfl #[.slice A5 cloL.length c5, .slice qA cloL.length qc] (by rfl) rfl rfl (by (try simp only [List.map_toArray, List.map_cons, List.map_nil]); first | done | rfl) ?_
  with_reducible refine (macadamref00_Like.calls 10 _ _ cloL _ _ cloL true _ C5.out.2.2 C5.out.2.1 qC.out.2.2 qC.out.2.1 (by kernel_rfl)).mono ?_
  rintro e qx ⟨rfl, hd⟩
  refine ⟨_, rfl, ?_⟩
  have hb := hd.below
  clear hd
  replace C1 := Aside0.mk (⟨C1.out.1, C1.out.2.1, Kd.C_below C1.out.2.2 hb⟩ : _ ∧ _ ∧ Kd.C _ _ _ _ _)
  replace C5 := Aside0.mk (⟨C5.out.1, C5.out.2.1, Kd.C_below C5.out.2.2 hb⟩ : _ ∧ _ ∧ Kd.C _ _ _ _ _)
  replace C9 := Aside0.mk (⟨C9.out.1, C9.out.2.1, Kd.C_below C9.out.2.2 hb⟩ : _ ∧ _ ∧ Kd.C _ _ _ _ _)
  replace BX := Aside0.mk (blk_below BX.out hb)
  replace HBX := Aside0.mk (below_then HBX.out HBX.out.size hb)
  clear hb
  refine hK.out _ _ ⟨(blk_cell BX.out 0).trans rfl, (blk_cell BX.out 1).trans rfl⟩ (fun hHeld => ?_)
  clear hK K
  refine nm 77 ?_
  refine pu HT_ 32 (some 78) (bs 45 8589934591) ?_
  refine pu HT_ 33 (some 79) (bs 45 17179869183) ?_
  refine pu HT_ 34 (some 80) (bs 45 34359738367) ?_
  refine tk2 HT_ HW_ hHeld 35 (some 81) (bs 45 68719476735) ?_
  refine on HT_ 36 (some 82) (bs 45 137438953471) (fun K hK => ?_)
  refine goes_ Tryd.func50 (by kernel_rfl) rfl #[.int .i64 2, .int .i64 4] (by rfl) rfl rfl (by (try simp only [List.map_toArray, List.map_cons, List.map_nil]); first | done | rfl) ?_
  with_reducible refine (macadamref00_Reach.calls 2 4 2 4 _ (by kernel_rfl)).mono ?_
  rintro e rx ⟨rfl, hb⟩
  refine ⟨_, rfl, ?_⟩
  replace C1 := Aside0.mk (⟨C1.out.1, C1.out.2.1, Kd.C_below C1.out.2.2 hb⟩ : _ ∧ _ ∧ Kd.C _ _ _ _ _)
  replace C5 := Aside0.mk (⟨C5.out.1, C5.out.2.1, Kd.C_below C5.out.2.2 hb⟩ : _ ∧ _ ∧ Kd.C _ _ _ _ _)
  replace C9 := Aside0.mk (⟨C9.out.1, C9.out.2.1, Kd.C_below C9.out.2.2 hb⟩ : _ ∧ _ ∧ Kd.C _ _ _ _ _)
  replace BX := Aside0.mk (blk_below BX.out hb)
  replace HBX := Aside0.mk (below_then HBX.out HBX.out.size hb)
  clear hb
  refine hK.out _ _ ⟨(blk_cell BX.out 0).trans rfl, (blk_cell BX.out 1).trans rfl⟩ (fun hHeld => ?_)
  clear hK K
  refine nm 82 ?_
  refine pu HT_ 37 (some 83) (bs 45 274877906943) ?_
  refine pu HT_ 38 (some 84) (bs 45 549755813887) ?_
  refine pu HT_ 39 (some 85) (bs 45 1099511627775) ?_
  refine pu HT_ 40 (some 86) (bs 45 2199023255551) ?_
  refine on HT_ 41 (some 87) (bs 45 4398046511103) (fun K hK => ?_)
  refine Kd.R_lit_step (Kd.int .i64) _ 3 ?hg (N := 87) ?hd (xs := menL) (inner := [.int .i64 2]) (ok := fun _ => True) (okp := fun _ => True) ?hr ?hp (fun _ hk => hk) trivial (Below.refl _ _) (Nat.le_refl _) (by simp [menL]) ?_; (case hd => rfl); (case hg => rfl); (case hr => first | (go_simp; done) | (go_simp; rfl)); (case hp => exact (Reps.one (show Kd.M (Kd.int .i64) _ _ _ (2 : Int) [.int .i64 2] from rfl) (Reps.none _ _)))
  intro rv rw ho hb hg_ hnew_
  clear hg_ hnew_
  obtain ⟨rA, rc, rfl⟩ := Kd.R_slice ho
  have rC := Aside0.mk (Kd.R_reads' ho)
  clear ho
  replace C1 := Aside0.mk (⟨C1.out.1, C1.out.2.1, Kd.C_below C1.out.2.2 hb⟩ : _ ∧ _ ∧ Kd.C _ _ _ _ _)
  replace C5 := Aside0.mk (⟨C5.out.1, C5.out.2.1, Kd.C_below C5.out.2.2 hb⟩ : _ ∧ _ ∧ Kd.C _ _ _ _ _)
  replace C9 := Aside0.mk (⟨C9.out.1, C9.out.2.1, Kd.C_below C9.out.2.2 hb⟩ : _ ∧ _ ∧ Kd.C _ _ _ _ _)
  replace BX := Aside0.mk (blk_below BX.out hb)
  replace HBX := Aside0.mk (below_then HBX.out HBX.out.size hb)
  clear hb
  refine hK.out _ _ ⟨(blk_cell BX.out 0).trans rfl, (blk_cell BX.out 1).trans rfl⟩ (fun hHeld => ?_)
  clear hK K
  refine nm 87 ?_
  refine on HT_ 42 (some 88) (bs 45 8796093022207) (fun K hK => ?_)
  refine goes_ Tryd.func17 (by kernel_rfl) rfl #[.slice A9 menL.length c9, .slice rA menL.length rc] (by rfl) rfl rfl (by (try simp only [List.map_toArray, List.map_cons, List.map_nil]); first | done | rfl) ?_
  with_reducible refine (macadamref00_Like.calls 10 _ _ menL _ _ menL true _ C9.out.2.2 C9.out.2.1 rC.out.2.2 rC.out.2.1 (by kernel_rfl)).mono ?_
  rintro e rx ⟨rfl, hd⟩
  refine ⟨_, rfl, ?_⟩
  have hb := hd.below
  clear hd
  replace C1 := Aside0.mk (⟨C1.out.1, C1.out.2.1, Kd.C_below C1.out.2.2 hb⟩ : _ ∧ _ ∧ Kd.C _ _ _ _ _)
  replace C5 := Aside0.mk (⟨C5.out.1, C5.out.2.1, Kd.C_below C5.out.2.2 hb⟩ : _ ∧ _ ∧ Kd.C _ _ _ _ _)
  replace C9 := Aside0.mk (⟨C9.out.1, C9.out.2.1, Kd.C_below C9.out.2.2 hb⟩ : _ ∧ _ ∧ Kd.C _ _ _ _ _)
  replace BX := Aside0.mk (blk_below BX.out hb)
  replace HBX := Aside0.mk (below_then HBX.out HBX.out.size hb)
  clear hb
  refine hK.out _ _ ⟨(blk_cell BX.out 0).trans rfl, (blk_cell BX.out 1).trans rfl⟩ (fun hHeld => ?_)
  clear hK K
  refine nm 88 ?_
  refine pu HT_ 43 (some 89) (bs 45 17592186044415) ?_
  refine pu HT_ 44 (some 90) (bs 45 35184372088831) ?_
  refine done_ (done_of HT_.out (by kernel_rfl)) ?_
  clear C1 C5 C9 BX heq
  go_wp2_with (fail)
  refine (macadamlaw04_own.calls ownM (ownG 2) 4 _ own_eq).mono ?_
  rintro e w19 ⟨va, vb, rfl, ha, hbb, hb⟩
  have HB19 := Aside0.mk (below_then HBX.out HBX.out.size hb)
  clear hb HBX
  obtain ⟨Aa, ca, rfl⟩ := Kd.R_slice ha
  have CA := Aside0.mk (Kd.R_reads' ha)
  clear ha
  obtain ⟨Ab, cb, rfl⟩ := Kd.R_slice hbb
  have CB := Aside0.mk (Kd.R_reads' hbb)
  clear hbb
  go_wp2_with (fail)
  refine (macadamlaw04_both.calls bothP _ (by kernel_rfl)).mono ?_
  rintro e w20 ⟨vp, rfl, hp, hb⟩
  have HB20 := Aside0.mk (below_then HB19.out HB19.out.size hb)
  replace CA := Aside0.mk (⟨CA.out.1, CA.out.2.1, Kd.C_below CA.out.2.2 hb⟩ : _ ∧ _ ∧ Kd.C _ _ _ _ _)
  replace CB := Aside0.mk (⟨CB.out.1, CB.out.2.1, Kd.C_below CB.out.2.2 hb⟩ : _ ∧ _ ∧ Kd.C _ _ _ _ _)
  clear hb HB19
  obtain ⟨Ap, cp, rfl⟩ := Kd.R_slice hp
  have CP := Aside0.mk (Kd.R_reads' hp)
  clear hp
  go_wp2_with (fail)
  refine (gang_Open.calls _ _ _ _ _ _ _ _ _ bothP 0 0 _ CA.out.2.2 CA.out.2.1 CB.out.2.2 CB.out.2.1 CP.out.2.2 CP.out.2.1 (gv_below HG0.out HB20.out) sh_open).mono ?_
  rintro e w21 ⟨rfl, hb⟩
  have HB21 := Aside0.mk (below_then HB20.out HB20.out.size hb)
  replace CA := Aside0.mk (⟨CA.out.1, CA.out.2.1, Kd.C_below CA.out.2.2 hb⟩ : _ ∧ _ ∧ Kd.C _ _ _ _ _)
  replace CB := Aside0.mk (⟨CB.out.1, CB.out.2.1, Kd.C_below CB.out.2.2 hb⟩ : _ ∧ _ ∧ Kd.C _ _ _ _ _)
  replace CP := Aside0.mk (⟨CP.out.1, CP.out.2.1, Kd.C_below CP.out.2.2 hb⟩ : _ ∧ _ ∧ Kd.C _ _ _ _ _)
  clear hb HB20
  clear CA
  clear CB
  clear CP
  go_wp2_with (fail)
  refine (macadamlaw04_own.calls ownM (ownG 2) 4 _ own_eq).mono ?_
  rintro e w22 ⟨va, vb, rfl, ha, hbb, hb⟩
  have HB22 := Aside0.mk (below_then HB21.out HB21.out.size hb)
  clear hb HB21
  obtain ⟨Aa, ca, rfl⟩ := Kd.R_slice ha
  have CA := Aside0.mk (Kd.R_reads' ha)
  clear ha
  obtain ⟨Ab, cb, rfl⟩ := Kd.R_slice hbb
  have CB := Aside0.mk (Kd.R_reads' hbb)
  clear hbb
  go_wp2_with (fail)
  refine (gang_Plan.calls _ _ _ _ _ _ _ planP 0 _ CA.out.2.2 CA.out.2.1 CB.out.2.2 CB.out.2.1 (gv_below HG0.out HB22.out) sh_plan).mono ?_
  rintro e w23 ⟨v12, rfl, hv, hb⟩
  have HB23 := Aside0.mk (below_then HB22.out HB22.out.size hb)
  replace CA := Aside0.mk (⟨CA.out.1, CA.out.2.1, Kd.C_below CA.out.2.2 hb⟩ : _ ∧ _ ∧ Kd.C _ _ _ _ _)
  replace CB := Aside0.mk (⟨CB.out.1, CB.out.2.1, Kd.C_below CB.out.2.2 hb⟩ : _ ∧ _ ∧ Kd.C _ _ _ _ _)
  clear hb HB22
  obtain ⟨A1, c1, rfl⟩ := Kd.V_slice hv
  have C1 := Aside0.mk (Kd.V_reads' hv)
  clear hv
  clear CA
  clear CB
  go_wp2_with (fail)
  refine (macadamlaw04_short.calls ownM (ownG 2) 3 _ short_eq).mono ?_
  rintro e w24 ⟨va, vb, rfl, ha, hbb, hb⟩
  have HB24 := Aside0.mk (below_then HB23.out HB23.out.size hb)
  replace C1 := Aside0.mk (⟨C1.out.1, C1.out.2.1, Kd.C_below C1.out.2.2 hb⟩ : _ ∧ _ ∧ Kd.C _ _ _ _ _)
  clear hb HB23
  obtain ⟨Aa, ca, rfl⟩ := Kd.R_slice ha
  have CA := Aside0.mk (Kd.R_reads' ha)
  clear ha
  obtain ⟨Ab, cb, rfl⟩ := Kd.R_slice hbb
  have CB := Aside0.mk (Kd.R_reads' hbb)
  clear hbb
  go_wp2_with (fail)
  refine (gang_Most.calls _ _ _ _ _ _ _ mosL 0 _ CA.out.2.2 CA.out.2.1 CB.out.2.2 CB.out.2.1 (gv_below HG0.out HB24.out) sh_most).mono ?_
  rintro e w25 ⟨v13, rfl, hv, hb⟩
  have HB25 := Aside0.mk (below_then HB24.out HB24.out.size hb)
  replace C1 := Aside0.mk (⟨C1.out.1, C1.out.2.1, Kd.C_below C1.out.2.2 hb⟩ : _ ∧ _ ∧ Kd.C _ _ _ _ _)
  replace CA := Aside0.mk (⟨CA.out.1, CA.out.2.1, Kd.C_below CA.out.2.2 hb⟩ : _ ∧ _ ∧ Kd.C _ _ _ _ _)
  replace CB := Aside0.mk (⟨CB.out.1, CB.out.2.1, Kd.C_below CB.out.2.2 hb⟩ : _ ∧ _ ∧ Kd.C _ _ _ _ _)
  clear hb HB24
  obtain ⟨A5, c5, rfl⟩ := Kd.V_slice hv
  have C5 := Aside0.mk (Kd.V_reads' hv)
  clear hv
  clear CA
  clear CB
  go_wp2_with (fail)
  refine (macadamlaw04_far.calls ownM (ownG 1) 4 _ far_eq).mono ?_
  rintro e w26 ⟨va, vb, rfl, ha, hbb, hb⟩
  have HB26 := Aside0.mk (below_then HB25.out HB25.out.size hb)
  replace C1 := Aside0.mk (⟨C1.out.1, C1.out.2.1, Kd.C_below C1.out.2.2 hb⟩ : _ ∧ _ ∧ Kd.C _ _ _ _ _)
  replace C5 := Aside0.mk (⟨C5.out.1, C5.out.2.1, Kd.C_below C5.out.2.2 hb⟩ : _ ∧ _ ∧ Kd.C _ _ _ _ _)
  clear hb HB25
  obtain ⟨Aa, ca, rfl⟩ := Kd.R_slice ha
  have CA := Aside0.mk (Kd.R_reads' ha)
  clear ha
  obtain ⟨Ab, cb, rfl⟩ := Kd.R_slice hbb
  have CB := Aside0.mk (Kd.R_reads' hbb)
  clear hbb
  go_wp2_with (fail)
  refine (gang_First.calls _ _ _ _ _ _ _ 2 0 _ CA.out.2.2 CA.out.2.1 CB.out.2.2 CB.out.2.1 (gv_below HG0.out HB26.out) sh_first).mono ?_
  rintro e w27 ⟨rfl, hb⟩
  have HB27 := Aside0.mk (below_then HB26.out HB26.out.size hb)
  replace C1 := Aside0.mk (⟨C1.out.1, C1.out.2.1, Kd.C_below C1.out.2.2 hb⟩ : _ ∧ _ ∧ Kd.C _ _ _ _ _)
  replace C5 := Aside0.mk (⟨C5.out.1, C5.out.2.1, Kd.C_below C5.out.2.2 hb⟩ : _ ∧ _ ∧ Kd.C _ _ _ _ _)
  replace CA := Aside0.mk (⟨CA.out.1, CA.out.2.1, Kd.C_below CA.out.2.2 hb⟩ : _ ∧ _ ∧ Kd.C _ _ _ _ _)
  replace CB := Aside0.mk (⟨CB.out.1, CB.out.2.1, Kd.C_below CB.out.2.2 hb⟩ : _ ∧ _ ∧ Kd.C _ _ _ _ _)
  clear hb HB26
  clear CA
  clear CB
  go_wp2_with (fail)
  refine (macadamlaw04_short.calls ownM (ownG 2) 3 _ short_eq).mono ?_
  rintro e w28 ⟨va, vb, rfl, ha, hbb, hb⟩
  have HB28 := Aside0.mk (below_then HB27.out HB27.out.size hb)
  replace C1 := Aside0.mk (⟨C1.out.1, C1.out.2.1, Kd.C_below C1.out.2.2 hb⟩ : _ ∧ _ ∧ Kd.C _ _ _ _ _)
  replace C5 := Aside0.mk (⟨C5.out.1, C5.out.2.1, Kd.C_below C5.out.2.2 hb⟩ : _ ∧ _ ∧ Kd.C _ _ _ _ _)
  clear hb HB27
  obtain ⟨Aa, ca, rfl⟩ := Kd.R_slice ha
  have CA := Aside0.mk (Kd.R_reads' ha)
  clear ha
  obtain ⟨Ab, cb, rfl⟩ := Kd.R_slice hbb
  have CB := Aside0.mk (Kd.R_reads' hbb)
  clear hbb
  go_wp2_with (fail)
  refine (gang_Plan.calls _ _ _ _ _ _ _ nonL 4 _ CA.out.2.2 CA.out.2.1 CB.out.2.2 CB.out.2.1 (gv_below HG0.out HB28.out) sh_noplan).mono ?_
  rintro e w29 ⟨v15, rfl, hv, hb⟩
  have HB29 := Aside0.mk (below_then HB28.out HB28.out.size hb)
  replace C1 := Aside0.mk (⟨C1.out.1, C1.out.2.1, Kd.C_below C1.out.2.2 hb⟩ : _ ∧ _ ∧ Kd.C _ _ _ _ _)
  replace C5 := Aside0.mk (⟨C5.out.1, C5.out.2.1, Kd.C_below C5.out.2.2 hb⟩ : _ ∧ _ ∧ Kd.C _ _ _ _ _)
  replace CA := Aside0.mk (⟨CA.out.1, CA.out.2.1, Kd.C_below CA.out.2.2 hb⟩ : _ ∧ _ ∧ Kd.C _ _ _ _ _)
  replace CB := Aside0.mk (⟨CB.out.1, CB.out.2.1, Kd.C_below CB.out.2.2 hb⟩ : _ ∧ _ ∧ Kd.C _ _ _ _ _)
  clear hb HB28
  clear CA
  clear CB
  clear hv
  go_wp2_with (fail)
  go_wp2_with (fail)
  refine (macadamlaw04_work.calls 0 0 0 0 0 0 _ (by kernel_rfl)).mono ?_
  rintro e w30 ⟨rfl, hb⟩
  have HB30 := Aside0.mk (below_then HB29.out HB29.out.size hb)
  replace C1 := Aside0.mk (⟨C1.out.1, C1.out.2.1, Kd.C_below C1.out.2.2 hb⟩ : _ ∧ _ ∧ Kd.C _ _ _ _ _)
  replace C5 := Aside0.mk (⟨C5.out.1, C5.out.2.1, Kd.C_below C5.out.2.2 hb⟩ : _ ∧ _ ∧ Kd.C _ _ _ _ _)
  clear hb HB29
  go_wp2_with (fail)
  refine (macadamlaw04_work.calls 0 1 2 0 1 2 _ (by kernel_rfl)).mono ?_
  rintro e w31 ⟨rfl, hb⟩
  have HB31 := Aside0.mk (below_then HB30.out HB30.out.size hb)
  replace C1 := Aside0.mk (⟨C1.out.1, C1.out.2.1, Kd.C_below C1.out.2.2 hb⟩ : _ ∧ _ ∧ Kd.C _ _ _ _ _)
  replace C5 := Aside0.mk (⟨C5.out.1, C5.out.2.1, Kd.C_below C5.out.2.2 hb⟩ : _ ∧ _ ∧ Kd.C _ _ _ _ _)
  clear hb HB30
  go_wp2_with (fail)
  refine (macadamlaw04_work.calls 1 0 0 1 0 0 _ (by kernel_rfl)).mono ?_
  rintro e w32 ⟨rfl, hb⟩
  have HB32 := Aside0.mk (below_then HB31.out HB31.out.size hb)
  replace C1 := Aside0.mk (⟨C1.out.1, C1.out.2.1, Kd.C_below C1.out.2.2 hb⟩ : _ ∧ _ ∧ Kd.C _ _ _ _ _)
  replace C5 := Aside0.mk (⟨C5.out.1, C5.out.2.1, Kd.C_below C5.out.2.2 hb⟩ : _ ∧ _ ∧ Kd.C _ _ _ _ _)
  clear hb HB31
  go_wp2_with (fail)
  refine (macadamlaw04_work.calls 2 0 0 2 0 0 _ (by kernel_rfl)).mono ?_
  rintro e w33 ⟨rfl, hb⟩
  have HB33 := Aside0.mk (below_then HB32.out HB32.out.size hb)
  replace C1 := Aside0.mk (⟨C1.out.1, C1.out.2.1, Kd.C_below C1.out.2.2 hb⟩ : _ ∧ _ ∧ Kd.C _ _ _ _ _)
  replace C5 := Aside0.mk (⟨C5.out.1, C5.out.2.1, Kd.C_below C5.out.2.2 hb⟩ : _ ∧ _ ∧ Kd.C _ _ _ _ _)
  clear hb HB32
  go_wp2_with (fail)
  refine (macadamlaw04_work.calls 3 1 1 3 1 1 _ (by kernel_rfl)).mono ?_
  rintro e w34 ⟨rfl, hb⟩
  have HB34 := Aside0.mk (below_then HB33.out HB33.out.size hb)
  replace C1 := Aside0.mk (⟨C1.out.1, C1.out.2.1, Kd.C_below C1.out.2.2 hb⟩ : _ ∧ _ ∧ Kd.C _ _ _ _ _)
  replace C5 := Aside0.mk (⟨C5.out.1, C5.out.2.1, Kd.C_below C5.out.2.2 hb⟩ : _ ∧ _ ∧ Kd.C _ _ _ _ _)
  clear hb HB33
  go_wp2_with ((with_reducible refine gate_dst (N := 146) rfl ?_); refine list_of_step ?_; refine Kd.R_lit_step k59 _ 59 ?hg (N := 146) ?hd (xs := planP) (inner := [.int .i64 0, .int .i64 0, .int .i64 0, .int .i64 0, .int .i64 1, .int .i64 2, .int .i64 1, .int .i64 0, .int .i64 0, .int .i64 2, .int .i64 0, .int .i64 0, .int .i64 3, .int .i64 1, .int .i64 1]) (ok := fun _ => True) (okp := fun _ => True) ?hr ?hp (fun _ hk => hk) trivial (Below.refl _ _) (Nat.le_refl _) (by simp [planP]) ?_; (case hd => rfl); (case hg => rfl); (case hr => first | (go_simp; done) | (go_simp; rfl)); (case hp => exact lit5 _ _ _ _ _ _ _ _); intro v3 w35 ho hb hg_ hnew_; clear hg_ hnew_; have HO := Aside0.mk ho; have HB35 := Aside0.mk (below_then HB34.out HB34.out.size hb); replace C1 := Aside0.mk (⟨C1.out.1, C1.out.2.1, Kd.C_below C1.out.2.2 hb⟩ : _ ∧ _ ∧ Kd.C _ _ _ _ _); replace C5 := Aside0.mk (⟨C5.out.1, C5.out.2.1, Kd.C_below C5.out.2.2 hb⟩ : _ ∧ _ ∧ Kd.C _ _ _ _ _); clear hb ho HB34; (obtain ⟨Ap, cp, rfl⟩ := Kd.R_slice HO.out); have CP := Aside0.mk (Kd.R_reads' HO.out); clear HO)
  go_wp2_with (fail)
  refine (macadamlaw04_same.calls 10 _ _ planP _ _ planP true _ C1.out.2.2 C1.out.2.1 CP.out.2.2 CP.out.2.1 (by kernel_rfl)).mono ?_
  rintro e w36 ⟨rfl, hd⟩
  have hb := hd.below
  clear hd
  have HB36 := Aside0.mk (below_then HB35.out HB35.out.size hb)
  replace C1 := Aside0.mk (⟨C1.out.1, C1.out.2.1, Kd.C_below C1.out.2.2 hb⟩ : _ ∧ _ ∧ Kd.C _ _ _ _ _)
  replace C5 := Aside0.mk (⟨C5.out.1, C5.out.2.1, Kd.C_below C5.out.2.2 hb⟩ : _ ∧ _ ∧ Kd.C _ _ _ _ _)
  replace CP := Aside0.mk (⟨CP.out.1, CP.out.2.1, Kd.C_below CP.out.2.2 hb⟩ : _ ∧ _ ∧ Kd.C _ _ _ _ _)
  clear hb HB35
  clear C1
  clear CP
  go_wp2_with ((with_reducible refine gate_dst (N := 151) rfl ?_); refine list_of_step ?_; refine Kd.R_lit_step (Kd.int .i64) _ 3 ?hg (N := 151) ?hd (xs := mosL) (inner := [.int .i64 0, .int .i64 2]) (ok := fun _ => True) (okp := fun _ => True) ?hr ?hp (fun _ hk => hk) trivial (Below.refl _ _) (Nat.le_refl _) (by simp [mosL]) ?_; (case hd => rfl); (case hg => rfl); (case hr => first | (go_simp; done) | (go_simp; rfl)); (case hp => exact (Reps.one (show Kd.M (Kd.int .i64) _ _ _ (0 : Int) [.int .i64 0] from rfl) (Reps.one (show Kd.M (Kd.int .i64) _ _ _ (2 : Int) [.int .i64 2] from rfl) (Reps.none _ _)))); intro v3 w37 ho hb hg_ hnew_; clear hg_ hnew_; have HO := Aside0.mk ho; have HB37 := Aside0.mk (below_then HB36.out HB36.out.size hb); replace C5 := Aside0.mk (⟨C5.out.1, C5.out.2.1, Kd.C_below C5.out.2.2 hb⟩ : _ ∧ _ ∧ Kd.C _ _ _ _ _); clear hb ho HB36; (obtain ⟨Ap, cp, rfl⟩ := Kd.R_slice HO.out); have CP := Aside0.mk (Kd.R_reads' HO.out); clear HO)
  go_wp2_with (fail)
  refine (macadamref00_Like.calls 10 _ _ mosL _ _ mosL true _ C5.out.2.2 C5.out.2.1 CP.out.2.2 CP.out.2.1 (by kernel_rfl)).mono ?_
  rintro e w38 ⟨rfl, hd⟩
  have hb := hd.below
  clear hd
  have HB38 := Aside0.mk (below_then HB37.out HB37.out.size hb)
  replace C5 := Aside0.mk (⟨C5.out.1, C5.out.2.1, Kd.C_below C5.out.2.2 hb⟩ : _ ∧ _ ∧ Kd.C _ _ _ _ _)
  replace CP := Aside0.mk (⟨CP.out.1, CP.out.2.1, Kd.C_below CP.out.2.2 hb⟩ : _ ∧ _ ∧ Kd.C _ _ _ _ _)
  clear hb HB37
  clear C5
  clear CP
  go_wp2_with (fail)
  go_ret
  exact ⟨by rfl, HB38.out⟩
def macadamlaw04_shovelled.f : Option Bool := some true
theorem macadamlaw04_shovelled.calls (r : Bool) (w : World) (hG : GV w) (h : macadamlaw04_shovelled.f = some r) :
    Calls Tryd.prog 24 #[] w fun e w' => e = .returned (.bool r) ∧ Below w.heap.size w w' := by
  obtain rfl : true = r := by simpa [macadamlaw04_shovelled.f] using h
  exact macadamlaw04_shovelled.calls0 w hG
end Go.Proofs.YtikfghnkbgdbgaaDoor.Q
end
section
namespace Go.Proofs.YtikfghnkbgdbgaaDoor.Q
open Go.RowKit Go.Proofs.YtikfghnkbgdbgaaDoorW.PrintWords Go.Proofs.YtikfghnkbgdbgaaDoorW.PrintLast Go.Proofs.YtikfghnkbgdbgaaDoorW.PrintMore
attribute [local go_sem] max2_int min2_int max_two min_two max_three min_three max_four min_four   -- for this text's walks alone
set_option linter.unusedVariables false
set_option linter.unusedSimpArgs false
mutual
def macadamlaw04_GangMost.j0 : Nat → List Int → Int → Int → Int → List Int → Bool → Option (Bool)
 | 0, _, _, _, _, _, _ => none
 | k + 1, x5, x8, x9, x10, x11, x81 => if x81 = true then (some false) else (if x10 = 0 then ((macadamref00_Place.f k x5 x9).bind fun t616 => (if t616 ≥ 0 then (macadamlaw04_GangMost.j1 k x5 x11 true) else (if x8 = 0 then (macadamlaw04_GangMost.j1 k x5 x11 (x10 != 4)) else (macadamlaw04_GangMost.j1 k x5 x11 false)))) else (if x8 = 0 then (macadamlaw04_GangMost.j1 k x5 x11 (x10 != 4)) else (macadamlaw04_GangMost.j1 k x5 x11 false)))
def macadamlaw04_GangMost.j1 : Nat → List Int → List Int → Bool → Option (Bool)
 | 0, _, _, _ => none
 | k + 1, x5, x11, x97 => if x97 = true then (some false) else (if (x11.length : Int) ≤ (x5.length : Int) then (if (x11.length : Int) < (x5.length : Int) then ((macadamlaw04_shovelled.f).bind fun t617 => (some t617)) else ((macadamref00_Sooner.f k x11 x5).bind fun t618 => (if t618 = true then (some false) else ((macadamlaw04_shovelled.f).bind fun t619 => (some t619))))) else (some false))
end
def macadamlaw04_GangMost.f (k : Nat) (l0_0 : List (S66)) (l0_1 : List (S63)) (a0_2 : Int) (l1 : List Int) : Option (Bool) := (gang_Most.f l0_0 l0_1 a0_2).bind fun bt594 => ((macadamlaw04_sound.f k l0_0 l0_1 a0_2).bind fun t598 => (if t598 = true then ((gang_Plan.f l0_0 l0_1 a0_2).bind fun bt600 => ((gang_First.f l0_0 l0_1 a0_2).bind fun bt604 => ((macadamlaw04_drawn.f k l0_0 l0_1 a0_2 l1).bind fun t606 => ((macadamlaw04_mended.f k l0_0 l0_1 a0_2 t606).bind fun t609 => (if bt594.2 = 0 then (if bt600.2 = 0 then (if bt604.2 = 0 then ((macadamref00_Rising.f k bt594.1 (l0_0.length : Int)).bind fun t612 => (if t612 = true then (macadamlaw04_GangMost.j0 k bt594.1 bt600.2 bt604.1 bt604.2 t609 (((bt594.1.length : Int) == (l0_0.length : Int)) != (bt600.2 == 0))) else (macadamlaw04_GangMost.j0 k bt594.1 bt600.2 bt604.1 bt604.2 t609 true))) else (if bt604.2 = 4 then ((macadamref00_Rising.f k bt594.1 (l0_0.length : Int)).bind fun t613 => (if t613 = true then (macadamlaw04_GangMost.j0 k bt594.1 bt600.2 bt604.1 bt604.2 t609 (((bt594.1.length : Int) == (l0_0.length : Int)) != (bt600.2 == 0))) else (macadamlaw04_GangMost.j0 k bt594.1 bt600.2 bt604.1 bt604.2 t609 true))) else (macadamlaw04_GangMost.j0 k bt594.1 bt600.2 bt604.1 bt604.2 t609 true))) else (if bt600.2 = 4 then (if bt604.2 = 0 then ((macadamref00_Rising.f k bt594.1 (l0_0.length : Int)).bind fun t614 => (if t614 = true then (macadamlaw04_GangMost.j0 k bt594.1 bt600.2 bt604.1 bt604.2 t609 (((bt594.1.length : Int) == (l0_0.length : Int)) != (bt600.2 == 0))) else (macadamlaw04_GangMost.j0 k bt594.1 bt600.2 bt604.1 bt604.2 t609 true))) else (if bt604.2 = 4 then ((macadamref00_Rising.f k bt594.1 (l0_0.length : Int)).bind fun t615 => (if t615 = true then (macadamlaw04_GangMost.j0 k bt594.1 bt600.2 bt604.1 bt604.2 t609 (((bt594.1.length : Int) == (l0_0.length : Int)) != (bt600.2 == 0))) else (macadamlaw04_GangMost.j0 k bt594.1 bt600.2 bt604.1 bt604.2 t609 true))) else (macadamlaw04_GangMost.j0 k bt594.1 bt600.2 bt604.1 bt604.2 t609 true))) else (macadamlaw04_GangMost.j0 k bt594.1 bt600.2 bt604.1 bt604.2 t609 true))) else (macadamlaw04_GangMost.j0 k bt594.1 bt600.2 bt604.1 bt604.2 t609 true)))))) else (if bt594.2 = 40 then (if (bt594.1.length : Int) = 0 then ((macadamlaw04_shovelled.f).bind fun t599 => (some t599)) else (some false)) else (some false))))
set_option maxHeartbeats 8000000 in
set_option maxRecDepth 100000 in
theorem macadamlaw04_GangMost.calls (k : Nat) (A0_0 : Option Addr) (c0_0 : Nat) (l0_0 : List (S66)) (A0_1 : Option Addr) (c0_1 : Nat) (l0_1 : List (S63)) (a0_2 : Int) (A1 : Option Addr) (c1 : Nat) (l1 : List Int) (r : Bool) (w : World) (hr0_0 : Kd.C k66 w A0_0 l0_0.length l0_0) (hc0_0 : l0_0.length ≤ c0_0) (hr0_1 : Kd.C k63 w A0_1 l0_1.length l0_1) (hc0_1 : l0_1.length ≤ c0_1) (hr1 : Kd.C (Kd.int .i64) w A1 l1.length l1) (hc1 : l1.length ≤ c1) (hG : GV w) (h : macadamlaw04_GangMost.f k l0_0 l0_1 a0_2 l1 = some r) :
  Calls Tryd.prog 11 #[.agg #[.slice A0_0 l0_0.length c0_0, .slice A0_1 l0_1.length c0_1, .int .i64 a0_2], .slice A1 l1.length c1] w fun e w' => e = .returned (.bool r) ∧ Below w.heap.size w w' := by
 have hu25 := Tryd.underlying25
 have HR0_0 := Aside0.mk hr0_0
 have HC0_0 := Aside0.mk hc0_0
 clear hr0_0 hc0_0
 have HR0_1 := Aside0.mk hr0_1
 have HC0_1 := Aside0.mk hc0_1
 clear hr0_1 hc0_1
 have HR1 := Aside0.mk hr1
 have HC1 := Aside0.mk hc1
 clear hr1 hc1
 have HB := Aside0.mk (Below.refl w.heap.size w)
 have HG := Aside0.mk hG
 clear hG
 have H : ((gang_Most.f l0_0 l0_1 a0_2).bind fun bt594 => ((macadamlaw04_sound.f k l0_0 l0_1 a0_2).bind fun t598 => (if t598 = true then ((gang_Plan.f l0_0 l0_1 a0_2).bind fun bt600 => ((gang_First.f l0_0 l0_1 a0_2).bind fun bt604 => ((macadamlaw04_drawn.f k l0_0 l0_1 a0_2 l1).bind fun t606 => ((macadamlaw04_mended.f k l0_0 l0_1 a0_2 t606).bind fun t609 => (if bt594.2 = 0 then (if bt600.2 = 0 then (if bt604.2 = 0 then ((macadamref00_Rising.f k bt594.1 (l0_0.length : Int)).bind fun t612 => (if t612 = true then (macadamlaw04_GangMost.j0 k bt594.1 bt600.2 bt604.1 bt604.2 t609 (((bt594.1.length : Int) == (l0_0.length : Int)) != (bt600.2 == 0))) else (macadamlaw04_GangMost.j0 k bt594.1 bt600.2 bt604.1 bt604.2 t609 true))) else (if bt604.2 = 4 then ((macadamref00_Rising.f k bt594.1 (l0_0.length : Int)).bind fun t613 => (if t613 = true then (macadamlaw04_GangMost.j0 k bt594.1 bt600.2 bt604.1 bt604.2 t609 (((bt594.1.length : Int) == (l0_0.length : Int)) != (bt600.2 == 0))) else (macadamlaw04_GangMost.j0 k bt594.1 bt600.2 bt604.1 bt604.2 t609 true))) else (macadamlaw04_GangMost.j0 k bt594.1 bt600.2 bt604.1 bt604.2 t609 true))) else (if bt600.2 = 4 then (if bt604.2 = 0 then ((macadamref00_Rising.f k bt594.1 (l0_0.length : Int)).bind fun t614 => (if t614 = true then (macadamlaw04_GangMost.j0 k bt594.1 bt600.2 bt604.1 bt604.2 t609 (((bt594.1.length : Int) == (l0_0.length : Int)) != (bt600.2 == 0))) else (macadamlaw04_GangMost.j0 k bt594.1 bt600.2 bt604.1 bt604.2 t609 true))) else (if bt604.2 = 4 then ((macadamref00_Rising.f k bt594.1 (l0_0.length : Int)).bind fun t615 => (if t615 = true then (macadamlaw04_GangMost.j0 k bt594.1 bt600.2 bt604.1 bt604.2 t609 (((bt594.1.length : Int) == (l0_0.length : Int)) != (bt600.2 == 0))) else (macadamlaw04_GangMost.j0 k bt594.1 bt600.2 bt604.1 bt604.2 t609 true))) else (macadamlaw04_GangMost.j0 k bt594.1 bt600.2 bt604.1 bt604.2 t609 true))) else (macadamlaw04_GangMost.j0 k bt594.1 bt600.2 bt604.1 bt604.2 t609 true))) else (macadamlaw04_GangMost.j0 k bt594.1 bt600.2 bt604.1 bt604.2 t609 true)))))) else (if bt594.2 = 40 then (if (bt594.1.length : Int) = 0 then ((macadamlaw04_shovelled.f).bind fun t599 => (some t599)) else (some false)) else (some false))))) = some r := h
 clear h
 replace H := Option.bind_eq_some_iff.mp H
 obtain ⟨⟨t594, t597⟩, A30, H⟩ := H
 replace H : ((macadamlaw04_sound.f k l0_0 l0_1 a0_2).bind fun t598 => (if t598 = true then ((gang_Plan.f l0_0 l0_1 a0_2).bind fun bt600 => ((gang_First.f l0_0 l0_1 a0_2).bind fun bt604 => ((macadamlaw04_drawn.f k l0_0 l0_1 a0_2 l1).bind fun t606 => ((macadamlaw04_mended.f k l0_0 l0_1 a0_2 t606).bind fun t609 => (if t597 = 0 then (if bt600.2 = 0 then (if bt604.2 = 0 then ((macadamref00_Rising.f k t594 (l0_0.length : Int)).bind fun t612 => (if t612 = true then (macadamlaw04_GangMost.j0 k t594 bt600.2 bt604.1 bt604.2 t609 (((t594.length : Int) == (l0_0.length : Int)) != (bt600.2 == 0))) else (macadamlaw04_GangMost.j0 k t594 bt600.2 bt604.1 bt604.2 t609 true))) else (if bt604.2 = 4 then ((macadamref00_Rising.f k t594 (l0_0.length : Int)).bind fun t613 => (if t613 = true then (macadamlaw04_GangMost.j0 k t594 bt600.2 bt604.1 bt604.2 t609 (((t594.length : Int) == (l0_0.length : Int)) != (bt600.2 == 0))) else (macadamlaw04_GangMost.j0 k t594 bt600.2 bt604.1 bt604.2 t609 true))) else (macadamlaw04_GangMost.j0 k t594 bt600.2 bt604.1 bt604.2 t609 true))) else (if bt600.2 = 4 then (if bt604.2 = 0 then ((macadamref00_Rising.f k t594 (l0_0.length : Int)).bind fun t614 => (if t614 = true then (macadamlaw04_GangMost.j0 k t594 bt600.2 bt604.1 bt604.2 t609 (((t594.length : Int) == (l0_0.length : Int)) != (bt600.2 == 0))) else (macadamlaw04_GangMost.j0 k t594 bt600.2 bt604.1 bt604.2 t609 true))) else (if bt604.2 = 4 then ((macadamref00_Rising.f k t594 (l0_0.length : Int)).bind fun t615 => (if t615 = true then (macadamlaw04_GangMost.j0 k t594 bt600.2 bt604.1 bt604.2 t609 (((t594.length : Int) == (l0_0.length : Int)) != (bt600.2 == 0))) else (macadamlaw04_GangMost.j0 k t594 bt600.2 bt604.1 bt604.2 t609 true))) else (macadamlaw04_GangMost.j0 k t594 bt600.2 bt604.1 bt604.2 t609 true))) else (macadamlaw04_GangMost.j0 k t594 bt600.2 bt604.1 bt604.2 t609 true))) else (macadamlaw04_GangMost.j0 k t594 bt600.2 bt604.1 bt604.2 t609 true)))))) else (if t597 = 40 then (if (t594.length : Int) = 0 then ((macadamlaw04_shovelled.f).bind fun t599 => (some t599)) else (some false)) else (some false)))) = some r := H
 have A3 := Aside0.mk A30
 clear A30
 replace H := Option.bind_eq_some_iff.mp H
 obtain ⟨t598, A40, H⟩ := H
 replace H : (if t598 = true then ((gang_Plan.f l0_0 l0_1 a0_2).bind fun bt600 => ((gang_First.f l0_0 l0_1 a0_2).bind fun bt604 => ((macadamlaw04_drawn.f k l0_0 l0_1 a0_2 l1).bind fun t606 => ((macadamlaw04_mended.f k l0_0 l0_1 a0_2 t606).bind fun t609 => (if t597 = 0 then (if bt600.2 = 0 then (if bt604.2 = 0 then ((macadamref00_Rising.f k t594 (l0_0.length : Int)).bind fun t612 => (if t612 = true then (macadamlaw04_GangMost.j0 k t594 bt600.2 bt604.1 bt604.2 t609 (((t594.length : Int) == (l0_0.length : Int)) != (bt600.2 == 0))) else (macadamlaw04_GangMost.j0 k t594 bt600.2 bt604.1 bt604.2 t609 true))) else (if bt604.2 = 4 then ((macadamref00_Rising.f k t594 (l0_0.length : Int)).bind fun t613 => (if t613 = true then (macadamlaw04_GangMost.j0 k t594 bt600.2 bt604.1 bt604.2 t609 (((t594.length : Int) == (l0_0.length : Int)) != (bt600.2 == 0))) else (macadamlaw04_GangMost.j0 k t594 bt600.2 bt604.1 bt604.2 t609 true))) else (macadamlaw04_GangMost.j0 k t594 bt600.2 bt604.1 bt604.2 t609 true))) else (if bt600.2 = 4 then (if bt604.2 = 0 then ((macadamref00_Rising.f k t594 (l0_0.length : Int)).bind fun t614 => (if t614 = true then (macadamlaw04_GangMost.j0 k t594 bt600.2 bt604.1 bt604.2 t609 (((t594.length : Int) == (l0_0.length : Int)) != (bt600.2 == 0))) else (macadamlaw04_GangMost.j0 k t594 bt600.2 bt604.1 bt604.2 t609 true))) else (if bt604.2 = 4 then ((macadamref00_Rising.f k t594 (l0_0.length : Int)).bind fun t615 => (if t615 = true then (macadamlaw04_GangMost.j0 k t594 bt600.2 bt604.1 bt604.2 t609 (((t594.length : Int) == (l0_0.length : Int)) != (bt600.2 == 0))) else (macadamlaw04_GangMost.j0 k t594 bt600.2 bt604.1 bt604.2 t609 true))) else (macadamlaw04_GangMost.j0 k t594 bt600.2 bt604.1 bt604.2 t609 true))) else (macadamlaw04_GangMost.j0 k t594 bt600.2 bt604.1 bt604.2 t609 true))) else (macadamlaw04_GangMost.j0 k t594 bt600.2 bt604.1 bt604.2 t609 true)))))) else (if t597 = 40 then (if (t594.length : Int) = 0 then ((macadamlaw04_shovelled.f).bind fun t599 => (some t599)) else (some false)) else (some false))) = some r := H
 have A4 := Aside0.mk A40
 clear A40
 by_cases c5 : t598 = true
 ·subst c5
  have H1 : ((gang_Plan.f l0_0 l0_1 a0_2).bind fun bt600 => ((gang_First.f l0_0 l0_1 a0_2).bind fun bt604 => ((macadamlaw04_drawn.f k l0_0 l0_1 a0_2 l1).bind fun t606 => ((macadamlaw04_mended.f k l0_0 l0_1 a0_2 t606).bind fun t609 => (if t597 = 0 then (if bt600.2 = 0 then (if bt604.2 = 0 then ((macadamref00_Rising.f k t594 (l0_0.length : Int)).bind fun t612 => (if t612 = true then (macadamlaw04_GangMost.j0 k t594 bt600.2 bt604.1 bt604.2 t609 (((t594.length : Int) == (l0_0.length : Int)) != (bt600.2 == 0))) else (macadamlaw04_GangMost.j0 k t594 bt600.2 bt604.1 bt604.2 t609 true))) else (if bt604.2 = 4 then ((macadamref00_Rising.f k t594 (l0_0.length : Int)).bind fun t613 => (if t613 = true then (macadamlaw04_GangMost.j0 k t594 bt600.2 bt604.1 bt604.2 t609 (((t594.length : Int) == (l0_0.length : Int)) != (bt600.2 == 0))) else (macadamlaw04_GangMost.j0 k t594 bt600.2 bt604.1 bt604.2 t609 true))) else (macadamlaw04_GangMost.j0 k t594 bt600.2 bt604.1 bt604.2 t609 true))) else (if bt600.2 = 4 then (if bt604.2 = 0 then ((macadamref00_Rising.f k t594 (l0_0.length : Int)).bind fun t614 => (if t614 = true then (macadamlaw04_GangMost.j0 k t594 bt600.2 bt604.1 bt604.2 t609 (((t594.length : Int) == (l0_0.length : Int)) != (bt600.2 == 0))) else (macadamlaw04_GangMost.j0 k t594 bt600.2 bt604.1 bt604.2 t609 true))) else (if bt604.2 = 4 then ((macadamref00_Rising.f k t594 (l0_0.length : Int)).bind fun t615 => (if t615 = true then (macadamlaw04_GangMost.j0 k t594 bt600.2 bt604.1 bt604.2 t609 (((t594.length : Int) == (l0_0.length : Int)) != (bt600.2 == 0))) else (macadamlaw04_GangMost.j0 k t594 bt600.2 bt604.1 bt604.2 t609 true))) else (macadamlaw04_GangMost.j0 k t594 bt600.2 bt604.1 bt604.2 t609 true))) else (macadamlaw04_GangMost.j0 k t594 bt600.2 bt604.1 bt604.2 t609 true))) else (macadamlaw04_GangMost.j0 k t594 bt600.2 bt604.1 bt604.2 t609 true)))))) = some r := by rw [if_pos rfl] at H; exact H
  clear H
  have H := H1
  clear H1
  replace H := Option.bind_eq_some_iff.mp H
  obtain ⟨⟨t600, t603⟩, A60, H⟩ := H
  replace H : ((gang_First.f l0_0 l0_1 a0_2).bind fun bt604 => ((macadamlaw04_drawn.f k l0_0 l0_1 a0_2 l1).bind fun t606 => ((macadamlaw04_mended.f k l0_0 l0_1 a0_2 t606).bind fun t609 => (if t597 = 0 then (if t603 = 0 then (if bt604.2 = 0 then ((macadamref00_Rising.f k t594 (l0_0.length : Int)).bind fun t612 => (if t612 = true then (macadamlaw04_GangMost.j0 k t594 t603 bt604.1 bt604.2 t609 (((t594.length : Int) == (l0_0.length : Int)) != (t603 == 0))) else (macadamlaw04_GangMost.j0 k t594 t603 bt604.1 bt604.2 t609 true))) else (if bt604.2 = 4 then ((macadamref00_Rising.f k t594 (l0_0.length : Int)).bind fun t613 => (if t613 = true then (macadamlaw04_GangMost.j0 k t594 t603 bt604.1 bt604.2 t609 (((t594.length : Int) == (l0_0.length : Int)) != (t603 == 0))) else (macadamlaw04_GangMost.j0 k t594 t603 bt604.1 bt604.2 t609 true))) else (macadamlaw04_GangMost.j0 k t594 t603 bt604.1 bt604.2 t609 true))) else (if t603 = 4 then (if bt604.2 = 0 then ((macadamref00_Rising.f k t594 (l0_0.length : Int)).bind fun t614 => (if t614 = true then (macadamlaw04_GangMost.j0 k t594 t603 bt604.1 bt604.2 t609 (((t594.length : Int) == (l0_0.length : Int)) != (t603 == 0))) else (macadamlaw04_GangMost.j0 k t594 t603 bt604.1 bt604.2 t609 true))) else (if bt604.2 = 4 then ((macadamref00_Rising.f k t594 (l0_0.length : Int)).bind fun t615 => (if t615 = true then (macadamlaw04_GangMost.j0 k t594 t603 bt604.1 bt604.2 t609 (((t594.length : Int) == (l0_0.length : Int)) != (t603 == 0))) else (macadamlaw04_GangMost.j0 k t594 t603 bt604.1 bt604.2 t609 true))) else (macadamlaw04_GangMost.j0 k t594 t603 bt604.1 bt604.2 t609 true))) else (macadamlaw04_GangMost.j0 k t594 t603 bt604.1 bt604.2 t609 true))) else (macadamlaw04_GangMost.j0 k t594 t603 bt604.1 bt604.2 t609 true))))) = some r := H
  have A6 := Aside0.mk A60
  clear A60
  replace H := Option.bind_eq_some_iff.mp H
  obtain ⟨⟨t604, t605⟩, A70, H⟩ := H
  replace H : ((macadamlaw04_drawn.f k l0_0 l0_1 a0_2 l1).bind fun t606 => ((macadamlaw04_mended.f k l0_0 l0_1 a0_2 t606).bind fun t609 => (if t597 = 0 then (if t603 = 0 then (if t605 = 0 then ((macadamref00_Rising.f k t594 (l0_0.length : Int)).bind fun t612 => (if t612 = true then (macadamlaw04_GangMost.j0 k t594 t603 t604 t605 t609 (((t594.length : Int) == (l0_0.length : Int)) != (t603 == 0))) else (macadamlaw04_GangMost.j0 k t594 t603 t604 t605 t609 true))) else (if t605 = 4 then ((macadamref00_Rising.f k t594 (l0_0.length : Int)).bind fun t613 => (if t613 = true then (macadamlaw04_GangMost.j0 k t594 t603 t604 t605 t609 (((t594.length : Int) == (l0_0.length : Int)) != (t603 == 0))) else (macadamlaw04_GangMost.j0 k t594 t603 t604 t605 t609 true))) else (macadamlaw04_GangMost.j0 k t594 t603 t604 t605 t609 true))) else (if t603 = 4 then (if t605 = 0 then ((macadamref00_Rising.f k t594 (l0_0.length : Int)).bind fun t614 => (if t614 = true then (macadamlaw04_GangMost.j0 k t594 t603 t604 t605 t609 (((t594.length : Int) == (l0_0.length : Int)) != (t603 == 0))) else (macadamlaw04_GangMost.j0 k t594 t603 t604 t605 t609 true))) else (if t605 = 4 then ((macadamref00_Rising.f k t594 (l0_0.length : Int)).bind fun t615 => (if t615 = true then (macadamlaw04_GangMost.j0 k t594 t603 t604 t605 t609 (((t594.length : Int) == (l0_0.length : Int)) != (t603 == 0))) else (macadamlaw04_GangMost.j0 k t594 t603 t604 t605 t609 true))) else (macadamlaw04_GangMost.j0 k t594 t603 t604 t605 t609 true))) else (macadamlaw04_GangMost.j0 k t594 t603 t604 t605 t609 true))) else (macadamlaw04_GangMost.j0 k t594 t603 t604 t605 t609 true)))) = some r := H
  have A7 := Aside0.mk A70
  clear A70
  replace H := Option.bind_eq_some_iff.mp H
  obtain ⟨t606, A80, H⟩ := H
  replace H : ((macadamlaw04_mended.f k l0_0 l0_1 a0_2 t606).bind fun t609 => (if t597 = 0 then (if t603 = 0 then (if t605 = 0 then ((macadamref00_Rising.f k t594 (l0_0.length : Int)).bind fun t612 => (if t612 = true then (macadamlaw04_GangMost.j0 k t594 t603 t604 t605 t609 (((t594.length : Int) == (l0_0.length : Int)) != (t603 == 0))) else (macadamlaw04_GangMost.j0 k t594 t603 t604 t605 t609 true))) else (if t605 = 4 then ((macadamref00_Rising.f k t594 (l0_0.length : Int)).bind fun t613 => (if t613 = true then (macadamlaw04_GangMost.j0 k t594 t603 t604 t605 t609 (((t594.length : Int) == (l0_0.length : Int)) != (t603 == 0))) else (macadamlaw04_GangMost.j0 k t594 t603 t604 t605 t609 true))) else (macadamlaw04_GangMost.j0 k t594 t603 t604 t605 t609 true))) else (if t603 = 4 then (if t605 = 0 then ((macadamref00_Rising.f k t594 (l0_0.length : Int)).bind fun t614 => (if t614 = true then (macadamlaw04_GangMost.j0 k t594 t603 t604 t605 t609 (((t594.length : Int) == (l0_0.length : Int)) != (t603 == 0))) else (macadamlaw04_GangMost.j0 k t594 t603 t604 t605 t609 true))) else (if t605 = 4 then ((macadamref00_Rising.f k t594 (l0_0.length : Int)).bind fun t615 => (if t615 = true then (macadamlaw04_GangMost.j0 k t594 t603 t604 t605 t609 (((t594.length : Int) == (l0_0.length : Int)) != (t603 == 0))) else (macadamlaw04_GangMost.j0 k t594 t603 t604 t605 t609 true))) else (macadamlaw04_GangMost.j0 k t594 t603 t604 t605 t609 true))) else (macadamlaw04_GangMost.j0 k t594 t603 t604 t605 t609 true))) else (macadamlaw04_GangMost.j0 k t594 t603 t604 t605 t609 true))) = some r := H
  have A8 := Aside0.mk A80
  clear A80
  replace H := Option.bind_eq_some_iff.mp H
  obtain ⟨t609, A90, H⟩ := H
  replace H : (if t597 = 0 then (if t603 = 0 then (if t605 = 0 then ((macadamref00_Rising.f k t594 (l0_0.length : Int)).bind fun t612 => (if t612 = true then (macadamlaw04_GangMost.j0 k t594 t603 t604 t605 t609 (((t594.length : Int) == (l0_0.length : Int)) != (t603 == 0))) else (macadamlaw04_GangMost.j0 k t594 t603 t604 t605 t609 true))) else (if t605 = 4 then ((macadamref00_Rising.f k t594 (l0_0.length : Int)).bind fun t613 => (if t613 = true then (macadamlaw04_GangMost.j0 k t594 t603 t604 t605 t609 (((t594.length : Int) == (l0_0.length : Int)) != (t603 == 0))) else (macadamlaw04_GangMost.j0 k t594 t603 t604 t605 t609 true))) else (macadamlaw04_GangMost.j0 k t594 t603 t604 t605 t609 true))) else (if t603 = 4 then (if t605 = 0 then ((macadamref00_Rising.f k t594 (l0_0.length : Int)).bind fun t614 => (if t614 = true then (macadamlaw04_GangMost.j0 k t594 t603 t604 t605 t609 (((t594.length : Int) == (l0_0.length : Int)) != (t603 == 0))) else (macadamlaw04_GangMost.j0 k t594 t603 t604 t605 t609 true))) else (if t605 = 4 then ((macadamref00_Rising.f k t594 (l0_0.length : Int)).bind fun t615 => (if t615 = true then (macadamlaw04_GangMost.j0 k t594 t603 t604 t605 t609 (((t594.length : Int) == (l0_0.length : Int)) != (t603 == 0))) else (macadamlaw04_GangMost.j0 k t594 t603 t604 t605 t609 true))) else (macadamlaw04_GangMost.j0 k t594 t603 t604 t605 t609 true))) else (macadamlaw04_GangMost.j0 k t594 t603 t604 t605 t609 true))) else (macadamlaw04_GangMost.j0 k t594 t603 t604 t605 t609 true)) = some r := H
  have A9 := Aside0.mk A90
  clear A90
  have HC10 := Aside0.mk H
  clear H
  go_enter Tryd.func11, Tryd.ntmps11
  try go_wp2_with (first | ((with_reducible refine gate_dst (N := 2) rfl ?_); (try (refine gate_guard (by rfl) ?_; dsimp only)); refine bx 2 #[.slice A0_0 l0_0.length c0_0, .slice A0_1 l0_1.length c0_1, .int .i64 a0_2] 25 ?_; intro gb593 hg w11 hbox hb; have n0_ := Aside0.mk (below_step (bw HB) hb); have n1_ := Aside0.mk (hbox); have n2_ := Aside0.mk (bz (bw HB) hg); have n3_ := Aside0.mk (bz (bw HB) hg); clear HB; have HB := n0_; have BK593 := n1_; have GW593 := n2_; have GE593 := n3_; clear n0_ n1_ n2_ n3_; clear hb hbox hg; obtain ⟨hcz12_0, hcz12_1, hcz12_2, hfz12_0, hfz12_1, hfz12_2⟩ := b3 BK593) | ((with_reducible refine gate_callee (f := 34) rfl ?_); refine gL (some 14) Tryd.func34 #[.agg #[.slice A0_0 l0_0.length c0_0, .slice A0_1 l0_1.length c0_1, .int .i64 a0_2]] ?_; (with_reducible refine (gang_Most.calls _ _ l0_0 _ _ l0_1 a0_2 t594 t597 _ ?side1 ?side2 ?side3 ?side4 ?side5 A3.out).mono ?_); (case side1 => repeat (first | exact (Kd.C_below HR0_0.out HB.out) | (with_reducible refine Kd.C_alloc ?_ _) | (with_reducible refine Kd.C_drewN ?_ _) | (with_reducible refine Kd.C_drew ?_))); (case side2 => exact HC0_0.out); (case side3 => repeat (first | exact (Kd.C_below HR0_1.out HB.out) | (with_reducible refine Kd.C_alloc ?_ _) | (with_reducible refine Kd.C_drewN ?_ _) | (with_reducible refine Kd.C_drew ?_))); (case side4 => exact HC0_1.out); (case side5 => exact gv_below HG.out (bw1 HB GE593)); rintro e w13 ⟨v595, rfl, ho0, hb⟩; refine ⟨_, rfl, ?_⟩; have n0_ := Aside0.mk (Kd.V_lower (Kd.V_mono (ok' := fun k_ => k_ ≠ gb593) ho0 (fun k_ hk_ => (Kd.freshB (g := gb593) (o := .cells #[.slice A0_0 l0_0.length c0_0, .slice A0_1 l0_1.length c0_1, .int .i64 a0_2] 25 (0, 0)) (bm BK593) k_ hk_))) (below_size (bw1 HB GE593))); have n1_ := Aside0.mk (blk_below (bm BK593) hb); have n2_ := Aside0.mk (below_step (bw1 HB GE593) hb); clear BK593; clear HB; have HO596 := n0_; have BK593 := n1_; have HB := n2_; clear n0_ n1_ n2_; (try clear hb); (try clear hb2); (try clear hk); (try clear hi); (try clear ho0); obtain ⟨hcz14_0, hcz14_1, hcz14_2, hfz14_0, hfz14_1, hfz14_2⟩ := b3 BK593) | ((with_reducible refine gate_callee (f := 38) rfl ?_); refine gL (some 18) Tryd.func38 #[.agg #[.slice A0_0 l0_0.length c0_0, .slice A0_1 l0_1.length c0_1, .int .i64 a0_2]] ?_; (with_reducible refine (macadamlaw04_sound.calls k _ _ l0_0 _ _ l0_1 a0_2 true _ ?side1 ?side2 ?side3 ?side4 A4.out).mono ?_); (case side1 => repeat (first | exact (Kd.C_below HR0_0.out HB.out) | (with_reducible refine Kd.C_alloc ?_ _) | (with_reducible refine Kd.C_drewN ?_ _) | (with_reducible refine Kd.C_drew ?_))); (case side2 => exact HC0_0.out); (case side3 => repeat (first | exact (Kd.C_below HR0_1.out HB.out) | (with_reducible refine Kd.C_alloc ?_ _) | (with_reducible refine Kd.C_drewN ?_ _) | (with_reducible refine Kd.C_drew ?_))); (case side4 => exact HC0_1.out); rintro e w15 ⟨rfl, hb⟩; refine ⟨_, rfl, ?_⟩; have n0_ := Aside0.mk (Kd.V_below (by (with_reducible repeat (first | apply Kd.V_alloc | apply Kd.V_drewN | apply Kd.V_drew)); exact HO596.out) hb); have n1_ := Aside0.mk (blk_below (bm BK593) hb); have n2_ := Aside0.mk (below_step (bw1 HB GE593) hb); clear HO596; clear BK593; clear HB; have HO596 := n0_; have BK593 := n1_; have HB := n2_; clear n0_ n1_ n2_; (try clear hb); (try clear hb2); (try clear hk); (try clear hi); obtain ⟨hcz16_0, hcz16_1, hcz16_2, hfz16_0, hfz16_1, hfz16_2⟩ := b3 BK593) | ((with_reducible refine gate_callee (f := 31) rfl ?_); refine gL (some 32) Tryd.func31 #[.agg #[.slice A0_0 l0_0.length c0_0, .slice A0_1 l0_1.length c0_1, .int .i64 a0_2]] ?_; (with_reducible refine (gang_Plan.calls _ _ l0_0 _ _ l0_1 a0_2 t600 t603 _ ?side1 ?side2 ?side3 ?side4 ?side5 A6.out).mono ?_); (case side1 => repeat (first | exact (Kd.C_below HR0_0.out HB.out) | (with_reducible refine Kd.C_alloc ?_ _) | (with_reducible refine Kd.C_drewN ?_ _) | (with_reducible refine Kd.C_drew ?_))); (case side2 => exact HC0_0.out); (case side3 => repeat (first | exact (Kd.C_below HR0_1.out HB.out) | (with_reducible refine Kd.C_alloc ?_ _) | (with_reducible refine Kd.C_drewN ?_ _) | (with_reducible refine Kd.C_drew ?_))); (case side4 => exact HC0_1.out); (case side5 => exact gv_below HG.out (bw1 HB GE593)); rintro e w17 ⟨v601, rfl, ho0, hb⟩; refine ⟨_, rfl, ?_⟩; have n0_ := Aside0.mk (Kd.V_below (by (with_reducible repeat (first | apply Kd.V_alloc | apply Kd.V_drewN | apply Kd.V_drew)); exact HO596.out) hb); have n1_ := Aside0.mk (Kd.V_lower (Kd.V_mono (ok' := fun k_ => k_ ≠ gb593) ho0 (fun k_ hk_ => (Kd.freshB (g := gb593) (o := .cells #[.slice A0_0 l0_0.length c0_0, .slice A0_1 l0_1.length c0_1, .int .i64 a0_2] 25 (0, 0)) (bm BK593) k_ hk_))) (below_size (bw1 HB GE593))); have n2_ := Aside0.mk (blk_below (bm BK593) hb); have n3_ := Aside0.mk (below_step (bw1 HB GE593) hb); clear HO596; clear BK593; clear HB; have HO596 := n0_; have HO602 := n1_; have BK593 := n2_; have HB := n3_; clear n0_ n1_ n2_ n3_; (try clear hb); (try clear hb2); (try clear hk); (try clear hi); (try clear ho0); obtain ⟨hcz18_0, hcz18_1, hcz18_2, hfz18_0, hfz18_1, hfz18_2⟩ := b3 BK593) | ((with_reducible refine gate_callee (f := 36) rfl ?_); refine gL (some 37) Tryd.func36 #[.agg #[.slice A0_0 l0_0.length c0_0, .slice A0_1 l0_1.length c0_1, .int .i64 a0_2]] ?_; (with_reducible refine (gang_First.calls _ _ l0_0 _ _ l0_1 a0_2 t604 t605 _ ?side1 ?side2 ?side3 ?side4 ?side5 A7.out).mono ?_); (case side1 => repeat (first | exact (Kd.C_below HR0_0.out HB.out) | (with_reducible refine Kd.C_alloc ?_ _) | (with_reducible refine Kd.C_drewN ?_ _) | (with_reducible refine Kd.C_drew ?_))); (case side2 => exact HC0_0.out); (case side3 => repeat (first | exact (Kd.C_below HR0_1.out HB.out) | (with_reducible refine Kd.C_alloc ?_ _) | (with_reducible refine Kd.C_drewN ?_ _) | (with_reducible refine Kd.C_drew ?_))); (case side4 => exact HC0_1.out); (case side5 => exact gv_below HG.out (bw1 HB GE593)); rintro e w19 ⟨rfl, hb⟩; refine ⟨_, rfl, ?_⟩; have n0_ := Aside0.mk (Kd.V_below (by (with_reducible repeat (first | apply Kd.V_alloc | apply Kd.V_drewN | apply Kd.V_drew)); exact HO596.out) hb); have n1_ := Aside0.mk (Kd.V_below (by (with_reducible repeat (first | apply Kd.V_alloc | apply Kd.V_drewN | apply Kd.V_drew)); exact HO602.out) hb); have n2_ := Aside0.mk (blk_below (bm BK593) hb); have n3_ := Aside0.mk (below_step (bw1 HB GE593) hb); clear HO596; clear HO602; clear BK593; clear HB; have HO596 := n0_; have HO602 := n1_; have BK593 := n2_; have HB := n3_; clear n0_ n1_ n2_ n3_; (try clear hb); (try clear hb2); (try clear hk); (try clear hi)))
  have n0_ := Aside0.mk (Kd.V_drew HO596.out)
  have n1_ := Aside0.mk (Kd.V_drew HO602.out)
  have n2_ := Aside0.mk (blk_drew BK593.out)
  have n3_ := Aside0.mk (below_drew1 HB.out)
  clear HO596
  clear HO602
  clear BK593
  clear HB
  have HO596 := n0_
  have HO602 := n1_
  have BK593 := n2_
  have HB := n3_
  clear n0_ n1_ n2_ n3_
  refine start_ (n := 6) (S := fun w' => w'.cell? ⟨gb593, 0, none⟩ = some (.slice A0_0 l0_0.length c0_0) ∧ w'.cell? ⟨gb593, 1, none⟩ = some (.slice A0_1 l0_1.length c0_1) ∧ w'.cell? ⟨gb593, 2, none⟩ = some (.int .i64 a0_2)) (ds := []) (bs 6 0) (by kernel_rfl) rfl rfl ⟨(blk_cell BK593.out 0).trans rfl, (blk_cell BK593.out 1).trans rfl, (blk_cell BK593.out 2).trans rfl⟩ (fun hHeld => ?_)
  generalize w19.drew = w20 at HO596 HO602 BK593 HB hHeld ⊢
  refine pv 2 (some 42) (bs 6 4) ?_
  refine take_ (i := 0) (N := some 40) (v := ?_) (a' := ?_) (bs 6 5) rfl rfl (by kernel_rfl) (fun _ _ _ h => h) (Or.inl ⟨by rfl, ?_⟩) hHeld ?_ ?_
  rotate_left
  ·rintro w' ⟨s0, s1, s2⟩
   go_simp
   with_reducible rfl
  rotate_left
  ·simp only [Act.put, List.setIfInBounds_toArray, List.set_cons_zero, List.set_cons_succ, i64_w, i32_w]
   rfl
  refine take_ (i := 1) (N := some 41) (v := ?_) (a' := ?_) (bs 6 7) rfl rfl (by kernel_rfl) (fun _ _ _ h => h) (Or.inl ⟨by rfl, ?_⟩) hHeld ?_ ?_
  rotate_left
  ·rintro w' ⟨s0, s1, s2⟩
   go_simp
   with_reducible rfl
  rotate_left
  ·simp only [Act.put, List.setIfInBounds_toArray, List.set_cons_zero, List.set_cons_succ, i64_w, i32_w]
   rfl
  refine one_ (i := 3) (N := some 43) (bs 6 15) rfl rfl (by kernel_rfl) (by decide) (fun K hK => ?_)
  refine goes_ Tryd.func47 (by kernel_rfl) rfl #[.agg #[.slice A0_0 l0_0.length c0_0, .slice A0_1 l0_1.length c0_1, .int .i64 a0_2], .slice A1 l1.length c1] (by rfl) rfl rfl (by (try simp only [List.map_toArray, List.map_cons, List.map_nil]); first | done | rfl | (simp only [List.length_drop, List.length_take]; rfl)) ?_
  with_reducible refine (macadamlaw04_drawn.calls k _ _ l0_0 _ _ l0_1 a0_2 _ _ l1 t606 _ ?side1 ?side2 ?side3 ?side4 ?side5 ?side6 A8.out).mono ?_
  (case side1 => repeat (first | exact (Kd.C_below HR0_0.out HB.out) | (with_reducible refine Kd.C_alloc ?_ _) | (with_reducible refine Kd.C_drewN ?_ _) | (with_reducible refine Kd.C_drew ?_)))
  (case side2 => exact HC0_0.out)
  (case side3 => repeat (first | exact (Kd.C_below HR0_1.out HB.out) | (with_reducible refine Kd.C_alloc ?_ _) | (with_reducible refine Kd.C_drewN ?_ _) | (with_reducible refine Kd.C_drew ?_)))
  (case side4 => exact HC0_1.out)
  (case side5 => repeat (first | exact (Kd.C_below HR1.out HB.out) | (with_reducible refine Kd.C_alloc ?_ _) | (with_reducible refine Kd.C_drewN ?_ _) | (with_reducible refine Kd.C_drew ?_)))
  (case side6 => exact HC1.out)
  rintro e w21 ⟨v607, rfl, ho0, hb⟩
  refine ⟨_, rfl, ?_⟩
  have n0_ := Aside0.mk (Kd.V_elder' (by (with_reducible repeat (first | apply Kd.V_alloc | apply Kd.V_drewN | apply Kd.V_drew)); exact HO596.out) (Kd.R_base ho0) hb)
  have n1_ := Aside0.mk (Kd.V_elder' (by (with_reducible repeat (first | apply Kd.V_alloc | apply Kd.V_drewN | apply Kd.V_drew)); exact HO602.out) (Kd.R_base ho0) hb)
  have n2_ := Aside0.mk (Kd.R_lower ho0 (below_size (bw1 HB GE593)))
  have n3_ := Aside0.mk (blk_below (bm BK593) hb)
  have n4_ := Aside0.mk (below_step (bw1 HB GE593) hb)
  clear HO596
  clear HO602
  clear BK593
  clear HB
  have HO596 := n0_
  have HO602 := n1_
  have HO608 := n2_
  have BK593 := n3_
  have HB := n4_
  clear n0_ n1_ n2_ n3_ n4_
  (try clear hb)
  (try clear hb2)
  (try clear hk)
  (try clear hi)
  (try clear ho0)
  obtain ⟨Ao22, co22, eo22⟩ := Kd.R_slice HO608.out
  (first | subst eo22 | (injection eo22 with f1_ f2_ f3_; have f4_ := f1_.symm; have f5_ := f3_.symm; clear f1_ f2_ f3_; subst f4_; subst f5_))
  refine hK.out _ _ ⟨(blk_cell BK593.out 0).trans rfl, (blk_cell BK593.out 1).trans rfl, (blk_cell BK593.out 2).trans rfl⟩ (fun hHeld => ?_)
  clear hK K
  refine nm 43 ?_
  refine one_ (i := 4) (N := some 44) (bs 6 31) rfl rfl (by kernel_rfl) (by decide) (fun K hK => ?_)
  refine goes_ Tryd.func48 (by kernel_rfl) rfl #[.agg #[.slice A0_0 l0_0.length c0_0, .slice A0_1 l0_1.length c0_1, .int .i64 a0_2], .slice Ao22 t606.length co22] (by rfl) rfl rfl (by (try simp only [List.map_toArray, List.map_cons, List.map_nil]); first | done | rfl | (simp only [List.length_drop, List.length_take]; rfl)) ?_
  with_reducible refine (macadamlaw04_mended.calls k _ _ l0_0 _ _ l0_1 a0_2 _ _ t606 t609 _ ?side1 ?side2 ?side3 ?side4 ?side5 ?side6 A9.out).mono ?_
  (case side1 => repeat (first | exact (Kd.C_below HR0_0.out HB.out) | (with_reducible refine Kd.C_alloc ?_ _) | (with_reducible refine Kd.C_drewN ?_ _) | (with_reducible refine Kd.C_drew ?_)))
  (case side2 => exact HC0_0.out)
  (case side3 => repeat (first | exact (Kd.C_below HR0_1.out HB.out) | (with_reducible refine Kd.C_alloc ?_ _) | (with_reducible refine Kd.C_drewN ?_ _) | (with_reducible refine Kd.C_drew ?_)))
  (case side4 => exact HC0_1.out)
  (case side5 => repeat (first | exact (Kd.R_reads' HO608.out).2.2 | (with_reducible refine Kd.C_alloc ?_ _) | (with_reducible refine Kd.C_drewN ?_ _) | (with_reducible refine Kd.C_drew ?_)))
  (case side6 => exact (Kd.R_reads' HO608.out).2.1)
  rintro e w23 ⟨v610, rfl, ho0, hb⟩
  refine ⟨_, rfl, ?_⟩
  have n0_ := Aside0.mk (Kd.V_elder' (by (with_reducible repeat (first | apply Kd.V_alloc | apply Kd.V_drewN | apply Kd.V_drew)); exact HO596.out) (Kd.R_base ho0) hb)
  have n1_ := Aside0.mk (Kd.V_elder' (by (with_reducible repeat (first | apply Kd.V_alloc | apply Kd.V_drewN | apply Kd.V_drew)); exact HO602.out) (Kd.R_base ho0) hb)
  have n2_ := Aside0.mk (Kd.R_below (by (with_reducible repeat (first | apply Kd.R_alloc | apply Kd.R_drewN | apply Kd.R_drew)); exact HO608.out) hb)
  have n3_ := Aside0.mk (Kd.R_lower ho0 (below_size (bw1 HB GE593)))
  have n4_ := Aside0.mk (blk_below (bm BK593) hb)
  have n5_ := Aside0.mk (below_step (bw1 HB GE593) hb)
  clear HO596
  clear HO602
  clear HO608
  clear BK593
  clear HB
  have HO596 := n0_
  have HO602 := n1_
  have HO608 := n2_
  have HO611 := n3_
  have BK593 := n4_
  have HB := n5_
  clear n0_ n1_ n2_ n3_ n4_ n5_
  (try clear hb)
  (try clear hb2)
  (try clear hk)
  (try clear hi)
  (try clear ho0)
  refine hK.out _ _ ⟨(blk_cell BK593.out 0).trans rfl, (blk_cell BK593.out 1).trans rfl, (blk_cell BK593.out 2).trans rfl⟩ (fun hHeld => ?_)
  clear hK K
  refine nm 44 ?_
  refine pv 5 (some 11) (bs 6 63) ?_
  refine done_ (by kernel_rfl) ?_
  go_upto_region 7 with (fail)
  go_cut [81] (fun v81 wc => ∃ (kq : Nat) (x81_9 : Bool), v81 = .bool x81_9 ∧ Aside0 (macadamlaw04_GangMost.j0 kq t594 t603 t604 t605 t609 x81_9 = some r) ∧ Aside0 (kq ≤ k) ∧ Aside0 (Kd.V (Kd.int .i64) 3 wc w.heap.size (fun k_ => some k_ ≠ (v610 : Value).ownBlock ∧ k_ ≠ gb593) v595 t594) ∧ Aside0 (Kd.R (Kd.int .i64) 3 wc w.heap.size (fun _ => True) v610 t609) ∧ Aside0 (wc.heap[gb593]? = some (.cells #[(.slice A0_0 l0_0.length c0_0), (.slice A0_1 l0_1.length c0_1), .int .i64 a0_2] 25 (0, 0))) ∧ Aside0 (Below w.heap.size w wc))
  case first =>
   have H := HC10.out
   clear HC10
   by_cases c24 : t597 = 0
   ·rw [if_pos c24] at H
    have c24b0 : (t597 == 0) = true := beq_iff_eq.mpr c24
    have c24b1 : (t597 != 0) = false := bne_eq_false_iff_eq.mpr c24
    clear c24
    (first | rw [c24b0] | (simp only [i64_w, i32_w]; rw [c24b0]) | skip)
    by_cases c25 : t603 = 0
    ·rw [if_pos c25] at H
     have c25b0 : (t603 == 0) = true := beq_iff_eq.mpr c25
     have c25b1 : (t603 != 0) = false := bne_eq_false_iff_eq.mpr c25
     clear c25
     by_cases c26 : t605 = 0
     ·rw [if_pos c26] at H
      have c26b0 : (t605 == 0) = true := beq_iff_eq.mpr c26
      have c26b1 : (t605 != 0) = false := bne_eq_false_iff_eq.mpr c26
      clear c26
      replace H := Option.bind_eq_some_iff.mp H
      obtain ⟨t612, A270, H⟩ := H
      replace H : (if t612 = true then (macadamlaw04_GangMost.j0 k t594 t603 t604 t605 t609 (((t594.length : Int) == (l0_0.length : Int)) != (t603 == 0))) else (macadamlaw04_GangMost.j0 k t594 t603 t604 t605 t609 true)) = some r := H
      have A27 := Aside0.mk A270
      clear A270
      by_cases c28 : t612 = true
      ·subst c28
       have H1 : (macadamlaw04_GangMost.j0 k t594 t603 t604 t605 t609 (((t594.length : Int) == (l0_0.length : Int)) != (t603 == 0))) = some r := by rw [if_pos rfl] at H; exact H
       clear H
       have H := H1
       clear H1
       have H' := Aside0.mk H
       clear H
       obtain ⟨hcz29_0, hcz29_1, hcz29_2, hfz29_0, hfz29_1, hfz29_2⟩ := b3 BK593
       obtain ⟨Ao30, co30, eo30⟩ := Kd.V_slice HO596.out
       subst eo30
       go_wp2_with (first | (go_at_call 42; (with_reducible refine (macadamref00_Rising.calls k _ _ t594 (l0_0.length : Int) true _ ?side1 ?side2 A27.out).mono ?_); (case side1 => repeat (first | exact (Kd.V_reads' HO596.out).2.2 | (with_reducible refine Kd.C_alloc ?_ _) | (with_reducible refine Kd.C_drewN ?_ _) | (with_reducible refine Kd.C_drew ?_))); (case side2 => exact (Kd.V_reads' HO596.out).2.1); rintro e w' ⟨rfl, ⟨nd, rfl⟩⟩))
       go_meet
       case rel => exact ⟨_, ((((t594.length : Int) == (l0_0.length : Int)) != (t603 == 0))), (by first | rfl | (simp; done) | (simp [*]; done)), H', ⟨by first | omega | exact Nat.le_refl _⟩, ⟨by (with_reducible repeat (first | apply Kd.V_alloc | apply Kd.V_drewN | apply Kd.V_drew)); exact Kd.V_mono HO596.out (fun _ hk => ⟨hk.2, hk.1.1⟩)⟩, ⟨by (with_reducible repeat (first | apply Kd.R_alloc | apply Kd.R_drewN | apply Kd.R_drew)); exact HO611.out⟩, ⟨bm BK593⟩, ⟨bw1 HB GE593⟩⟩
      ·replace c28 := Bool.eq_false_iff.mpr c28
       subst c28
       have H1 : (macadamlaw04_GangMost.j0 k t594 t603 t604 t605 t609 true) = some r := by rw [if_neg (show ¬ (false = true) by decide)] at H; exact H
       clear H
       have H := H1
       clear H1
       have H' := Aside0.mk H
       clear H
       obtain ⟨hcz31_0, hcz31_1, hcz31_2, hfz31_0, hfz31_1, hfz31_2⟩ := b3 BK593
       obtain ⟨Ao32, co32, eo32⟩ := Kd.V_slice HO596.out
       subst eo32
       go_wp2_with (first | (go_at_call 42; (with_reducible refine (macadamref00_Rising.calls k _ _ t594 (l0_0.length : Int) false _ ?side1 ?side2 A27.out).mono ?_); (case side1 => repeat (first | exact (Kd.V_reads' HO596.out).2.2 | (with_reducible refine Kd.C_alloc ?_ _) | (with_reducible refine Kd.C_drewN ?_ _) | (with_reducible refine Kd.C_drew ?_))); (case side2 => exact (Kd.V_reads' HO596.out).2.1); rintro e w' ⟨rfl, ⟨nd, rfl⟩⟩))
       go_meet
       case rel => exact ⟨_, (true), (by first | rfl | (simp; done) | (simp [*]; done)), H', ⟨by first | omega | exact Nat.le_refl _⟩, ⟨by (with_reducible repeat (first | apply Kd.V_alloc | apply Kd.V_drewN | apply Kd.V_drew)); exact Kd.V_mono HO596.out (fun _ hk => ⟨hk.2, hk.1.1⟩)⟩, ⟨by (with_reducible repeat (first | apply Kd.R_alloc | apply Kd.R_drewN | apply Kd.R_drew)); exact HO611.out⟩, ⟨bm BK593⟩, ⟨bw1 HB GE593⟩⟩
     ·rw [if_neg c26] at H
      have c26b0 : (t605 == 0) = false := beq_eq_false_iff_ne.mpr c26
      have c26b1 : (t605 != 0) = true := bne_iff_ne.mpr c26
      by_cases c33 : t605 = 4
      ·rw [if_pos c33] at H
       have c33b0 : (t605 == 4) = true := beq_iff_eq.mpr c33
       have c33b1 : (t605 != 4) = false := bne_eq_false_iff_eq.mpr c33
       clear c33
       replace H := Option.bind_eq_some_iff.mp H
       obtain ⟨t613, A340, H⟩ := H
       replace H : (if t613 = true then (macadamlaw04_GangMost.j0 k t594 t603 t604 t605 t609 (((t594.length : Int) == (l0_0.length : Int)) != (t603 == 0))) else (macadamlaw04_GangMost.j0 k t594 t603 t604 t605 t609 true)) = some r := H
       have A34 := Aside0.mk A340
       clear A340
       by_cases c35 : t613 = true
       ·subst c35
        have H1 : (macadamlaw04_GangMost.j0 k t594 t603 t604 t605 t609 (((t594.length : Int) == (l0_0.length : Int)) != (t603 == 0))) = some r := by rw [if_pos rfl] at H; exact H
        clear H
        have H := H1
        clear H1
        have H' := Aside0.mk H
        clear H
        obtain ⟨hcz36_0, hcz36_1, hcz36_2, hfz36_0, hfz36_1, hfz36_2⟩ := b3 BK593
        obtain ⟨Ao37, co37, eo37⟩ := Kd.V_slice HO596.out
        subst eo37
        go_wp2_with (first | (go_at_call 42; (with_reducible refine (macadamref00_Rising.calls k _ _ t594 (l0_0.length : Int) true _ ?side1 ?side2 A34.out).mono ?_); (case side1 => repeat (first | exact (Kd.V_reads' HO596.out).2.2 | (with_reducible refine Kd.C_alloc ?_ _) | (with_reducible refine Kd.C_drewN ?_ _) | (with_reducible refine Kd.C_drew ?_))); (case side2 => exact (Kd.V_reads' HO596.out).2.1); rintro e w' ⟨rfl, ⟨nd, rfl⟩⟩))
        go_meet
        case rel => exact ⟨_, ((((t594.length : Int) == (l0_0.length : Int)) != (t603 == 0))), (by first | rfl | (simp; done) | (simp [*]; done)), H', ⟨by first | omega | exact Nat.le_refl _⟩, ⟨by (with_reducible repeat (first | apply Kd.V_alloc | apply Kd.V_drewN | apply Kd.V_drew)); exact Kd.V_mono HO596.out (fun _ hk => ⟨hk.2, hk.1.1⟩)⟩, ⟨by (with_reducible repeat (first | apply Kd.R_alloc | apply Kd.R_drewN | apply Kd.R_drew)); exact HO611.out⟩, ⟨bm BK593⟩, ⟨bw1 HB GE593⟩⟩
       ·replace c35 := Bool.eq_false_iff.mpr c35
        subst c35
        have H1 : (macadamlaw04_GangMost.j0 k t594 t603 t604 t605 t609 true) = some r := by rw [if_neg (show ¬ (false = true) by decide)] at H; exact H
        clear H
        have H := H1
        clear H1
        have H' := Aside0.mk H
        clear H
        obtain ⟨hcz38_0, hcz38_1, hcz38_2, hfz38_0, hfz38_1, hfz38_2⟩ := b3 BK593
        obtain ⟨Ao39, co39, eo39⟩ := Kd.V_slice HO596.out
        subst eo39
        go_wp2_with (first | (go_at_call 42; (with_reducible refine (macadamref00_Rising.calls k _ _ t594 (l0_0.length : Int) false _ ?side1 ?side2 A34.out).mono ?_); (case side1 => repeat (first | exact (Kd.V_reads' HO596.out).2.2 | (with_reducible refine Kd.C_alloc ?_ _) | (with_reducible refine Kd.C_drewN ?_ _) | (with_reducible refine Kd.C_drew ?_))); (case side2 => exact (Kd.V_reads' HO596.out).2.1); rintro e w' ⟨rfl, ⟨nd, rfl⟩⟩))
        go_meet
        case rel => exact ⟨_, (true), (by first | rfl | (simp; done) | (simp [*]; done)), H', ⟨by first | omega | exact Nat.le_refl _⟩, ⟨by (with_reducible repeat (first | apply Kd.V_alloc | apply Kd.V_drewN | apply Kd.V_drew)); exact Kd.V_mono HO596.out (fun _ hk => ⟨hk.2, hk.1.1⟩)⟩, ⟨by (with_reducible repeat (first | apply Kd.R_alloc | apply Kd.R_drewN | apply Kd.R_drew)); exact HO611.out⟩, ⟨bm BK593⟩, ⟨bw1 HB GE593⟩⟩
      ·rw [if_neg c33] at H
       have c33b0 : (t605 == 4) = false := beq_eq_false_iff_ne.mpr c33
       have c33b1 : (t605 != 4) = true := bne_iff_ne.mpr c33
       have H' := Aside0.mk H
       clear H
       go_wp2
       go_meet
       case rel => exact ⟨_, (true), (by first | rfl | (simp; done) | (simp [*]; done)), H', ⟨by first | omega | exact Nat.le_refl _⟩, ⟨by (with_reducible repeat (first | apply Kd.V_alloc | apply Kd.V_drewN | apply Kd.V_drew)); exact Kd.V_mono HO596.out (fun _ hk => ⟨hk.2, hk.1.1⟩)⟩, ⟨by (with_reducible repeat (first | apply Kd.R_alloc | apply Kd.R_drewN | apply Kd.R_drew)); exact HO611.out⟩, ⟨bm BK593⟩, ⟨bw1 HB GE593⟩⟩
    ·rw [if_neg c25] at H
     have c25b0 : (t603 == 0) = false := beq_eq_false_iff_ne.mpr c25
     have c25b1 : (t603 != 0) = true := bne_iff_ne.mpr c25
     by_cases c40 : t603 = 4
     ·rw [if_pos c40] at H
      have c40b0 : (t603 == 4) = true := beq_iff_eq.mpr c40
      have c40b1 : (t603 != 4) = false := bne_eq_false_iff_eq.mpr c40
      clear c40
      by_cases c41 : t605 = 0
      ·rw [if_pos c41] at H
       have c41b0 : (t605 == 0) = true := beq_iff_eq.mpr c41
       have c41b1 : (t605 != 0) = false := bne_eq_false_iff_eq.mpr c41
       clear c41
       replace H := Option.bind_eq_some_iff.mp H
       obtain ⟨t614, A420, H⟩ := H
       replace H : (if t614 = true then (macadamlaw04_GangMost.j0 k t594 t603 t604 t605 t609 (((t594.length : Int) == (l0_0.length : Int)) != (t603 == 0))) else (macadamlaw04_GangMost.j0 k t594 t603 t604 t605 t609 true)) = some r := H
       have A42 := Aside0.mk A420
       clear A420
       by_cases c43 : t614 = true
       ·subst c43
        have H1 : (macadamlaw04_GangMost.j0 k t594 t603 t604 t605 t609 (((t594.length : Int) == (l0_0.length : Int)) != (t603 == 0))) = some r := by rw [if_pos rfl] at H; exact H
        clear H
        have H := H1
        clear H1
        have H' := Aside0.mk H
        clear H
        obtain ⟨hcz44_0, hcz44_1, hcz44_2, hfz44_0, hfz44_1, hfz44_2⟩ := b3 BK593
        obtain ⟨Ao45, co45, eo45⟩ := Kd.V_slice HO596.out
        subst eo45
        go_wp2_with (first | (go_at_call 42; (with_reducible refine (macadamref00_Rising.calls k _ _ t594 (l0_0.length : Int) true _ ?side1 ?side2 A42.out).mono ?_); (case side1 => repeat (first | exact (Kd.V_reads' HO596.out).2.2 | (with_reducible refine Kd.C_alloc ?_ _) | (with_reducible refine Kd.C_drewN ?_ _) | (with_reducible refine Kd.C_drew ?_))); (case side2 => exact (Kd.V_reads' HO596.out).2.1); rintro e w' ⟨rfl, ⟨nd, rfl⟩⟩))
        go_meet
        case rel => exact ⟨_, ((((t594.length : Int) == (l0_0.length : Int)) != (t603 == 0))), (by first | rfl | (simp; done) | (simp [*]; done)), H', ⟨by first | omega | exact Nat.le_refl _⟩, ⟨by (with_reducible repeat (first | apply Kd.V_alloc | apply Kd.V_drewN | apply Kd.V_drew)); exact Kd.V_mono HO596.out (fun _ hk => ⟨hk.2, hk.1.1⟩)⟩, ⟨by (with_reducible repeat (first | apply Kd.R_alloc | apply Kd.R_drewN | apply Kd.R_drew)); exact HO611.out⟩, ⟨bm BK593⟩, ⟨bw1 HB GE593⟩⟩
       ·replace c43 := Bool.eq_false_iff.mpr c43
        subst c43
        have H1 : (macadamlaw04_GangMost.j0 k t594 t603 t604 t605 t609 true) = some r := by rw [if_neg (show ¬ (false = true) by decide)] at H; exact H
        clear H
        have H := H1
        clear H1
        have H' := Aside0.mk H
        clear H
        obtain ⟨hcz46_0, hcz46_1, hcz46_2, hfz46_0, hfz46_1, hfz46_2⟩ := b3 BK593
        obtain ⟨Ao47, co47, eo47⟩ := Kd.V_slice HO596.out
        subst eo47
        go_wp2_with (first | (go_at_call 42; (with_reducible refine (macadamref00_Rising.calls k _ _ t594 (l0_0.length : Int) false _ ?side1 ?side2 A42.out).mono ?_); (case side1 => repeat (first | exact (Kd.V_reads' HO596.out).2.2 | (with_reducible refine Kd.C_alloc ?_ _) | (with_reducible refine Kd.C_drewN ?_ _) | (with_reducible refine Kd.C_drew ?_))); (case side2 => exact (Kd.V_reads' HO596.out).2.1); rintro e w' ⟨rfl, ⟨nd, rfl⟩⟩))
        go_meet
        case rel => exact ⟨_, (true), (by first | rfl | (simp; done) | (simp [*]; done)), H', ⟨by first | omega | exact Nat.le_refl _⟩, ⟨by (with_reducible repeat (first | apply Kd.V_alloc | apply Kd.V_drewN | apply Kd.V_drew)); exact Kd.V_mono HO596.out (fun _ hk => ⟨hk.2, hk.1.1⟩)⟩, ⟨by (with_reducible repeat (first | apply Kd.R_alloc | apply Kd.R_drewN | apply Kd.R_drew)); exact HO611.out⟩, ⟨bm BK593⟩, ⟨bw1 HB GE593⟩⟩
      ·rw [if_neg c41] at H
       have c41b0 : (t605 == 0) = false := beq_eq_false_iff_ne.mpr c41
       have c41b1 : (t605 != 0) = true := bne_iff_ne.mpr c41
       by_cases c48 : t605 = 4
       ·rw [if_pos c48] at H
        have c48b0 : (t605 == 4) = true := beq_iff_eq.mpr c48
        have c48b1 : (t605 != 4) = false := bne_eq_false_iff_eq.mpr c48
        clear c48
        replace H := Option.bind_eq_some_iff.mp H
        obtain ⟨t615, A490, H⟩ := H
        replace H : (if t615 = true then (macadamlaw04_GangMost.j0 k t594 t603 t604 t605 t609 (((t594.length : Int) == (l0_0.length : Int)) != (t603 == 0))) else (macadamlaw04_GangMost.j0 k t594 t603 t604 t605 t609 true)) = some r := H
        have A49 := Aside0.mk A490
        clear A490
        by_cases c50 : t615 = true
        ·subst c50
         have H1 : (macadamlaw04_GangMost.j0 k t594 t603 t604 t605 t609 (((t594.length : Int) == (l0_0.length : Int)) != (t603 == 0))) = some r := by rw [if_pos rfl] at H; exact H
         clear H
         have H := H1
         clear H1
         have H' := Aside0.mk H
         clear H
         obtain ⟨hcz51_0, hcz51_1, hcz51_2, hfz51_0, hfz51_1, hfz51_2⟩ := b3 BK593
         obtain ⟨Ao52, co52, eo52⟩ := Kd.V_slice HO596.out
         subst eo52
         go_wp2_with (first | (go_at_call 42; (with_reducible refine (macadamref00_Rising.calls k _ _ t594 (l0_0.length : Int) true _ ?side1 ?side2 A49.out).mono ?_); (case side1 => repeat (first | exact (Kd.V_reads' HO596.out).2.2 | (with_reducible refine Kd.C_alloc ?_ _) | (with_reducible refine Kd.C_drewN ?_ _) | (with_reducible refine Kd.C_drew ?_))); (case side2 => exact (Kd.V_reads' HO596.out).2.1); rintro e w' ⟨rfl, ⟨nd, rfl⟩⟩))
         go_meet
         case rel => exact ⟨_, ((((t594.length : Int) == (l0_0.length : Int)) != (t603 == 0))), (by first | rfl | (simp; done) | (simp [*]; done)), H', ⟨by first | omega | exact Nat.le_refl _⟩, ⟨by (with_reducible repeat (first | apply Kd.V_alloc | apply Kd.V_drewN | apply Kd.V_drew)); exact Kd.V_mono HO596.out (fun _ hk => ⟨hk.2, hk.1.1⟩)⟩, ⟨by (with_reducible repeat (first | apply Kd.R_alloc | apply Kd.R_drewN | apply Kd.R_drew)); exact HO611.out⟩, ⟨bm BK593⟩, ⟨bw1 HB GE593⟩⟩
        ·replace c50 := Bool.eq_false_iff.mpr c50
         subst c50
         have H1 : (macadamlaw04_GangMost.j0 k t594 t603 t604 t605 t609 true) = some r := by rw [if_neg (show ¬ (false = true) by decide)] at H; exact H
         clear H
         have H := H1
         clear H1
         have H' := Aside0.mk H
         clear H
         obtain ⟨hcz53_0, hcz53_1, hcz53_2, hfz53_0, hfz53_1, hfz53_2⟩ := b3 BK593
         obtain ⟨Ao54, co54, eo54⟩ := Kd.V_slice HO596.out
         subst eo54
         go_wp2_with (first | (go_at_call 42; (with_reducible refine (macadamref00_Rising.calls k _ _ t594 (l0_0.length : Int) false _ ?side1 ?side2 A49.out).mono ?_); (case side1 => repeat (first | exact (Kd.V_reads' HO596.out).2.2 | (with_reducible refine Kd.C_alloc ?_ _) | (with_reducible refine Kd.C_drewN ?_ _) | (with_reducible refine Kd.C_drew ?_))); (case side2 => exact (Kd.V_reads' HO596.out).2.1); rintro e w' ⟨rfl, ⟨nd, rfl⟩⟩))
         go_meet
         case rel => exact ⟨_, (true), (by first | rfl | (simp; done) | (simp [*]; done)), H', ⟨by first | omega | exact Nat.le_refl _⟩, ⟨by (with_reducible repeat (first | apply Kd.V_alloc | apply Kd.V_drewN | apply Kd.V_drew)); exact Kd.V_mono HO596.out (fun _ hk => ⟨hk.2, hk.1.1⟩)⟩, ⟨by (with_reducible repeat (first | apply Kd.R_alloc | apply Kd.R_drewN | apply Kd.R_drew)); exact HO611.out⟩, ⟨bm BK593⟩, ⟨bw1 HB GE593⟩⟩
       ·rw [if_neg c48] at H
        have c48b0 : (t605 == 4) = false := beq_eq_false_iff_ne.mpr c48
        have c48b1 : (t605 != 4) = true := bne_iff_ne.mpr c48
        have H' := Aside0.mk H
        clear H
        go_wp2
        go_meet
        case rel => exact ⟨_, (true), (by first | rfl | (simp; done) | (simp [*]; done)), H', ⟨by first | omega | exact Nat.le_refl _⟩, ⟨by (with_reducible repeat (first | apply Kd.V_alloc | apply Kd.V_drewN | apply Kd.V_drew)); exact Kd.V_mono HO596.out (fun _ hk => ⟨hk.2, hk.1.1⟩)⟩, ⟨by (with_reducible repeat (first | apply Kd.R_alloc | apply Kd.R_drewN | apply Kd.R_drew)); exact HO611.out⟩, ⟨bm BK593⟩, ⟨bw1 HB GE593⟩⟩
     ·rw [if_neg c40] at H
      have c40b0 : (t603 == 4) = false := beq_eq_false_iff_ne.mpr c40
      have c40b1 : (t603 != 4) = true := bne_iff_ne.mpr c40
      have H' := Aside0.mk H
      clear H
      go_wp2
      go_meet
      case rel => exact ⟨_, (true), (by first | rfl | (simp; done) | (simp [*]; done)), H', ⟨by first | omega | exact Nat.le_refl _⟩, ⟨by (with_reducible repeat (first | apply Kd.V_alloc | apply Kd.V_drewN | apply Kd.V_drew)); exact Kd.V_mono HO596.out (fun _ hk => ⟨hk.2, hk.1.1⟩)⟩, ⟨by (with_reducible repeat (first | apply Kd.R_alloc | apply Kd.R_drewN | apply Kd.R_drew)); exact HO611.out⟩, ⟨bm BK593⟩, ⟨bw1 HB GE593⟩⟩
   ·rw [if_neg c24] at H
    have c24b0 : (t597 == 0) = false := beq_eq_false_iff_ne.mpr c24
    have c24b1 : (t597 != 0) = true := bne_iff_ne.mpr c24
    (first | rw [c24b0] | (simp only [i64_w, i32_w]; rw [c24b0]) | skip)
    have H' := Aside0.mk H
    clear H
    go_wp2
    go_meet
    case rel => exact ⟨_, (true), (by first | rfl | (simp; done) | (simp [*]; done)), H', ⟨by first | omega | exact Nat.le_refl _⟩, ⟨by (with_reducible repeat (first | apply Kd.V_alloc | apply Kd.V_drewN | apply Kd.V_drew)); exact Kd.V_mono HO596.out (fun _ hk => ⟨hk.2, hk.1.1⟩)⟩, ⟨by (with_reducible repeat (first | apply Kd.R_alloc | apply Kd.R_drewN | apply Kd.R_drew)); exact HO611.out⟩, ⟨bm BK593⟩, ⟨bw1 HB GE593⟩⟩
  case rest =>
   clear HC10
   try clear c1
   try clear c2
   try clear p2
   try clear c3
   try clear c4
   try clear c5
   try clear c11
   try clear c24
   try clear c24b0
   try clear c24b1
   try clear c25
   try clear c25b0
   try clear c25b1
   try clear c26
   try clear c26b0
   try clear c26b1
   try clear c28
   try clear c31
   try clear c33
   try clear c33b0
   try clear c33b1
   try clear c34
   try clear c35
   try clear c36
   try clear c38
   try clear c40
   try clear c40b0
   try clear c40b1
   try clear c41
   try clear c41b0
   try clear c41b1
   try clear c43
   try clear c47
   try clear c48
   try clear c48b0
   try clear c48b1
   try clear c50
   try clear hcz12_0
   try clear hcz12_1
   try clear hcz12_2
   try clear hcz14_0
   try clear hcz14_1
   try clear hcz14_2
   try clear hcz16_0
   try clear hcz16_1
   try clear hcz16_2
   try clear hcz18_0
   try clear hcz18_1
   try clear hcz18_2
   try clear hcz29_0
   try clear hcz29_1
   try clear hcz29_2
   try clear hcz31_0
   try clear hcz31_1
   try clear hcz31_2
   try clear hcz36_0
   try clear hcz36_1
   try clear hcz36_2
   try clear hcz38_0
   try clear hcz38_1
   try clear hcz38_2
   try clear hcz44_0
   try clear hcz44_1
   try clear hcz44_2
   try clear hcz46_0
   try clear hcz46_1
   try clear hcz46_2
   try clear hcz51_0
   try clear hcz51_1
   try clear hcz51_2
   try clear hcz53_0
   try clear hcz53_1
   try clear hcz53_2
   try clear hfz12_0
   try clear hfz12_1
   try clear hfz12_2
   try clear hfz14_0
   try clear hfz14_1
   try clear hfz14_2
   try clear hfz16_0
   try clear hfz16_1
   try clear hfz16_2
   try clear hfz18_0
   try clear hfz18_1
   try clear hfz18_2
   try clear hfz29_0
   try clear hfz29_1
   try clear hfz29_2
   try clear hfz31_0
   try clear hfz31_1
   try clear hfz31_2
   try clear hfz36_0
   try clear hfz36_1
   try clear hfz36_2
   try clear hfz38_0
   try clear hfz38_1
   try clear hfz38_2
   try clear hfz44_0
   try clear hfz44_1
   try clear hfz44_2
   try clear hfz46_0
   try clear hfz46_1
   try clear hfz46_2
   try clear hfz51_0
   try clear hfz51_1
   try clear hfz51_2
   try clear hfz53_0
   try clear hfz53_1
   try clear hfz53_2
   obtain ⟨kq, x81_9, rfl, HA, HJ9, HO_5, HO_11, BK593, HB⟩ := hcut
   cases kq with
   | zero => exact absurd HA.out (by simp [macadamlaw04_GangMost.j0])
   | succ kj9 =>
    have H := HA.out
    clear HA
    simp only [macadamlaw04_GangMost.j0] at H
    by_cases c55 : x81_9 = true
    ·subst c55
     have H1 : (some false) = some r := by rw [if_pos rfl] at H; exact H
     clear H
     have H := H1
     clear H1
     obtain rfl := Option.some.inj H
     go_wp2
     go_ret
     exact ⟨by first | rfl | (simp [errW_none, errW_some] <;> rfl) | (simp [*, errW_none, errW_some] <;> rfl), bw1 HB GE593⟩
    ·replace c55 := Bool.eq_false_iff.mpr c55
     subst c55
     have H1 : (if t605 = 0 then ((macadamref00_Place.f kj9 t594 t604).bind fun t616 => (if t616 ≥ 0 then (macadamlaw04_GangMost.j1 kj9 t594 t609 true) else (if t603 = 0 then (macadamlaw04_GangMost.j1 kj9 t594 t609 (t605 != 4)) else (macadamlaw04_GangMost.j1 kj9 t594 t609 false)))) else (if t603 = 0 then (macadamlaw04_GangMost.j1 kj9 t594 t609 (t605 != 4)) else (macadamlaw04_GangMost.j1 kj9 t594 t609 false))) = some r := by rw [if_neg (show ¬ (false = true) by decide)] at H; exact H
     clear H
     have H := H1
     clear H1
     have HC56 := Aside0.mk H
     clear H
     go_upto_region 9 with (fail)
     go_cut [97] (fun v97 wc => ∃ (kq : Nat) (x97_55 : Bool), v97 = .bool x97_55 ∧ Aside0 (macadamlaw04_GangMost.j1 kq t594 t609 x97_55 = some r) ∧ Aside0 (kq ≤ kj9) ∧ Aside0 (Kd.V (Kd.int .i64) 3 wc w.heap.size (fun k_ => some k_ ≠ (v610 : Value).ownBlock ∧ k_ ≠ gb593) v595 t594) ∧ Aside0 (Kd.R (Kd.int .i64) 3 wc w.heap.size (fun _ => True) v610 t609) ∧ Aside0 (wc.heap[gb593]? = some (.cells #[(.slice A0_0 l0_0.length c0_0), (.slice A0_1 l0_1.length c0_1), .int .i64 a0_2] 25 (0, 0))) ∧ Aside0 (Below w.heap.size w wc))
     case first =>
      have H := HC56.out
      clear HC56
      by_cases c57 : t605 = 0
      ·rw [if_pos c57] at H
       have c57b0 : (t605 == 0) = true := beq_iff_eq.mpr c57
       have c57b1 : (t605 != 0) = false := bne_eq_false_iff_eq.mpr c57
       clear c57
       (first | rw [c57b0] | (simp only [i64_w, i32_w]; rw [c57b0]) | skip)
       replace H := Option.bind_eq_some_iff.mp H
       obtain ⟨t616, A580, H⟩ := H
       replace H : (if t616 ≥ 0 then (macadamlaw04_GangMost.j1 kj9 t594 t609 true) else (if t603 = 0 then (macadamlaw04_GangMost.j1 kj9 t594 t609 (t605 != 4)) else (macadamlaw04_GangMost.j1 kj9 t594 t609 false))) = some r := H
       have A58 := Aside0.mk A580
       clear A580
       by_cases c59 : t616 ≥ 0
       ·rw [if_pos c59] at H
        have c59b0 : decide (0 ≤ t616) = true := decide_eq_true c59
        clear c59
        have H' := Aside0.mk H
        clear H
        obtain ⟨Ao60, co60, eo60⟩ := Kd.V_slice HO_5.out
        subst eo60
        go_wp2_with (first | (go_at_call 43; (with_reducible refine (macadamref00_Place.calls kj9 _ _ t594 t604 t616 _ ?side1 ?side2 A58.out).mono ?_); (case side1 => repeat (first | exact (Kd.V_reads' HO_5.out).2.2 | (with_reducible refine Kd.C_alloc ?_ _) | (with_reducible refine Kd.C_drewN ?_ _) | (with_reducible refine Kd.C_drew ?_))); (case side2 => exact (Kd.V_reads' HO_5.out).2.1); rintro e w' ⟨rfl, ⟨nd, rfl⟩⟩))
        go_meet
        case rel => exact ⟨_, (true), (by first | rfl | (simp; done) | (simp [*]; done)), H', ⟨by have := HJ9.out; first | omega | exact Nat.le_refl _⟩, ⟨by (with_reducible repeat (first | apply Kd.V_alloc | apply Kd.V_drewN | apply Kd.V_drew)); exact HO_5.out⟩, ⟨by (with_reducible repeat (first | apply Kd.R_alloc | apply Kd.R_drewN | apply Kd.R_drew)); exact HO_11.out⟩, ⟨bm BK593⟩, ⟨bw1 HB GE593⟩⟩
       ·rw [if_neg c59] at H
        have c59b0 : decide (0 ≤ t616) = false := decide_eq_false c59
        clear c59
        by_cases c61 : t603 = 0
        ·rw [if_pos c61] at H
         have c61b0 : (t603 == 0) = true := beq_iff_eq.mpr c61
         have c61b1 : (t603 != 0) = false := bne_eq_false_iff_eq.mpr c61
         clear c61
         have H' := Aside0.mk H
         clear H
         obtain ⟨Ao62, co62, eo62⟩ := Kd.V_slice HO_5.out
         subst eo62
         go_wp2_with (first | (go_at_call 43; (with_reducible refine (macadamref00_Place.calls kj9 _ _ t594 t604 t616 _ ?side1 ?side2 A58.out).mono ?_); (case side1 => repeat (first | exact (Kd.V_reads' HO_5.out).2.2 | (with_reducible refine Kd.C_alloc ?_ _) | (with_reducible refine Kd.C_drewN ?_ _) | (with_reducible refine Kd.C_drew ?_))); (case side2 => exact (Kd.V_reads' HO_5.out).2.1); rintro e w' ⟨rfl, ⟨nd, rfl⟩⟩))
         go_meet
         case rel => exact ⟨_, ((t605 != 4)), (by first | rfl | (simp; done) | (simp [*]; done)), H', ⟨by have := HJ9.out; first | omega | exact Nat.le_refl _⟩, ⟨by (with_reducible repeat (first | apply Kd.V_alloc | apply Kd.V_drewN | apply Kd.V_drew)); exact HO_5.out⟩, ⟨by (with_reducible repeat (first | apply Kd.R_alloc | apply Kd.R_drewN | apply Kd.R_drew)); exact HO_11.out⟩, ⟨bm BK593⟩, ⟨bw1 HB GE593⟩⟩
        ·rw [if_neg c61] at H
         have c61b0 : (t603 == 0) = false := beq_eq_false_iff_ne.mpr c61
         have c61b1 : (t603 != 0) = true := bne_iff_ne.mpr c61
         have H' := Aside0.mk H
         clear H
         obtain ⟨Ao63, co63, eo63⟩ := Kd.V_slice HO_5.out
         subst eo63
         go_wp2_with (first | (go_at_call 43; (with_reducible refine (macadamref00_Place.calls kj9 _ _ t594 t604 t616 _ ?side1 ?side2 A58.out).mono ?_); (case side1 => repeat (first | exact (Kd.V_reads' HO_5.out).2.2 | (with_reducible refine Kd.C_alloc ?_ _) | (with_reducible refine Kd.C_drewN ?_ _) | (with_reducible refine Kd.C_drew ?_))); (case side2 => exact (Kd.V_reads' HO_5.out).2.1); rintro e w' ⟨rfl, ⟨nd, rfl⟩⟩))
         go_meet
         case rel => exact ⟨_, (false), (by first | rfl | (simp; done) | (simp [*]; done)), H', ⟨by have := HJ9.out; first | omega | exact Nat.le_refl _⟩, ⟨by (with_reducible repeat (first | apply Kd.V_alloc | apply Kd.V_drewN | apply Kd.V_drew)); exact HO_5.out⟩, ⟨by (with_reducible repeat (first | apply Kd.R_alloc | apply Kd.R_drewN | apply Kd.R_drew)); exact HO_11.out⟩, ⟨bm BK593⟩, ⟨bw1 HB GE593⟩⟩
      ·rw [if_neg c57] at H
       have c57b0 : (t605 == 0) = false := beq_eq_false_iff_ne.mpr c57
       have c57b1 : (t605 != 0) = true := bne_iff_ne.mpr c57
       (first | rw [c57b0] | (simp only [i64_w, i32_w]; rw [c57b0]) | skip)
       by_cases c64 : t603 = 0
       ·rw [if_pos c64] at H
        have c64b0 : (t603 == 0) = true := beq_iff_eq.mpr c64
        have c64b1 : (t603 != 0) = false := bne_eq_false_iff_eq.mpr c64
        clear c64
        have H' := Aside0.mk H
        clear H
        go_wp2
        go_meet
        case rel => exact ⟨_, ((t605 != 4)), (by first | rfl | (simp; done) | (simp [*]; done)), H', ⟨by have := HJ9.out; first | omega | exact Nat.le_refl _⟩, ⟨by (with_reducible repeat (first | apply Kd.V_alloc | apply Kd.V_drewN | apply Kd.V_drew)); exact HO_5.out⟩, ⟨by (with_reducible repeat (first | apply Kd.R_alloc | apply Kd.R_drewN | apply Kd.R_drew)); exact HO_11.out⟩, ⟨bm BK593⟩, ⟨bw1 HB GE593⟩⟩
       ·rw [if_neg c64] at H
        have c64b0 : (t603 == 0) = false := beq_eq_false_iff_ne.mpr c64
        have c64b1 : (t603 != 0) = true := bne_iff_ne.mpr c64
        have H' := Aside0.mk H
        clear H
        go_wp2
        go_meet
        case rel => exact ⟨_, (false), (by first | rfl | (simp; done) | (simp [*]; done)), H', ⟨by have := HJ9.out; first | omega | exact Nat.le_refl _⟩, ⟨by (with_reducible repeat (first | apply Kd.V_alloc | apply Kd.V_drewN | apply Kd.V_drew)); exact HO_5.out⟩, ⟨by (with_reducible repeat (first | apply Kd.R_alloc | apply Kd.R_drewN | apply Kd.R_drew)); exact HO_11.out⟩, ⟨bm BK593⟩, ⟨bw1 HB GE593⟩⟩
     case rest =>
      clear HC56
      try clear c1
      try clear c2
      try clear p2
      try clear c3
      try clear c4
      try clear c5
      try clear c6
      try clear c11
      try clear c24
      try clear c24b0
      try clear c24b1
      try clear c25
      try clear c25b0
      try clear c25b1
      try clear c26
      try clear c26b0
      try clear c26b1
      try clear c28
      try clear c31
      try clear c33
      try clear c33b0
      try clear c33b1
      try clear c34
      try clear c35
      try clear c36
      try clear c38
      try clear c40
      try clear c40b0
      try clear c40b1
      try clear c41
      try clear c41b0
      try clear c41b1
      try clear c43
      try clear c47
      try clear c48
      try clear c48b0
      try clear c48b1
      try clear c50
      try clear c55
      try clear c57
      try clear c57b0
      try clear c57b1
      try clear c59
      try clear c59b0
      try clear c61
      try clear c61b0
      try clear c61b1
      try clear c64
      try clear c64b0
      try clear c64b1
      try clear hcz12_0
      try clear hcz12_1
      try clear hcz12_2
      try clear hcz14_0
      try clear hcz14_1
      try clear hcz14_2
      try clear hcz16_0
      try clear hcz16_1
      try clear hcz16_2
      try clear hcz18_0
      try clear hcz18_1
      try clear hcz18_2
      try clear hcz29_0
      try clear hcz29_1
      try clear hcz29_2
      try clear hcz31_0
      try clear hcz31_1
      try clear hcz31_2
      try clear hcz36_0
      try clear hcz36_1
      try clear hcz36_2
      try clear hcz38_0
      try clear hcz38_1
      try clear hcz38_2
      try clear hcz44_0
      try clear hcz44_1
      try clear hcz44_2
      try clear hcz46_0
      try clear hcz46_1
      try clear hcz46_2
      try clear hcz51_0
      try clear hcz51_1
      try clear hcz51_2
      try clear hcz53_0
      try clear hcz53_1
      try clear hcz53_2
      try clear hfz12_0
      try clear hfz12_1
      try clear hfz12_2
      try clear hfz14_0
      try clear hfz14_1
      try clear hfz14_2
      try clear hfz16_0
      try clear hfz16_1
      try clear hfz16_2
      try clear hfz18_0
      try clear hfz18_1
      try clear hfz18_2
      try clear hfz29_0
      try clear hfz29_1
      try clear hfz29_2
      try clear hfz31_0
      try clear hfz31_1
      try clear hfz31_2
      try clear hfz36_0
      try clear hfz36_1
      try clear hfz36_2
      try clear hfz38_0
      try clear hfz38_1
      try clear hfz38_2
      try clear hfz44_0
      try clear hfz44_1
      try clear hfz44_2
      try clear hfz46_0
      try clear hfz46_1
      try clear hfz46_2
      try clear hfz51_0
      try clear hfz51_1
      try clear hfz51_2
      try clear hfz53_0
      try clear hfz53_1
      try clear hfz53_2
      try clear p2
      obtain ⟨kq, x97_55, rfl, HA, HJ55, HO_5, HO_11, BK593, HB⟩ := hcut
      cases kq with
      | zero => exact absurd HA.out (by simp [macadamlaw04_GangMost.j1])
      | succ kj55 =>
       have H := HA.out
       clear HA
       simp only [macadamlaw04_GangMost.j1] at H
       by_cases c65 : x97_55 = true
       ·subst c65
        have H1 : (some false) = some r := by rw [if_pos rfl] at H; exact H
        clear H
        have H := H1
        clear H1
        obtain rfl := Option.some.inj H
        go_wp2
        go_ret
        exact ⟨by first | rfl | (simp [errW_none, errW_some] <;> rfl) | (simp [*, errW_none, errW_some] <;> rfl), bw1 HB GE593⟩
       ·replace c65 := Bool.eq_false_iff.mpr c65
        subst c65
        have H1 : (if (t609.length : Int) ≤ (t594.length : Int) then (if (t609.length : Int) < (t594.length : Int) then ((macadamlaw04_shovelled.f).bind fun t617 => (some t617)) else ((macadamref00_Sooner.f kj55 t609 t594).bind fun t618 => (if t618 = true then (some false) else ((macadamlaw04_shovelled.f).bind fun t619 => (some t619))))) else (some false)) = some r := by rw [if_neg (show ¬ (false = true) by decide)] at H; exact H
        clear H
        have H := H1
        clear H1
        by_cases c66 : (t609.length : Int) ≤ (t594.length : Int)
        ·rw [if_pos c66] at H
         have c66b0 : decide ((t609.length : Int) ≤ (t594.length : Int)) = true := decide_eq_true c66
         have c66b1 : decide (t609.length ≤ t594.length) = true := decide_eq_true (Int.ofNat_le.mp c66)
         clear c66
         by_cases c67 : (t609.length : Int) < (t594.length : Int)
         ·rw [if_pos c67] at H
          have c67b0 : decide ((t609.length : Int) < (t594.length : Int)) = true := decide_eq_true c67
          have c67b1 : decide (t609.length < t594.length) = true := decide_eq_true (Int.ofNat_lt.mp c67)
          clear c67
          replace H := Option.bind_eq_some_iff.mp H
          obtain ⟨t617, A680, H⟩ := H
          replace H : (some t617) = some r := H
          have A68 := Aside0.mk A680
          clear A680
          obtain rfl := Option.some.inj H
          obtain ⟨Ao69, co69, eo69⟩ := Kd.R_slice HO_11.out
          subst eo69
          obtain ⟨Ao70, co70, eo70⟩ := Kd.V_slice HO_5.out
          subst eo70
          go_wp2_with (first | (go_at_call 24; (with_reducible refine (macadamlaw04_shovelled.calls  t617 _ ?side1 A68.out).mono ?_); (case side1 => exact gv_below HG.out (bw1 HB GE593)); rintro e w71 ⟨rfl, hb⟩; have n0_ := Aside0.mk (Kd.V_below (by (with_reducible repeat (first | apply Kd.V_alloc | apply Kd.V_drewN | apply Kd.V_drew)); exact HO_5.out) hb); have n1_ := Aside0.mk (Kd.R_below (by (with_reducible repeat (first | apply Kd.R_alloc | apply Kd.R_drewN | apply Kd.R_drew)); exact HO_11.out) hb); have n2_ := Aside0.mk (blk_below (bm BK593) hb); have n3_ := Aside0.mk (below_step (bw1 HB GE593) hb); clear HO_5; clear HO_11; clear BK593; clear HB; have HO_5 := n0_; have HO_11 := n1_; have BK593 := n2_; have HB := n3_; clear n0_ n1_ n2_ n3_; (try clear hb); (try clear hb2); (try clear hk); (try clear hi)))
          go_ret
          exact ⟨by first | rfl | (simp [errW_none, errW_some] <;> rfl) | (simp [*, errW_none, errW_some] <;> rfl), bw1 HB GE593⟩
         ·rw [if_neg c67] at H
          have c67b0 : decide ((t609.length : Int) < (t594.length : Int)) = false := decide_eq_false c67
          have c67b1 : decide (t609.length < t594.length) = false := decide_eq_false (fun h => c67 (Int.ofNat_lt.mpr h))
          clear c67
          replace H := Option.bind_eq_some_iff.mp H
          obtain ⟨t618, A720, H⟩ := H
          replace H : (if t618 = true then (some false) else ((macadamlaw04_shovelled.f).bind fun t619 => (some t619))) = some r := H
          have A72 := Aside0.mk A720
          clear A720
          by_cases c73 : t618 = true
          ·subst c73
           have H1 : (some false) = some r := by rw [if_pos rfl] at H; exact H
           clear H
           have H := H1
           clear H1
           obtain rfl := Option.some.inj H
           obtain ⟨Ao74, co74, eo74⟩ := Kd.R_slice HO_11.out
           subst eo74
           obtain ⟨Ao75, co75, eo75⟩ := Kd.V_slice HO_5.out
           subst eo75
           go_wp2_with (first | (go_at_call 54; (with_reducible refine (macadamref00_Sooner.calls kj55 _ _ t609 _ _ t594 true _ ?side1 ?side2 ?side3 ?side4 A72.out).mono ?_); (case side1 => repeat (first | exact (Kd.R_reads' HO_11.out).2.2 | (with_reducible refine Kd.C_alloc ?_ _) | (with_reducible refine Kd.C_drewN ?_ _) | (with_reducible refine Kd.C_drew ?_))); (case side2 => exact (Kd.R_reads' HO_11.out).2.1); (case side3 => repeat (first | exact (Kd.V_reads' HO_5.out).2.2 | (with_reducible refine Kd.C_alloc ?_ _) | (with_reducible refine Kd.C_drewN ?_ _) | (with_reducible refine Kd.C_drew ?_))); (case side4 => exact (Kd.V_reads' HO_5.out).2.1); rintro e w' ⟨rfl, ⟨nd, rfl⟩⟩))
           go_ret
           exact ⟨by first | rfl | (simp [errW_none, errW_some] <;> rfl) | (simp [*, errW_none, errW_some] <;> rfl), bw1 HB GE593⟩
          ·replace c73 := Bool.eq_false_iff.mpr c73
           subst c73
           have H1 : ((macadamlaw04_shovelled.f).bind fun t619 => (some t619)) = some r := by rw [if_neg (show ¬ (false = true) by decide)] at H; exact H
           clear H
           have H := H1
           clear H1
           replace H := Option.bind_eq_some_iff.mp H
           obtain ⟨t619, A760, H⟩ := H
           replace H : (some t619) = some r := H
           have A76 := Aside0.mk A760
           clear A760
           obtain rfl := Option.some.inj H
           obtain ⟨Ao77, co77, eo77⟩ := Kd.R_slice HO_11.out
           subst eo77
           obtain ⟨Ao78, co78, eo78⟩ := Kd.V_slice HO_5.out
           subst eo78
           go_wp2_with (first | (go_at_call 54; (with_reducible refine (macadamref00_Sooner.calls kj55 _ _ t609 _ _ t594 false _ ?side1 ?side2 ?side3 ?side4 A72.out).mono ?_); (case side1 => repeat (first | exact (Kd.R_reads' HO_11.out).2.2 | (with_reducible refine Kd.C_alloc ?_ _) | (with_reducible refine Kd.C_drewN ?_ _) | (with_reducible refine Kd.C_drew ?_))); (case side2 => exact (Kd.R_reads' HO_11.out).2.1); (case side3 => repeat (first | exact (Kd.V_reads' HO_5.out).2.2 | (with_reducible refine Kd.C_alloc ?_ _) | (with_reducible refine Kd.C_drewN ?_ _) | (with_reducible refine Kd.C_drew ?_))); (case side4 => exact (Kd.V_reads' HO_5.out).2.1); rintro e w' ⟨rfl, ⟨nd, rfl⟩⟩) | (go_at_call 24; (with_reducible refine (macadamlaw04_shovelled.calls  t619 _ ?side1 A76.out).mono ?_); (case side1 => exact gv_below HG.out (bw1 HB GE593)); rintro e w79 ⟨rfl, hb⟩; have n0_ := Aside0.mk (Kd.V_below (by (with_reducible repeat (first | apply Kd.V_alloc | apply Kd.V_drewN | apply Kd.V_drew)); exact HO_5.out) hb); have n1_ := Aside0.mk (Kd.R_below (by (with_reducible repeat (first | apply Kd.R_alloc | apply Kd.R_drewN | apply Kd.R_drew)); exact HO_11.out) hb); have n2_ := Aside0.mk (blk_below (bm BK593) hb); have n3_ := Aside0.mk (below_step (bw1 HB GE593) hb); clear HO_5; clear HO_11; clear BK593; clear HB; have HO_5 := n0_; have HO_11 := n1_; have BK593 := n2_; have HB := n3_; clear n0_ n1_ n2_ n3_; (try clear hb); (try clear hb2); (try clear hk); (try clear hi)))
           go_ret
           exact ⟨by first | rfl | (simp [errW_none, errW_some] <;> rfl) | (simp [*, errW_none, errW_some] <;> rfl), bw1 HB GE593⟩
        ·rw [if_neg c66] at H
         have c66b0 : decide ((t609.length : Int) ≤ (t594.length : Int)) = false := decide_eq_false c66
         have c66b1 : decide (t609.length ≤ t594.length) = false := decide_eq_false (fun h => c66 (Int.ofNat_le.mpr h))
         clear c66
         obtain rfl := Option.some.inj H
         obtain ⟨Ao80, co80, eo80⟩ := Kd.R_slice HO_11.out
         subst eo80
         obtain ⟨Ao81, co81, eo81⟩ := Kd.V_slice HO_5.out
         subst eo81
         go_wp2
         go_ret
         exact ⟨by first | rfl | (simp [errW_none, errW_some] <;> rfl) | (simp [*, errW_none, errW_some] <;> rfl), bw1 HB GE593⟩
 ·replace c5 := Bool.eq_false_iff.mpr c5
  subst c5
  have H1 : (if t597 = 40 then (if (t594.length : Int) = 0 then ((macadamlaw04_shovelled.f).bind fun t599 => (some t599)) else (some false)) else (some false)) = some r := by rw [if_neg (show ¬ (false = true) by decide)] at H; exact H
  clear H
  have H := H1
  clear H1
  by_cases c82 : t597 = 40
  ·rw [if_pos c82] at H
   have c82b0 : (t597 == 40) = true := beq_iff_eq.mpr c82
   have c82b1 : (t597 != 40) = false := bne_eq_false_iff_eq.mpr c82
   clear c82
   by_cases c83 : (t594.length : Int) = 0
   ·rw [if_pos c83] at H
    have c83b0 : ((t594.length : Int) == 0) = true := beq_iff_eq.mpr c83
    have c83b1 : ((t594.length : Int) != 0) = false := bne_eq_false_iff_eq.mpr c83
    clear c83
    replace H := Option.bind_eq_some_iff.mp H
    obtain ⟨t599, A840, H⟩ := H
    replace H : (some t599) = some r := H
    have A84 := Aside0.mk A840
    clear A840
    obtain rfl := Option.some.inj H
    go_enter Tryd.func11, Tryd.ntmps11
    go_wp2_with (first | ((with_reducible refine gate_dst (N := 2) rfl ?_); (try (refine gate_guard (by rfl) ?_; dsimp only)); refine bx 2 #[.slice A0_0 l0_0.length c0_0, .slice A0_1 l0_1.length c0_1, .int .i64 a0_2] 25 ?_; intro gb593 hg w85 hbox hb; have n0_ := Aside0.mk (below_step (bw HB) hb); have n1_ := Aside0.mk (hbox); have n2_ := Aside0.mk (bz (bw HB) hg); have n3_ := Aside0.mk (bz (bw HB) hg); clear HB; have HB := n0_; have BK593 := n1_; have GW593 := n2_; have GE593 := n3_; clear n0_ n1_ n2_ n3_; clear hb hbox hg; obtain ⟨hcz86_0, hcz86_1, hcz86_2, hfz86_0, hfz86_1, hfz86_2⟩ := b3 BK593) | ((with_reducible refine gate_callee (f := 34) rfl ?_); refine gL (some 14) Tryd.func34 #[.agg #[.slice A0_0 l0_0.length c0_0, .slice A0_1 l0_1.length c0_1, .int .i64 a0_2]] ?_; (with_reducible refine (gang_Most.calls _ _ l0_0 _ _ l0_1 a0_2 t594 t597 _ ?side1 ?side2 ?side3 ?side4 ?side5 A3.out).mono ?_); (case side1 => repeat (first | exact (Kd.C_below HR0_0.out HB.out) | (with_reducible refine Kd.C_alloc ?_ _) | (with_reducible refine Kd.C_drewN ?_ _) | (with_reducible refine Kd.C_drew ?_))); (case side2 => exact HC0_0.out); (case side3 => repeat (first | exact (Kd.C_below HR0_1.out HB.out) | (with_reducible refine Kd.C_alloc ?_ _) | (with_reducible refine Kd.C_drewN ?_ _) | (with_reducible refine Kd.C_drew ?_))); (case side4 => exact HC0_1.out); (case side5 => exact gv_below HG.out (bw1 HB GE593)); rintro e w87 ⟨v595, rfl, ho0, hb⟩; refine ⟨_, rfl, ?_⟩; have n0_ := Aside0.mk (Kd.V_lower (Kd.V_mono (ok' := fun k_ => k_ ≠ gb593) ho0 (fun k_ hk_ => (Kd.freshB (g := gb593) (o := .cells #[.slice A0_0 l0_0.length c0_0, .slice A0_1 l0_1.length c0_1, .int .i64 a0_2] 25 (0, 0)) (bm BK593) k_ hk_))) (below_size (bw1 HB GE593))); have n1_ := Aside0.mk (blk_below (bm BK593) hb); have n2_ := Aside0.mk (below_step (bw1 HB GE593) hb); clear BK593; clear HB; have HO596 := n0_; have BK593 := n1_; have HB := n2_; clear n0_ n1_ n2_; (try clear hb); (try clear hb2); (try clear hk); (try clear hi); (try clear ho0); obtain ⟨hcz88_0, hcz88_1, hcz88_2, hfz88_0, hfz88_1, hfz88_2⟩ := b3 BK593) | ((with_reducible refine gate_callee (f := 38) rfl ?_); refine gL (some 18) Tryd.func38 #[.agg #[.slice A0_0 l0_0.length c0_0, .slice A0_1 l0_1.length c0_1, .int .i64 a0_2]] ?_; (with_reducible refine (macadamlaw04_sound.calls k _ _ l0_0 _ _ l0_1 a0_2 false _ ?side1 ?side2 ?side3 ?side4 A4.out).mono ?_); (case side1 => repeat (first | exact (Kd.C_below HR0_0.out HB.out) | (with_reducible refine Kd.C_alloc ?_ _) | (with_reducible refine Kd.C_drewN ?_ _) | (with_reducible refine Kd.C_drew ?_))); (case side2 => exact HC0_0.out); (case side3 => repeat (first | exact (Kd.C_below HR0_1.out HB.out) | (with_reducible refine Kd.C_alloc ?_ _) | (with_reducible refine Kd.C_drewN ?_ _) | (with_reducible refine Kd.C_drew ?_))); (case side4 => exact HC0_1.out); rintro e w89 ⟨rfl, hb⟩; refine ⟨_, rfl, ?_⟩; have n0_ := Aside0.mk (Kd.V_below (by (with_reducible repeat (first | apply Kd.V_alloc | apply Kd.V_drewN | apply Kd.V_drew)); exact HO596.out) hb); have n1_ := Aside0.mk (blk_below (bm BK593) hb); have n2_ := Aside0.mk (below_step (bw1 HB GE593) hb); clear HO596; clear BK593; clear HB; have HO596 := n0_; have BK593 := n1_; have HB := n2_; clear n0_ n1_ n2_; (try clear hb); (try clear hb2); (try clear hk); (try clear hi); obtain ⟨Ao90, co90, eo90⟩ := Kd.V_slice HO596.out; subst eo90) | (go_at_call 24; (with_reducible refine (macadamlaw04_shovelled.calls  t599 _ ?side1 A84.out).mono ?_); (case side1 => exact gv_below HG.out (bw1 HB GE593)); rintro e w91 ⟨rfl, hb⟩; have n0_ := Aside0.mk (Kd.V_below (by (with_reducible repeat (first | apply Kd.V_alloc | apply Kd.V_drewN | apply Kd.V_drew)); exact HO596.out) hb); have n1_ := Aside0.mk (blk_below (bm BK593) hb); have n2_ := Aside0.mk (below_step (bw1 HB GE593) hb); clear HO596; clear BK593; clear HB; have HO596 := n0_; have BK593 := n1_; have HB := n2_; clear n0_ n1_ n2_; (try clear hb); (try clear hb2); (try clear hk); (try clear hi)))
    go_ret
    exact ⟨by first | rfl | (simp [errW_none, errW_some] <;> rfl) | (simp [*, errW_none, errW_some] <;> rfl), bw1 HB GE593⟩
   ·rw [if_neg c83] at H
    have c83b0 : ((t594.length : Int) == 0) = false := beq_eq_false_iff_ne.mpr c83
    have c83b1 : ((t594.length : Int) != 0) = true := bne_iff_ne.mpr c83
    have c83b2 : ¬ (t594 = []) := fun h_ => c83 (by rw [h_]; rfl)
    obtain rfl := Option.some.inj H
    go_enter Tryd.func11, Tryd.ntmps11
    go_wp2_with (first | ((with_reducible refine gate_dst (N := 2) rfl ?_); (try (refine gate_guard (by rfl) ?_; dsimp only)); refine bx 2 #[.slice A0_0 l0_0.length c0_0, .slice A0_1 l0_1.length c0_1, .int .i64 a0_2] 25 ?_; intro gb593 hg w92 hbox hb; have n0_ := Aside0.mk (below_step (bw HB) hb); have n1_ := Aside0.mk (hbox); have n2_ := Aside0.mk (bz (bw HB) hg); have n3_ := Aside0.mk (bz (bw HB) hg); clear HB; have HB := n0_; have BK593 := n1_; have GW593 := n2_; have GE593 := n3_; clear n0_ n1_ n2_ n3_; clear hb hbox hg; obtain ⟨hcz93_0, hcz93_1, hcz93_2, hfz93_0, hfz93_1, hfz93_2⟩ := b3 BK593) | ((with_reducible refine gate_callee (f := 34) rfl ?_); refine gL (some 14) Tryd.func34 #[.agg #[.slice A0_0 l0_0.length c0_0, .slice A0_1 l0_1.length c0_1, .int .i64 a0_2]] ?_; (with_reducible refine (gang_Most.calls _ _ l0_0 _ _ l0_1 a0_2 t594 t597 _ ?side1 ?side2 ?side3 ?side4 ?side5 A3.out).mono ?_); (case side1 => repeat (first | exact (Kd.C_below HR0_0.out HB.out) | (with_reducible refine Kd.C_alloc ?_ _) | (with_reducible refine Kd.C_drewN ?_ _) | (with_reducible refine Kd.C_drew ?_))); (case side2 => exact HC0_0.out); (case side3 => repeat (first | exact (Kd.C_below HR0_1.out HB.out) | (with_reducible refine Kd.C_alloc ?_ _) | (with_reducible refine Kd.C_drewN ?_ _) | (with_reducible refine Kd.C_drew ?_))); (case side4 => exact HC0_1.out); (case side5 => exact gv_below HG.out (bw1 HB GE593)); rintro e w94 ⟨v595, rfl, ho0, hb⟩; refine ⟨_, rfl, ?_⟩; have n0_ := Aside0.mk (Kd.V_lower (Kd.V_mono (ok' := fun k_ => k_ ≠ gb593) ho0 (fun k_ hk_ => (Kd.freshB (g := gb593) (o := .cells #[.slice A0_0 l0_0.length c0_0, .slice A0_1 l0_1.length c0_1, .int .i64 a0_2] 25 (0, 0)) (bm BK593) k_ hk_))) (below_size (bw1 HB GE593))); have n1_ := Aside0.mk (blk_below (bm BK593) hb); have n2_ := Aside0.mk (below_step (bw1 HB GE593) hb); clear BK593; clear HB; have HO596 := n0_; have BK593 := n1_; have HB := n2_; clear n0_ n1_ n2_; (try clear hb); (try clear hb2); (try clear hk); (try clear hi); (try clear ho0); obtain ⟨hcz95_0, hcz95_1, hcz95_2, hfz95_0, hfz95_1, hfz95_2⟩ := b3 BK593) | ((with_reducible refine gate_callee (f := 38) rfl ?_); refine gL (some 18) Tryd.func38 #[.agg #[.slice A0_0 l0_0.length c0_0, .slice A0_1 l0_1.length c0_1, .int .i64 a0_2]] ?_; (with_reducible refine (macadamlaw04_sound.calls k _ _ l0_0 _ _ l0_1 a0_2 false _ ?side1 ?side2 ?side3 ?side4 A4.out).mono ?_); (case side1 => repeat (first | exact (Kd.C_below HR0_0.out HB.out) | (with_reducible refine Kd.C_alloc ?_ _) | (with_reducible refine Kd.C_drewN ?_ _) | (with_reducible refine Kd.C_drew ?_))); (case side2 => exact HC0_0.out); (case side3 => repeat (first | exact (Kd.C_below HR0_1.out HB.out) | (with_reducible refine Kd.C_alloc ?_ _) | (with_reducible refine Kd.C_drewN ?_ _) | (with_reducible refine Kd.C_drew ?_))); (case side4 => exact HC0_1.out); rintro e w96 ⟨rfl, hb⟩; refine ⟨_, rfl, ?_⟩; have n0_ := Aside0.mk (Kd.V_below (by (with_reducible repeat (first | apply Kd.V_alloc | apply Kd.V_drewN | apply Kd.V_drew)); exact HO596.out) hb); have n1_ := Aside0.mk (blk_below (bm BK593) hb); have n2_ := Aside0.mk (below_step (bw1 HB GE593) hb); clear HO596; clear BK593; clear HB; have HO596 := n0_; have BK593 := n1_; have HB := n2_; clear n0_ n1_ n2_; (try clear hb); (try clear hb2); (try clear hk); (try clear hi); obtain ⟨Ao97, co97, eo97⟩ := Kd.V_slice HO596.out; subst eo97))
    go_ret
    exact ⟨by first | rfl | (simp [errW_none, errW_some] <;> rfl) | (simp [*, errW_none, errW_some] <;> rfl), bw1 HB GE593⟩
  ·rw [if_neg c82] at H
   have c82b0 : (t597 == 40) = false := beq_eq_false_iff_ne.mpr c82
   have c82b1 : (t597 != 40) = true := bne_iff_ne.mpr c82
   obtain rfl := Option.some.inj H
   go_enter Tryd.func11, Tryd.ntmps11
   go_wp2_with (first | ((with_reducible refine gate_dst (N := 2) rfl ?_); (try (refine gate_guard (by rfl) ?_; dsimp only)); refine bx 2 #[.slice A0_0 l0_0.length c0_0, .slice A0_1 l0_1.length c0_1, .int .i64 a0_2] 25 ?_; intro gb593 hg w98 hbox hb; have n0_ := Aside0.mk (below_step (bw HB) hb); have n1_ := Aside0.mk (hbox); have n2_ := Aside0.mk (bz (bw HB) hg); have n3_ := Aside0.mk (bz (bw HB) hg); clear HB; have HB := n0_; have BK593 := n1_; have GW593 := n2_; have GE593 := n3_; clear n0_ n1_ n2_ n3_; clear hb hbox hg; obtain ⟨hcz99_0, hcz99_1, hcz99_2, hfz99_0, hfz99_1, hfz99_2⟩ := b3 BK593) | ((with_reducible refine gate_callee (f := 34) rfl ?_); refine gL (some 14) Tryd.func34 #[.agg #[.slice A0_0 l0_0.length c0_0, .slice A0_1 l0_1.length c0_1, .int .i64 a0_2]] ?_; (with_reducible refine (gang_Most.calls _ _ l0_0 _ _ l0_1 a0_2 t594 t597 _ ?side1 ?side2 ?side3 ?side4 ?side5 A3.out).mono ?_); (case side1 => repeat (first | exact (Kd.C_below HR0_0.out HB.out) | (with_reducible refine Kd.C_alloc ?_ _) | (with_reducible refine Kd.C_drewN ?_ _) | (with_reducible refine Kd.C_drew ?_))); (case side2 => exact HC0_0.out); (case side3 => repeat (first | exact (Kd.C_below HR0_1.out HB.out) | (with_reducible refine Kd.C_alloc ?_ _) | (with_reducible refine Kd.C_drewN ?_ _) | (with_reducible refine Kd.C_drew ?_))); (case side4 => exact HC0_1.out); (case side5 => exact gv_below HG.out (bw1 HB GE593)); rintro e w100 ⟨v595, rfl, ho0, hb⟩; refine ⟨_, rfl, ?_⟩; have n0_ := Aside0.mk (Kd.V_lower (Kd.V_mono (ok' := fun k_ => k_ ≠ gb593) ho0 (fun k_ hk_ => (Kd.freshB (g := gb593) (o := .cells #[.slice A0_0 l0_0.length c0_0, .slice A0_1 l0_1.length c0_1, .int .i64 a0_2] 25 (0, 0)) (bm BK593) k_ hk_))) (below_size (bw1 HB GE593))); have n1_ := Aside0.mk (blk_below (bm BK593) hb); have n2_ := Aside0.mk (below_step (bw1 HB GE593) hb); clear BK593; clear HB; have HO596 := n0_; have BK593 := n1_; have HB := n2_; clear n0_ n1_ n2_; (try clear hb); (try clear hb2); (try clear hk); (try clear hi); (try clear ho0); obtain ⟨hcz101_0, hcz101_1, hcz101_2, hfz101_0, hfz101_1, hfz101_2⟩ := b3 BK593) | ((with_reducible refine gate_callee (f := 38) rfl ?_); refine gL (some 18) Tryd.func38 #[.agg #[.slice A0_0 l0_0.length c0_0, .slice A0_1 l0_1.length c0_1, .int .i64 a0_2]] ?_; (with_reducible refine (macadamlaw04_sound.calls k _ _ l0_0 _ _ l0_1 a0_2 false _ ?side1 ?side2 ?side3 ?side4 A4.out).mono ?_); (case side1 => repeat (first | exact (Kd.C_below HR0_0.out HB.out) | (with_reducible refine Kd.C_alloc ?_ _) | (with_reducible refine Kd.C_drewN ?_ _) | (with_reducible refine Kd.C_drew ?_))); (case side2 => exact HC0_0.out); (case side3 => repeat (first | exact (Kd.C_below HR0_1.out HB.out) | (with_reducible refine Kd.C_alloc ?_ _) | (with_reducible refine Kd.C_drewN ?_ _) | (with_reducible refine Kd.C_drew ?_))); (case side4 => exact HC0_1.out); rintro e w102 ⟨rfl, hb⟩; refine ⟨_, rfl, ?_⟩; have n0_ := Aside0.mk (Kd.V_below (by (with_reducible repeat (first | apply Kd.V_alloc | apply Kd.V_drewN | apply Kd.V_drew)); exact HO596.out) hb); have n1_ := Aside0.mk (blk_below (bm BK593) hb); have n2_ := Aside0.mk (below_step (bw1 HB GE593) hb); clear HO596; clear BK593; clear HB; have HO596 := n0_; have BK593 := n1_; have HB := n2_; clear n0_ n1_ n2_; (try clear hb); (try clear hb2); (try clear hk); (try clear hi)))
   go_ret
   exact ⟨by first | rfl | (simp [errW_none, errW_some] <;> rfl) | (simp [*, errW_none, errW_some] <;> rfl), bw1 HB GE593⟩
end Go.Proofs.YtikfghnkbgdbgaaDoor.Q
end
section
namespace Go.Proofs.YtikfghnkbgdbgaaDoor.Q
set_option linter.unusedSimpArgs false
set_option linter.unusedVariables false
open Go.RowKit Go.Proofs.YtikfghnkbgdbgaaDoorW.PrintWords Go.Proofs.YtikfghnkbgdbgaaDoorW.PrintLast Go.Proofs.YtikfghnkbgdbgaaDoorW.PrintMore
theorem mended_rise {ms : List M} {gs : List G} {p : List Wk} : rise (ms.length : Int) (-1) (mendedL ms gs p) = true := rise_filter (fun x _ h _ => h)
theorem gangMost_pure (ms : List M) (gs : List G) (n : Int) (ok0 : OkBook ms gs n) (bits : List Int) (ok1 : bits.length ≤ maxLen ∧ ∀ x ∈ bits, (Lit.int .i64 x).wf = true) (_z : bits.length * 8 ≤ 140737488351232) :
    ∃ k, macadamlaw04_GangMost.f k ms gs n bits = some true := by
  have hm : ms.length ≤ 9223372036854775807 := ok0.1.1
  have hg : gs.length ≤ 9223372036854775807 := ok0.2.1.1
  refine Ev.rounds ?_
  unfold macadamlaw04_GangMost.f
  by_cases ok : okB ms gs n = true
  · have e1 : gang_Most.f ms gs n = some (mostL ms gs n, 0) := by unfold gang_Most.f; rw [if_pos ok]
    obtain ⟨⟨p, hp, hl⟩, hbest⟩ := mostL_spec ok
    obtain ⟨q, hq, he⟩ := drawn_ev ok (bits := bits) ok1.1
    have hlen : (mostL ms gs n).length ≤ ms.length := by rw [hl]; exact rmended_len
    have hqlen : (mendedL ms gs q).length ≤ ms.length := rmended_len
    refine Ev.bind (Ev.some e1) (Ev.bind (sound_ev ms gs n hm hg) ?_)
    rw [ok]
    refine Ev.pos rfl ?_
    -- what stands at the end
    have fin : Ev (fun k => macadamlaw04_GangMost.j1 k (mostL ms gs n) (mendedL ms gs q) false) true := by
      have hb := hbest q hq
      unfold moreI at hb
      refine Ev.step (f := fun k => if ((mendedL ms gs q).length : Int) < ((mostL ms gs n).length : Int) then some true else (macadamref00_Sooner.f k (mendedL ms gs q) (mostL ms gs n)).bind fun t => if t = true then some false else some true) (fun k => ?_) ?_
      · simp only [macadamlaw04_GangMost.j1]
        rw [if_neg (by simp), if_pos (by omega)]
        rfl
      · by_cases h : ((mendedL ms gs q).length : Int) < ((mostL ms gs n).length : Int)
        · exact Ev.pos h (Ev.now _)
        · refine Ev.neg h (Ev.bind (sooner_ev _ _ (by omega) (by omega)) (Ev.neg ?_ (Ev.now _)))
          rw [decide_eq_true_eq]
          exact fun hc => hb (Or.inr ⟨by omega, hc⟩)
    have hrise := rising_ev (mostL ms gs n) (ms.length : Int) (by omega)
    rw [show rise (ms.length : Int) (-1) (mostL ms gs n) = true by rw [hl]; exact mended_rise] at hrise
    have hfirst := first_spec ok
    rcases plan_f ok with ⟨r, hr, e2⟩ | ⟨hr, e2⟩
    · -- there is a plan for all
      obtain ⟨c1, c2, _, _⟩ := planL_some ok hr
      have hall : ∀ i, 0 ≤ i → i < (ms.length : Int) → hadAny ms gs n i = true := fun i h0 h1 => (hadAny_iff ok i).2 ⟨r, c1, fullB_iff.1 c2 i h0 h1⟩
      have hfull : (mostL ms gs n).length = ms.length := by
        have := hbest r c1
        unfold moreI at this
        unfold fullB at c2
        omega
      rcases hfirst with ⟨i, e3, h0, h1, _⟩ | ⟨e3, _⟩
      · rw [hall i h0.1 h0.2] at h1; cases h1
      · refine Ev.bind (Ev.some e2) (Ev.bind (Ev.some e3) (Ev.bind he (Ev.bind (lmended_ev ok hq) (Ev.pos rfl (Ev.pos rfl (Ev.neg (by decide) (Ev.pos rfl (Ev.bind hrise (Ev.pos rfl ?_)))))))))
        refine Ev.step (f := fun k => macadamlaw04_GangMost.j1 k (mostL ms gs n) (mendedL ms gs q) false) (fun k => ?_) fin
        simp only [macadamlaw04_GangMost.j0]
        rw [if_neg (by simp [hfull]), if_neg (by decide), if_pos trivial]
        rfl
    · have hnf : (mostL ms gs n).length ≠ ms.length := fun h => planL_none ok hr p hp (by unfold fullB; rw [← hl]; exact h)
      have hne : ((((mostL ms gs n).length : Int) == (ms.length : Int)) != ((4 : Int) == 0)) = false := by
        rw [show (((mostL ms gs n).length : Int) == (ms.length : Int)) = false by simp; omega]
        rfl
      rcases hfirst with ⟨i, e3, h0, h1, _⟩ | ⟨e3, _⟩
      · obtain ⟨t, ht, ht2⟩ := place_ev (mostL ms gs n) i (by omega)
        have hni : i ∉ mostL ms gs n := fun hi => by
          have : hadAny ms gs n i = true := (hadAny_iff ok i).2 ⟨p, hp, by rw [← hl]; exact hi⟩
          rw [this] at h1; cases h1
        refine Ev.bind (Ev.some e2) (Ev.bind (Ev.some e3) (Ev.bind he (Ev.bind (lmended_ev ok hq) (Ev.pos rfl (Ev.neg (by decide) (Ev.pos rfl (Ev.pos rfl (Ev.bind hrise (Ev.pos rfl ?_)))))))))
        refine Ev.step (f := fun k => (macadamref00_Place.f k (mostL ms gs n) i).bind fun t => if t ≥ 0 then macadamlaw04_GangMost.j1 k (mostL ms gs n) (mendedL ms gs q) true else macadamlaw04_GangMost.j1 k (mostL ms gs n) (mendedL ms gs q) false) (fun k => ?_) (Ev.bind ht (Ev.neg (by have := ht2.2 hni; omega) fin))
        simp only [macadamlaw04_GangMost.j0]
        rw [hne, if_neg (by simp)]
        simp only [if_true]
        rfl
      · refine Ev.bind (Ev.some e2) (Ev.bind (Ev.some e3) (Ev.bind he (Ev.bind (lmended_ev ok hq) (Ev.pos rfl (Ev.neg (by decide) (Ev.pos rfl (Ev.neg (by decide) (Ev.pos rfl (Ev.bind hrise (Ev.pos rfl ?_))))))))))
        refine Ev.step (f := fun k => macadamlaw04_GangMost.j1 k (mostL ms gs n) (mendedL ms gs q) false) (fun k => ?_) fin
        simp only [macadamlaw04_GangMost.j0]
        rw [hne, if_neg (by simp), if_neg (by decide), if_neg (by decide)]
  · have e1 : gang_Most.f ms gs n = some ([], 40) := by unfold gang_Most.f; rw [if_neg ok]
    refine Ev.bind (Ev.some e1) (Ev.bind (sound_ev ms gs n hm hg) ?_)
    rw [show okB ms gs n = false by simpa using ok]
    exact Ev.neg (by simp) (Ev.pos rfl (Ev.pos rfl (Ev.some rfl)))
end Go.Proofs.YtikfghnkbgdbgaaDoor.Q
end
section
namespace Go.Proofs.YtikfghnkbgdbgaaDoor.Q
open Go.ChangeShapes Go.WideShapes Go.ChangeAt Go.RowKit
set_option linter.unusedVariables false
set_option maxRecDepth 100000 in
theorem gangMost_lifted (os : Os) (started : os.Started) (H : Type) (enc : TypeId × Value → H) :
    ReturnsInHanded {} Tryd.checked os 11 .any (fun w args => (Rows.gangMostSpec.pre enc Tryd.prog Tryd.f11 [] false w args ∧ laidMetH Tryd.prog laidV w) ∧ sizedMet enc Tryd.prog Tryd.f11 (OpenSpec.ofChange Rows.gangMostSpec) false w args)
      (Rows.gangMostSpec.post enc Tryd.prog Tryd.f11 false true false false) := by
  refine returnsInHanded_of_change_and (C := Tryd.checked) (X := fun w _ => laidMetH Tryd.prog laidV w) (fun _ _ _ hh h => h.of_heap hh) ownK started (by kernel_rfl) Tryd.func11
    (ChangeSpec.witness_shaped (enc := enc) (C := Tryd.checked) (os := os) (X := fun w _ => laidMetH Tryd.prog laidV w) false (World.doorLaid Tryd.prog 19 os) #[.agg #[.slice none 0 0, .slice none 0 0, .int .i64 0], .slice none 0 0] 8 rfl (World.shaped_of_RefB (by kernel_rfl) (by kernel_rfl)) (by kernel_rfl) (by kernel_rfl) (by kernel_rfl) (door_met os _)) ?_
  intro W base args ds gs before hval0 hW _ hsz0 hL _
  have hval : ∀ (j : Nat) t v, Tryd.f11.params[j]? = some t → args[j]? = some v → Value.okWide Tryd.prog W .any base t v := hval0
  have hsz : (DataW.weightsEach Tryd.prog (Tryd.f11.params.toList ++ Rows.gangMostSpec.plain.varTypes Tryd.prog) (ds ++ gs)).all (· ≤ reachBytes) = true := hsz0
  have hW' := hW
  obtain ⟨p, q, hA0, hV, rfl, hfz, hnd⟩ := hW
  have hA : DataW.TrodAll enc Tryd.prog W 0 (fun _ => true) true Tryd.f11.params.toList args.toList ds p := hA0
  rw [Tryd.params11] at hA hval hsz
  obtain ⟨v0, vs0, d0, ds0, p0, q0, hargs, rfl, rfl, h0, r0⟩ := trodAll_cons hA
  obtain ⟨v1, vs1, d1, ds1, p1, q1, rfl, rfl, rfl, h1, r1⟩ := trodAll_cons r0
  obtain ⟨rfl, rfl, rfl⟩ := trodAll_nil r1
  obtain rfl : args = #[v0, v1] := by cases args; simp_all
  obtain ⟨rfl, rfl⟩ := trodVars_none hV
  have lt0 : ∀ x ∈ p0, x.block < W.heap.size := by obtain ⟨m, hm⟩ := h0; exact DataW.trod_lt m _ _ _ hm
  obtain ⟨y0, K0, ok0⟩ := opens_book.arg h0
  obtain ⟨A0_0, c0_0, A0_1, c0_1, e0, hc0_0, hr0_0, hc0_1, hr0_1⟩ := k25_open K0
  obtain rfl := cells_many e0
  have lt1 : ∀ x ∈ p1, x.block < W.heap.size := by obtain ⟨m, hm⟩ := h1; exact DataW.trod_lt m _ _ _ hm
  obtain ⟨a1, len1, cap1, rfl⟩ := okWide_slice Tryd.underlying28 (hval 1 28 v1 rfl rfl)
  have z1 : len1 * 8 ≤ 140737488351232 := sized_any hsz (j := 1) (t := 28) rfl rfl Tryd.underlying28 (by kernel_rfl) h1
  obtain ⟨y1, K1, ok1⟩ := opens_ints.arg h1
  obtain ⟨A1, c1, e1, hc1, hr1⟩ := K1
  simp only [Value.cells, List.cons.injEq, Value.slice.injEq, and_true] at e1
  obtain ⟨rfl, rfl, rfl⟩ := e1
  have hG := gv_of_laid hL
  obtain ⟨k_, h_⟩ := gangMost_pure y0.f0 y0.f1 y0.f2 ok0 y1 ok1 z1
  clear hA0 hval0 hsz0 hsz
  refine (macadamlaw04_GangMost.calls k_ A0_0 c0_0 y0.f0 A0_1 c0_1 y0.f1 y0.f2 _ _ y1 true W hr0_0 hc0_0 hr0_1 hc0_1 hr1 hc1 hG h_).mono fun e W' ⟨he, bel⟩ => ?_
  subst he
  exact ⟨_, rfl, _, _, _, [], _, [], hW', trodAll_mk1 (shut_bool Tryd.underlying4 _), (trodAll_cons_mk (Below.trod laidOut (by kernel_rfl) (of_decide_eq_true (by kernel_rfl)) h0 bel lt0) (trodAll_cons_mk (Below.trod laidOut (by kernel_rfl) (of_decide_eq_true (by kernel_rfl)) h1 bel lt1) trodAll_mk0)), rfl, bel.frame _, fun h => by cases h⟩
theorem gangMost_over : Rows.gangMostRow.holds Tryd.pinned (OpenSpec.ofChange Rows.gangMostSpec) :=
  OpenClaim.holds_of_wide 11 Tryd.f11 rfl rfl rfl rfl rfl rfl rfl ⟨rfl, rfl, rfl, rfl, rfl⟩ rfl rfl rfl rfl rfl (by kernel_rfl) Tryd.func11 (by kernel_rfl)
    (of_decide_eq_true (by kernel_rfl)) (by unfold Func.isWrapper; first | (rw [if_pos (by decide +kernel)]; kernel_rfl) | (rw [if_neg (by decide +kernel)]; exact ⟨rfl, rfl⟩))
    (fun os started H enc _ => gangMost_lifted os started H enc)
end Go.Proofs.YtikfghnkbgdbgaaDoor.Q
namespace Go.Proofs.YtikfghnkbgdbgaaDoor
set_option maxRecDepth 100000 in
/-- THE CARD. -/
theorem gangMost_holds : Rows.GangMostCardSaid :=
  Claim7.holds_tied_plain_at .later [] [.data, .funcs] true (true, "88f50df5e688c53fcba80ffbc790cc1082a54a252ac4bc190e21b1a8f43ba8e5") false
    Q.gangMost_over (fun _ h => by cases h) (by kernel_rfl) (fun _ h => by cases h) gangMost_row_tie rfl ⟨rfl, rfl⟩ (by kernel_rfl) rfl
    (fun f fn hf hfn => by
      obtain rfl : f = 11 := Option.some.inj ((show Tryd.prog.funcNamed "macadam/macadamlaw04.GangMost" = some 11 by kernel_rfl).symm.trans hf) |>.symm
      obtain rfl : fn = Tryd.f11 := (Option.some.inj (Tryd.func11.symm.trans hfn)).symm
      exact ⟨by kernel_rfl, fun j t ht => by
        rw [Tryd.params11] at ht
        have hm : t ∈ [25, 28] := by simpa using Array.mem_of_getElem? ht
        have hall : ([25, 28].all fun u => !Tryd.prog.wantsStandIn u) = true := by kernel_rfl
        exact (show Tryd.prog.wantsStandIn t = false by simpa using List.all_eq_true.1 hall t hm)⟩)
    (by kernel_rfl)
end Go.Proofs.YtikfghnkbgdbgaaDoor
end
