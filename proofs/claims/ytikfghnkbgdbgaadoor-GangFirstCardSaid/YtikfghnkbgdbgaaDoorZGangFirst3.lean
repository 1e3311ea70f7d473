/- For any book and any number the statement GangFirst holds: a mile can surely be mended by some plan just if it is the most where no other one may be closed, and the first that cannot is told. -/
import Derived.Test.YtikfghnkbgdbgaaDoorZGangFirst2
import Derived.Test.YtikfghnkbgdbgaaDoorTie
import Derived.Test.YtikfghnkbgdbgaaDoorCards
import Derived.SevenTiedAt
set_option linter.unusedSimpArgs false
set_option linter.unusedVariables false
section
namespace Go.Proofs.YtikfghnkbgdbgaaDoor.Q
set_option linter.unusedSimpArgs false
set_option linter.unusedVariables false
open Go.RowKit Go.Proofs.YtikfghnkbgdbgaaDoorW.PrintWords Go.Proofs.YtikfghnkbgdbgaaDoorW.PrintLast Go.Proofs.YtikfghnkbgdbgaaDoorW.PrintMore
theorem keeps_setCell2 {n0 : Nat} {S : Nat → Prop} {X Y : World} (h : Keeps n0 S X Y) {p : Addr} (hS : S p.block) (hp : n0 ≤ p.block) (v : Value) : Keeps n0 S X (Y.setCell p v) :=
  ⟨h.bel.setCell hp v, h.kept.setCell (.inl hS) v⟩
attribute [local go_sem] Oper.semAt_some wide_fn wide_depth
def bestOfMost (ms : List M) (gs : List G) (pre : List (List Wk)) : List Int := pre.foldl (mostStep ms gs) []
theorem best_snoc (ms : List M) (gs : List G) (pre : List (List Wk)) (x : List Wk) : bestOfMost ms gs (pre ++ [x]) = mostStep ms gs (bestOfMost ms gs pre) x := by simp [bestOfMost]
theorem best_len (ms : List M) (gs : List G) : ∀ (pre : List (List Wk)) (b : List Int), b.length ≤ ms.length → (pre.foldl (mostStep ms gs) b).length ≤ ms.length
  | [], b, h => h
  | x :: r, b, h => by
    refine best_len ms gs r _ ?_
    unfold mostStep
    split
    · exact mended_len ms gs x
    · exact h
structure MostI (w W : World) (ms : List M) (gs : List G) (n : Int) (b g gx gh l : Nat) (A0 : Option Addr) (c0 : Nat) (A1 : Option Addr) (c1 : Nat) (pre : List (List Wk)) : Prop where
  box : BoxAt w W A0 ms.length c0 A1 gs.length c1 n b g
  x : W.heap[gx]? = some (.cells #[.slice A0 ms.length c0, .slice A1 gs.length c1, .int .i64 n] 25 (0, 0))
  best : ∃ A c, W.heap[gh]? = some (.cells #[.slice A (bestOfMost ms gs pre).length c] 28 (0, 0)) ∧ (bestOfMost ms gs pre).length ≤ c ∧ Kd.F (Kd.int .i64) W (fun k => w.heap.size ≤ k ∧ k ≠ gh ∧ k ≠ l ∧ k + 1 ≠ l) A (bestOfMost ms gs pre).length (bestOfMost ms gs pre)
def X_Most : Nat := 0
def X_Most.T8 : Bool × List (List Nat × List Nat) := (true, [([], []), ([0], [0]), ([], []), ([2], [2]), ([3], [3]), ([1, 4], [1, 4]), ([], []), ([6], [6]), ([5, 7], [5, 7]), ([8, 5], [8]), ([9], [9]), ([10, 9], [9, 10]), ([9], [9]), ([12, 9], [9, 12]), ([11, 13, 9], [9, 11, 13]), ([14, 9, 9], [9, 14]), ([15], [15]), ([15], [15]), ([16, 17, 15, 15], [15, 16, 17]), ([18, 15], [15, 18]), ([15, 19, 9], [9, 15, 19]), ([9, 20], [9, 20])])
def X_Most.B8 : List Nat := [0, 1, 0, 4, 12, 31, 0, 64, 255, 511, 1023, 2047, 1023, 5119, 16383, 32767, 65535, 65535, 262143, 524287, 1048575, 2097151]
theorem X_Most.tab8 : rtab .any (opsOf Tryd.f34 8) = X_Most.T8 := by kernel_rfl
theorem X_Most.bits8 : waitsOk X_Most.T8.2 X_Most.B8 = true := by kernel_rfl
set_option maxRecDepth 100000 in
set_option maxHeartbeats 4000000 in
theorem gang_Most.calls (A0_0 : Option Addr) (c0_0 : Nat) (l0_0 : List (M)) (A0_1 : Option Addr) (c0_1 : Nat) (l0_1 : List (G)) (a0_2 : Int) (r1 : List Int) (r2 : Int) (w : World) (hr0_0 : Kd.C k66 w A0_0 l0_0.length l0_0) (hc0_0 : l0_0.length ≤ c0_0) (hr0_1 : Kd.C k63 w A0_1 l0_1.length l0_1) (hc0_1 : l0_1.length ≤ c0_1) (hG : GV w) (h : gang_Most.f l0_0 l0_1 a0_2 = some (r1, r2)) :
    Calls Tryd.prog 34 #[.agg #[.slice A0_0 l0_0.length c0_0, .slice A0_1 l0_1.length c0_1, .int .i64 a0_2]] w fun e w' => ∃ v0_ : Value, e = .returned (.tuple #[v0_, .int .i64 r2]) ∧ Kd.V (Kd.int .i64) 3 w' w.heap.size (fun k_ => (w.heap.size ≤ k_)) v0_ r1 ∧ Below w.heap.size w w' := by
  have HR0 := Aside0.mk hr0_0
  have HR1 := Aside0.mk hr0_1
  have HG0 := Aside0.mk hG
  have H := Aside0.mk h
  have hB := ((Below.refl w.heap.size w).alloc (Nat.le_refl _) (.cells #[.slice A0_0 l0_0.length c0_0, .slice A0_1 l0_1.length c0_1, .int .i64 a0_2] 25))
  have HB := Aside0.mk hB
  have hx := World.alloc_heap_new w (.cells #[.slice A0_0 l0_0.length c0_0, .slice A0_1 l0_1.length c0_1, .int .i64 a0_2] 25)
  have HX := Aside0.mk hx
  clear hr0_0 hr0_1 hG hB h hx
  refine calls_marks Tryd.func34 rfl ?_
  simp only [Tryd.ntmps34, List.size_toArray, List.length_cons, List.length_nil, Nat.reduceAdd, Nat.reduceSub, Array.replicate_succ, Array.replicate_zero, List.push_toArray, List.append_toArray, List.nil_append, List.cons_append]
  go_wp2_with (fail)
  refine (asked_any l0_0 l0_1 A0_0 c0_0 A0_1 c0_1 a0_2 none 0 [] _ (Kd.C_below HR0.out HB.out) hc0_0 (Kd.C_below HR1.out HB.out) hc0_1 ⟨rfl, by simp, fun h => by simp at h⟩ (Nat.le_refl _) (gv_below HG0.out HB.out)).mono ?_
  rintro e w1 ⟨B0, n0, d0, B1, n1, d1, m, bm, E, rfl, hE, hs, hb⟩
  have HB1 := Aside0.mk (below_then HB.out HB.out.size hb)
  have HX1 := Aside0.mk ((hb.block w.heap.size (by simp)).trans HX.out)
  clear hb
  by_cases hE0 : E = 0
  · obtain ⟨b, ⟨rfl, rfl, rfl⟩, ⟨rfl, rfl, rfl⟩, rfl, rfl, hm, hl⟩ := hs hE0
    subst hE0
    have HE := Aside0.mk hE
    have HM := Aside0.mk hm
    have HH : Aside0 (some (mostL l0_0 l0_1 a0_2, (0 : Int)) = some (r1, r2)) := ⟨by rw [← H.out]; unfold gang_Most.f; rw [if_pos (askedE_ok hE.symm).1]⟩
    have hx2 := (blk_cell HX1.out 2).trans rfl
    have hxl := (Array.getElem?_eq_some_iff.1 HX1.out).1
    have hbd := okB_bounds (askedE_ok hE.symm).1
    have hg2 := hbd.2.1.2
    have hg1 := hbd.2.1.1
    have hm4 := hbd.1.2
    have hn4 : a0_2 ≤ 4 := by omega
    have hn0 : 0 ≤ a0_2 := by omega
    have HBV := Aside0.mk ((HB1.out.alloc HB1.out.size (.cells #[.slice A0_0 l0_0.length c0_0, .slice A0_1 l0_1.length c0_1, .int .i64 a0_2, .map (some b)] 86)).alloc (by simp; have := HB1.out.size; omega) (.cells #[.slice none 0 0] 28))
    have HV1 := Aside0.mk (blk_alloc (World.alloc_heap_new w1 (.cells #[.slice A0_0 l0_0.length c0_0, .slice A0_1 l0_1.length c0_1, .int .i64 a0_2, .map (some b)] 86)) (.cells #[.slice none 0 0] 28))
    have HV2 := Aside0.mk (World.alloc_heap_new (w1.alloc (.cells #[.slice A0_0 l0_0.length c0_0, .slice A0_1 l0_1.length c0_1, .int .i64 a0_2, .map (some b)] 86)) (.cells #[.slice none 0 0] 28))
    have HV3 := Aside0.mk (blk_alloc (blk_alloc HX1.out (.cells #[.slice A0_0 l0_0.length c0_0, .slice A0_1 l0_1.length c0_1, .int .i64 a0_2, .map (some b)] 86)) (.cells #[.slice none 0 0] 28))
    have HV4 := Aside0.mk ((HM.out.below ((Below.refl _ w1).alloc (Nat.le_refl _) (.cells #[.slice A0_0 l0_0.length c0_0, .slice A0_1 l0_1.length c0_1, .int .i64 a0_2, .map (some b)] 86))).below ((Below.refl _ _).alloc (Nat.le_refl _) (.cells #[.slice none 0 0] 28)))
    have hVs : ((w1.alloc (.cells #[.slice A0_0 l0_0.length c0_0, .slice A0_1 l0_1.length c0_1, .int .i64 a0_2, .map (some b)] 86)).alloc (.cells #[.slice none 0 0] 28)).heap.size = w1.heap.size + 2 := by simp
    have HVS := Aside0.mk hVs
    have hbl1 := HM.out.lt
    have HBL := Aside0.mk (show b < w1.heap.size from hbl1)
    clear hm hs hE hl H hbd hVs hbl1
    go_wp2_with (fail)
    refine (plans_calls A0_0 l0_0.length c0_0 A0_1 l0_1.length c0_1 a0_2 b a0_2 _).mono ?_
    generalize (w1.alloc (.cells #[.slice A0_0 l0_0.length c0_0, .slice A0_1 l0_1.length c0_1, .int .i64 a0_2, .map (some b)] 86)).alloc (.cells #[.slice none 0 0] 28) = V at HBV HV1 HV2 HV3 HV4 HVS ⊢
    rintro e wl ⟨rfl, hwl⟩
    have hbl : Below V.heap.size V wl := by rw [hwl]; exact ((Below.refl _ V).alloc (Nat.le_refl _) _).alloc (by simp) _
    have hsl : wl.heap.size = V.heap.size + 2 := by rw [hwl]; simp
    have HBl := Aside0.mk (HBV.out.trans (hbl.mono HBV.out.size))
    have HI := Aside0.mk (show MostI w wl l0_0 l0_1 a0_2 b w1.heap.size w.heap.size (w1.heap.size + 1) (wl.heap.size + 1) A0_0 c0_0 A0_1 c0_1 [] from
      ⟨⟨(hbl.block _ (Array.getElem?_eq_some_iff.1 HV1.out).1).trans HV1.out, HBl.out⟩, (hbl.block _ (Array.getElem?_eq_some_iff.1 HV3.out).1).trans HV3.out,
       none, 0, by have q := HV2.out; rw [World.size_alloc] at q; exact (hbl.block _ (Array.getElem?_eq_some_iff.1 q).1).trans q, Nat.le_refl _, Kd.F_nil _ _ _⟩)
    have HSr := Aside0.mk (Src.mk (w := w) (W := wl) (ms := l0_0) (gs := l0_1) (n := a0_2) (b := b) (g := V.heap.size) (gm := V.heap.size + 1) (many := a0_2) (A0 := A0_0) (c0 := c0_0) (A1 := A0_1) (c1 := c0_1)
      ⟨by rw [hwl]; exact blk_alloc (World.alloc_heap_new V _) _, HBl.out⟩ (HV4.out.below hbl) (by rw [hwl]; have q := World.alloc_heap_new (V.alloc (.cells #[.slice A0_0 l0_0.length c0_0, .slice A0_1 l0_1.length c0_1, .int .i64 a0_2, .map (some b)] 86)) (.cells #[.int .i64 a0_2] 3); rwa [World.size_alloc] at q))
    have HSL := Aside0.mk hsl
    clear hbl hwl hsl hx2 hxl
    go_wp2_with (fail)
    refine wpIn_range_all (P := Tryd.prog) (w := wl) (n := 0) rfl (enters_ Tryd.func100 (by kernel_rfl) rfl) w.heap.size HBl.out.size (fun k => k = w1.heap.size + 1) (fun k hk => by have hw1 := HB1.out.size; have hVS := HVS.out; have hSL := HSL.out; omega) (plansL l0_0 l0_1 a0_2 a0_2) (fun x v W => Pr8 l0_0 l0_1 a0_2 (wl.heap.size + 2) x v W) w HBl.out ?hit ?hPr
      (fun pre W => MostI w W l0_0 l0_1 a0_2 b w1.heap.size w.heap.size (w1.heap.size + 1) (wl.heap.size + 1) A0_0 c0_0 A0_1 c0_1 pre) ?hI1 ?hI2 HI.out ?a1 ?assign ?body ?done
    case hit =>
      have hw1 := HB1.out.size
      have hVS := HVS.out
      have hSL := HSL.out
      intro l J W hl hW hb hJ hY h0
      exact plans1_calls wl (fun k => k = w1.heap.size + 1) (fun k hk => by omega) (by omega) (by have := HBL.out; omega) (by omega) HSr.out hg1 hg2 hn0 hn4 hn0 hm4 HR1.out HG0.out l J W hl hW hb hJ hY h0
    case hPr =>
      have hSL := HSL.out
      rintro x v W o ⟨A, c, rfl, h1, h2, h3, h4⟩ _
      exact ⟨A, c, rfl, h1, h2, Kd.F_grown h3 (grownBy_putObj' W _ o) (fun k hk e => by injection e with e; omega), h4⟩
    case hI1 =>
      rintro pre X Y ⟨h1, h2, A, c, h3, h4, h5⟩ hb
      exact ⟨h1.step hb, (hb.block _ (Array.getElem?_eq_some_iff.1 h2).1).trans h2, A, c, (hb.block _ (Array.getElem?_eq_some_iff.1 h3).1).trans h3, h4, Kd.F_below h5 hb⟩
    case hI2 =>
      have hw1 := HB1.out.size
      have hVS := HVS.out
      have hSL := HSL.out
      have hxl := (Array.getElem?_eq_some_iff.1 HX1.out).1
      rintro pre X o ⟨h1, h2, A, c, h3, h4, h5⟩ _
      refine ⟨⟨(World.putObj_heap_other (by omega)).trans h1.box, h1.bel.trans (below_putObj X _ _ o (by omega))⟩, (World.putObj_heap_other (by omega)).trans h2, A, c, (World.putObj_heap_other (by omega)).trans h3, h4, Kd.F_grown h5 (grownBy_putObj' X _ o) (fun k hk e => by injection e with e; exact hk.2.2.1 e)⟩
    case assign =>
      intro x v W K hK
      gi_wp2
      exact hK
    case body =>
      rintro pre x v W hWs hI ⟨A, c, rfl, hlc, _, hF, hfair⟩
      have hgW : w1.heap.size + 1 < W.heap.size := by have hVS := HVS.out; have hSL := HSL.out; omega
      have HG3 := Aside0.mk hWs
      clear hWs
      have q0 := (blk_cell hI.box.box 0).trans rfl
      have q1 := (blk_cell hI.box.box 1).trans rfl
      have q2 := (blk_cell hI.box.box 2).trans rfl
      have q3 := (blk_cell hI.box.box 3).trans rfl
      have HII := Aside0.mk hI
      have HF := Aside0.mk hF
      have HFA := Aside0.mk hfair
      clear hI hF hfair
      gi_wp2
      refine (CallsIn.inRound (wl.heap.size + 1) (callsIn_wide.2 (mended_calls l0_0 l0_1 A0_0 c0_0 A0_1 c0_1 a0_2 b A c x W (Kd.C_below HR0.out HII.out.box.bel) (Kd.C_below HR1.out HII.out.box.bel) (Kd.F_now HF.out) (gv_below HG0.out HII.out.box.bel) (askedE_ok HE.out.symm).1 HFA.out))).mono ?_
      rintro e W2 ⟨v2, rfl, hR, hb⟩
      obtain ⟨A2, c2, rfl⟩ := Kd.R_slice hR
      have hlen := mended_len l0_0 l0_1 x
      have HB2 := Aside0.mk (HII.out.box.step hb)
      have HX2 := Aside0.mk ((hb.block _ (Array.getElem?_eq_some_iff.1 HII.out.x).1).trans HII.out.x)
      have HK2 := Aside0.mk ((Keeps.refl w.heap.size (fun k => k = w1.heap.size + 1) W).step hb HII.out.box.bel.size)
      have HL2 := Aside0.mk (Kd.R_F (Kd.R_bound hR))
      have HC2 := Aside0.mk (Kd.R_reads' hR).2.1
      have HG2 := Aside0.mk hgW
      obtain ⟨A3, c3, hbst, hc3, hF3⟩ := HII.out.best
      have HBS := Aside0.mk ((hb.block _ (Array.getElem?_eq_some_iff.1 hbst).1).trans hbst)
      have HF3 := Aside0.mk (Kd.F_below hF3 hb)
      have HC3 := Aside0.mk hc3
      have hbl := best_len l0_0 l0_1 pre [] (Nat.zero_le _)
      have hbl4 : (bestOfMost l0_0 l0_1 pre).length ≤ 4 := Nat.le_trans hbl hm4
      have hll4 : (mendedL l0_0 l0_1 x).length ≤ 4 := Nat.le_trans hlen hm4
      obtain ⟨R, hRR⟩ : ∃ R : Int, max ((mendedL l0_0 l0_1 x).length : Int) ((bestOfMost l0_0 l0_1 pre).length : Int) = R := ⟨_, rfl⟩
      have HRR := Aside0.mk hRR
      replace HBS := Aside0.mk (show W2.drew.heap[w1.heap.size + 1]? = _ from HBS.out)
      replace HB2 := Aside0.mk (HB2.out.step (Below.refl _ W2).drew)
      replace HX2 := Aside0.mk (show W2.drew.heap[w.heap.size]? = _ from HX2.out)
      replace HK2 := Aside0.mk (HK2.out.step (Below.refl _ W2).drew HII.out.box.bel.size)
      replace HL2 := Aside0.mk (Kd.F_below HL2.out (Below.refl _ W2).drew)
      replace HF3 := Aside0.mk (Kd.F_below HF3.out (Below.refl _ W2).drew)
      clear hR hb q0 q1 q2 q3 hgW hbst hc3 hF3 hbl hlen
      by_cases hgt : ((bestOfMost l0_0 l0_1 pre).length : Int) < R
      · have hc1 : decide (((bestOfMost l0_0 l0_1 pre).length : Int) < R) = true := decide_eq_true hgt
        have HMS := Aside0.mk (show bestOfMost l0_0 l0_1 (pre ++ [x]) = (mendedL l0_0 l0_1 x) by rw [best_snoc]; unfold mostStep; rw [if_pos (.inl (by omega))])
        clear hgt hRR
        gi_wp2
        refine startIn_ (n := 22) (S := fun w' => w'.cell? ⟨w1.heap.size + 1, 0, none⟩ = some (.slice A3 (bestOfMost l0_0 l0_1 pre).length c3)) (ds := []) (by kernel_rfl) (fun h => by obtain ⟨_, _, h⟩ := h; exact Exit.noConfusion (And.left h)) (bs 22 0) (by kernel_rfl) rfl rfl ((blk_cell HBS.out 0).trans rfl) (fun hHeld => ?_)
        refine with_tabW X_Most.tab8 X_Most.bits8 (fun HT_ HW_ => ?_)
        generalize World.drew _ = w5 at HBS HB2 HX2 HK2 HL2 HF3 hHeld ⊢
        refine pu HT_ 0 (some 25) (bs 22 1) ?_
        refine pu HT_ 1 (some 26) (bs 22 3) ?_
        refine take_ (i := 2) (N := some 27) (v := ?_) (a' := ?_) (bs 22 7) rfl rfl (take_ofW HT_.out HW_.out (by kernel_rfl)) (fun _ _ _ h => h) (Or.inl ⟨by rfl, ?_⟩) hHeld ?_ ?_
        rotate_left
        · intro w' s0
          go_simp
          with_reducible rfl
        rotate_left
        · simp only [Act.put, List.setIfInBounds_toArray, List.set_cons_zero, List.set_cons_succ, i64_w, i32_w]
          rfl
        refine pu HT_ 3 (some 28) (bs 22 15) ?_
        refine take_ (i := 6) (N := some 31) (v := ?_) (a' := ?_) (bs 22 79) rfl rfl (take_ofW HT_.out HW_.out (by kernel_rfl)) (fun _ _ _ h => h) (Or.inl ⟨by rfl, ?_⟩) hHeld ?_ ?_
        rotate_left
        · intro w' s0
          go_simp
          with_reducible rfl
        rotate_left
        · simp only [Act.put, List.setIfInBounds_toArray, List.set_cons_zero, List.set_cons_succ, i64_w, i32_w]
          rfl
        refine pu HT_ 7 (some 32) (bs 22 207) ?_
        refine on HT_ 4 (some 29) (bs 22 223) (fun K hK => ?_)
        refine value_ (w1 := ?_) (v := ?_) (by rfl) rfl ?_ ?_
        rotate_left 2
        · go_simp
          constructor
          · rfl
          · rfl
        refine hK.out _ _ ((blk_cell (blk_alloc HBS.out _) 0).trans rfl) (fun hHeld => ?_)
        clear hK K
        refine nm 29 ?_
        refine on HT_ 5 (some 30) (bs 22 255) (fun K hK => ?_)
        have hgr := greatest_calls (mendedL l0_0 l0_1 x).length (bestOfMost l0_0 l0_1 pre).length w5 3
        rw [HRR.out] at hgr
        refine goes_ Tryd.func84 (by kernel_rfl) rfl #[.int .i64 (mendedL l0_0 l0_1 x).length, .slice (some ⟨w5.heap.size, 0, none⟩) 1 1] (by rfl) rfl rfl (by simp only [List.map_toArray, List.map_cons, List.map_nil]; rfl) ?_
        refine hgr.mono ?_
        clear hgr
        rintro e w6 ⟨rfl, hb⟩
        refine ⟨_, rfl, ?_⟩
        have hb6 : Below w5.heap.size w5 w6 := ((Below.refl w5.heap.size w5).alloc (Nat.le_refl _) _).trans (hb.mono (Nat.le_succ _))
        replace HBS := Aside0.mk ((hb6.block _ (Array.getElem?_eq_some_iff.1 HBS.out).1).trans HBS.out)
        replace HK2 := Aside0.mk (HK2.out.step hb6 HII.out.box.bel.size)
        replace HB2 := Aside0.mk (HB2.out.step hb6)
        replace HX2 := Aside0.mk ((hb6.block _ (Array.getElem?_eq_some_iff.1 HX2.out).1).trans HX2.out)
        replace HL2 := Aside0.mk (Kd.F_below HL2.out hb6)
        replace HF3 := Aside0.mk (Kd.F_below HF3.out hb6)
        clear hb hb6
        refine hK.out _ _ ((blk_cell HBS.out 0).trans rfl) (fun hHeld => ?_)
        clear hK K
        refine nm 30 ?_
        refine pu HT_ 8 (some 33) (bs 22 511) ?_
        refine pu HT_ 9 (some 34) (bs 22 1023) ?_
        refine pn HT_ 10 (some 35) (bs 22 2047) ?_
        refine pn HT_ 11 (some 36) (bs 22 4095) ?_
        refine pn HT_ 12 (some 37) (bs 22 8191) ?_
        refine pn HT_ 13 (some 38) (bs 22 16383) ?_
        refine pn HT_ 14 (some 39) (bs 22 32767) ?_
        refine pn HT_ 15 (some 40) (bs 22 65535) ?_
        refine pn HT_ 16 (some 41) (bs 22 131071) ?_
        refine pn HT_ 17 (some 42) (bs 22 262143) ?_
        refine pn HT_ 18 (some 43) (bs 22 524287) ?_
        refine pn HT_ 19 (some 44) (bs 22 1048575) ?_
        refine pn HT_ 20 (some 45) (bs 22 2097151) ?_
        refine pu HT_ 21 (some 46) (bs 22 4194303) ?_
        refine done_ (done_of HT_.out (by kernel_rfl)) ?_
        clear hHeld
        have hs0 := (blk_cell HBS.out 0).trans rfl
        have hs1 := blk_frozen HBS.out 0
        gi_wp2
        refine ⟨⟨⟨blk_far HB2.out.box (show w1.heap.size ≠ w1.heap.size + 1 by omega) _, HB2.out.bel.setCell (by have := HB1.out.size; show w.heap.size ≤ w1.heap.size + 1; omega) _⟩, blk_far HX2.out ?_ _, A2, c2, ?_, ?_, ?_⟩, keeps_setCell2 HK2.out (p := ⟨w1.heap.size + 1, 0, none⟩) rfl (by have := HB1.out.size; show w.heap.size ≤ w1.heap.size + 1; omega) _⟩
        · have hxl := (Array.getElem?_eq_some_iff.1 HX1.out).1
          show w.heap.size ≠ w1.heap.size + 1
          omega
        · rw [HMS.out]
          exact (blk_set HBS.out 0 _).trans rfl
        · rw [HMS.out]; exact HC2.out
        · rw [HMS.out]
          exact Kd.F_far (Kd.F_mono HL2.out (fun q hq => by have h1 := hq.2.1; have h2 := HG2.out; have h3 := HG3.out; have h4 := HII.out.box.bel.size; omega)) (fun q hq => hq.2.1) _
      · have hc1 : decide (((bestOfMost l0_0 l0_1 pre).length : Int) < R) = false := decide_eq_false hgt
        by_cases heq : (mendedL l0_0 l0_1 x).length = (bestOfMost l0_0 l0_1 pre).length
        · have hc2 : (((mendedL l0_0 l0_1 x).length : Int) == ((bestOfMost l0_0 l0_1 pre).length : Int)) = true := beq_iff_eq.2 (by omega)
          have hc3' : ((mendedL l0_0 l0_1 x).length == (bestOfMost l0_0 l0_1 pre).length) = true := beq_iff_eq.2 heq
          by_cases hcm : cmpIL (mendedL l0_0 l0_1 x) (bestOfMost l0_0 l0_1 pre) < 0
          · have hc4 : decide (cmpIL (mendedL l0_0 l0_1 x) (bestOfMost l0_0 l0_1 pre) < 0) = true := decide_eq_true hcm
            have HMS := Aside0.mk (show bestOfMost l0_0 l0_1 (pre ++ [x]) = (mendedL l0_0 l0_1 x) by rw [best_snoc]; unfold mostStep; rw [if_pos (.inr ⟨heq, hcm⟩)])
            clear hgt hRR heq hcm
            gi_wp2
            refine startIn_ (n := 22) (S := fun w' => w'.cell? ⟨w1.heap.size + 1, 0, none⟩ = some (.slice A3 (bestOfMost l0_0 l0_1 pre).length c3)) (ds := []) (by kernel_rfl) (fun h => by obtain ⟨_, _, h⟩ := h; exact Exit.noConfusion (And.left h)) (bs 22 0) (by kernel_rfl) rfl rfl ((blk_cell HBS.out 0).trans rfl) (fun hHeld => ?_)
            refine with_tabW X_Most.tab8 X_Most.bits8 (fun HT_ HW_ => ?_)
            generalize World.drew _ = w5 at HBS HB2 HX2 HK2 HL2 HF3 hHeld ⊢
            refine pu HT_ 0 (some 25) (bs 22 1) ?_
            refine pu HT_ 1 (some 26) (bs 22 3) ?_
            refine take_ (i := 2) (N := some 27) (v := ?_) (a' := ?_) (bs 22 7) rfl rfl (take_ofW HT_.out HW_.out (by kernel_rfl)) (fun _ _ _ h => h) (Or.inl ⟨by rfl, ?_⟩) hHeld ?_ ?_
            rotate_left
            · intro w' s0
              go_simp
              with_reducible rfl
            rotate_left
            · simp only [Act.put, List.setIfInBounds_toArray, List.set_cons_zero, List.set_cons_succ, i64_w, i32_w]
              rfl
            refine pu HT_ 3 (some 28) (bs 22 15) ?_
            refine take_ (i := 6) (N := some 31) (v := ?_) (a' := ?_) (bs 22 79) rfl rfl (take_ofW HT_.out HW_.out (by kernel_rfl)) (fun _ _ _ h => h) (Or.inl ⟨by rfl, ?_⟩) hHeld ?_ ?_
            rotate_left
            · intro w' s0
              go_simp
              with_reducible rfl
            rotate_left
            · simp only [Act.put, List.setIfInBounds_toArray, List.set_cons_zero, List.set_cons_succ, i64_w, i32_w]
              rfl
            refine pu HT_ 7 (some 32) (bs 22 207) ?_
            refine on HT_ 4 (some 29) (bs 22 223) (fun K hK => ?_)
            refine value_ (w1 := ?_) (v := ?_) (by rfl) rfl ?_ ?_
            rotate_left 2
            · go_simp
              constructor
              · rfl
              · rfl
            refine hK.out _ _ ((blk_cell (blk_alloc HBS.out _) 0).trans rfl) (fun hHeld => ?_)
            clear hK K
            refine nm 29 ?_
            refine on HT_ 5 (some 30) (bs 22 255) (fun K hK => ?_)
            have hgr := greatest_calls (mendedL l0_0 l0_1 x).length (bestOfMost l0_0 l0_1 pre).length w5 3
            rw [HRR.out] at hgr
            refine goes_ Tryd.func84 (by kernel_rfl) rfl #[.int .i64 (mendedL l0_0 l0_1 x).length, .slice (some ⟨w5.heap.size, 0, none⟩) 1 1] (by rfl) rfl rfl (by simp only [List.map_toArray, List.map_cons, List.map_nil]; rfl) ?_
            refine hgr.mono ?_
            clear hgr
            rintro e w6 ⟨rfl, hb⟩
            refine ⟨_, rfl, ?_⟩
            have hb6 : Below w5.heap.size w5 w6 := ((Below.refl w5.heap.size w5).alloc (Nat.le_refl _) _).trans (hb.mono (Nat.le_succ _))
            replace HBS := Aside0.mk ((hb6.block _ (Array.getElem?_eq_some_iff.1 HBS.out).1).trans HBS.out)
            replace HK2 := Aside0.mk (HK2.out.step hb6 HII.out.box.bel.size)
            replace HB2 := Aside0.mk (HB2.out.step hb6)
            replace HX2 := Aside0.mk ((hb6.block _ (Array.getElem?_eq_some_iff.1 HX2.out).1).trans HX2.out)
            replace HL2 := Aside0.mk (Kd.F_below HL2.out hb6)
            replace HF3 := Aside0.mk (Kd.F_below HF3.out hb6)
            clear hb hb6
            refine hK.out _ _ ((blk_cell HBS.out 0).trans rfl) (fun hHeld => ?_)
            clear hK K
            refine nm 30 ?_
            refine pu HT_ 8 (some 33) (bs 22 511) ?_
            refine pu HT_ 9 (some 34) (bs 22 1023) ?_
            refine pu HT_ 10 (some 35) (bs 22 2047) ?_
            refine pu HT_ 11 (some 36) (bs 22 4095) ?_
            refine take_ (i := 12) (N := some 37) (v := ?_) (a' := ?_) (bs 22 8191) rfl rfl (take_ofW HT_.out HW_.out (by kernel_rfl)) (fun _ _ _ h => h) (Or.inl ⟨by rfl, ?_⟩) hHeld ?_ ?_
            rotate_left
            · intro w' s0
              go_simp
              with_reducible rfl
            rotate_left
            · simp only [Act.put, List.setIfInBounds_toArray, List.set_cons_zero, List.set_cons_succ, i64_w, i32_w]
              rfl
            refine pu HT_ 13 (some 38) (bs 22 16383) ?_
            refine pu HT_ 14 (some 39) (bs 22 32767) ?_
            refine pu HT_ 15 (some 40) (bs 22 65535) ?_
            refine pu HT_ 16 (some 41) (bs 22 131071) ?_
            refine take_ (i := 17) (N := some 42) (v := ?_) (a' := ?_) (bs 22 262143) rfl rfl (take_ofW HT_.out HW_.out (by kernel_rfl)) (fun _ _ _ h => h) (Or.inl ⟨by rfl, ?_⟩) hHeld ?_ ?_
            rotate_left
            · intro w' s0
              go_simp
              with_reducible rfl
            rotate_left
            · simp only [Act.put, List.setIfInBounds_toArray, List.set_cons_zero, List.set_cons_succ, i64_w, i32_w]
              rfl
            refine on HT_ 18 (some 43) (bs 22 524287) (fun K hK => ?_)
            refine goes_ Tryd.func85 (by kernel_rfl) rfl #[.slice A2 (mendedL l0_0 l0_1 x).length c2, .slice A3 (bestOfMost l0_0 l0_1 pre).length c3] (by rfl) rfl rfl (by simp only [List.map_toArray, List.map_cons, List.map_nil]; rfl) ?_
            refine (compare_calls A2 c2 (mendedL l0_0 l0_1 x) A3 c3 (bestOfMost l0_0 l0_1 pre) _ (Kd.F_now HL2.out) HC2.out (Kd.F_now HF3.out) HC3.out (by omega)).mono ?_
            rintro e w7 ⟨rfl, hb⟩
            refine ⟨_, rfl, ?_⟩
            replace HBS := Aside0.mk ((hb.block _ (Array.getElem?_eq_some_iff.1 HBS.out).1).trans HBS.out)
            replace HK2 := Aside0.mk (HK2.out.step hb HII.out.box.bel.size)
            replace HB2 := Aside0.mk (HB2.out.step hb)
            replace HX2 := Aside0.mk ((hb.block _ (Array.getElem?_eq_some_iff.1 HX2.out).1).trans HX2.out)
            replace HL2 := Aside0.mk (Kd.F_below HL2.out hb)
            replace HF3 := Aside0.mk (Kd.F_below HF3.out hb)
            clear hb
            refine hK.out _ _ ((blk_cell HBS.out 0).trans rfl) (fun hHeld => ?_)
            clear hK K
            refine nm 43 ?_
            refine pu HT_ 19 (some 44) (bs 22 1048575) ?_
            refine pu HT_ 20 (some 45) (bs 22 2097151) ?_
            refine pu HT_ 21 (some 46) (bs 22 4194303) ?_
            refine done_ (done_of HT_.out (by kernel_rfl)) ?_
            clear hHeld
            have hs0 := (blk_cell HBS.out 0).trans rfl
            have hs1 := blk_frozen HBS.out 0
            gi_wp2
            refine ⟨⟨⟨blk_far HB2.out.box (show w1.heap.size ≠ w1.heap.size + 1 by omega) _, HB2.out.bel.setCell (by have := HB1.out.size; show w.heap.size ≤ w1.heap.size + 1; omega) _⟩, blk_far HX2.out ?_ _, A2, c2, ?_, ?_, ?_⟩, keeps_setCell2 HK2.out (p := ⟨w1.heap.size + 1, 0, none⟩) rfl (by have := HB1.out.size; show w.heap.size ≤ w1.heap.size + 1; omega) _⟩
            · have hxl := (Array.getElem?_eq_some_iff.1 HX1.out).1
              show w.heap.size ≠ w1.heap.size + 1
              omega
            · rw [HMS.out]
              exact (blk_set HBS.out 0 _).trans rfl
            · rw [HMS.out]; exact HC2.out
            · rw [HMS.out]
              exact Kd.F_far (Kd.F_mono HL2.out (fun q hq => by have h1 := hq.2.1; have h2 := HG2.out; have h3 := HG3.out; have h4 := HII.out.box.bel.size; omega)) (fun q hq => hq.2.1) _
          · have hc4 : decide (cmpIL (mendedL l0_0 l0_1 x) (bestOfMost l0_0 l0_1 pre) < 0) = false := decide_eq_false hcm
            have HMS := Aside0.mk (show bestOfMost l0_0 l0_1 (pre ++ [x]) = (bestOfMost l0_0 l0_1 pre) by rw [best_snoc]; unfold mostStep; rw [if_neg (by rintro (q | q); omega; exact hcm q.2)])
            clear hgt hRR heq hcm
            gi_wp2
            refine startIn_ (n := 22) (S := fun w' => w'.cell? ⟨w1.heap.size + 1, 0, none⟩ = some (.slice A3 (bestOfMost l0_0 l0_1 pre).length c3)) (ds := []) (by kernel_rfl) (fun h => by obtain ⟨_, _, h⟩ := h; exact Exit.noConfusion (And.left h)) (bs 22 0) (by kernel_rfl) rfl rfl ((blk_cell HBS.out 0).trans rfl) (fun hHeld => ?_)
            refine with_tabW X_Most.tab8 X_Most.bits8 (fun HT_ HW_ => ?_)
            generalize World.drew _ = w5 at HBS HB2 HX2 HK2 HL2 HF3 hHeld ⊢
            refine pu HT_ 0 (some 25) (bs 22 1) ?_
            refine pu HT_ 1 (some 26) (bs 22 3) ?_
            refine take_ (i := 2) (N := some 27) (v := ?_) (a' := ?_) (bs 22 7) rfl rfl (take_ofW HT_.out HW_.out (by kernel_rfl)) (fun _ _ _ h => h) (Or.inl ⟨by rfl, ?_⟩) hHeld ?_ ?_
            rotate_left
            · intro w' s0
              go_simp
              with_reducible rfl
            rotate_left
            · simp only [Act.put, List.setIfInBounds_toArray, List.set_cons_zero, List.set_cons_succ, i64_w, i32_w]
              rfl
            refine pu HT_ 3 (some 28) (bs 22 15) ?_
            refine take_ (i := 6) (N := some 31) (v := ?_) (a' := ?_) (bs 22 79) rfl rfl (take_ofW HT_.out HW_.out (by kernel_rfl)) (fun _ _ _ h => h) (Or.inl ⟨by rfl, ?_⟩) hHeld ?_ ?_
            rotate_left
            · intro w' s0
              go_simp
              with_reducible rfl
            rotate_left
            · simp only [Act.put, List.setIfInBounds_toArray, List.set_cons_zero, List.set_cons_succ, i64_w, i32_w]
              rfl
            refine pu HT_ 7 (some 32) (bs 22 207) ?_
            refine on HT_ 4 (some 29) (bs 22 223) (fun K hK => ?_)
            refine value_ (w1 := ?_) (v := ?_) (by rfl) rfl ?_ ?_
            rotate_left 2
            · go_simp
              constructor
              · rfl
              · rfl
            refine hK.out _ _ ((blk_cell (blk_alloc HBS.out _) 0).trans rfl) (fun hHeld => ?_)
            clear hK K
            refine nm 29 ?_
            refine on HT_ 5 (some 30) (bs 22 255) (fun K hK => ?_)
            have hgr := greatest_calls (mendedL l0_0 l0_1 x).length (bestOfMost l0_0 l0_1 pre).length w5 3
            rw [HRR.out] at hgr
            refine goes_ Tryd.func84 (by kernel_rfl) rfl #[.int .i64 (mendedL l0_0 l0_1 x).length, .slice (some ⟨w5.heap.size, 0, none⟩) 1 1] (by rfl) rfl rfl (by simp only [List.map_toArray, List.map_cons, List.map_nil]; rfl) ?_
            refine hgr.mono ?_
            clear hgr
            rintro e w6 ⟨rfl, hb⟩
            refine ⟨_, rfl, ?_⟩
            have hb6 : Below w5.heap.size w5 w6 := ((Below.refl w5.heap.size w5).alloc (Nat.le_refl _) _).trans (hb.mono (Nat.le_succ _))
            replace HBS := Aside0.mk ((hb6.block _ (Array.getElem?_eq_some_iff.1 HBS.out).1).trans HBS.out)
            replace HK2 := Aside0.mk (HK2.out.step hb6 HII.out.box.bel.size)
            replace HB2 := Aside0.mk (HB2.out.step hb6)
            replace HX2 := Aside0.mk ((hb6.block _ (Array.getElem?_eq_some_iff.1 HX2.out).1).trans HX2.out)
            replace HL2 := Aside0.mk (Kd.F_below HL2.out hb6)
            replace HF3 := Aside0.mk (Kd.F_below HF3.out hb6)
            clear hb hb6
            refine hK.out _ _ ((blk_cell HBS.out 0).trans rfl) (fun hHeld => ?_)
            clear hK K
            refine nm 30 ?_
            refine pu HT_ 8 (some 33) (bs 22 511) ?_
            refine pu HT_ 9 (some 34) (bs 22 1023) ?_
            refine pu HT_ 10 (some 35) (bs 22 2047) ?_
            refine pu HT_ 11 (some 36) (bs 22 4095) ?_
            refine take_ (i := 12) (N := some 37) (v := ?_) (a' := ?_) (bs 22 8191) rfl rfl (take_ofW HT_.out HW_.out (by kernel_rfl)) (fun _ _ _ h => h) (Or.inl ⟨by rfl, ?_⟩) hHeld ?_ ?_
            rotate_left
            · intro w' s0
              go_simp
              with_reducible rfl
            rotate_left
            · simp only [Act.put, List.setIfInBounds_toArray, List.set_cons_zero, List.set_cons_succ, i64_w, i32_w]
              rfl
            refine pu HT_ 13 (some 38) (bs 22 16383) ?_
            refine pu HT_ 14 (some 39) (bs 22 32767) ?_
            refine pu HT_ 15 (some 40) (bs 22 65535) ?_
            refine pu HT_ 16 (some 41) (bs 22 131071) ?_
            refine take_ (i := 17) (N := some 42) (v := ?_) (a' := ?_) (bs 22 262143) rfl rfl (take_ofW HT_.out HW_.out (by kernel_rfl)) (fun _ _ _ h => h) (Or.inl ⟨by rfl, ?_⟩) hHeld ?_ ?_
            rotate_left
            · intro w' s0
              go_simp
              with_reducible rfl
            rotate_left
            · simp only [Act.put, List.setIfInBounds_toArray, List.set_cons_zero, List.set_cons_succ, i64_w, i32_w]
              rfl
            refine on HT_ 18 (some 43) (bs 22 524287) (fun K hK => ?_)
            refine goes_ Tryd.func85 (by kernel_rfl) rfl #[.slice A2 (mendedL l0_0 l0_1 x).length c2, .slice A3 (bestOfMost l0_0 l0_1 pre).length c3] (by rfl) rfl rfl (by simp only [List.map_toArray, List.map_cons, List.map_nil]; rfl) ?_
            refine (compare_calls A2 c2 (mendedL l0_0 l0_1 x) A3 c3 (bestOfMost l0_0 l0_1 pre) _ (Kd.F_now HL2.out) HC2.out (Kd.F_now HF3.out) HC3.out (by omega)).mono ?_
            rintro e w7 ⟨rfl, hb⟩
            refine ⟨_, rfl, ?_⟩
            replace HBS := Aside0.mk ((hb.block _ (Array.getElem?_eq_some_iff.1 HBS.out).1).trans HBS.out)
            replace HK2 := Aside0.mk (HK2.out.step hb HII.out.box.bel.size)
            replace HB2 := Aside0.mk (HB2.out.step hb)
            replace HX2 := Aside0.mk ((hb.block _ (Array.getElem?_eq_some_iff.1 HX2.out).1).trans HX2.out)
            replace HL2 := Aside0.mk (Kd.F_below HL2.out hb)
            replace HF3 := Aside0.mk (Kd.F_below HF3.out hb)
            clear hb
            refine hK.out _ _ ((blk_cell HBS.out 0).trans rfl) (fun hHeld => ?_)
            clear hK K
            refine nm 43 ?_
            refine pu HT_ 19 (some 44) (bs 22 1048575) ?_
            refine pu HT_ 20 (some 45) (bs 22 2097151) ?_
            refine pu HT_ 21 (some 46) (bs 22 4194303) ?_
            refine done_ (done_of HT_.out (by kernel_rfl)) ?_
            clear hHeld
            gi_wp2
            exact ⟨⟨HB2.out, HX2.out, A3, c3, by rw [HMS.out]; exact HBS.out, by rw [HMS.out]; exact HC3.out, by rw [HMS.out]; exact HF3.out⟩, HK2.out⟩
        · have hc2 : (((mendedL l0_0 l0_1 x).length : Int) == ((bestOfMost l0_0 l0_1 pre).length : Int)) = false := beq_eq_false_iff_ne.2 (by omega)
          have hc3' : ((mendedL l0_0 l0_1 x).length == (bestOfMost l0_0 l0_1 pre).length) = false := beq_eq_false_iff_ne.2 heq
          have HMS := Aside0.mk (show bestOfMost l0_0 l0_1 (pre ++ [x]) = (bestOfMost l0_0 l0_1 pre) by rw [best_snoc]; unfold mostStep; rw [if_neg (by rintro (q | q); omega; exact heq q.1)])
          clear hgt hRR heq
          gi_wp2
          refine startIn_ (n := 22) (S := fun w' => w'.cell? ⟨w1.heap.size + 1, 0, none⟩ = some (.slice A3 (bestOfMost l0_0 l0_1 pre).length c3)) (ds := []) (by kernel_rfl) (fun h => by obtain ⟨_, _, h⟩ := h; exact Exit.noConfusion (And.left h)) (bs 22 0) (by kernel_rfl) rfl rfl ((blk_cell HBS.out 0).trans rfl) (fun hHeld => ?_)
          refine with_tabW X_Most.tab8 X_Most.bits8 (fun HT_ HW_ => ?_)
          generalize World.drew _ = w5 at HBS HB2 HX2 HK2 HL2 HF3 hHeld ⊢
          refine pu HT_ 0 (some 25) (bs 22 1) ?_
          refine pu HT_ 1 (some 26) (bs 22 3) ?_
          refine take_ (i := 2) (N := some 27) (v := ?_) (a' := ?_) (bs 22 7) rfl rfl (take_ofW HT_.out HW_.out (by kernel_rfl)) (fun _ _ _ h => h) (Or.inl ⟨by rfl, ?_⟩) hHeld ?_ ?_
          rotate_left
          · intro w' s0
            go_simp
            with_reducible rfl
          rotate_left
          · simp only [Act.put, List.setIfInBounds_toArray, List.set_cons_zero, List.set_cons_succ, i64_w, i32_w]
            rfl
          refine pu HT_ 3 (some 28) (bs 22 15) ?_
          refine take_ (i := 6) (N := some 31) (v := ?_) (a' := ?_) (bs 22 79) rfl rfl (take_ofW HT_.out HW_.out (by kernel_rfl)) (fun _ _ _ h => h) (Or.inl ⟨by rfl, ?_⟩) hHeld ?_ ?_
          rotate_left
          · intro w' s0
            go_simp
            with_reducible rfl
          rotate_left
          · simp only [Act.put, List.setIfInBounds_toArray, List.set_cons_zero, List.set_cons_succ, i64_w, i32_w]
            rfl
          refine pu HT_ 7 (some 32) (bs 22 207) ?_
          refine on HT_ 4 (some 29) (bs 22 223) (fun K hK => ?_)
          refine value_ (w1 := ?_) (v := ?_) (by rfl) rfl ?_ ?_
          rotate_left 2
          · go_simp
            constructor
            · rfl
            · rfl
          refine hK.out _ _ ((blk_cell (blk_alloc HBS.out _) 0).trans rfl) (fun hHeld => ?_)
          clear hK K
          refine nm 29 ?_
          refine on HT_ 5 (some 30) (bs 22 255) (fun K hK => ?_)
          have hgr := greatest_calls (mendedL l0_0 l0_1 x).length (bestOfMost l0_0 l0_1 pre).length w5 3
          rw [HRR.out] at hgr
          refine goes_ Tryd.func84 (by kernel_rfl) rfl #[.int .i64 (mendedL l0_0 l0_1 x).length, .slice (some ⟨w5.heap.size, 0, none⟩) 1 1] (by rfl) rfl rfl (by simp only [List.map_toArray, List.map_cons, List.map_nil]; rfl) ?_
          refine hgr.mono ?_
          clear hgr
          rintro e w6 ⟨rfl, hb⟩
          refine ⟨_, rfl, ?_⟩
          have hb6 : Below w5.heap.size w5 w6 := ((Below.refl w5.heap.size w5).alloc (Nat.le_refl _) _).trans (hb.mono (Nat.le_succ _))
          replace HBS := Aside0.mk ((hb6.block _ (Array.getElem?_eq_some_iff.1 HBS.out).1).trans HBS.out)
          replace HK2 := Aside0.mk (HK2.out.step hb6 HII.out.box.bel.size)
          replace HB2 := Aside0.mk (HB2.out.step hb6)
          replace HX2 := Aside0.mk ((hb6.block _ (Array.getElem?_eq_some_iff.1 HX2.out).1).trans HX2.out)
          replace HL2 := Aside0.mk (Kd.F_below HL2.out hb6)
          replace HF3 := Aside0.mk (Kd.F_below HF3.out hb6)
          clear hb hb6
          refine hK.out _ _ ((blk_cell HBS.out 0).trans rfl) (fun hHeld => ?_)
          clear hK K
          refine nm 30 ?_
          refine pu HT_ 8 (some 33) (bs 22 511) ?_
          refine pu HT_ 9 (some 34) (bs 22 1023) ?_
          refine pu HT_ 10 (some 35) (bs 22 2047) ?_
          refine pu HT_ 11 (some 36) (bs 22 4095) ?_
          refine take_ (i := 12) (N := some 37) (v := ?_) (a' := ?_) (bs 22 8191) rfl rfl (take_ofW HT_.out HW_.out (by kernel_rfl)) (fun _ _ _ h => h) (Or.inl ⟨by rfl, ?_⟩) hHeld ?_ ?_
          rotate_left
          · intro w' s0
            go_simp
            with_reducible rfl
          rotate_left
          · simp only [Act.put, List.setIfInBounds_toArray, List.set_cons_zero, List.set_cons_succ, i64_w, i32_w]
            rfl
          refine pu HT_ 13 (some 38) (bs 22 16383) ?_
          refine pu HT_ 14 (some 39) (bs 22 32767) ?_
          refine pu HT_ 15 (some 40) (bs 22 65535) ?_
          refine pn HT_ 16 (some 41) (bs 22 131071) ?_
          refine pn HT_ 17 (some 42) (bs 22 262143) ?_
          refine pn HT_ 18 (some 43) (bs 22 524287) ?_
          refine pn HT_ 19 (some 44) (bs 22 1048575) ?_
          refine pu HT_ 20 (some 45) (bs 22 2097151) ?_
          refine pu HT_ 21 (some 46) (bs 22 4194303) ?_
          refine done_ (done_of HT_.out (by kernel_rfl)) ?_
          clear hHeld
          gi_wp2
          exact ⟨⟨HB2.out, HX2.out, A3, c3, by rw [HMS.out]; exact HBS.out, by rw [HMS.out]; exact HC3.out, by rw [HMS.out]; exact HF3.out⟩, HK2.out⟩
    case done =>
      intro W hD hI hK hdef
      obtain ⟨hbx, hxx, A3, c3, hbst, hc3, hF3⟩ := hI
      have hx0 := (blk_cell hbst 0).trans rfl
      have HDF := Aside0.mk hdef
      have HBD := Aside0.mk hbx.bel
      have HF3 := Aside0.mk hF3
      have hq : some (bestOfMost l0_0 l0_1 (plansL l0_0 l0_1 a0_2 a0_2), (0 : Int)) = some (r1, r2) := HH.out
      obtain ⟨rfl, rfl⟩ : bestOfMost l0_0 l0_1 (plansL l0_0 l0_1 a0_2 a0_2) = r1 ∧ 0 = r2 := by simpa using hq
      clear hK hdef hD hbx hxx hbst hF3 hq
      go_wp2
      refine postM_ret [wl.heap.size] rfl (by simp) (fun _ h => by simp at h; rw [h]; exact HDF.out) (results_tmp2 rfl _ _ _) ⟨_, rfl, ?_, HBD.out.trans (takeAll_below w.heap.size _ _ (fun D h => by simp at h; rw [h]; exact HBl.out.size))⟩
      refine Kd.V_mk (Nat.le_refl _) (Kd.F_mono (Kd.F_grown HF3.out (grownBy_putObj' W wl.heap.size _) (fun k hk e => by injection e with e; omega)) (fun k hk => hk.1))
  · have HE := Aside0.mk hE
    have hE1 : (E == 0) = false := beq_eq_false_iff_ne.2 hE0
    have hE2 : (E != 0) = true := bne_iff_ne.2 hE0
    have h41 : some (([] : List Int), E) = some (r1, r2) := by
      rw [← H.out]
      unfold gang_Most.f
      unfold askedE at hE
      split at hE
      · rename_i q
        exact absurd (by rw [hE]; rfl) hE0
      · rename_i q
        rw [if_neg q, hE]
    obtain ⟨rfl, rfl⟩ : [] = r1 ∧ E = r2 := by simpa using h41
    clear hE hs hE0 h41
    go_wp2
    exact postM_ret [] rfl List.nodup_nil (fun _ h => by simp at h) (results_tmp2 rfl _ _ _) ⟨_, rfl, Kd.V_nil _ _ _ _ _, HB1.out.alloc HB1.out.size _⟩
end Go.Proofs.YtikfghnkbgdbgaaDoor.Q
end
section
namespace Go.Proofs.YtikfghnkbgdbgaaDoor.Q
set_option linter.unusedSimpArgs false
set_option linter.unusedVariables false
open Go.RowKit Go.Proofs.YtikfghnkbgdbgaaDoorW.PrintWords Go.Proofs.YtikfghnkbgdbgaaDoorW.PrintLast Go.Proofs.YtikfghnkbgdbgaaDoorW.PrintMore
theorem keeps_setCell1 {n0 : Nat} {S : Nat → Prop} {X Y : World} (h : Keeps n0 S X Y) {p : Addr} (hS : S p.block) (hp : n0 ≤ p.block) (v : Value) : Keeps n0 S X (Y.setCell p v) :=
  ⟨h.bel.setCell hp v, h.kept.setCell (.inl hS) v⟩
attribute [local go_sem] Oper.semAt_some wide_fn wide_depth
def hv (ms : List M) (gs : List G) (pre : List (List Wk)) (m : Int) : Int := if pre.any (fun p => (mendedL ms gs p).contains m) = true then 1 else 0
theorem pick_hv (ms : List M) (gs : List G) (pre : List (List Wk)) (m : Int) (h0 : 0 ≤ m) (h4 : m < 4) : pick4 (hv ms gs pre 0) (hv ms gs pre 1) (hv ms gs pre 2) (hv ms gs pre 3) m = hv ms gs pre m := by
  obtain rfl | rfl | rfl | rfl : m = 0 ∨ m = 1 ∨ m = 2 ∨ m = 3 := by omega
  all_goals rfl
structure FirstI (w W : World) (ms : List M) (gs : List G) (n : Int) (b g gx gh : Nat) (A0 : Option Addr) (c0 : Nat) (A1 : Option Addr) (c1 : Nat) (pre : List (List Wk)) : Prop where
  box : BoxAt w W A0 ms.length c0 A1 gs.length c1 n b g
  x : W.heap[gx]? = some (.cells #[.slice A0 ms.length c0, .slice A1 gs.length c1, .int .i64 n] 25 (0, 0))
  had : DoneIs W gh (hv ms gs pre 0) (hv ms gs pre 1) (hv ms gs pre 2) (hv ms gs pre 3)
def hk (pre : List (List Wk)) (ms : List M) (gs : List G) (L : List Int) (k : Nat) (m : Int) : Int := if (pre.any (fun p => (mendedL ms gs p).contains m) || (L.take k).contains m) = true then 1 else 0
theorem hk_zero (pre : List (List Wk)) (ms : List M) (gs : List G) (L : List Int) (m : Int) : hk pre ms gs L 0 m = hv ms gs pre m := by simp [hk, hv]
theorem hk_full (pre : List (List Wk)) (ms : List M) (gs : List G) (x : List Wk) (m : Int) : hk pre ms gs (mendedL ms gs x) (mendedL ms gs x).length m = hv ms gs (pre ++ [x]) m := by
  simp [hk, hv, List.any_append]
theorem hk_succ (pre : List (List Wk)) (ms : List M) (gs : List G) (L : List Int) (k : Nat) (hk' : k < L.length) (m : Int) : hk pre ms gs L (k + 1) m = if rd L (k : Int) = m then 1 else hk pre ms gs L k m := by
  have hr : rd L (k : Int) = L[k] := by simp [rd, List.getD_eq_getElem?_getD, List.getElem?_eq_getElem hk']
  have e : (L.take (k + 1)).contains m = ((L.take k).contains m || (m == L[k])) := by
    rw [List.take_succ_eq_append_getElem hk']
    rw [Bool.eq_iff_iff]
    simp only [Bool.or_eq_true, List.contains_iff_mem, beq_iff_eq, List.mem_append, List.mem_singleton]
  unfold hk
  rw [e, hr]
  by_cases h : L[k] = m
  · simp [h]
  · have h2 : (m == L[k]) = false := beq_eq_false_iff_ne.2 (fun q => h q.symm)
    rw [if_neg h, h2, Bool.or_false]
theorem mended_mem {ms : List M} {gs : List G} {p : List Wk} {k : Nat} (h : k < (mendedL ms gs p).length) : 0 ≤ rd (mendedL ms gs p) (k : Int) ∧ rd (mendedL ms gs p) (k : Int) < ms.length := by
  have hr : rd (mendedL ms gs p) (k : Int) = (mendedL ms gs p)[k] := by simp [rd, List.getD_eq_getElem?_getD, List.getElem?_eq_getElem h]
  rw [hr]
  have hm := List.getElem_mem h
  unfold mendedL at hm
  have := (List.mem_filter.1 hm).1
  simp only [upTo, List.mem_map, List.mem_range] at this
  obtain ⟨j, hj, e⟩ := this
  have e2 : (mendedL ms gs p)[k] = Int.ofNat j := e.symm
  have hj2 : j < ms.length := by simpa using hj
  rw [e2]
  constructor
  · exact Int.natCast_nonneg j
  · exact Int.ofNat_lt.2 hj2
set_option maxRecDepth 100000 in
set_option maxHeartbeats 4000000 in
theorem gang_First.calls (A0_0 : Option Addr) (c0_0 : Nat) (l0_0 : List (M)) (A0_1 : Option Addr) (c0_1 : Nat) (l0_1 : List (G)) (a0_2 : Int) (r1 : Int) (r2 : Int) (w : World) (hr0_0 : Kd.C k66 w A0_0 l0_0.length l0_0) (hc0_0 : l0_0.length ≤ c0_0) (hr0_1 : Kd.C k63 w A0_1 l0_1.length l0_1) (hc0_1 : l0_1.length ≤ c0_1) (hG : GV w) (h : gang_First.f l0_0 l0_1 a0_2 = some (r1, r2)) :
    Calls Tryd.prog 36 #[.agg #[.slice A0_0 l0_0.length c0_0, .slice A0_1 l0_1.length c0_1, .int .i64 a0_2]] w fun e w' => e = .returned (.tuple #[.int .i64 r1, .int .i64 r2]) ∧ Below w.heap.size w w' := by
  have HR0 := Aside0.mk hr0_0
  have HR1 := Aside0.mk hr0_1
  have HG0 := Aside0.mk hG
  have H := Aside0.mk h
  have hB := ((Below.refl w.heap.size w).alloc (Nat.le_refl _) (.cells #[.slice A0_0 l0_0.length c0_0, .slice A0_1 l0_1.length c0_1, .int .i64 a0_2] 25))
  have HB := Aside0.mk hB
  have hx := World.alloc_heap_new w (.cells #[.slice A0_0 l0_0.length c0_0, .slice A0_1 l0_1.length c0_1, .int .i64 a0_2] 25)
  have HX := Aside0.mk hx
  clear hr0_0 hr0_1 hG hB h hx
  refine calls_marks Tryd.func36 rfl ?_
  simp only [Tryd.ntmps36, List.size_toArray, List.length_cons, List.length_nil, Nat.reduceAdd, Nat.reduceSub, Array.replicate_succ, Array.replicate_zero, List.push_toArray, List.append_toArray, List.nil_append, List.cons_append]
  go_wp2_with (fail)
  refine (asked_any l0_0 l0_1 A0_0 c0_0 A0_1 c0_1 a0_2 none 0 [] _ (Kd.C_below HR0.out HB.out) hc0_0 (Kd.C_below HR1.out HB.out) hc0_1 ⟨rfl, by simp, fun h => by simp at h⟩ (Nat.le_refl _) (gv_below HG0.out HB.out)).mono ?_
  rintro e w1 ⟨B0, n0, d0, B1, n1, d1, m, bm, E, rfl, hE, hs, hb⟩
  have HB1 := Aside0.mk (below_then HB.out HB.out.size hb)
  have HX1 := Aside0.mk ((hb.block w.heap.size (by simp)).trans HX.out)
  clear hb
  by_cases hE0 : E = 0
  · obtain ⟨b, ⟨rfl, rfl, rfl⟩, ⟨rfl, rfl, rfl⟩, rfl, rfl, hm, hl⟩ := hs hE0
    subst hE0
    have HE := Aside0.mk hE
    have HM := Aside0.mk hm
    have HH : Aside0 ((match (upTo l0_0.length).find? (fun i => !hadAny l0_0 l0_1 a0_2 i) with | some i => some (i, (0 : Int)) | none => some (0, 4)) = some (r1, r2)) := ⟨by rw [← H.out]; unfold gang_First.f; rw [if_pos (askedE_ok hE.symm).1]; rfl⟩
    have hx2 := (blk_cell HX1.out 2).trans rfl
    have hxl := (Array.getElem?_eq_some_iff.1 HX1.out).1
    have hbd := okB_bounds (askedE_ok hE.symm).1
    have hg2 := hbd.2.1.2
    have hg1 := hbd.2.1.1
    have hm4 := hbd.1.2
    have hn4 : a0_2 ≤ 4 := by omega
    have hn0 : 0 ≤ a0_2 := by omega
    have HBV := Aside0.mk ((HB1.out.alloc HB1.out.size (.cells #[.slice A0_0 l0_0.length c0_0, .slice A0_1 l0_1.length c0_1, .int .i64 a0_2, .map (some b)] 86)).alloc (by simp; have := HB1.out.size; omega) (.cells #[.int .i64 0, .int .i64 0, .int .i64 0, .int .i64 0] 97))
    have HV1 := Aside0.mk (blk_alloc (World.alloc_heap_new w1 (.cells #[.slice A0_0 l0_0.length c0_0, .slice A0_1 l0_1.length c0_1, .int .i64 a0_2, .map (some b)] 86)) (.cells #[.int .i64 0, .int .i64 0, .int .i64 0, .int .i64 0] 97))
    have HV2 := Aside0.mk (World.alloc_heap_new (w1.alloc (.cells #[.slice A0_0 l0_0.length c0_0, .slice A0_1 l0_1.length c0_1, .int .i64 a0_2, .map (some b)] 86)) (.cells #[.int .i64 0, .int .i64 0, .int .i64 0, .int .i64 0] 97))
    have HV3 := Aside0.mk (blk_alloc (blk_alloc HX1.out (.cells #[.slice A0_0 l0_0.length c0_0, .slice A0_1 l0_1.length c0_1, .int .i64 a0_2, .map (some b)] 86)) (.cells #[.int .i64 0, .int .i64 0, .int .i64 0, .int .i64 0] 97))
    have HV4 := Aside0.mk ((HM.out.below ((Below.refl _ w1).alloc (Nat.le_refl _) (.cells #[.slice A0_0 l0_0.length c0_0, .slice A0_1 l0_1.length c0_1, .int .i64 a0_2, .map (some b)] 86))).below ((Below.refl _ _).alloc (Nat.le_refl _) (.cells #[.int .i64 0, .int .i64 0, .int .i64 0, .int .i64 0] 97)))
    have hVs : ((w1.alloc (.cells #[.slice A0_0 l0_0.length c0_0, .slice A0_1 l0_1.length c0_1, .int .i64 a0_2, .map (some b)] 86)).alloc (.cells #[.int .i64 0, .int .i64 0, .int .i64 0, .int .i64 0] 97)).heap.size = w1.heap.size + 2 := by simp
    have HVS := Aside0.mk hVs
    have hbl1 := HM.out.lt
    have HBL := Aside0.mk (show b < w1.heap.size from hbl1)
    clear hm hs hE hl H hbd hVs hbl1
    go_wp2_with (fail)
    refine (plans_calls A0_0 l0_0.length c0_0 A0_1 l0_1.length c0_1 a0_2 b a0_2 _).mono ?_
    generalize (w1.alloc (.cells #[.slice A0_0 l0_0.length c0_0, .slice A0_1 l0_1.length c0_1, .int .i64 a0_2, .map (some b)] 86)).alloc (.cells #[.int .i64 0, .int .i64 0, .int .i64 0, .int .i64 0] 97) = V at HBV HV1 HV2 HV3 HV4 HVS ⊢
    rintro e wl ⟨rfl, hwl⟩
    have hbl : Below V.heap.size V wl := by rw [hwl]; exact ((Below.refl _ V).alloc (Nat.le_refl _) _).alloc (by simp) _
    have hsl : wl.heap.size = V.heap.size + 2 := by rw [hwl]; simp
    have HBl := Aside0.mk (HBV.out.trans (hbl.mono HBV.out.size))
    have HI := Aside0.mk (FirstI.mk (w := w) (W := wl) (ms := l0_0) (gs := l0_1) (n := a0_2) (b := b) (g := w1.heap.size) (gx := w.heap.size) (gh := w1.heap.size + 1) (A0 := A0_0) (c0 := c0_0) (A1 := A0_1) (c1 := c0_1) (pre := [])
      ⟨(hbl.block _ (Array.getElem?_eq_some_iff.1 HV1.out).1).trans HV1.out, HBl.out⟩ ((hbl.block _ (Array.getElem?_eq_some_iff.1 HV3.out).1).trans HV3.out)
      (show DoneIs wl (w1.heap.size + 1) 0 0 0 0 from by have q := HV2.out; rw [World.size_alloc] at q; exact (hbl.block _ (Array.getElem?_eq_some_iff.1 q).1).trans q))
    have HSr := Aside0.mk (Src.mk (w := w) (W := wl) (ms := l0_0) (gs := l0_1) (n := a0_2) (b := b) (g := V.heap.size) (gm := V.heap.size + 1) (many := a0_2) (A0 := A0_0) (c0 := c0_0) (A1 := A0_1) (c1 := c0_1)
      ⟨by rw [hwl]; exact blk_alloc (World.alloc_heap_new V _) _, HBl.out⟩ (HV4.out.below hbl) (by rw [hwl]; have q := World.alloc_heap_new (V.alloc (.cells #[.slice A0_0 l0_0.length c0_0, .slice A0_1 l0_1.length c0_1, .int .i64 a0_2, .map (some b)] 86)) (.cells #[.int .i64 a0_2] 3); rwa [World.size_alloc] at q))
    have HSL := Aside0.mk hsl
    clear hbl hwl hsl hx2 hxl
    go_wp2_with (fail)
    refine wpIn_range_all (P := Tryd.prog) (w := wl) (n := 0) rfl (enters_ Tryd.func100 (by kernel_rfl) rfl) w.heap.size HBl.out.size (fun k => k = w1.heap.size + 1) (fun k hk => by have hw1 := HB1.out.size; have hVS := HVS.out; have hSL := HSL.out; omega) (plansL l0_0 l0_1 a0_2 a0_2) (fun x v W => Pr8 l0_0 l0_1 a0_2 (wl.heap.size + 2) x v W) w HBl.out ?hit ?hPr
      (fun pre W => FirstI w W l0_0 l0_1 a0_2 b w1.heap.size w.heap.size (w1.heap.size + 1) A0_0 c0_0 A0_1 c0_1 pre) ?hI1 ?hI2 HI.out ?a1 ?assign ?body ?done
    case hit =>
      have hw1 := HB1.out.size
      have hVS := HVS.out
      have hSL := HSL.out
      intro l J W hl hW hb hJ hY h0
      exact plans1_calls wl (fun k => k = w1.heap.size + 1) (fun k hk => by omega) (by omega) (by have := HBL.out; omega) (by omega) HSr.out hg1 hg2 hn0 hn4 hn0 hm4 HR1.out HG0.out l J W hl hW hb hJ hY h0
    case hPr =>
      have hSL := HSL.out
      rintro x v W o ⟨A, c, rfl, h1, h2, h3, h4⟩ _
      exact ⟨A, c, rfl, h1, h2, Kd.F_grown h3 (grownBy_putObj' W _ o) (fun k hk e => by injection e with e; omega), h4⟩
    case hI1 =>
      rintro pre X Y ⟨h1, h2, h3⟩ hb
      exact ⟨h1.step hb, (hb.block _ (Array.getElem?_eq_some_iff.1 h2).1).trans h2, h3.below hb⟩
    case hI2 =>
      have hw1 := HB1.out.size
      have hVS := HVS.out
      have hSL := HSL.out
      have hxl := (Array.getElem?_eq_some_iff.1 HX1.out).1
      rintro pre X o ⟨h1, h2, h3⟩ _
      refine ⟨⟨(World.putObj_heap_other (by omega)).trans h1.box, h1.bel.trans (below_putObj X _ _ o (by omega))⟩, (World.putObj_heap_other (by omega)).trans h2, (World.putObj_heap_other (by omega)).trans h3⟩
    case assign =>
      intro x v W K hK
      gi_wp2
      exact hK
    case body =>
      rintro pre x v W hWs hI ⟨A, c, rfl, hlc, _, hF, hfair⟩
      have hgW : w1.heap.size + 1 < W.heap.size := by have hVS := HVS.out; have hSL := HSL.out; omega
      clear hWs
      have q0 := (blk_cell hI.box.box 0).trans rfl
      have q1 := (blk_cell hI.box.box 1).trans rfl
      have q2 := (blk_cell hI.box.box 2).trans rfl
      have q3 := (blk_cell hI.box.box 3).trans rfl
      have HII := Aside0.mk hI
      have HF := Aside0.mk hF
      have HFA := Aside0.mk hfair
      clear hI hF hfair
      gi_wp2
      refine (CallsIn.inRound (wl.heap.size + 1) (callsIn_wide.2 (mended_calls l0_0 l0_1 A0_0 c0_0 A0_1 c0_1 a0_2 b A c x W (Kd.C_below HR0.out HII.out.box.bel) (Kd.C_below HR1.out HII.out.box.bel) (Kd.F_now HF.out) (gv_below HG0.out HII.out.box.bel) (askedE_ok HE.out.symm).1 HFA.out))).mono ?_
      rintro e W2 ⟨v2, rfl, hR, hb⟩
      obtain ⟨A2, c2, rfl⟩ := Kd.R_slice hR
      have hlen := mended_len l0_0 l0_1 x
      have HB2 := Aside0.mk (HII.out.box.step hb)
      have HX2 := Aside0.mk ((hb.block _ (Array.getElem?_eq_some_iff.1 HII.out.x).1).trans HII.out.x)
      have HD2 := Aside0.mk (HII.out.had.below hb)
      have HK2 := Aside0.mk ((Keeps.refl w.heap.size (fun k => k = w1.heap.size + 1) W).step hb HII.out.box.bel.size)
      have HL2 := Aside0.mk (Kd.R_F (Kd.R_bound hR))
      have HG2 := Aside0.mk hgW
      clear hR hb q0 q1 q2 q3 hgW
      gi_wp2
      gi_loopw [28] (fun v28 wr => ∃ k : Nat, k ≤ (mendedL l0_0 l0_1 x).length ∧ v28 = .int .i64 k ∧
        Aside0 (DoneIs wr (w1.heap.size + 1) (hk pre l0_0 l0_1 (mendedL l0_0 l0_1 x) k 0) (hk pre l0_0 l0_1 (mendedL l0_0 l0_1 x) k 1) (hk pre l0_0 l0_1 (mendedL l0_0 l0_1 x) k 2) (hk pre l0_0 l0_1 (mendedL l0_0 l0_1 x) k 3)) ∧
        Aside0 (Keeps w.heap.size (fun k => k = w1.heap.size + 1) W2 wr)) (fun v28 _ => (mendedL l0_0 l0_1 x).length - (intOf v28).toNat)
      case atStart => exact ⟨0, Nat.zero_le _, rfl, ⟨by simpa only [hk_zero] using HD2.out⟩, ⟨Keeps.refl _ _ _⟩⟩
      case round =>
        obtain ⟨k, hk', rfl, HDr, HKr⟩ := hrel
        by_cases hlt : k < (mendedL l0_0 l0_1 x).length
        · have HCr := Aside0.mk (Kd.F_now (Kd.F_kept HL2.out HKr.out.kept (fun q hq e => by have h1 := hq.2.1; have h2 := HG2.out; omega)))
          obtain ⟨ad, hA, hx0⟩ := Kd.at_int HCr.out (k : Int) (by omega) (by omega)
          rw [Int.toNat_natCast] at hx0
          subst hA
          have hm := mended_mem hlt
          have hm0 := hm.1
          have hm4' : rd (mendedL l0_0 l0_1 x) (k : Int) < 4 := by omega
          have hd := HDr.out.cell _ hm0 hm4'
          have hd1 := hd.1
          have hd2 := hd.2
          clear hm hd
          gi_wp2
          go_roundw
          case rel =>
            refine ⟨k + 1, by omega, by go_num, ⟨?_⟩, ⟨keeps_setCell1 HKr.out (p := ⟨w1.heap.size + 1, _, none⟩) rfl (by have := HB1.out.size; show w.heap.size ≤ w1.heap.size + 1; omega) _⟩⟩
            rw [hk_succ _ _ _ _ k hlt, hk_succ _ _ _ _ k hlt, hk_succ _ _ _ _ k hlt, hk_succ _ _ _ _ k hlt]
            exact HDr.out.set _ 1 hm0 hm4'
          case measure => simp [intOf]; omega
        · obtain rfl : k = (mendedL l0_0 l0_1 x).length := by omega
          have hD := HDr.out
          rw [hk_full, hk_full, hk_full, hk_full] at hD
          have HDF := Aside0.mk hD
          have HKF := Aside0.mk (HK2.out.trans HKr.out)
          clear hD
          gi_wp2
          refine ⟨⟨⟨blk_kept HII.out.box.box HKF.out.kept (by omega), HII.out.box.bel.trans HKF.out.bel⟩, blk_kept HII.out.x HKF.out.kept ?_, HDF.out⟩, HKF.out⟩
          have hxl := (Array.getElem?_eq_some_iff.1 HX1.out).1
          omega
    case done =>
      intro W hD hI hK hdef
      have HII := Aside0.mk hI
      have hx0 := (blk_cell HII.out.x 0).trans rfl
      have HDF := Aside0.mk hdef
      have HBD := Aside0.mk hI.box.bel
      clear hI hK hdef hD
      go_wp2_with (fail)
      clear hx0
      go_loopw [38] (fun v38 wr => ∃ k : Nat, k ≤ l0_0.length ∧ v38 = .int .i64 k ∧ Aside0 (∀ i : Nat, i < k → (!hadAny l0_0 l0_1 a0_2 i) = false) ∧ Aside0 (W = wr)) (fun v38 _ => l0_0.length - (intOf v38).toNat)
      case atStart => exact ⟨0, Nat.zero_le _, rfl, ⟨fun i h => absurd h (Nat.not_lt_zero _)⟩, ⟨rfl⟩⟩
      case round =>
        obtain ⟨k, hk', rfl, HA, ⟨rfl⟩⟩ := hrel
        by_cases hlt : k < l0_0.length
        · have hd := (HII.out.had.cell (k : Int) (by omega) (by omega)).1
          rw [Int.toNat_natCast, pick_hv _ _ _ _ (by omega) (by omega)] at hd
          have hk4 : (k : Int) < 4 := by omega
          cases hc : hadAny l0_0 l0_1 a0_2 k with
          | false =>
            rw [show hv l0_0 l0_1 (plansL l0_0 l0_1 a0_2 a0_2) k = 0 by unfold hadAny at hc; unfold hv; rw [hc]; rfl] at hd
            have HF := Aside0.mk (find_some (fun i => !hadAny l0_0 l0_1 a0_2 i) l0_0.length k hlt HA.out (by simp only [hc]; rfl))
            have hq : some ((k : Int), (0 : Int)) = some (r1, r2) := by rw [← HH.out, HF.out]
            obtain ⟨rfl, rfl⟩ : (k : Int) = r1 ∧ 0 = r2 := by simpa using hq
            clear hc hq
            go_wp2
            exact postM_ret [wl.heap.size] rfl (by simp) (fun _ h => by simp at h; rw [h]; exact HDF.out) (results_tmp2 rfl _ _ _) ⟨rfl, HBD.out.trans (takeAll_below w.heap.size _ _ (fun D h => by simp at h; rw [h]; exact HBl.out.size))⟩
          | true =>
            rw [show hv l0_0 l0_1 (plansL l0_0 l0_1 a0_2 a0_2) k = 1 by unfold hadAny at hc; unfold hv; rw [hc]; rfl] at hd
            have HC := Aside0.mk hc
            clear hc
            go_wp2
            go_roundw
            case rel => exact ⟨k + 1, by omega, by go_num, ⟨fun i hi => by
              by_cases q : i = k
              · rw [q, HC.out]; rfl
              · exact HA.out i (by omega)⟩, ⟨by first | trivial | rfl⟩⟩
            case measure => simp [intOf]; omega
        · obtain rfl : k = l0_0.length := by omega
          have HF := Aside0.mk (find_none (fun i => !hadAny l0_0 l0_1 a0_2 i) l0_0.length HA.out)
          have hq : some ((0 : Int), (4 : Int)) = some (r1, r2) := by rw [← HH.out, HF.out]
          obtain ⟨rfl, rfl⟩ : (0 : Int) = r1 ∧ 4 = r2 := by simpa using hq
          clear hq
          go_wp2
          exact postM_ret [wl.heap.size] rfl (by simp) (fun _ h => by simp at h; rw [h]; exact HDF.out) (results_tmp2 rfl _ _ _) ⟨rfl, HBD.out.trans (takeAll_below w.heap.size _ _ (fun D h => by simp at h; rw [h]; exact HBl.out.size))⟩
  · have HE := Aside0.mk hE
    have hE1 : (E == 0) = false := beq_eq_false_iff_ne.2 hE0
    have hE2 : (E != 0) = true := bne_iff_ne.2 hE0
    have h41 : some ((0 : Int), E) = some (r1, r2) := by
      rw [← H.out]
      unfold gang_First.f
      unfold askedE at hE
      split at hE
      · rename_i q
        exact absurd (by rw [hE]; rfl) hE0
      · rename_i q
        rw [if_neg q, hE]
    obtain ⟨rfl, rfl⟩ : 0 = r1 ∧ E = r2 := by simpa using h41
    clear hE hs hE0 h41
    go_wp2
    exact postM_ret [] rfl List.nodup_nil (fun _ h => by simp at h) (results_tmp2 rfl _ _ _) ⟨rfl, HB1.out.alloc HB1.out.size _⟩
end Go.Proofs.YtikfghnkbgdbgaaDoor.Q
end
section
namespace Go.Proofs.YtikfghnkbgdbgaaDoor.Q
set_option linter.unusedSimpArgs false
set_option linter.unusedVariables false
open Go.RowKit Go.Proofs.YtikfghnkbgdbgaaDoorW.PrintWords Go.Proofs.YtikfghnkbgdbgaaDoorW.PrintLast Go.Proofs.YtikfghnkbgdbgaaDoorW.PrintMore
def ownM : List M := [⟨⟨2, 3⟩, 0⟩, ⟨⟨1, 2⟩, 1⟩, ⟨⟨2, 2⟩, 2⟩]
def ownG (tt : Int) : List G := [⟨0, 1, ⟨1, 2⟩⟩, ⟨1, tt, ⟨2, 2⟩⟩]
def bothP : List Wk := [⟨0, 0, 0⟩, ⟨0, 1, 2⟩]
def twoP : List Wk := [⟨0, 0, 0⟩, ⟨1, 0, 0⟩]
def planP : List Wk := [⟨0, 0, 0⟩, ⟨0, 1, 2⟩, ⟨1, 0, 0⟩, ⟨2, 0, 0⟩, ⟨3, 1, 1⟩]
def canL : List Int := [0, 2, 3]
def cloL : List Int := [0, 2]
def menL : List Int := [2]
def mosL : List Int := [0, 2]
def nonL : List Wk := []
set_option maxRecDepth 100000
theorem own_eq : macadamlaw04_own.f = some (ownM, ownG 2, 4) := by kernel_rfl
theorem short_eq : macadamlaw04_short.f = some (ownM, ownG 2, 3) := by kernel_rfl
theorem far_eq : macadamlaw04_far.f = some (ownM, ownG 1, 4) := by kernel_rfl
theorem sh_can : gang_Can.f ownM (ownG 2) 4 1 2 = some (canL, 0) := by kernel_rfl
theorem sh_may : gang_May.f ownM (ownG 2) 4 bothP = some (true, 0) := by kernel_rfl
theorem sh_closed : gang_Closed.f ownM (ownG 2) 4 bothP 0 = some (cloL, 0) := by kernel_rfl
theorem sh_done : gang_Done.f ownM (ownG 2) 4 twoP 0 = some (2, 4, 0) := by kernel_rfl
theorem sh_mended : gang_Mended.f ownM (ownG 2) 4 bothP = some (menL, 0) := by kernel_rfl
theorem sh_open : gang_Open.f ownM (ownG 2) 4 bothP = some (0, 0) := by kernel_rfl
theorem sh_plan : gang_Plan.f ownM (ownG 2) 4 = some (planP, 0) := by kernel_rfl
theorem sh_most : gang_Most.f ownM (ownG 2) 3 = some (mosL, 0) := by kernel_rfl
theorem sh_first : gang_First.f ownM (ownG 1) 4 = some (2, 0) := by kernel_rfl
theorem sh_noplan : gang_Plan.f ownM (ownG 2) 3 = some (nonL, 4) := by kernel_rfl
theorem lit2 (a b : Wk) (w : World) (base : Nat) (ok : Nat → Prop) : Reps (Kd.M k59 w base ok) 3 [a, b] [.int .i64 a.f0, .int .i64 a.f1, .int .i64 a.f2, .int .i64 b.f0, .int .i64 b.f1, .int .i64 b.f2] :=
  Reps.c3 (show Kd.M k59 _ _ _ a [.int .i64 a.f0, .int .i64 a.f1, .int .i64 a.f2] from (k59_mkM _ _ _ a)) (Reps.c3 (show Kd.M k59 _ _ _ b [.int .i64 b.f0, .int .i64 b.f1, .int .i64 b.f2] from (k59_mkM _ _ _ b)) (Reps.none _ _))
theorem list_of_step {P : Program} {ops : Array Oper} {o : Oper} {a : Act} {Q : Exit → Act → World → Prop} {rest : List Oper} {W : World} (h : if Region.wanted o (yielded ops a.tmps) = true then Oper.wp P o a W (wpList P ops Q rest) Q else wpList P ops Q rest (a.put o.dst undef) W) : wpList P ops Q (o :: rest) a W := by
  simp only [wpList]
  by_cases hw : Region.wanted o (yielded ops a.tmps) = true
  · rw [if_pos hw] at h ⊢; exact Or.inl h
  · rw [if_neg hw] at h ⊢; exact h
theorem lit5 (a b c d e : Wk) (w : World) (base : Nat) (ok : Nat → Prop) : Reps (Kd.M k59 w base ok) 3 [a, b, c, d, e] [.int .i64 a.f0, .int .i64 a.f1, .int .i64 a.f2, .int .i64 b.f0, .int .i64 b.f1, .int .i64 b.f2, .int .i64 c.f0, .int .i64 c.f1, .int .i64 c.f2, .int .i64 d.f0, .int .i64 d.f1, .int .i64 d.f2, .int .i64 e.f0, .int .i64 e.f1, .int .i64 e.f2] :=
  Reps.c3 (show Kd.M k59 _ _ _ a [.int .i64 a.f0, .int .i64 a.f1, .int .i64 a.f2] from (k59_mkM _ _ _ a)) (Reps.c3 (show Kd.M k59 _ _ _ b [.int .i64 b.f0, .int .i64 b.f1, .int .i64 b.f2] from (k59_mkM _ _ _ b)) (Reps.c3 (show Kd.M k59 _ _ _ c [.int .i64 c.f0, .int .i64 c.f1, .int .i64 c.f2] from (k59_mkM _ _ _ c)) (Reps.c3 (show Kd.M k59 _ _ _ d [.int .i64 d.f0, .int .i64 d.f1, .int .i64 d.f2] from (k59_mkM _ _ _ d)) (Reps.c3 (show Kd.M k59 _ _ _ e [.int .i64 e.f0, .int .i64 e.f1, .int .i64 e.f2] from (k59_mkM _ _ _ e)) (Reps.none _ _)))))
theorem eqSpan (d : Nat) (w : World) (x0 y0 x1 y1 : Int) :
    (Op.equalIn (d + 2) 40 (.agg #[.int .i64 x0, .int .i64 x1]) (.agg #[.int .i64 y0, .int .i64 y1])).run Tryd.prog w = .ok (x0 == y0 && (x1 == y1)) w := by
  refine eqA_of Tryd.underlying40 (by kernel_rfl) ?_
  refine eqf_cons (by rfl) (by go_simp; rfl) (by go_simp; rfl) (by go_simp) ?_
  exact eqf_last (by rfl) (by go_simp; rfl) (by go_simp; rfl) (by go_simp)
theorem equal_span (w : World) : (Op.equalIn 10000 40 (.agg #[.int .i64 2, .int .i64 4]) (.agg #[.int .i64 2, .int .i64 4])).run Tryd.prog w = .ok true w := eqSpan 9998 w 2 2 4 4
def X_shov.T6 : Bool × List (List Nat × List Nat) := (true, [([], []), ([0], [0]), ([1], [1]), ([2], [2]), ([3, 2], [2, 3]), ([2, 4], [2, 4]), ([5, 2], [5]), ([6], [6]), ([7, 6], [6, 7]), ([6, 8], [6, 8]), ([9, 6], [9]), ([10], [10]), ([11, 10], [10, 11]), ([10, 12], [10, 12]), ([13, 10], [13]), ([14], [14]), ([15, 14], [14, 15]), ([14, 16], [14, 16]), ([17, 14], [17]), ([18], [18]), ([18], [18]), ([19, 20, 18, 18], [18, 19, 20]), ([21, 18], [18, 21]), ([18, 22], [18, 22]), ([23, 21], [23]), ([24], [24]), ([25, 24], [24, 25]), ([24, 26], [24, 26]), ([27, 24], [27]), ([28], [28]), ([28], [28]), ([29, 30, 28, 28], [28, 29, 30]), ([31, 28], [28, 31]), ([28, 32], [28, 32]), ([33, 31], [33]), ([34], [34]), ([34, 34], [34]), ([35, 36, 34], [34, 35, 36]), ([34, 37], [34, 37]), ([38, 36], [38]), ([39], [39]), ([39], [39]), ([40, 41, 39, 39], [39, 40, 41]), ([42, 39], [39, 42]), ([39, 43], [39, 43])])
def X_shov.B6 : List Nat := [0, 1, 3, 7, 15, 31, 63, 127, 255, 511, 1023, 2047, 4095, 8191, 16383, 32767, 65535, 131071, 262143, 524287, 524287, 2097151, 4194303, 8388607, 16777215, 33554431, 67108863, 134217727, 268435455, 536870911, 536870911, 2147483647, 4294967295, 8589934591, 17179869183, 34359738367, 34359738367, 137438953471, 274877906943, 549755813887, 1099511627775, 1099511627775, 4398046511103, 8796093022207, 17592186044415]
theorem X_shov.tab6 : rtab .any (opsOf Tryd.f24 6) = X_shov.T6 := by kernel_rfl
theorem X_shov.bits6 : waitsOk X_shov.T6.2 X_shov.B6 = true := by kernel_rfl
theorem macadamlaw04_both.calls (r : List Wk) (w : World) (h : bothP = r) :
    Calls Tryd.prog 74 #[] w fun e w' => ∃ v0_ : Value, e = .returned (v0_) ∧ Kd.R k59 59 w' w.heap.size (fun _ => True) v0_ r ∧ Below w.heap.size w w' := by
  subst h
  have HB0 := Aside0.mk (Below.refl w.heap.size w)
  go_enter Tryd.func74, Tryd.ntmps74
  go_wp2_with (fail)
  refine (macadamlaw04_work.calls 0 0 0 0 0 0 _ (by kernel_rfl)).mono ?_
  rintro e w1 ⟨rfl, hb⟩
  have HB1 := Aside0.mk (below_then HB0.out HB0.out.size hb)
  clear hb HB0
  go_wp2_with (fail)
  refine (macadamlaw04_work.calls 0 1 2 0 1 2 _ (by kernel_rfl)).mono ?_
  rintro e w2 ⟨rfl, hb⟩
  have HB2 := Aside0.mk (below_then HB1.out HB1.out.size hb)
  clear hb HB1
  go_wp2_with ((with_reducible refine gate_dst (N := 3) rfl ?_); refine Kd.R_lit k59 _ 59 ?hg (N := 3) ?hd (xs := bothP) (inner := [.int .i64 0, .int .i64 0, .int .i64 0, .int .i64 0, .int .i64 1, .int .i64 2]) (ok := fun _ => True) (okp := fun _ => True) ?hr ?hp (fun _ hk => hk) trivial (Below.refl _ _) (Nat.le_refl _) (by simp [bothP]) ?_; (case hd => rfl); (case hg => rfl); (case hr => first | (go_simp; done) | (go_simp; rfl)); (case hp => exact lit2 _ _ _ _ _); intro v3 w3 ho hb hg_ hnew_; clear hg_ hnew_; have HO := Aside0.mk (Kd.R_lower ho HB2.out.size); have HB3 := Aside0.mk (below_then HB2.out HB2.out.size hb); clear hb ho HB2)
  go_ret
  exact ⟨_, by rfl, HO.out, HB3.out⟩
set_option maxHeartbeats 8000000 in
theorem macadamlaw04_shovelled.calls0 (w : World) (hG : GV w) :
    Calls Tryd.prog 24 #[] w fun e w' => e = .returned (.bool true) ∧ Below w.heap.size w w' := by
  have HG0 := Aside0.mk hG
  have HB0 := Aside0.mk (Below.refl w.heap.size w)
  clear hG
  go_enter Tryd.func24, Tryd.ntmps24
  go_wp2_with (fail)
  refine (macadamlaw04_own.calls ownM (ownG 2) 4 _ own_eq).mono ?_
  rintro e w1 ⟨va, vb, rfl, ha, hbb, hb⟩
  have HB1 := Aside0.mk (below_then HB0.out HB0.out.size hb)
  clear hb HB0
  obtain ⟨Aa, ca, rfl⟩ := Kd.R_slice ha
  have CA := Aside0.mk (Kd.R_reads' ha)
  clear ha
  obtain ⟨Ab, cb, rfl⟩ := Kd.R_slice hbb
  have CB := Aside0.mk (Kd.R_reads' hbb)
  clear hbb
  go_wp2_with (fail)
  refine (gang_Can.calls _ _ _ _ _ _ _ _ _ canL 0 _ CA.out.2.2 CA.out.2.1 CB.out.2.2 CB.out.2.1 (gv_below HG0.out HB1.out) sh_can).mono ?_
  rintro e w2 ⟨v1, rfl, hv, hb⟩
  have HB2 := Aside0.mk (below_then HB1.out HB1.out.size hb)
  replace CA := Aside0.mk (⟨CA.out.1, CA.out.2.1, Kd.C_below CA.out.2.2 hb⟩ : _ ∧ _ ∧ Kd.C _ _ _ _ _)
  replace CB := Aside0.mk (⟨CB.out.1, CB.out.2.1, Kd.C_below CB.out.2.2 hb⟩ : _ ∧ _ ∧ Kd.C _ _ _ _ _)
  clear hb HB1
  obtain ⟨A1, c1, rfl⟩ := Kd.V_slice hv
  have C1 := Aside0.mk (Kd.V_reads' hv)
  clear hv
  clear CA
  clear CB
  go_wp2_with (fail)
  refine (macadamlaw04_own.calls ownM (ownG 2) 4 _ own_eq).mono ?_
  rintro e w3 ⟨va, vb, rfl, ha, hbb, hb⟩
  have HB3 := Aside0.mk (below_then HB2.out HB2.out.size hb)
  replace C1 := Aside0.mk (⟨C1.out.1, C1.out.2.1, Kd.C_below C1.out.2.2 hb⟩ : _ ∧ _ ∧ Kd.C _ _ _ _ _)
  clear hb HB2
  obtain ⟨Aa, ca, rfl⟩ := Kd.R_slice ha
  have CA := Aside0.mk (Kd.R_reads' ha)
  clear ha
  obtain ⟨Ab, cb, rfl⟩ := Kd.R_slice hbb
  have CB := Aside0.mk (Kd.R_reads' hbb)
  clear hbb
  go_wp2_with (fail)
  refine (macadamlaw04_both.calls bothP _ (by kernel_rfl)).mono ?_
  rintro e w4 ⟨vp, rfl, hp, hb⟩
  have HB4 := Aside0.mk (below_then HB3.out HB3.out.size hb)
  replace C1 := Aside0.mk (⟨C1.out.1, C1.out.2.1, Kd.C_below C1.out.2.2 hb⟩ : _ ∧ _ ∧ Kd.C _ _ _ _ _)
  replace CA := Aside0.mk (⟨CA.out.1, CA.out.2.1, Kd.C_below CA.out.2.2 hb⟩ : _ ∧ _ ∧ Kd.C _ _ _ _ _)
  replace CB := Aside0.mk (⟨CB.out.1, CB.out.2.1, Kd.C_below CB.out.2.2 hb⟩ : _ ∧ _ ∧ Kd.C _ _ _ _ _)
  clear hb HB3
  obtain ⟨Ap, cp, rfl⟩ := Kd.R_slice hp
  have CP := Aside0.mk (Kd.R_reads' hp)
  clear hp
  go_wp2_with (fail)
  refine (gang_May.calls _ _ _ _ _ _ _ _ _ bothP true 0 _ CA.out.2.2 CA.out.2.1 CB.out.2.2 CB.out.2.1 CP.out.2.2 CP.out.2.1 (gv_below HG0.out HB4.out) sh_may).mono ?_
  rintro e w5 ⟨rfl, hb⟩
  have HB5 := Aside0.mk (below_then HB4.out HB4.out.size hb)
  replace C1 := Aside0.mk (⟨C1.out.1, C1.out.2.1, Kd.C_below C1.out.2.2 hb⟩ : _ ∧ _ ∧ Kd.C _ _ _ _ _)
  replace CA := Aside0.mk (⟨CA.out.1, CA.out.2.1, Kd.C_below CA.out.2.2 hb⟩ : _ ∧ _ ∧ Kd.C _ _ _ _ _)
  replace CB := Aside0.mk (⟨CB.out.1, CB.out.2.1, Kd.C_below CB.out.2.2 hb⟩ : _ ∧ _ ∧ Kd.C _ _ _ _ _)
  replace CP := Aside0.mk (⟨CP.out.1, CP.out.2.1, Kd.C_below CP.out.2.2 hb⟩ : _ ∧ _ ∧ Kd.C _ _ _ _ _)
  clear hb HB4
  clear CA
  clear CB
  clear CP
  go_wp2_with (fail)
  refine (macadamlaw04_own.calls ownM (ownG 2) 4 _ own_eq).mono ?_
  rintro e w6 ⟨va, vb, rfl, ha, hbb, hb⟩
  have HB6 := Aside0.mk (below_then HB5.out HB5.out.size hb)
  replace C1 := Aside0.mk (⟨C1.out.1, C1.out.2.1, Kd.C_below C1.out.2.2 hb⟩ : _ ∧ _ ∧ Kd.C _ _ _ _ _)
  clear hb HB5
  obtain ⟨Aa, ca, rfl⟩ := Kd.R_slice ha
  have CA := Aside0.mk (Kd.R_reads' ha)
  clear ha
  obtain ⟨Ab, cb, rfl⟩ := Kd.R_slice hbb
  have CB := Aside0.mk (Kd.R_reads' hbb)
  clear hbb
  go_wp2_with (fail)
  refine (macadamlaw04_both.calls bothP _ (by kernel_rfl)).mono ?_
  rintro e w7 ⟨vp, rfl, hp, hb⟩
  have HB7 := Aside0.mk (below_then HB6.out HB6.out.size hb)
  replace C1 := Aside0.mk (⟨C1.out.1, C1.out.2.1, Kd.C_below C1.out.2.2 hb⟩ : _ ∧ _ ∧ Kd.C _ _ _ _ _)
  replace CA := Aside0.mk (⟨CA.out.1, CA.out.2.1, Kd.C_below CA.out.2.2 hb⟩ : _ ∧ _ ∧ Kd.C _ _ _ _ _)
  replace CB := Aside0.mk (⟨CB.out.1, CB.out.2.1, Kd.C_below CB.out.2.2 hb⟩ : _ ∧ _ ∧ Kd.C _ _ _ _ _)
  clear hb HB6
  obtain ⟨Ap, cp, rfl⟩ := Kd.R_slice hp
  have CP := Aside0.mk (Kd.R_reads' hp)
  clear hp
  go_wp2_with (fail)
  refine (gang_Closed.calls _ _ _ _ _ _ _ _ _ bothP 0 cloL 0 _ CA.out.2.2 CA.out.2.1 CB.out.2.2 CB.out.2.1 CP.out.2.2 CP.out.2.1 (gv_below HG0.out HB7.out) sh_closed).mono ?_
  rintro e w8 ⟨v5, rfl, hv, hb⟩
  have HB8 := Aside0.mk (below_then HB7.out HB7.out.size hb)
  replace C1 := Aside0.mk (⟨C1.out.1, C1.out.2.1, Kd.C_below C1.out.2.2 hb⟩ : _ ∧ _ ∧ Kd.C _ _ _ _ _)
  replace CA := Aside0.mk (⟨CA.out.1, CA.out.2.1, Kd.C_below CA.out.2.2 hb⟩ : _ ∧ _ ∧ Kd.C _ _ _ _ _)
  replace CB := Aside0.mk (⟨CB.out.1, CB.out.2.1, Kd.C_below CB.out.2.2 hb⟩ : _ ∧ _ ∧ Kd.C _ _ _ _ _)
  replace CP := Aside0.mk (⟨CP.out.1, CP.out.2.1, Kd.C_below CP.out.2.2 hb⟩ : _ ∧ _ ∧ Kd.C _ _ _ _ _)
  clear hb HB7
  obtain ⟨A5, c5, rfl⟩ := Kd.V_slice hv
  have C5 := Aside0.mk (Kd.V_reads' hv)
  clear hv
  clear CA
  clear CB
  clear CP
  go_wp2_with (fail)
  refine (macadamlaw04_own.calls ownM (ownG 2) 4 _ own_eq).mono ?_
  rintro e w9 ⟨va, vb, rfl, ha, hbb, hb⟩
  have HB9 := Aside0.mk (below_then HB8.out HB8.out.size hb)
  replace C1 := Aside0.mk (⟨C1.out.1, C1.out.2.1, Kd.C_below C1.out.2.2 hb⟩ : _ ∧ _ ∧ Kd.C _ _ _ _ _)
  replace C5 := Aside0.mk (⟨C5.out.1, C5.out.2.1, Kd.C_below C5.out.2.2 hb⟩ : _ ∧ _ ∧ Kd.C _ _ _ _ _)
  clear hb HB8
  obtain ⟨Aa, ca, rfl⟩ := Kd.R_slice ha
  have CA := Aside0.mk (Kd.R_reads' ha)
  clear ha
  obtain ⟨Ab, cb, rfl⟩ := Kd.R_slice hbb
  have CB := Aside0.mk (Kd.R_reads' hbb)
  clear hbb
  go_wp2_with (fail)
  refine (macadamlaw04_work.calls 0 0 0 0 0 0 _ (by kernel_rfl)).mono ?_
  rintro e w10 ⟨rfl, hb⟩
  have HB10 := Aside0.mk (below_then HB9.out HB9.out.size hb)
  replace C1 := Aside0.mk (⟨C1.out.1, C1.out.2.1, Kd.C_below C1.out.2.2 hb⟩ : _ ∧ _ ∧ Kd.C _ _ _ _ _)
  replace C5 := Aside0.mk (⟨C5.out.1, C5.out.2.1, Kd.C_below C5.out.2.2 hb⟩ : _ ∧ _ ∧ Kd.C _ _ _ _ _)
  replace CA := Aside0.mk (⟨CA.out.1, CA.out.2.1, Kd.C_below CA.out.2.2 hb⟩ : _ ∧ _ ∧ Kd.C _ _ _ _ _)
  replace CB := Aside0.mk (⟨CB.out.1, CB.out.2.1, Kd.C_below CB.out.2.2 hb⟩ : _ ∧ _ ∧ Kd.C _ _ _ _ _)
  clear hb HB9
  go_wp2_with (fail)
  refine (macadamlaw04_work.calls 1 0 0 1 0 0 _ (by kernel_rfl)).mono ?_
  rintro e w11 ⟨rfl, hb⟩
  have HB11 := Aside0.mk (below_then HB10.out HB10.out.size hb)
  replace C1 := Aside0.mk (⟨C1.out.1, C1.out.2.1, Kd.C_below C1.out.2.2 hb⟩ : _ ∧ _ ∧ Kd.C _ _ _ _ _)
  replace C5 := Aside0.mk (⟨C5.out.1, C5.out.2.1, Kd.C_below C5.out.2.2 hb⟩ : _ ∧ _ ∧ Kd.C _ _ _ _ _)
  replace CA := Aside0.mk (⟨CA.out.1, CA.out.2.1, Kd.C_below CA.out.2.2 hb⟩ : _ ∧ _ ∧ Kd.C _ _ _ _ _)
  replace CB := Aside0.mk (⟨CB.out.1, CB.out.2.1, Kd.C_below CB.out.2.2 hb⟩ : _ ∧ _ ∧ Kd.C _ _ _ _ _)
  clear hb HB10
  go_wp2_with ((with_reducible refine gate_dst (N := 36) rfl ?_); refine Kd.R_lit k59 _ 59 ?hg (N := 36) ?hd (xs := twoP) (inner := [.int .i64 0, .int .i64 0, .int .i64 0, .int .i64 1, .int .i64 0, .int .i64 0]) (ok := fun _ => True) (okp := fun _ => True) ?hr ?hp (fun _ hk => hk) trivial (Below.refl _ _) (Nat.le_refl _) (by simp [twoP]) ?_; (case hd => rfl); (case hg => rfl); (case hr => first | (go_simp; done) | (go_simp; rfl)); (case hp => exact lit2 _ _ _ _ _); intro v3 w12 ho hb hg_ hnew_; clear hg_ hnew_; have HO := Aside0.mk ho; have HB12 := Aside0.mk (below_then HB11.out HB11.out.size hb); replace C1 := Aside0.mk (⟨C1.out.1, C1.out.2.1, Kd.C_below C1.out.2.2 hb⟩ : _ ∧ _ ∧ Kd.C _ _ _ _ _); replace C5 := Aside0.mk (⟨C5.out.1, C5.out.2.1, Kd.C_below C5.out.2.2 hb⟩ : _ ∧ _ ∧ Kd.C _ _ _ _ _); replace CA := Aside0.mk (⟨CA.out.1, CA.out.2.1, Kd.C_below CA.out.2.2 hb⟩ : _ ∧ _ ∧ Kd.C _ _ _ _ _); replace CB := Aside0.mk (⟨CB.out.1, CB.out.2.1, Kd.C_below CB.out.2.2 hb⟩ : _ ∧ _ ∧ Kd.C _ _ _ _ _); clear hb ho HB11; (obtain ⟨Ap, cp, rfl⟩ := Kd.R_slice HO.out); have CP := Aside0.mk (Kd.R_reads' HO.out); clear HO)
  go_wp2_with (fail)
  refine (gang_Done.calls _ _ _ _ _ _ _ _ _ twoP 0 2 4 0 _ CA.out.2.2 CA.out.2.1 CB.out.2.2 CB.out.2.1 CP.out.2.2 CP.out.2.1 (gv_below HG0.out HB12.out) sh_done).mono ?_
  rintro e w13 ⟨rfl, hb⟩
  have HB13 := Aside0.mk (below_then HB12.out HB12.out.size hb)
  replace C1 := Aside0.mk (⟨C1.out.1, C1.out.2.1, Kd.C_below C1.out.2.2 hb⟩ : _ ∧ _ ∧ Kd.C _ _ _ _ _)
  replace C5 := Aside0.mk (⟨C5.out.1, C5.out.2.1, Kd.C_below C5.out.2.2 hb⟩ : _ ∧ _ ∧ Kd.C _ _ _ _ _)
  replace CA := Aside0.mk (⟨CA.out.1, CA.out.2.1, Kd.C_below CA.out.2.2 hb⟩ : _ ∧ _ ∧ Kd.C _ _ _ _ _)
  replace CB := Aside0.mk (⟨CB.out.1, CB.out.2.1, Kd.C_below CB.out.2.2 hb⟩ : _ ∧ _ ∧ Kd.C _ _ _ _ _)
  replace CP := Aside0.mk (⟨CP.out.1, CP.out.2.1, Kd.C_below CP.out.2.2 hb⟩ : _ ∧ _ ∧ Kd.C _ _ _ _ _)
  clear hb HB12
  clear CA
  clear CB
  clear CP
  go_wp2_with ((with_reducible refine gate_dst (N := 7) rfl ?_); refine bx 7 #[.int .i64 0, .int .i64 0] 40 ?_; intro gb hg w14 hbox hb; have HBB := Aside0.mk hb; have BX := Aside0.mk hbox; have GE := Aside0.mk (show w13.heap.size ≤ gb by rw [hg]; exact Nat.le_refl _); clear hb hbox hg; have hc0 : w14.cell? ⟨gb, 0, none⟩ = some (.int .i64 0) := (blk_cell BX.out 0).trans rfl; have hc1 : w14.cell? ⟨gb, 1, none⟩ = some (.int .i64 0) := (blk_cell BX.out 1).trans rfl; have hf0 := blk_frozen BX.out 0; have hf1 := blk_frozen BX.out 1)
  clear hc0 hc1 hf0 hf1
  have hb := below_set (v := .int .i64 4) (j := 1) (below_set (v := .int .i64 2) (j := 0) HBB.out GE.out) GE.out
  have BX2 := blk_put (blk_put BX.out 0 (.int .i64 2) rfl) 1 (.int .i64 4) rfl
  generalize (World.setCell (World.setCell _ _ _) _ _) = w15 at hb BX2 ⊢
  replace BX := Aside0.mk BX2
  clear BX2
  have HB15 := Aside0.mk (below_then HB13.out HB13.out.size hb)
  replace C1 := Aside0.mk (⟨C1.out.1, C1.out.2.1, Kd.C_below C1.out.2.2 hb⟩ : _ ∧ _ ∧ Kd.C _ _ _ _ _)
  replace C5 := Aside0.mk (⟨C5.out.1, C5.out.2.1, Kd.C_below C5.out.2.2 hb⟩ : _ ∧ _ ∧ Kd.C _ _ _ _ _)
  clear hb HB13
  clear HBB GE
  go_wp2_with (fail)
  refine (macadamlaw04_own.calls ownM (ownG 2) 4 _ own_eq).mono ?_
  rintro e w16 ⟨va, vb, rfl, ha, hbb, hb⟩
  have HB16 := Aside0.mk (below_then HB15.out HB15.out.size hb)
  replace C1 := Aside0.mk (⟨C1.out.1, C1.out.2.1, Kd.C_below C1.out.2.2 hb⟩ : _ ∧ _ ∧ Kd.C _ _ _ _ _)
  replace C5 := Aside0.mk (⟨C5.out.1, C5.out.2.1, Kd.C_below C5.out.2.2 hb⟩ : _ ∧ _ ∧ Kd.C _ _ _ _ _)
  replace BX := Aside0.mk (blk_below BX.out hb)
  clear hb HB15
  obtain ⟨Aa, ca, rfl⟩ := Kd.R_slice ha
  have CA := Aside0.mk (Kd.R_reads' ha)
  clear ha
  obtain ⟨Ab, cb, rfl⟩ := Kd.R_slice hbb
  have CB := Aside0.mk (Kd.R_reads' hbb)
  clear hbb
  go_wp2_with (fail)
  refine (macadamlaw04_both.calls bothP _ (by kernel_rfl)).mono ?_
  rintro e w17 ⟨vp, rfl, hp, hb⟩
  have HB17 := Aside0.mk (below_then HB16.out HB16.out.size hb)
  replace C1 := Aside0.mk (⟨C1.out.1, C1.out.2.1, Kd.C_below C1.out.2.2 hb⟩ : _ ∧ _ ∧ Kd.C _ _ _ _ _)
  replace C5 := Aside0.mk (⟨C5.out.1, C5.out.2.1, Kd.C_below C5.out.2.2 hb⟩ : _ ∧ _ ∧ Kd.C _ _ _ _ _)
  replace CA := Aside0.mk (⟨CA.out.1, CA.out.2.1, Kd.C_below CA.out.2.2 hb⟩ : _ ∧ _ ∧ Kd.C _ _ _ _ _)
  replace CB := Aside0.mk (⟨CB.out.1, CB.out.2.1, Kd.C_below CB.out.2.2 hb⟩ : _ ∧ _ ∧ Kd.C _ _ _ _ _)
  replace BX := Aside0.mk (blk_below BX.out hb)
  clear hb HB16
  obtain ⟨Ap, cp, rfl⟩ := Kd.R_slice hp
  have CP := Aside0.mk (Kd.R_reads' hp)
  clear hp
  go_wp2_with (fail)
  refine (gang_Mended.calls _ _ _ _ _ _ _ _ _ bothP menL 0 _ CA.out.2.2 CA.out.2.1 CB.out.2.2 CB.out.2.1 CP.out.2.2 CP.out.2.1 (gv_below HG0.out HB17.out) sh_mended).mono ?_
  rintro e w18 ⟨v9, rfl, hv, hb⟩
  have HB18 := Aside0.mk (below_then HB17.out HB17.out.size hb)
  replace C1 := Aside0.mk (⟨C1.out.1, C1.out.2.1, Kd.C_below C1.out.2.2 hb⟩ : _ ∧ _ ∧ Kd.C _ _ _ _ _)
  replace C5 := Aside0.mk (⟨C5.out.1, C5.out.2.1, Kd.C_below C5.out.2.2 hb⟩ : _ ∧ _ ∧ Kd.C _ _ _ _ _)
  replace CA := Aside0.mk (⟨CA.out.1, CA.out.2.1, Kd.C_below CA.out.2.2 hb⟩ : _ ∧ _ ∧ Kd.C _ _ _ _ _)
  replace CB := Aside0.mk (⟨CB.out.1, CB.out.2.1, Kd.C_below CB.out.2.2 hb⟩ : _ ∧ _ ∧ Kd.C _ _ _ _ _)
  replace CP := Aside0.mk (⟨CP.out.1, CP.out.2.1, Kd.C_below CP.out.2.2 hb⟩ : _ ∧ _ ∧ Kd.C _ _ _ _ _)
  replace BX := Aside0.mk (blk_below BX.out hb)
  clear hb HB17
  obtain ⟨A9, c9, rfl⟩ := Kd.V_slice hv
  have C9 := Aside0.mk (Kd.V_reads' hv)
  clear hv
  clear CA
  clear CB
  clear CP
  go_wp2_with (fail)
  have HBX := Aside0.mk (show Below w.heap.size w _ from HB18.out)
  clear HB18
  have hb := (Below.refl (World.heap w18).size w18).drew
  replace C1 := Aside0.mk (⟨C1.out.1, C1.out.2.1, Kd.C_below C1.out.2.2 hb⟩ : _ ∧ _ ∧ Kd.C _ _ _ _ _)
  replace C5 := Aside0.mk (⟨C5.out.1, C5.out.2.1, Kd.C_below C5.out.2.2 hb⟩ : _ ∧ _ ∧ Kd.C _ _ _ _ _)
  replace C9 := Aside0.mk (⟨C9.out.1, C9.out.2.1, Kd.C_below C9.out.2.2 hb⟩ : _ ∧ _ ∧ Kd.C _ _ _ _ _)
  replace BX := Aside0.mk (blk_below BX.out hb)
  replace HBX := Aside0.mk (below_then HBX.out HBX.out.size hb)
  clear hb
  have heq := equal_span
  refine start_ (n := 45) (S := fun w' => w'.cell? ⟨gb, 0, none⟩ = some (.int .i64 2) ∧ w'.cell? ⟨gb, 1, none⟩ = some (.int .i64 4)) (ds := []) (bs 45 0) (by kernel_rfl) rfl rfl ⟨(blk_cell BX.out 0).trans rfl, (blk_cell BX.out 1).trans rfl⟩ (fun hHeld => ?_)
  refine with_tabW X_shov.tab6 X_shov.bits6 (fun HT_ HW_ => ?_)
  generalize World.drew _ = wd at C1 C5 C9 BX HBX hHeld ⊢
  refine pu HT_ 0 (some 46) (bs 45 1) ?_
  refine pu HT_ 1 (some 47) (bs 45 3) ?_
  refine pu HT_ 2 (some 48) (bs 45 7) ?_
  refine pu HT_ 3 (some 49) (bs 45 15) ?_
  refine pu HT_ 4 (some 50) (bs 45 31) ?_
  refine pu HT_ 5 (some 51) (bs 45 63) ?_
  refine pu HT_ 6 (some 52) (bs 45 127) ?_
  refine pu HT_ 7 (some 53) (bs 45 255) ?_
  refine pu HT_ 8 (some 54) (bs 45 511) ?_
  refine pu HT_ 9 (some 55) (bs 45 1023) ?_
  refine pu HT_ 10 (some 56) (bs 45 2047) ?_
  refine pu HT_ 11 (some 57) (bs 45 4095) ?_
  refine pu HT_ 12 (some 58) (bs 45 8191) ?_
  refine pu HT_ 13 (some 59) (bs 45 16383) ?_
  refine pu HT_ 14 (some 60) (bs 45 32767) ?_
  refine pu HT_ 15 (some 61) (bs 45 65535) ?_
  refine pu HT_ 16 (some 62) (bs 45 131071) ?_
  refine pu HT_ 17 (some 63) (bs 45 262143) ?_
  refine pu HT_ 18 (some 64) (bs 45 524287) ?_
  refine pu HT_ 19 (some 65) (bs 45 1048575) ?_
  refine on HT_ 20 (some 66) (bs 45 2097151) (fun K hK => ?_)
  refine Kd.R_lit_step (Kd.int .i64) _ 3 ?hg (N := 66) ?hd (xs := canL) (inner := [.int .i64 0, .int .i64 2, .int .i64 3]) (ok := fun _ => True) (okp := fun _ => True) ?hr ?hp (fun _ hk => hk) trivial (Below.refl _ _) (Nat.le_refl _) (by simp [canL]) ?_; (case hd => rfl); (case hg => rfl); (case hr => first | (go_simp; done) | (go_simp; rfl)); (case hp => exact (Reps.one (show Kd.M (Kd.int .i64) _ _ _ (0 : Int) [.int .i64 0] from rfl) (Reps.one (show Kd.M (Kd.int .i64) _ _ _ (2 : Int) [.int .i64 2] from rfl) (Reps.one (show Kd.M (Kd.int .i64) _ _ _ (3 : Int) [.int .i64 3] from rfl) (Reps.none _ _)))))
  intro pv pw ho hb hg_ hnew_
  clear hg_ hnew_
  obtain ⟨pA, pc, rfl⟩ := Kd.R_slice ho
  have pC := Aside0.mk (Kd.R_reads' ho)
  clear ho
  replace C1 := Aside0.mk (⟨C1.out.1, C1.out.2.1, Kd.C_below C1.out.2.2 hb⟩ : _ ∧ _ ∧ Kd.C _ _ _ _ _)
  replace C5 := Aside0.mk (⟨C5.out.1, C5.out.2.1, Kd.C_below C5.out.2.2 hb⟩ : _ ∧ _ ∧ Kd.C _ _ _ _ _)
  replace C9 := Aside0.mk (⟨C9.out.1, C9.out.2.1, Kd.C_below C9.out.2.2 hb⟩ : _ ∧ _ ∧ Kd.C _ _ _ _ _)
  replace BX := Aside0.mk (blk_below BX.out hb)
  replace HBX := Aside0.mk (below_then HBX.out HBX.out.size hb)
  clear hb
  refine hK.out _ _ ⟨(blk_cell BX.out 0).trans rfl, (blk_cell BX.out 1).trans rfl⟩ (fun hHeld => ?_)
  clear hK K
  refine nm 66 ?_
  refine on HT_ 21 (some 67) (bs 45 4194303) (fun K hK => ?_)
  refine goes_ Tryd.func17 (by kernel_rfl) rfl #[.slice A1 canL.length c1, .slice pA canL.length pc] (by rfl) rfl rfl (by (try simp only [List.map_toArray, List.map_cons, List.map_nil]); first | done | rfl) ?_
  with_reducible refine (macadamref00_Like.calls 10 _ _ canL _ _ canL true _ C1.out.2.2 C1.out.2.1 pC.out.2.2 pC.out.2.1 (by kernel_rfl)).mono ?_
  rintro e px ⟨rfl, hd⟩
  refine ⟨_, rfl, ?_⟩
  have hb := hd.below
  clear hd
  replace C1 := Aside0.mk (⟨C1.out.1, C1.out.2.1, Kd.C_below C1.out.2.2 hb⟩ : _ ∧ _ ∧ Kd.C _ _ _ _ _)
  replace C5 := Aside0.mk (⟨C5.out.1, C5.out.2.1, Kd.C_below C5.out.2.2 hb⟩ : _ ∧ _ ∧ Kd.C _ _ _ _ _)
  replace C9 := Aside0.mk (⟨C9.out.1, C9.out.2.1, Kd.C_below C9.out.2.2 hb⟩ : _ ∧ _ ∧ Kd.C _ _ _ _ _)
  replace BX := Aside0.mk (blk_below BX.out hb)
  replace HBX := Aside0.mk (below_then HBX.out HBX.out.size hb)
  clear hb
  refine hK.out _ _ ⟨(blk_cell BX.out 0).trans rfl, (blk_cell BX.out 1).trans rfl⟩ (fun hHeld => ?_)
  clear hK K
  refine nm 67 ?_
  refine pu HT_ 22 (some 68) (bs 45 8388607) ?_
  refine pu HT_ 23 (some 69) (bs 45 16777215) ?_
  refine pu HT_ 24 (some 70) (bs 45 33554431) ?_
  refine pu HT_ 25 (some 71) (bs 45 67108863) ?_
  refine pu HT_ 26 (some 72) (bs 45 134217727) ?_
  refine pu HT_ 27 (some 73) (bs 45 268435455) ?_
  refine pu HT_ 28 (some 74) (bs 45 536870911) ?_
  refine pu HT_ 29 (some 75) (bs 45 1073741823) ?_
  refine on HT_ 30 (some 76) (bs 45 2147483647) (fun K hK => ?_)
  refine Kd.R_lit_step (Kd.int .i64) _ 3 ?hg (N := 76) ?hd (xs := cloL) (inner := [.int .i64 0, .int .i64 2]) (ok := fun _ => True) (okp := fun _ => True) ?hr ?hp (fun _ hk => hk) trivial (Below.refl _ _) (Nat.le_refl _) (by simp [cloL]) ?_; (case hd => rfl); (case hg => rfl); (case hr => first | (go_simp; done) | (go_simp; rfl)); (case hp => exact (Reps.one (show Kd.M (Kd.int .i64) _ _ _ (0 : Int) [.int .i64 0] from rfl) (Reps.one (show Kd.M (Kd.int .i64) _ _ _ (2 : Int) [.int .i64 2] from rfl) (Reps.none _ _))))
  intro qv qw ho hb hg_ hnew_
  clear hg_ hnew_
  obtain ⟨qA, qc, rfl⟩ := Kd.R_slice ho
  have qC := Aside0.mk (Kd.R_reads' ho)
  clear ho
  replace C1 := Aside0.mk (⟨C1.out.1, C1.out.2.1, Kd.C_below C1.out.2.2 hb⟩ : _ ∧ _ ∧ Kd.C _ _ _ _ _)
  replace C5 := Aside0.mk (⟨C5.out.1, C5.out.2.1, Kd.C_below C5.out.2.2 hb⟩ : _ ∧ _ ∧ Kd.C _ _ _ _ _)
  replace C9 := Aside0.mk (⟨C9.out.1, C9.out.2.1, Kd.C_below C9.out.2.2 hb⟩ : _ ∧ _ ∧ Kd.C _ _ _ _ _)
  replace BX := Aside0.mk (blk_below BX.out hb)
  replace HBX := Aside0.mk (below_then HBX.out HBX.out.size hb)
  clear hb
  refine hK.out _ _ ⟨(blk_cell BX.out 0).trans rfl, (blk_cell BX.out 1).trans rfl⟩ (fun hHeld => ?_)
  clear hK K
  refine nm 76 ?_
  refine on HT_ 31 (some 77) (bs 45 4294967295) (fun K hK => ?_)
  refine goes_ Tryd.func17 (by kernel_rfl) rfl #[.slice A5 cloL.length c5, .slice qA cloL.length qc] (by rfl) rfl rfl (by (try simp only [List.map_toArray, List.map_cons, List.map_nil]); first | done | rfl) ?_
  with_reducible refine (macadamref00_Like.calls 10 _ _ cloL _ _ cloL true _ C5.out.2.2 C5.out.2.1 qC.out.2.2 qC.out.2.1 (by kernel_rfl)).mono ?_
  rintro e qx ⟨rfl, hd⟩
  refine ⟨_, rfl, ?_⟩
  have hb := hd.below
  clear hd
  replace C1 := Aside0.mk (⟨C1.out.1, C1.out.2.1, Kd.C_below C1.out.2.2 hb⟩ : _ ∧ _ ∧ Kd.C _ _ _ _ _)
  replace C5 := Aside0.mk (⟨C5.out.1, C5.out.2.1, Kd.C_below C5.out.2.2 hb⟩ : _ ∧ _ ∧ Kd.C _ _ _ _ _)
  replace C9 := Aside0.mk (⟨C9.out.1, C9.out.2.1, Kd.C_below C9.out.2.2 hb⟩ : _ ∧ _ ∧ Kd.C _ _ _ _ _)
  replace BX := Aside0.mk (blk_below BX.out hb)
  replace HBX := Aside0.mk (below_then HBX.out HBX.out.size hb)
  clear hb
  refine hK.out _ _ ⟨(blk_cell BX.out 0).trans rfl, (blk_cell BX.out 1).trans rfl⟩ (fun hHeld => ?_)
  clear hK K
  refine nm 77 ?_
  refine pu HT_ 32 (some 78) (bs 45 8589934591) ?_
  refine pu HT_ 33 (some 79) (bs 45 17179869183) ?_
  refine pu HT_ 34 (some 80) (bs 45 34359738367) ?_
  refine tk2 HT_ HW_ hHeld 35 (some 81) (bs 45 68719476735) ?_
  refine on HT_ 36 (some 82) (bs 45 137438953471) (fun K hK => ?_)
  refine goes_ Tryd.func50 (by kernel_rfl) rfl #[.int .i64 2, .int .i64 4] (by rfl) rfl rfl (by (try simp only [List.map_toArray, List.map_cons, List.map_nil]); first | done | rfl) ?_
  with_reducible refine (macadamref00_Reach.calls 2 4 2 4 _ (by kernel_rfl)).mono ?_
  rintro e rx ⟨rfl, hb⟩
  refine ⟨_, rfl, ?_⟩
  replace C1 := Aside0.mk (⟨C1.out.1, C1.out.2.1, Kd.C_below C1.out.2.2 hb⟩ : _ ∧ _ ∧ Kd.C _ _ _ _ _)
  replace C5 := Aside0.mk (⟨C5.out.1, C5.out.2.1, Kd.C_below C5.out.2.2 hb⟩ : _ ∧ _ ∧ Kd.C _ _ _ _ _)
  replace C9 := Aside0.mk (⟨C9.out.1, C9.out.2.1, Kd.C_below C9.out.2.2 hb⟩ : _ ∧ _ ∧ Kd.C _ _ _ _ _)
  replace BX := Aside0.mk (blk_below BX.out hb)
  replace HBX := Aside0.mk (below_then HBX.out HBX.out.size hb)
  clear hb
  refine hK.out _ _ ⟨(blk_cell BX.out 0).trans rfl, (blk_cell BX.out 1).trans rfl⟩ (fun hHeld => ?_)
  clear hK K
  refine nm 82 ?_
  refine pu HT_ 37 (some 83) (bs 45 274877906943) ?_
  refine pu HT_ 38 (some 84) (bs 45 549755813887) ?_
  refine pu HT_ 39 (some 85) (bs 45 1099511627775) ?_
  refine pu HT_ 40 (some 86) (bs 45 2199023255551) ?_
  refine on HT_ 41 (some 87) (bs 45 4398046511103) (fun K hK => ?_)
  refine Kd.R_lit_step (Kd.int .i64) _ 3 ?hg (N := 87) ?hd (xs := menL) (inner := [.int .i64 2]) (ok := fun _ => True) (okp := fun _ => True) ?hr ?hp (fun _ hk => hk) trivial (Below.refl _ _) (Nat.le_refl _) (by simp [menL]) ?_; (case hd => rfl); (case hg => rfl); (case hr => first | (go_simp; done) | (go_simp; rfl)); (case hp => exact (Reps.one (show Kd.M (Kd.int .i64) _ _ _ (2 : Int) [.int .i64 2] from rfl) (Reps.none _ _)))
  intro rv rw ho hb hg_ hnew_
  clear hg_ hnew_
  obtain ⟨rA, rc, rfl⟩ := Kd.R_slice ho
  have rC := Aside0.mk (Kd.R_reads' ho)
  clear ho
  replace C1 := Aside0.mk (⟨C1.out.1, C1.out.2.1, Kd.C_below C1.out.2.2 hb⟩ : _ ∧ _ ∧ Kd.C _ _ _ _ _)
  replace C5 := Aside0.mk (⟨C5.out.1, C5.out.2.1, Kd.C_below C5.out.2.2 hb⟩ : _ ∧ _ ∧ Kd.C _ _ _ _ _)
  replace C9 := Aside0.mk (⟨C9.out.1, C9.out.2.1, Kd.C_below C9.out.2.2 hb⟩ : _ ∧ _ ∧ Kd.C _ _ _ _ _)
  replace BX := Aside0.mk (blk_below BX.out hb)
  replace HBX := Aside0.mk (below_then HBX.out HBX.out.size hb)
  clear hb
  refine hK.out _ _ ⟨(blk_cell BX.out 0).trans rfl, (blk_cell BX.out 1).trans rfl⟩ (fun hHeld => ?_)
  clear hK K
  refine nm 87 ?_
  refine on HT_ 42 (some 88) (bs 45 8796093022207) (fun K hK => ?_)
  refine goes_ Tryd.func17 (by kernel_rfl) rfl #[.slice A9 menL.length c9, .slice rA menL.length rc] (by rfl) rfl rfl (by (try simp only [List.map_toArray, List.map_cons, List.map_nil]); first | done | rfl) ?_
  with_reducible refine (macadamref00_Like.calls 10 _ _ menL _ _ menL true _ C9.out.2.2 C9.out.2.1 rC.out.2.2 rC.out.2.1 (by kernel_rfl)).mono ?_
  rintro e rx ⟨rfl, hd⟩
  refine ⟨_, rfl, ?_⟩
  have hb := hd.below
  clear hd
  replace C1 := Aside0.mk (⟨C1.out.1, C1.out.2.1, Kd.C_below C1.out.2.2 hb⟩ : _ ∧ _ ∧ Kd.C _ _ _ _ _)
  replace C5 := Aside0.mk (⟨C5.out.1, C5.out.2.1, Kd.C_below C5.out.2.2 hb⟩ : _ ∧ _ ∧ Kd.C _ _ _ _ _)
  replace C9 := Aside0.mk (⟨C9.out.1, C9.out.2.1, Kd.C_below C9.out.2.2 hb⟩ : _ ∧ _ ∧ Kd.C _ _ _ _ _)
  replace BX := Aside0.mk (blk_below BX.out hb)
  replace HBX := Aside0.mk (below_then HBX.out HBX.out.size hb)
  clear hb
  refine hK.out _ _ ⟨(blk_cell BX.out 0).trans rfl, (blk_cell BX.out 1).trans rfl⟩ (fun hHeld => ?_)
  clear hK K
  refine nm 88 ?_
  refine pu HT_ 43 (some 89) (bs 45 17592186044415) ?_
  refine pu HT_ 44 (some 90) (bs 45 35184372088831) ?_
  refine done_ (done_of HT_.out (by kernel_rfl)) ?_
  clear C1 C5 C9 BX heq
  go_wp2_with (fail)
  refine (macadamlaw04_own.calls ownM (ownG 2) 4 _ own_eq).mono ?_
  rintro e w19 ⟨va, vb, rfl, ha, hbb, hb⟩
  have HB19 := Aside0.mk (below_then HBX.out HBX.out.size hb)
  clear hb HBX
  obtain ⟨Aa, ca, rfl⟩ := Kd.R_slice ha
  have CA := Aside0.mk (Kd.R_reads' ha)
  clear ha
  obtain ⟨Ab, cb, rfl⟩ := Kd.R_slice hbb
  have CB := Aside0.mk (Kd.R_reads' hbb)
  clear hbb
  go_wp2_with (fail)
  refine (macadamlaw04_both.calls bothP _ (by kernel_rfl)).mono ?_
  rintro e w20 ⟨vp, rfl, hp, hb⟩
  have HB20 := Aside0.mk (below_then HB19.out HB19.out.size hb)
  replace CA := Aside0.mk (⟨CA.out.1, CA.out.2.1, Kd.C_below CA.out.2.2 hb⟩ : _ ∧ _ ∧ Kd.C _ _ _ _ _)
  replace CB := Aside0.mk (⟨CB.out.1, CB.out.2.1, Kd.C_below CB.out.2.2 hb⟩ : _ ∧ _ ∧ Kd.C _ _ _ _ _)
  clear hb HB19
  obtain ⟨Ap, cp, rfl⟩ := Kd.R_slice hp
  have CP := Aside0.mk (Kd.R_reads' hp)
  clear hp
  go_wp2_with (fail)
  refine (gang_Open.calls _ _ _ _ _ _ _ _ _ bothP 0 0 _ CA.out.2.2 CA.out.2.1 CB.out.2.2 CB.out.2.1 CP.out.2.2 CP.out.2.1 (gv_below HG0.out HB20.out) sh_open).mono ?_
  rintro e w21 ⟨rfl, hb⟩
  have HB21 := Aside0.mk (below_then HB20.out HB20.out.size hb)
  replace CA := Aside0.mk (⟨CA.out.1, CA.out.2.1, Kd.C_below CA.out.2.2 hb⟩ : _ ∧ _ ∧ Kd.C _ _ _ _ _)
  replace CB := Aside0.mk (⟨CB.out.1, CB.out.2.1, Kd.C_below CB.out.2.2 hb⟩ : _ ∧ _ ∧ Kd.C _ _ _ _ _)
  replace CP := Aside0.mk (⟨CP.out.1, CP.out.2.1, Kd.C_below CP.out.2.2 hb⟩ : _ ∧ _ ∧ Kd.C _ _ _ _ _)
  clear hb HB20
  clear CA
  clear CB
  clear CP
  go_wp2_with (fail)
  refine (macadamlaw04_own.calls ownM (ownG 2) 4 _ own_eq).mono ?_
  rintro e w22 ⟨va, vb, rfl, ha, hbb, hb⟩
  have HB22 := Aside0.mk (below_then HB21.out HB21.out.size hb)
  clear hb HB21
  obtain ⟨Aa, ca, rfl⟩ := Kd.R_slice ha
  have CA := Aside0.mk (Kd.R_reads' ha)
  clear ha
  obtain ⟨Ab, cb, rfl⟩ := Kd.R_slice hbb
  have CB := Aside0.mk (Kd.R_reads' hbb)
  clear hbb
  go_wp2_with (fail)
  refine (gang_Plan.calls _ _ _ _ _ _ _ planP 0 _ CA.out.2.2 CA.out.2.1 CB.out.2.2 CB.out.2.1 (gv_below HG0.out HB22.out) sh_plan).mono ?_
  rintro e w23 ⟨v12, rfl, hv, hb⟩
  have HB23 := Aside0.mk (below_then HB22.out HB22.out.size hb)
  replace CA := Aside0.mk (⟨CA.out.1, CA.out.2.1, Kd.C_below CA.out.2.2 hb⟩ : _ ∧ _ ∧ Kd.C _ _ _ _ _)
  replace CB := Aside0.mk (⟨CB.out.1, CB.out.2.1, Kd.C_below CB.out.2.2 hb⟩ : _ ∧ _ ∧ Kd.C _ _ _ _ _)
  clear hb HB22
  obtain ⟨A1, c1, rfl⟩ := Kd.V_slice hv
  have C1 := Aside0.mk (Kd.V_reads' hv)
  clear hv
  clear CA
  clear CB
  go_wp2_with (fail)
  refine (macadamlaw04_short.calls ownM (ownG 2) 3 _ short_eq).mono ?_
  rintro e w24 ⟨va, vb, rfl, ha, hbb, hb⟩
  have HB24 := Aside0.mk (below_then HB23.out HB23.out.size hb)
  replace C1 := Aside0.mk (⟨C1.out.1, C1.out.2.1, Kd.C_below C1.out.2.2 hb⟩ : _ ∧ _ ∧ Kd.C _ _ _ _ _)
  clear hb HB23
  obtain ⟨Aa, ca, rfl⟩ := Kd.R_slice ha
  have CA := Aside0.mk (Kd.R_reads' ha)
  clear ha
  obtain ⟨Ab, cb, rfl⟩ := Kd.R_slice hbb
  have CB := Aside0.mk (Kd.R_reads' hbb)
  clear hbb
  go_wp2_with (fail)
  refine (gang_Most.calls _ _ _ _ _ _ _ mosL 0 _ CA.out.2.2 CA.out.2.1 CB.out.2.2 CB.out.2.1 (gv_below HG0.out HB24.out) sh_most).mono ?_
  rintro e w25 ⟨v13, rfl, hv, hb⟩
  have HB25 := Aside0.mk (below_then HB24.out HB24.out.size hb)
  replace C1 := Aside0.mk (⟨C1.out.1, C1.out.2.1, Kd.C_below C1.out.2.2 hb⟩ : _ ∧ _ ∧ Kd.C _ _ _ _ _)
  replace CA := Aside0.mk (⟨CA.out.1, CA.out.2.1, Kd.C_below CA.out.2.2 hb⟩ : _ ∧ _ ∧ Kd.C _ _ _ _ _)
  replace CB := Aside0.mk (⟨CB.out.1, CB.out.2.1, Kd.C_below CB.out.2.2 hb⟩ : _ ∧ _ ∧ Kd.C _ _ _ _ _)
  clear hb HB24
  obtain ⟨A5, c5, rfl⟩ := Kd.V_slice hv
  have C5 := Aside0.mk (Kd.V_reads' hv)
  clear hv
  clear CA
  clear CB
  go_wp2_with (fail)
  refine (macadamlaw04_far.calls ownM (ownG 1) 4 _ far_eq).mono ?_
  rintro e w26 ⟨va, vb, rfl, ha, hbb, hb⟩
  have HB26 := Aside0.mk (below_then HB25.out HB25.out.size hb)
  replace C1 := Aside0.mk (⟨C1.out.1, C1.out.2.1, Kd.C_below C1.out.2.2 hb⟩ : _ ∧ _ ∧ Kd.C _ _ _ _ _)
  replace C5 := Aside0.mk (⟨C5.out.1, C5.out.2.1, Kd.C_below C5.out.2.2 hb⟩ : _ ∧ _ ∧ Kd.C _ _ _ _ _)
  clear hb HB25
  obtain ⟨Aa, ca, rfl⟩ := Kd.R_slice ha
  have CA := Aside0.mk (Kd.R_reads' ha)
  clear ha
  obtain ⟨Ab, cb, rfl⟩ := Kd.R_slice hbb
  have CB := Aside0.mk (Kd.R_reads' hbb)
  clear hbb
  go_wp2_with (fail)
  refine (gang_First.calls _ _ _ _ _ _ _ 2 0 _ CA.out.2.2 CA.out.2.1 CB.out.2.2 CB.out.2.1 (gv_below HG0.out HB26.out) sh_first).mono ?_
  rintro e w27 ⟨rfl, hb⟩
  have HB27 := Aside0.mk (below_then HB26.out HB26.out.size hb)
  replace C1 := Aside0.mk (⟨C1.out.1, C1.out.2.1, Kd.C_below C1.out.2.2 hb⟩ : _ ∧ _ ∧ Kd.C _ _ _ _ _)
  replace C5 := Aside0.mk (⟨C5.out.1, C5.out.2.1, Kd.C_below C5.out.2.2 hb⟩ : _ ∧ _ ∧ Kd.C _ _ _ _ _)
  replace CA := Aside0.mk (⟨CA.out.1, CA.out.2.1, Kd.C_below CA.out.2.2 hb⟩ : _ ∧ _ ∧ Kd.C _ _ _ _ _)
  replace CB := Aside0.mk (⟨CB.out.1, CB.out.2.1, Kd.C_below CB.out.2.2 hb⟩ : _ ∧ _ ∧ Kd.C _ _ _ _ _)
  clear hb HB26
  clear CA
  clear CB
  go_wp2_with (fail)
  refine (macadamlaw04_short.calls ownM (ownG 2) 3 _ short_eq).mono ?_
  rintro e w28 ⟨va, vb, rfl, ha, hbb, hb⟩
  have HB28 := Aside0.mk (below_then HB27.out HB27.out.size hb)
  replace C1 := Aside0.mk (⟨C1.out.1, C1.out.2.1, Kd.C_below C1.out.2.2 hb⟩ : _ ∧ _ ∧ Kd.C _ _ _ _ _)
  replace C5 := Aside0.mk (⟨C5.out.1, C5.out.2.1, Kd.C_below C5.out.2.2 hb⟩ : _ ∧ _ ∧ Kd.C _ _ _ _ _)
  clear hb HB27
  obtain ⟨Aa, ca, rfl⟩ := Kd.R_slice ha
  have CA := Aside0.mk (Kd.R_reads' ha)
  clear ha
  obtain ⟨Ab, cb, rfl⟩ := Kd.R_slice hbb
  have CB := Aside0.mk (Kd.R_reads' hbb)
  clear hbb
  go_wp2_with (fail)
  refine (gang_Plan.calls _ _ _ _ _ _ _ nonL 4 _ CA.out.2.2 CA.out.2.1 CB.out.2.2 CB.out.2.1 (gv_below HG0.out HB28.out) sh_noplan).mono ?_
  rintro e w29 ⟨v15, rfl, hv, hb⟩
  have HB29 := Aside0.mk (below_then HB28.out HB28.out.size hb)
  replace C1 := Aside0.mk (⟨C1.out.1, C1.out.2.1, Kd.C_below C1.out.2.2 hb⟩ : _ ∧ _ ∧ Kd.C _ _ _ _ _)
  replace C5 := Aside0.mk (⟨C5.out.1, C5.out.2.1, Kd.C_below C5.out.2.2 hb⟩ : _ ∧ _ ∧ Kd.C _ _ _ _ _)
  replace CA := Aside0.mk (⟨CA.out.1, CA.out.2.1, Kd.C_below CA.out.2.2 hb⟩ : _ ∧ _ ∧ Kd.C _ _ _ _ _)
  replace CB := Aside0.mk (⟨CB.out.1, CB.out.2.1, Kd.C_below CB.out.2.2 hb⟩ : _ ∧ _ ∧ Kd.C _ _ _ _ _)
  clear hb HB28
  clear CA
  clear CB
  clear hv
  go_wp2_with (fail)
  go_wp2_with (fail)
  refine (macadamlaw04_work.calls 0 0 0 0 0 0 _ (by kernel_rfl)).mono ?_
  rintro e w30 ⟨rfl, hb⟩
  have HB30 := Aside0.mk (below_then HB29.out HB29.out.size hb)
  replace C1 := Aside0.mk (⟨C1.out.1, C1.out.2.1, Kd.C_below C1.out.2.2 hb⟩ : _ ∧ _ ∧ Kd.C _ _ _ _ _)
  replace C5 := Aside0.mk (⟨C5.out.1, C5.out.2.1, Kd.C_below C5.out.2.2 hb⟩ : _ ∧ _ ∧ Kd.C _ _ _ _ _)
  clear hb HB29
  go_wp2_with (fail)
  refine (macadamlaw04_work.calls 0 1 2 0 1 2 _ (by kernel_rfl)).mono ?_
  rintro e w31 ⟨rfl, hb⟩
  have HB31 := Aside0.mk (below_then HB30.out HB30.out.size hb)
  replace C1 := Aside0.mk (⟨C1.out.1, C1.out.2.1, Kd.C_below C1.out.2.2 hb⟩ : _ ∧ _ ∧ Kd.C _ _ _ _ _)
  replace C5 := Aside0.mk (⟨C5.out.1, C5.out.2.1, Kd.C_below C5.out.2.2 hb⟩ : _ ∧ _ ∧ Kd.C _ _ _ _ _)
  clear hb HB30
  go_wp2_with (fail)
  refine (macadamlaw04_work.calls 1 0 0 1 0 0 _ (by kernel_rfl)).mono ?_
  rintro e w32 ⟨rfl, hb⟩
  have HB32 := Aside0.mk (below_then HB31.out HB31.out.size hb)
  replace C1 := Aside0.mk (⟨C1.out.1, C1.out.2.1, Kd.C_below C1.out.2.2 hb⟩ : _ ∧ _ ∧ Kd.C _ _ _ _ _)
  replace C5 := Aside0.mk (⟨C5.out.1, C5.out.2.1, Kd.C_below C5.out.2.2 hb⟩ : _ ∧ _ ∧ Kd.C _ _ _ _ _)
  clear hb HB31
  go_wp2_with (fail)
  refine (macadamlaw04_work.calls 2 0 0 2 0 0 _ (by kernel_rfl)).mono ?_
  rintro e w33 ⟨rfl, hb⟩
  have HB33 := Aside0.mk (below_then HB32.out HB32.out.size hb)
  replace C1 := Aside0.mk (⟨C1.out.1, C1.out.2.1, Kd.C_below C1.out.2.2 hb⟩ : _ ∧ _ ∧ Kd.C _ _ _ _ _)
  replace C5 := Aside0.mk (⟨C5.out.1, C5.out.2.1, Kd.C_below C5.out.2.2 hb⟩ : _ ∧ _ ∧ Kd.C _ _ _ _ _)
  clear hb HB32
  go_wp2_with (fail)
  refine (macadamlaw04_work.calls 3 1 1 3 1 1 _ (by kernel_rfl)).mono ?_
  rintro e w34 ⟨rfl, hb⟩
  have HB34 := Aside0.mk (below_then HB33.out HB33.out.size hb)
  replace C1 := Aside0.mk (⟨C1.out.1, C1.out.2.1, Kd.C_below C1.out.2.2 hb⟩ : _ ∧ _ ∧ Kd.C _ _ _ _ _)
  replace C5 := Aside0.mk (⟨C5.out.1, C5.out.2.1, Kd.C_below C5.out.2.2 hb⟩ : _ ∧ _ ∧ Kd.C _ _ _ _ _)
  clear hb HB33
  go_wp2_with ((with_reducible refine gate_dst (N := 146) rfl ?_); refine list_of_step ?_; refine Kd.R_lit_step k59 _ 59 ?hg (N := 146) ?hd (xs := planP) (inner := [.int .i64 0, .int .i64 0, .int .i64 0, .int .i64 0, .int .i64 1, .int .i64 2, .int .i64 1, .int .i64 0, .int .i64 0, .int .i64 2, .int .i64 0, .int .i64 0, .int .i64 3, .int .i64 1, .int .i64 1]) (ok := fun _ => True) (okp := fun _ => True) ?hr ?hp (fun _ hk => hk) trivial (Below.refl _ _) (Nat.le_refl _) (by simp [planP]) ?_; (case hd => rfl); (case hg => rfl); (case hr => first | (go_simp; done) | (go_simp; rfl)); (case hp => exact lit5 _ _ _ _ _ _ _ _); intro v3 w35 ho hb hg_ hnew_; clear hg_ hnew_; have HO := Aside0.mk ho; have HB35 := Aside0.mk (below_then HB34.out HB34.out.size hb); replace C1 := Aside0.mk (⟨C1.out.1, C1.out.2.1, Kd.C_below C1.out.2.2 hb⟩ : _ ∧ _ ∧ Kd.C _ _ _ _ _); replace C5 := Aside0.mk (⟨C5.out.1, C5.out.2.1, Kd.C_below C5.out.2.2 hb⟩ : _ ∧ _ ∧ Kd.C _ _ _ _ _); clear hb ho HB34; (obtain ⟨Ap, cp, rfl⟩ := Kd.R_slice HO.out); have CP := Aside0.mk (Kd.R_reads' HO.out); clear HO)
  go_wp2_with (fail)
  refine (macadamlaw04_same.calls 10 _ _ planP _ _ planP true _ C1.out.2.2 C1.out.2.1 CP.out.2.2 CP.out.2.1 (by kernel_rfl)).mono ?_
  rintro e w36 ⟨rfl, hd⟩
  have hb := hd.below
  clear hd
  have HB36 := Aside0.mk (below_then HB35.out HB35.out.size hb)
  replace C1 := Aside0.mk (⟨C1.out.1, C1.out.2.1, Kd.C_below C1.out.2.2 hb⟩ : _ ∧ _ ∧ Kd.C _ _ _ _ _)
  replace C5 := Aside0.mk (⟨C5.out.1, C5.out.2.1, Kd.C_below C5.out.2.2 hb⟩ : _ ∧ _ ∧ Kd.C _ _ _ _ _)
  replace CP := Aside0.mk (⟨CP.out.1, CP.out.2.1, Kd.C_below CP.out.2.2 hb⟩ : _ ∧ _ ∧ Kd.C _ _ _ _ _)
  clear hb HB35
  clear C1
  clear CP
  go_wp2_with ((with_reducible refine gate_dst (N := 151) rfl ?_); refine list_of_step ?_; refine Kd.R_lit_step (Kd.int .i64) _ 3 ?hg (N := 151) ?hd (xs := mosL) (inner := [.int .i64 0, .int .i64 2]) (ok := fun _ => True) (okp := fun _ => True) ?hr ?hp (fun _ hk => hk) trivial (Below.refl _ _) (Nat.le_refl _) (by simp [mosL]) ?_; (case hd => rfl); (case hg => rfl); (case hr => first | (go_simp; done) | (go_simp; rfl)); (case hp => exact (Reps.one (show Kd.M (Kd.int .i64) _ _ _ (0 : Int) [.int .i64 0] from rfl) (Reps.one (show Kd.M (Kd.int .i64) _ _ _ (2 : Int) [.int .i64 2] from rfl) (Reps.none _ _)))); intro v3 w37 ho hb hg_ hnew_; clear hg_ hnew_; have HO := Aside0.mk ho; have HB37 := Aside0.mk (below_then HB36.out HB36.out.size hb); replace C5 := Aside0.mk (⟨C5.out.1, C5.out.2.1, Kd.C_below C5.out.2.2 hb⟩ : _ ∧ _ ∧ Kd.C _ _ _ _ _); clear hb ho HB36; (obtain ⟨Ap, cp, rfl⟩ := Kd.R_slice HO.out); have CP := Aside0.mk (Kd.R_reads' HO.out); clear HO)
  go_wp2_with (fail)
  refine (macadamref00_Like.calls 10 _ _ mosL _ _ mosL true _ C5.out.2.2 C5.out.2.1 CP.out.2.2 CP.out.2.1 (by kernel_rfl)).mono ?_
  rintro e w38 ⟨rfl, hd⟩
  have hb := hd.below
  clear hd
  have HB38 := Aside0.mk (below_then HB37.out HB37.out.size hb)
  replace C5 := Aside0.mk (⟨C5.out.1, C5.out.2.1, Kd.C_below C5.out.2.2 hb⟩ : _ ∧ _ ∧ Kd.C _ _ _ _ _)
  replace CP := Aside0.mk (⟨CP.out.1, CP.out.2.1, Kd.C_below CP.out.2.2 hb⟩ : _ ∧ _ ∧ Kd.C _ _ _ _ _)
  clear hb HB37
  clear C5
  clear CP
  go_wp2_with (fail)
  go_ret
  exact ⟨by rfl, HB38.out⟩
def macadamlaw04_shovelled.f : Option Bool := some true
theorem macadamlaw04_shovelled.calls (r : Bool) (w : World) (hG : GV w) (h : macadamlaw04_shovelled.f = some r) :
    Calls Tryd.prog 24 #[] w fun e w' => e = .returned (.bool r) ∧ Below w.heap.size w w' := by
  obtain rfl : true = r := by simpa [macadamlaw04_shovelled.f] using h
  exact macadamlaw04_shovelled.calls0 w hG
end Go.Proofs.YtikfghnkbgdbgaaDoor.Q
end
section
namespace Go.Proofs.YtikfghnkbgdbgaaDoor.Q
open Go.RowKit Go.Proofs.YtikfghnkbgdbgaaDoorW.PrintWords Go.Proofs.YtikfghnkbgdbgaaDoorW.PrintLast Go.Proofs.YtikfghnkbgdbgaaDoorW.PrintMore
attribute [local go_sem] max2_int min2_int max_two min_two max_three min_three max_four min_four   -- for this text's walks alone
set_option linter.unusedVariables false
set_option linter.unusedSimpArgs false
mutual
def macadamlaw04_GangFirst.j0 : Nat → Int → Int → Int → Bool → List (S66) → List (S63) → Int → Option (Bool)
 | 0, _, _, _, _, _, _, _ => none
 | k + 1, x1, x5, x6, x48, x652000, x652001, x652002 => if x48 = true then (some false) else ((macadamref00_Wrap.f x1 (x652000.length : Int)).bind fun t658 => ((alone_given.f x652000 x652001 x652002 t658).bind fun bt659 => ((gang_Most.f bt659.1 x652001 bt659.2).bind fun bt666 => ((alone_given.f x652000 x652001 x652002 x5).bind fun bt670 => ((gang_Most.f bt670.1 x652001 bt670.2).bind fun bt677 => ((macadamref00_Like.f k bt666.1 (([t658] : List Int))).bind fun t684 => (if bt666.2 = 0 then (if bt677.2 = 0 then (if t684 = true then (macadamlaw04_GangFirst.j1 k x5 x6 t658 bt677.1 t684 false) else (macadamlaw04_GangFirst.j1 k x5 x6 t658 bt677.1 t684 ((bt666.1.length : Int) != 0))) else (macadamlaw04_GangFirst.j1 k x5 x6 t658 bt677.1 t684 true)) else (macadamlaw04_GangFirst.j1 k x5 x6 t658 bt677.1 t684 true))))))))
def macadamlaw04_GangFirst.j1 : Nat → Int → Int → Int → List Int → Bool → Bool → Option (Bool)
 | 0, _, _, _, _, _, _ => none
 | k + 1, x5, x6, x7, x10, x12, x86 => if x86 = true then (some false) else (if x6 = 0 then (if (x10.length : Int) = 0 then (if x12 = true then ((macadamlaw04_shovelled.f).bind fun t685 => (some t685)) else (if x7 ≥ x5 then ((macadamlaw04_shovelled.f).bind fun t686 => (some t686)) else (some false))) else (some false)) else (if x12 = true then ((macadamlaw04_shovelled.f).bind fun t687 => (some t687)) else (some false)))
end
def macadamlaw04_GangFirst.f (k : Nat) (l0_0 : List (S66)) (l0_1 : List (S63)) (a0_2 : Int) (a1 : Int) : Option (Bool) := (gang_First.f l0_0 l0_1 a0_2).bind fun bt652 => ((macadamlaw04_sound.f k l0_0 l0_1 a0_2).bind fun t654 => (if t654 = true then (if bt652.2 = 0 then ((macadamref00_Amid.f bt652.1 0 (wrap64 ((l0_0.length : Int) - 1))).bind fun t656 => (macadamlaw04_GangFirst.j0 k a1 bt652.1 bt652.2 (!t656) l0_0 l0_1 a0_2)) else (if bt652.2 = 4 then (if bt652.1 = 0 then ((macadamref00_Amid.f bt652.1 0 (wrap64 ((l0_0.length : Int) - 1))).bind fun t657 => (macadamlaw04_GangFirst.j0 k a1 bt652.1 bt652.2 (!t657) l0_0 l0_1 a0_2)) else (macadamlaw04_GangFirst.j0 k a1 bt652.1 bt652.2 true l0_0 l0_1 a0_2)) else (macadamlaw04_GangFirst.j0 k a1 bt652.1 bt652.2 true l0_0 l0_1 a0_2))) else (if bt652.2 = 40 then (if bt652.1 = 0 then ((macadamlaw04_shovelled.f).bind fun t655 => (some t655)) else (some false)) else (some false))))
set_option maxHeartbeats 8000000 in
set_option maxRecDepth 100000 in
theorem macadamlaw04_GangFirst.calls (k : Nat) (A0_0 : Option Addr) (c0_0 : Nat) (l0_0 : List (S66)) (A0_1 : Option Addr) (c0_1 : Nat) (l0_1 : List (S63)) (a0_2 : Int) (a1 : Int) (r : Bool) (w : World) (hr0_0 : Kd.C k66 w A0_0 l0_0.length l0_0) (hc0_0 : l0_0.length ≤ c0_0) (hr0_1 : Kd.C k63 w A0_1 l0_1.length l0_1) (hc0_1 : l0_1.length ≤ c0_1) (hG : GV w) (h : macadamlaw04_GangFirst.f k l0_0 l0_1 a0_2 a1 = some r) :
  Calls Tryd.prog 12 #[.agg #[.slice A0_0 l0_0.length c0_0, .slice A0_1 l0_1.length c0_1, .int .i64 a0_2], .int .i64 a1] w fun e w' => e = .returned (.bool r) ∧ Below w.heap.size w w' := by
 have hu25 := Tryd.underlying25
 have HR0_0 := Aside0.mk hr0_0
 have HC0_0 := Aside0.mk hc0_0
 clear hr0_0 hc0_0
 have HR0_1 := Aside0.mk hr0_1
 have HC0_1 := Aside0.mk hc0_1
 clear hr0_1 hc0_1
 have HB := Aside0.mk (Below.refl w.heap.size w)
 have HG := Aside0.mk hG
 clear hG
 have H : ((gang_First.f l0_0 l0_1 a0_2).bind fun bt652 => ((macadamlaw04_sound.f k l0_0 l0_1 a0_2).bind fun t654 => (if t654 = true then (if bt652.2 = 0 then ((macadamref00_Amid.f bt652.1 0 (wrap64 ((l0_0.length : Int) - 1))).bind fun t656 => (macadamlaw04_GangFirst.j0 k a1 bt652.1 bt652.2 (!t656) l0_0 l0_1 a0_2)) else (if bt652.2 = 4 then (if bt652.1 = 0 then ((macadamref00_Amid.f bt652.1 0 (wrap64 ((l0_0.length : Int) - 1))).bind fun t657 => (macadamlaw04_GangFirst.j0 k a1 bt652.1 bt652.2 (!t657) l0_0 l0_1 a0_2)) else (macadamlaw04_GangFirst.j0 k a1 bt652.1 bt652.2 true l0_0 l0_1 a0_2)) else (macadamlaw04_GangFirst.j0 k a1 bt652.1 bt652.2 true l0_0 l0_1 a0_2))) else (if bt652.2 = 40 then (if bt652.1 = 0 then ((macadamlaw04_shovelled.f).bind fun t655 => (some t655)) else (some false)) else (some false))))) = some r := h
 clear h
 replace H := Option.bind_eq_some_iff.mp H
 obtain ⟨⟨t652, t653⟩, A30, H⟩ := H
 replace H : ((macadamlaw04_sound.f k l0_0 l0_1 a0_2).bind fun t654 => (if t654 = true then (if t653 = 0 then ((macadamref00_Amid.f t652 0 (wrap64 ((l0_0.length : Int) - 1))).bind fun t656 => (macadamlaw04_GangFirst.j0 k a1 t652 t653 (!t656) l0_0 l0_1 a0_2)) else (if t653 = 4 then (if t652 = 0 then ((macadamref00_Amid.f t652 0 (wrap64 ((l0_0.length : Int) - 1))).bind fun t657 => (macadamlaw04_GangFirst.j0 k a1 t652 t653 (!t657) l0_0 l0_1 a0_2)) else (macadamlaw04_GangFirst.j0 k a1 t652 t653 true l0_0 l0_1 a0_2)) else (macadamlaw04_GangFirst.j0 k a1 t652 t653 true l0_0 l0_1 a0_2))) else (if t653 = 40 then (if t652 = 0 then ((macadamlaw04_shovelled.f).bind fun t655 => (some t655)) else (some false)) else (some false)))) = some r := H
 have A3 := Aside0.mk A30
 clear A30
 replace H := Option.bind_eq_some_iff.mp H
 obtain ⟨t654, A40, H⟩ := H
 replace H : (if t654 = true then (if t653 = 0 then ((macadamref00_Amid.f t652 0 (wrap64 ((l0_0.length : Int) - 1))).bind fun t656 => (macadamlaw04_GangFirst.j0 k a1 t652 t653 (!t656) l0_0 l0_1 a0_2)) else (if t653 = 4 then (if t652 = 0 then ((macadamref00_Amid.f t652 0 (wrap64 ((l0_0.length : Int) - 1))).bind fun t657 => (macadamlaw04_GangFirst.j0 k a1 t652 t653 (!t657) l0_0 l0_1 a0_2)) else (macadamlaw04_GangFirst.j0 k a1 t652 t653 true l0_0 l0_1 a0_2)) else (macadamlaw04_GangFirst.j0 k a1 t652 t653 true l0_0 l0_1 a0_2))) else (if t653 = 40 then (if t652 = 0 then ((macadamlaw04_shovelled.f).bind fun t655 => (some t655)) else (some false)) else (some false))) = some r := H
 have A4 := Aside0.mk A40
 clear A40
 by_cases c5 : t654 = true
 ·subst c5
  have H1 : (if t653 = 0 then ((macadamref00_Amid.f t652 0 (wrap64 ((l0_0.length : Int) - 1))).bind fun t656 => (macadamlaw04_GangFirst.j0 k a1 t652 t653 (!t656) l0_0 l0_1 a0_2)) else (if t653 = 4 then (if t652 = 0 then ((macadamref00_Amid.f t652 0 (wrap64 ((l0_0.length : Int) - 1))).bind fun t657 => (macadamlaw04_GangFirst.j0 k a1 t652 t653 (!t657) l0_0 l0_1 a0_2)) else (macadamlaw04_GangFirst.j0 k a1 t652 t653 true l0_0 l0_1 a0_2)) else (macadamlaw04_GangFirst.j0 k a1 t652 t653 true l0_0 l0_1 a0_2))) = some r := by rw [if_pos rfl] at H; exact H
  clear H
  have H := H1
  clear H1
  have HC6 := Aside0.mk H
  clear H
  go_enter Tryd.func12, Tryd.ntmps12
  go_upto_region 4 with (first | ((with_reducible refine gate_dst (N := 2) rfl ?_); (try (refine gate_guard (by rfl) ?_; dsimp only)); refine bx 2 #[.slice A0_0 l0_0.length c0_0, .slice A0_1 l0_1.length c0_1, .int .i64 a0_2] 25 ?_; intro gb651 hg w7 hbox hb; have n0_ := Aside0.mk (below_step (bw HB) hb); have n1_ := Aside0.mk (hbox); have n2_ := Aside0.mk (bz (bw HB) hg); have n3_ := Aside0.mk (bz (bw HB) hg); clear HB; have HB := n0_; have BK651 := n1_; have GW651 := n2_; have GE651 := n3_; clear n0_ n1_ n2_ n3_; clear hb hbox hg; obtain ⟨hcz8_0, hcz8_1, hcz8_2, hfz8_0, hfz8_1, hfz8_2⟩ := b3 BK651) | ((with_reducible refine gate_callee (f := 36) rfl ?_); refine gL (some 15) Tryd.func36 #[.agg #[.slice A0_0 l0_0.length c0_0, .slice A0_1 l0_1.length c0_1, .int .i64 a0_2]] ?_; (with_reducible refine (gang_First.calls _ _ l0_0 _ _ l0_1 a0_2 t652 t653 _ ?side1 ?side2 ?side3 ?side4 ?side5 A3.out).mono ?_); (case side1 => repeat (first | exact (Kd.C_below HR0_0.out HB.out) | (with_reducible refine Kd.C_alloc ?_ _) | (with_reducible refine Kd.C_drewN ?_ _) | (with_reducible refine Kd.C_drew ?_))); (case side2 => exact HC0_0.out); (case side3 => repeat (first | exact (Kd.C_below HR0_1.out HB.out) | (with_reducible refine Kd.C_alloc ?_ _) | (with_reducible refine Kd.C_drewN ?_ _) | (with_reducible refine Kd.C_drew ?_))); (case side4 => exact HC0_1.out); (case side5 => exact gv_below HG.out (bw1 HB GE651)); rintro e w9 ⟨rfl, hb⟩; refine ⟨_, rfl, ?_⟩; have n0_ := Aside0.mk (blk_below (bm BK651) hb); have n1_ := Aside0.mk (below_step (bw1 HB GE651) hb); clear BK651; clear HB; have BK651 := n0_; have HB := n1_; clear n0_ n1_; (try clear hb); (try clear hb2); (try clear hk); (try clear hi); obtain ⟨hcz10_0, hcz10_1, hcz10_2, hfz10_0, hfz10_1, hfz10_2⟩ := b3 BK651) | ((with_reducible refine gate_callee (f := 38) rfl ?_); refine gL (some 19) Tryd.func38 #[.agg #[.slice A0_0 l0_0.length c0_0, .slice A0_1 l0_1.length c0_1, .int .i64 a0_2]] ?_; (with_reducible refine (macadamlaw04_sound.calls k _ _ l0_0 _ _ l0_1 a0_2 true _ ?side1 ?side2 ?side3 ?side4 A4.out).mono ?_); (case side1 => repeat (first | exact (Kd.C_below HR0_0.out HB.out) | (with_reducible refine Kd.C_alloc ?_ _) | (with_reducible refine Kd.C_drewN ?_ _) | (with_reducible refine Kd.C_drew ?_))); (case side2 => exact HC0_0.out); (case side3 => repeat (first | exact (Kd.C_below HR0_1.out HB.out) | (with_reducible refine Kd.C_alloc ?_ _) | (with_reducible refine Kd.C_drewN ?_ _) | (with_reducible refine Kd.C_drew ?_))); (case side4 => exact HC0_1.out); rintro e w11 ⟨rfl, hb⟩; refine ⟨_, rfl, ?_⟩; have n0_ := Aside0.mk (blk_below (bm BK651) hb); have n1_ := Aside0.mk (below_step (bw1 HB GE651) hb); clear BK651; clear HB; have BK651 := n0_; have HB := n1_; clear n0_ n1_; (try clear hb); (try clear hb2); (try clear hk); (try clear hi)))
  (try simp only [Act.put, List.setIfInBounds_toArray, List.set_cons_zero, List.set_cons_succ])
  go_cut [48] (fun v48 wc => ∃ (kq : Nat) (x48_5 : Bool), v48 = .bool x48_5 ∧ Aside0 (macadamlaw04_GangFirst.j0 kq a1 t652 t653 x48_5 l0_0 l0_1 a0_2 = some r) ∧ Aside0 (kq ≤ k) ∧ Aside0 (wc.heap[gb651]? = some (.cells #[(.slice A0_0 l0_0.length c0_0), (.slice A0_1 l0_1.length c0_1), .int .i64 a0_2] 25 (0, 0))) ∧ Aside0 (Below w.heap.size w wc))
  case first =>
   have H := HC6.out
   clear HC6
   by_cases c12 : t653 = 0
   ·rw [if_pos c12] at H
    have c12b0 : (t653 == 0) = true := beq_iff_eq.mpr c12
    have c12b1 : (t653 != 0) = false := bne_eq_false_iff_eq.mpr c12
    clear c12
    (first | rw [c12b0] | (simp only [i64_w, i32_w]; rw [c12b0]) | skip)
    replace H := Option.bind_eq_some_iff.mp H
    obtain ⟨t656, A130, H⟩ := H
    replace H : (macadamlaw04_GangFirst.j0 k a1 t652 t653 (!t656) l0_0 l0_1 a0_2) = some r := H
    have A13 := Aside0.mk A130
    clear A130
    have H' := Aside0.mk H
    clear H
    obtain ⟨hcz14_0, hcz14_1, hcz14_2, hfz14_0, hfz14_1, hfz14_2⟩ := b3 BK651
    go_wp2_with (first | (go_at_call 45; (with_reducible refine (macadamref00_Amid.calls t652 0 (wrap64 ((l0_0.length : Int) - 1)) t656 _ A13.out).mono ?_); rintro e w' ⟨rfl, ⟨nd, rfl⟩⟩))
    go_meet
    case rel => exact ⟨_, (!t656), (by first | rfl | (simp; done) | (simp [*]; done)), H', ⟨by first | omega | exact Nat.le_refl _⟩, ⟨bm BK651⟩, ⟨bw1 HB GE651⟩⟩
   ·rw [if_neg c12] at H
    have c12b0 : (t653 == 0) = false := beq_eq_false_iff_ne.mpr c12
    have c12b1 : (t653 != 0) = true := bne_iff_ne.mpr c12
    (first | rw [c12b0] | (simp only [i64_w, i32_w]; rw [c12b0]) | skip)
    by_cases c15 : t653 = 4
    ·rw [if_pos c15] at H
     have c15b0 : (t653 == 4) = true := beq_iff_eq.mpr c15
     have c15b1 : (t653 != 4) = false := bne_eq_false_iff_eq.mpr c15
     clear c15
     by_cases c16 : t652 = 0
     ·rw [if_pos c16] at H
      have c16b0 : (t652 == 0) = true := beq_iff_eq.mpr c16
      have c16b1 : (t652 != 0) = false := bne_eq_false_iff_eq.mpr c16
      clear c16
      replace H := Option.bind_eq_some_iff.mp H
      obtain ⟨t657, A170, H⟩ := H
      replace H : (macadamlaw04_GangFirst.j0 k a1 t652 t653 (!t657) l0_0 l0_1 a0_2) = some r := H
      have A17 := Aside0.mk A170
      clear A170
      have H' := Aside0.mk H
      clear H
      obtain ⟨hcz18_0, hcz18_1, hcz18_2, hfz18_0, hfz18_1, hfz18_2⟩ := b3 BK651
      go_wp2_with (first | (go_at_call 45; (with_reducible refine (macadamref00_Amid.calls t652 0 (wrap64 ((l0_0.length : Int) - 1)) t657 _ A17.out).mono ?_); rintro e w' ⟨rfl, ⟨nd, rfl⟩⟩))
      go_meet
      case rel => exact ⟨_, (!t657), (by first | rfl | (simp; done) | (simp [*]; done)), H', ⟨by first | omega | exact Nat.le_refl _⟩, ⟨bm BK651⟩, ⟨bw1 HB GE651⟩⟩
     ·rw [if_neg c16] at H
      have c16b0 : (t652 == 0) = false := beq_eq_false_iff_ne.mpr c16
      have c16b1 : (t652 != 0) = true := bne_iff_ne.mpr c16
      have H' := Aside0.mk H
      clear H
      go_wp2
      go_meet
      case rel => exact ⟨_, (true), (by first | rfl | (simp; done) | (simp [*]; done)), H', ⟨by first | omega | exact Nat.le_refl _⟩, ⟨bm BK651⟩, ⟨bw1 HB GE651⟩⟩
    ·rw [if_neg c15] at H
     have c15b0 : (t653 == 4) = false := beq_eq_false_iff_ne.mpr c15
     have c15b1 : (t653 != 4) = true := bne_iff_ne.mpr c15
     have H' := Aside0.mk H
     clear H
     go_wp2
     go_meet
     case rel => exact ⟨_, (true), (by first | rfl | (simp; done) | (simp [*]; done)), H', ⟨by first | omega | exact Nat.le_refl _⟩, ⟨bm BK651⟩, ⟨bw1 HB GE651⟩⟩
  case rest =>
   clear HC6
   try clear c1
   try clear p2
   try clear c3
   try clear c5
   try clear p6
   try clear c12
   try clear c12b0
   try clear c12b1
   try clear c15
   try clear c15b0
   try clear c15b1
   try clear c16
   try clear c16b0
   try clear c16b1
   try clear hcz10_0
   try clear hcz10_1
   try clear hcz10_2
   try clear hcz14_0
   try clear hcz14_1
   try clear hcz14_2
   try clear hcz18_0
   try clear hcz18_1
   try clear hcz18_2
   try clear hcz8_0
   try clear hcz8_1
   try clear hcz8_2
   try clear hfz10_0
   try clear hfz10_1
   try clear hfz10_2
   try clear hfz14_0
   try clear hfz14_1
   try clear hfz14_2
   try clear hfz18_0
   try clear hfz18_1
   try clear hfz18_2
   try clear hfz8_0
   try clear hfz8_1
   try clear hfz8_2
   obtain ⟨kq, x48_5, rfl, HA, HJ5, BK651, HB⟩ := hcut
   cases kq with
   | zero => exact absurd HA.out (by simp [macadamlaw04_GangFirst.j0])
   | succ kj5 =>
    have H := HA.out
    clear HA
    simp only [macadamlaw04_GangFirst.j0] at H
    by_cases c19 : x48_5 = true
    ·subst c19
     have H1 : (some false) = some r := by rw [if_pos rfl] at H; exact H
     clear H
     have H := H1
     clear H1
     obtain rfl := Option.some.inj H
     go_wp2
     go_ret
     exact ⟨by first | rfl | (simp [errW_none, errW_some] <;> rfl) | (simp [*, errW_none, errW_some] <;> rfl), bw1 HB GE651⟩
    ·replace c19 := Bool.eq_false_iff.mpr c19
     subst c19
     have H1 : ((macadamref00_Wrap.f a1 (l0_0.length : Int)).bind fun t658 => ((alone_given.f l0_0 l0_1 a0_2 t658).bind fun bt659 => ((gang_Most.f bt659.1 l0_1 bt659.2).bind fun bt666 => ((alone_given.f l0_0 l0_1 a0_2 t652).bind fun bt670 => ((gang_Most.f bt670.1 l0_1 bt670.2).bind fun bt677 => ((macadamref00_Like.f kj5 bt666.1 (([t658] : List Int))).bind fun t684 => (if bt666.2 = 0 then (if bt677.2 = 0 then (if t684 = true then (macadamlaw04_GangFirst.j1 kj5 t652 t653 t658 bt677.1 t684 false) else (macadamlaw04_GangFirst.j1 kj5 t652 t653 t658 bt677.1 t684 ((bt666.1.length : Int) != 0))) else (macadamlaw04_GangFirst.j1 kj5 t652 t653 t658 bt677.1 t684 true)) else (macadamlaw04_GangFirst.j1 kj5 t652 t653 t658 bt677.1 t684 true)))))))) = some r := by rw [if_neg (show ¬ (false = true) by decide)] at H; exact H
     clear H
     have H := H1
     clear H1
     replace H := Option.bind_eq_some_iff.mp H
     obtain ⟨t658, A200, H⟩ := H
     replace H : ((alone_given.f l0_0 l0_1 a0_2 t658).bind fun bt659 => ((gang_Most.f bt659.1 l0_1 bt659.2).bind fun bt666 => ((alone_given.f l0_0 l0_1 a0_2 t652).bind fun bt670 => ((gang_Most.f bt670.1 l0_1 bt670.2).bind fun bt677 => ((macadamref00_Like.f kj5 bt666.1 (([t658] : List Int))).bind fun t684 => (if bt666.2 = 0 then (if bt677.2 = 0 then (if t684 = true then (macadamlaw04_GangFirst.j1 kj5 t652 t653 t658 bt677.1 t684 false) else (macadamlaw04_GangFirst.j1 kj5 t652 t653 t658 bt677.1 t684 ((bt666.1.length : Int) != 0))) else (macadamlaw04_GangFirst.j1 kj5 t652 t653 t658 bt677.1 t684 true)) else (macadamlaw04_GangFirst.j1 kj5 t652 t653 t658 bt677.1 t684 true))))))) = some r := H
     have A20 := Aside0.mk A200
     clear A200
     replace H := Option.bind_eq_some_iff.mp H
     obtain ⟨⟨t659, t665⟩, A210, H⟩ := H
     replace H : ((gang_Most.f t659 l0_1 t665).bind fun bt666 => ((alone_given.f l0_0 l0_1 a0_2 t652).bind fun bt670 => ((gang_Most.f bt670.1 l0_1 bt670.2).bind fun bt677 => ((macadamref00_Like.f kj5 bt666.1 (([t658] : List Int))).bind fun t684 => (if bt666.2 = 0 then (if bt677.2 = 0 then (if t684 = true then (macadamlaw04_GangFirst.j1 kj5 t652 t653 t658 bt677.1 t684 false) else (macadamlaw04_GangFirst.j1 kj5 t652 t653 t658 bt677.1 t684 ((bt666.1.length : Int) != 0))) else (macadamlaw04_GangFirst.j1 kj5 t652 t653 t658 bt677.1 t684 true)) else (macadamlaw04_GangFirst.j1 kj5 t652 t653 t658 bt677.1 t684 true)))))) = some r := H
     have A21 := Aside0.mk A210
     clear A210
     replace H := Option.bind_eq_some_iff.mp H
     obtain ⟨⟨t666, t669⟩, A220, H⟩ := H
     replace H : ((alone_given.f l0_0 l0_1 a0_2 t652).bind fun bt670 => ((gang_Most.f bt670.1 l0_1 bt670.2).bind fun bt677 => ((macadamref00_Like.f kj5 t666 (([t658] : List Int))).bind fun t684 => (if t669 = 0 then (if bt677.2 = 0 then (if t684 = true then (macadamlaw04_GangFirst.j1 kj5 t652 t653 t658 bt677.1 t684 false) else (macadamlaw04_GangFirst.j1 kj5 t652 t653 t658 bt677.1 t684 ((t666.length : Int) != 0))) else (macadamlaw04_GangFirst.j1 kj5 t652 t653 t658 bt677.1 t684 true)) else (macadamlaw04_GangFirst.j1 kj5 t652 t653 t658 bt677.1 t684 true))))) = some r := H
     have A22 := Aside0.mk A220
     clear A220
     replace H := Option.bind_eq_some_iff.mp H
     obtain ⟨⟨t670, t676⟩, A230, H⟩ := H
     replace H : ((gang_Most.f t670 l0_1 t676).bind fun bt677 => ((macadamref00_Like.f kj5 t666 (([t658] : List Int))).bind fun t684 => (if t669 = 0 then (if bt677.2 = 0 then (if t684 = true then (macadamlaw04_GangFirst.j1 kj5 t652 t653 t658 bt677.1 t684 false) else (macadamlaw04_GangFirst.j1 kj5 t652 t653 t658 bt677.1 t684 ((t666.length : Int) != 0))) else (macadamlaw04_GangFirst.j1 kj5 t652 t653 t658 bt677.1 t684 true)) else (macadamlaw04_GangFirst.j1 kj5 t652 t653 t658 bt677.1 t684 true)))) = some r := H
     have A23 := Aside0.mk A230
     clear A230
     replace H := Option.bind_eq_some_iff.mp H
     obtain ⟨⟨t677, t680⟩, A240, H⟩ := H
     replace H : ((macadamref00_Like.f kj5 t666 (([t658] : List Int))).bind fun t684 => (if t669 = 0 then (if t680 = 0 then (if t684 = true then (macadamlaw04_GangFirst.j1 kj5 t652 t653 t658 t677 t684 false) else (macadamlaw04_GangFirst.j1 kj5 t652 t653 t658 t677 t684 ((t666.length : Int) != 0))) else (macadamlaw04_GangFirst.j1 kj5 t652 t653 t658 t677 t684 true)) else (macadamlaw04_GangFirst.j1 kj5 t652 t653 t658 t677 t684 true))) = some r := H
     have A24 := Aside0.mk A240
     clear A240
     obtain ⟨y681, hy681⟩ : ∃ y_ : List Int, y_ = (([t658] : List Int)) := ⟨_, rfl⟩
     replace H : ((macadamref00_Like.f kj5 t666 y681).bind fun t684 => (if t669 = 0 then (if t680 = 0 then (if t684 = true then (macadamlaw04_GangFirst.j1 kj5 t652 t653 t658 t677 t684 false) else (macadamlaw04_GangFirst.j1 kj5 t652 t653 t658 t677 t684 ((t666.length : Int) != 0))) else (macadamlaw04_GangFirst.j1 kj5 t652 t653 t658 t677 t684 true)) else (macadamlaw04_GangFirst.j1 kj5 t652 t653 t658 t677 t684 true))) = some r := by first | (rw [hy681]; with_reducible exact H) | (have H2_ := (Option.bind_some _ _).symm.trans H; rw [hy681]; with_reducible exact H2_) | (have H2_ := (Option.bind_some _ _).symm.trans H; with_reducible exact H2_) | with_reducible exact H | (rw [hy681]; exact H) | exact H
     have Ny681 := Aside0.mk hy681
     clear hy681
     replace H := Option.bind_eq_some_iff.mp H
     obtain ⟨t684, A250, H⟩ := H
     replace H : (if t669 = 0 then (if t680 = 0 then (if t684 = true then (macadamlaw04_GangFirst.j1 kj5 t652 t653 t658 t677 t684 false) else (macadamlaw04_GangFirst.j1 kj5 t652 t653 t658 t677 t684 ((t666.length : Int) != 0))) else (macadamlaw04_GangFirst.j1 kj5 t652 t653 t658 t677 t684 true)) else (macadamlaw04_GangFirst.j1 kj5 t652 t653 t658 t677 t684 true)) = some r := H
     have A25 := Aside0.mk A250
     clear A250
     have HC26 := Aside0.mk H
     clear H
     obtain ⟨hcz27_0, hcz27_1, hcz27_2, hfz27_0, hfz27_1, hfz27_2⟩ := b3 BK651
     go_upto_region 10 with (first | ((with_reducible refine gate_callee (f := 39) rfl ?_); refine gL (some 53) Tryd.func39 #[.int .i64 a1, .int .i64 (l0_0.length : Int)] ?_; (with_reducible refine (macadamref00_Wrap.calls a1 (l0_0.length : Int) t658 _ A20.out).mono ?_); rintro e w' ⟨rfl, ⟨nd, rfl⟩⟩; refine ⟨_, rfl, ?_⟩) | ((with_reducible refine gate_callee (f := 55) rfl ?_); refine gL (some 57) Tryd.func55 #[.agg #[.slice A0_0 l0_0.length c0_0, .slice A0_1 l0_1.length c0_1, .int .i64 a0_2], .int .i64 t658] ?_; (with_reducible refine (alone_given.calls _ _ l0_0 _ _ l0_1 a0_2 t658 t659 t665 _ ?side1 ?side2 ?side3 ?side4 A21.out).mono ?_); (case side1 => repeat (first | exact (Kd.C_below HR0_0.out (bw1 HB GE651)) | (with_reducible refine Kd.C_alloc ?_ _) | (with_reducible refine Kd.C_drewN ?_ _) | (with_reducible refine Kd.C_drew ?_))); (case side2 => exact HC0_0.out); (case side3 => repeat (first | exact (Kd.C_below HR0_1.out (bw1 HB GE651)) | (with_reducible refine Kd.C_alloc ?_ _) | (with_reducible refine Kd.C_drewN ?_ _) | (with_reducible refine Kd.C_drew ?_))); (case side4 => exact HC0_1.out); rintro e w28 ⟨v660, rfl, ho0, hb⟩; refine ⟨_, rfl, ?_⟩; have n0_ := Aside0.mk (Kd.V_lower (Kd.V_mono (ok' := fun k_ => k_ ≠ gb651) ho0 (fun k_ hk_ => (Kd.freshB (g := gb651) (o := .cells #[.slice A0_0 l0_0.length c0_0, .slice A0_1 l0_1.length c0_1, .int .i64 a0_2] 25 (0, 0)) (bm BK651) k_ hk_))) (below_size (bw1 HB GE651))); have n1_ := Aside0.mk (blk_below (bm BK651) hb); have n2_ := Aside0.mk (below_step (bw1 HB GE651) hb); clear BK651; clear HB; have HO661 := n0_; have BK651 := n1_; have HB := n2_; clear n0_ n1_ n2_; (try clear hb); (try clear hb2); (try clear hk); (try clear hi); (try clear ho0); obtain ⟨Ao29, co29, eo29⟩ := Kd.V_slice HO661.out; subst eo29) | ((with_reducible refine gate_callee (f := 34) rfl ?_); refine gL (some 58) Tryd.func34 #[.agg #[.slice Ao29 t659.length co29, .slice A0_1 l0_1.length c0_1, .int .i64 t665]] ?_; (with_reducible refine (gang_Most.calls _ _ t659 _ _ l0_1 t665 t666 t669 _ ?side1 ?side2 ?side3 ?side4 ?side5 A22.out).mono ?_); (case side1 => repeat (first | exact (Kd.V_reads' HO661.out).2.2 | (with_reducible refine Kd.C_alloc ?_ _) | (with_reducible refine Kd.C_drewN ?_ _) | (with_reducible refine Kd.C_drew ?_))); (case side2 => exact (Kd.V_reads' HO661.out).2.1); (case side3 => repeat (first | exact (Kd.C_below HR0_1.out HB.out) | (with_reducible refine Kd.C_alloc ?_ _) | (with_reducible refine Kd.C_drewN ?_ _) | (with_reducible refine Kd.C_drew ?_))); (case side4 => exact HC0_1.out); (case side5 => exact gv_below HG.out (bw1 HB GE651)); rintro e w30 ⟨v667, rfl, ho0, hb⟩; refine ⟨_, rfl, ?_⟩; have n0_ := Aside0.mk (Kd.V_below (by (with_reducible repeat (first | apply Kd.V_alloc | apply Kd.V_drewN | apply Kd.V_drew)); exact HO661.out) hb); have n1_ := Aside0.mk (Kd.V_lower (Kd.V_mono (ok' := fun k_ => k_ ≠ gb651) ho0 (fun k_ hk_ => (Kd.freshB (g := gb651) (o := .cells #[.slice A0_0 l0_0.length c0_0, .slice A0_1 l0_1.length c0_1, .int .i64 a0_2] 25 (0, 0)) (bm BK651) k_ hk_))) (below_size (bw1 HB GE651))); have n2_ := Aside0.mk (blk_below (bm BK651) hb); have n3_ := Aside0.mk (below_step (bw1 HB GE651) hb); clear HO661; clear BK651; clear HB; have HO661 := n0_; have HO668 := n1_; have BK651 := n2_; have HB := n3_; clear n0_ n1_ n2_ n3_; (try clear hb); (try clear hb2); (try clear hk); (try clear hi); (try clear ho0); obtain ⟨hcz31_0, hcz31_1, hcz31_2, hfz31_0, hfz31_1, hfz31_2⟩ := b3 BK651) | ((with_reducible refine gate_callee (f := 55) rfl ?_); refine gL (some 64) Tryd.func55 #[.agg #[.slice A0_0 l0_0.length c0_0, .slice A0_1 l0_1.length c0_1, .int .i64 a0_2], .int .i64 t652] ?_; (with_reducible refine (alone_given.calls _ _ l0_0 _ _ l0_1 a0_2 t652 t670 t676 _ ?side1 ?side2 ?side3 ?side4 A23.out).mono ?_); (case side1 => repeat (first | exact (Kd.C_below HR0_0.out HB.out) | (with_reducible refine Kd.C_alloc ?_ _) | (with_reducible refine Kd.C_drewN ?_ _) | (with_reducible refine Kd.C_drew ?_))); (case side2 => exact HC0_0.out); (case side3 => repeat (first | exact (Kd.C_below HR0_1.out HB.out) | (with_reducible refine Kd.C_alloc ?_ _) | (with_reducible refine Kd.C_drewN ?_ _) | (with_reducible refine Kd.C_drew ?_))); (case side4 => exact HC0_1.out); rintro e w32 ⟨v671, rfl, ho0, hb⟩; refine ⟨_, rfl, ?_⟩; have n0_ := Aside0.mk (Kd.V_below (by (with_reducible repeat (first | apply Kd.V_alloc | apply Kd.V_drewN | apply Kd.V_drew)); exact HO661.out) hb); have n1_ := Aside0.mk (Kd.V_below (by (with_reducible repeat (first | apply Kd.V_alloc | apply Kd.V_drewN | apply Kd.V_drew)); exact HO668.out) hb); have n2_ := Aside0.mk (Kd.V_lower (Kd.V_mono (ok' := fun k_ => k_ ≠ gb651) ho0 (fun k_ hk_ => (Kd.freshB (g := gb651) (o := .cells #[.slice A0_0 l0_0.length c0_0, .slice A0_1 l0_1.length c0_1, .int .i64 a0_2] 25 (0, 0)) (bm BK651) k_ hk_))) (below_size (bw1 HB GE651))); have n3_ := Aside0.mk (blk_below (bm BK651) hb); have n4_ := Aside0.mk (below_step (bw1 HB GE651) hb); clear HO661; clear HO668; clear BK651; clear HB; have HO661 := n0_; have HO668 := n1_; have HO672 := n2_; have BK651 := n3_; have HB := n4_; clear n0_ n1_ n2_ n3_ n4_; (try clear hb); (try clear hb2); (try clear hk); (try clear hi); (try clear ho0); obtain ⟨Ao33, co33, eo33⟩ := Kd.V_slice HO672.out; subst eo33) | ((with_reducible refine gate_callee (f := 34) rfl ?_); refine gL (some 65) Tryd.func34 #[.agg #[.slice Ao33 t670.length co33, .slice A0_1 l0_1.length c0_1, .int .i64 t676]] ?_; (with_reducible refine (gang_Most.calls _ _ t670 _ _ l0_1 t676 t677 t680 _ ?side1 ?side2 ?side3 ?side4 ?side5 A24.out).mono ?_); (case side1 => repeat (first | exact (Kd.V_reads' HO672.out).2.2 | (with_reducible refine Kd.C_alloc ?_ _) | (with_reducible refine Kd.C_drewN ?_ _) | (with_reducible refine Kd.C_drew ?_))); (case side2 => exact (Kd.V_reads' HO672.out).2.1); (case side3 => repeat (first | exact (Kd.C_below HR0_1.out HB.out) | (with_reducible refine Kd.C_alloc ?_ _) | (with_reducible refine Kd.C_drewN ?_ _) | (with_reducible refine Kd.C_drew ?_))); (case side4 => exact HC0_1.out); (case side5 => exact gv_below HG.out (bw1 HB GE651)); rintro e w34 ⟨v678, rfl, ho0, hb⟩; refine ⟨_, rfl, ?_⟩; have n0_ := Aside0.mk (Kd.V_below (by (with_reducible repeat (first | apply Kd.V_alloc | apply Kd.V_drewN | apply Kd.V_drew)); exact HO661.out) hb); have n1_ := Aside0.mk (Kd.V_below (by (with_reducible repeat (first | apply Kd.V_alloc | apply Kd.V_drewN | apply Kd.V_drew)); exact HO668.out) hb); have n2_ := Aside0.mk (Kd.V_below (by (with_reducible repeat (first | apply Kd.V_alloc | apply Kd.V_drewN | apply Kd.V_drew)); exact HO672.out) hb); have n3_ := Aside0.mk (Kd.V_lower (Kd.V_mono (ok' := fun k_ => k_ ≠ gb651) ho0 (fun k_ hk_ => (Kd.freshB (g := gb651) (o := .cells #[.slice A0_0 l0_0.length c0_0, .slice A0_1 l0_1.length c0_1, .int .i64 a0_2] 25 (0, 0)) (bm BK651) k_ hk_))) (below_size (bw1 HB GE651))); have n4_ := Aside0.mk (blk_below (bm BK651) hb); have n5_ := Aside0.mk (below_step (bw1 HB GE651) hb); clear HO661; clear HO668; clear HO672; clear BK651; clear HB; have HO661 := n0_; have HO668 := n1_; have HO672 := n2_; have HO679 := n3_; have BK651 := n4_; have HB := n5_; clear n0_ n1_ n2_ n3_ n4_ n5_; (try clear hb); (try clear hb2); (try clear hk); (try clear hi); (try clear ho0)) | ((with_reducible refine gate_dst (N := 70) rfl ?_); (try (refine gate_guard (by rfl) ?_; dsimp only)); refine Kd.R_lit (Kd.int .i64) _ 3 ?hg (N := 70) ?hd (xs := ([t658] : List Int)) (inner := [.int .i64 t658]) (ok := fun _ => True) (okp := fun _ => True) ?hr ?hp (fun _ hk => hk) trivial (Below.refl _ _) (Nat.le_refl _) (by simp) ?_; (case hd => rfl); (case hg => rfl); (case hr => first | (go_simp; done) | (go_simp; rfl)); (case hp => exact (Reps.one (show Kd.M (Kd.int .i64) _ _ _ t658 [.int .i64 t658] from rfl) (Reps.none _ _))); intro v682 w35 ho36 hb hg_ hnew_; clear hg_ hnew_; (first | rw [← Ny681.out] at ho36 | (simp only [Int.reduceToNat] at ho36; rw [← Ny681.out] at ho36)); have n0_ := Aside0.mk (Kd.V_elder' (by (with_reducible repeat (first | apply Kd.V_alloc | apply Kd.V_drewN | apply Kd.V_drew)); exact HO661.out) (Kd.R_base ho36) hb); have n1_ := Aside0.mk (Kd.V_elder' (by (with_reducible repeat (first | apply Kd.V_alloc | apply Kd.V_drewN | apply Kd.V_drew)); exact HO668.out) (Kd.R_base ho36) hb); have n2_ := Aside0.mk (Kd.V_elder' (by (with_reducible repeat (first | apply Kd.V_alloc | apply Kd.V_drewN | apply Kd.V_drew)); exact HO672.out) (Kd.R_base ho36) hb); have n3_ := Aside0.mk (Kd.V_elder' (by (with_reducible repeat (first | apply Kd.V_alloc | apply Kd.V_drewN | apply Kd.V_drew)); exact HO679.out) (Kd.R_base ho36) hb); have n4_ := Aside0.mk (Kd.R_lower ho36 (below_size (bw1 HB GE651))); have n5_ := Aside0.mk (blk_below (bm BK651) hb); have n6_ := Aside0.mk (below_step (bw1 HB GE651) hb); clear HO661; clear HO668; clear HO672; clear HO679; clear BK651; clear HB; have HO661 := n0_; have HO668 := n1_; have HO672 := n2_; have HO679 := n3_; have HO683 := n4_; have BK651 := n5_; have HB := n6_; clear n0_ n1_ n2_ n3_ n4_ n5_ n6_; clear hb ho36; obtain ⟨Ao37, co37, eo37⟩ := Kd.V_slice HO668.out; subst eo37; obtain ⟨Ao38, co38, eo38⟩ := Kd.R_slice HO683.out; subst eo38) | ((with_reducible refine gate_callee (f := 17) rfl ?_); refine gL (some 71) Tryd.func17 #[.slice Ao37 t666.length co37, .slice Ao38 y681.length co38] ?_; (with_reducible refine (macadamref00_Like.calls kj5 _ _ t666 _ _ y681 t684 _ ?side1 ?side2 ?side3 ?side4 A25.out).mono ?_); (case side1 => repeat (first | exact (Kd.V_reads' HO668.out).2.2 | (with_reducible refine Kd.C_alloc ?_ _) | (with_reducible refine Kd.C_drewN ?_ _) | (with_reducible refine Kd.C_drew ?_))); (case side2 => exact (Kd.V_reads' HO668.out).2.1); (case side3 => repeat (first | exact (Kd.R_reads' HO683.out).2.2 | (with_reducible refine Kd.C_alloc ?_ _) | (with_reducible refine Kd.C_drewN ?_ _) | (with_reducible refine Kd.C_drew ?_))); (case side4 => exact (Kd.R_reads' HO683.out).2.1); rintro e w' ⟨rfl, ⟨nd, rfl⟩⟩; refine ⟨_, rfl, ?_⟩))
     (try simp only [Act.put, List.setIfInBounds_toArray, List.set_cons_zero, List.set_cons_succ])
     go_cut [86] (fun v86 wc => ∃ (kq : Nat) (x86_25 : Bool), v86 = .bool x86_25 ∧ Aside0 (macadamlaw04_GangFirst.j1 kq t652 t653 t658 t677 t684 x86_25 = some r) ∧ Aside0 (kq ≤ kj5) ∧ Aside0 (Kd.V (Kd.int .i64) 3 wc w.heap.size (fun k_ => k_ ≠ gb651) v678 t677) ∧ Aside0 (wc.heap[gb651]? = some (.cells #[(.slice A0_0 l0_0.length c0_0), (.slice A0_1 l0_1.length c0_1), .int .i64 a0_2] 25 (0, 0))) ∧ Aside0 (Below w.heap.size w wc))
     case first =>
      have H := HC26.out
      clear HC26
      by_cases c39 : t669 = 0
      ·rw [if_pos c39] at H
       have c39b0 : (t669 == 0) = true := beq_iff_eq.mpr c39
       have c39b1 : (t669 != 0) = false := bne_eq_false_iff_eq.mpr c39
       clear c39
       (first | rw [c39b0] | (simp only [i64_w, i32_w]; rw [c39b0]) | skip)
       by_cases c40 : t680 = 0
       ·rw [if_pos c40] at H
        have c40b0 : (t680 == 0) = true := beq_iff_eq.mpr c40
        have c40b1 : (t680 != 0) = false := bne_eq_false_iff_eq.mpr c40
        clear c40
        by_cases c41 : t684 = true
        ·subst c41
         have H1 : (macadamlaw04_GangFirst.j1 kj5 t652 t653 t658 t677 true false) = some r := by rw [if_pos rfl] at H; exact H
         clear H
         have H := H1
         clear H1
         have H' := Aside0.mk H
         clear H
         go_wp2
         go_meet
         case rel => exact ⟨_, (false), (by first | rfl | (simp; done) | (simp [*]; done)), H', ⟨by have := HJ5.out; first | omega | exact Nat.le_refl _⟩, ⟨by (with_reducible repeat (first | apply Kd.V_alloc | apply Kd.V_drewN | apply Kd.V_drew)); exact Kd.V_mono HO679.out (fun _ hk => hk.1)⟩, ⟨bm BK651⟩, ⟨bw1 HB GE651⟩⟩
        ·replace c41 := Bool.eq_false_iff.mpr c41
         subst c41
         have H1 : (macadamlaw04_GangFirst.j1 kj5 t652 t653 t658 t677 false ((t666.length : Int) != 0)) = some r := by rw [if_neg (show ¬ (false = true) by decide)] at H; exact H
         clear H
         have H := H1
         clear H1
         have H' := Aside0.mk H
         clear H
         go_wp2
         go_meet
         case rel => exact ⟨_, (((t666.length : Int) != 0)), (by first | rfl | (simp; done) | (simp [*]; done)), H', ⟨by have := HJ5.out; first | omega | exact Nat.le_refl _⟩, ⟨by (with_reducible repeat (first | apply Kd.V_alloc | apply Kd.V_drewN | apply Kd.V_drew)); exact Kd.V_mono HO679.out (fun _ hk => hk.1)⟩, ⟨bm BK651⟩, ⟨bw1 HB GE651⟩⟩
       ·rw [if_neg c40] at H
        have c40b0 : (t680 == 0) = false := beq_eq_false_iff_ne.mpr c40
        have c40b1 : (t680 != 0) = true := bne_iff_ne.mpr c40
        have H' := Aside0.mk H
        clear H
        go_wp2
        go_meet
        case rel => exact ⟨_, (true), (by first | rfl | (simp; done) | (simp [*]; done)), H', ⟨by have := HJ5.out; first | omega | exact Nat.le_refl _⟩, ⟨by (with_reducible repeat (first | apply Kd.V_alloc | apply Kd.V_drewN | apply Kd.V_drew)); exact Kd.V_mono HO679.out (fun _ hk => hk.1)⟩, ⟨bm BK651⟩, ⟨bw1 HB GE651⟩⟩
      ·rw [if_neg c39] at H
       have c39b0 : (t669 == 0) = false := beq_eq_false_iff_ne.mpr c39
       have c39b1 : (t669 != 0) = true := bne_iff_ne.mpr c39
       (first | rw [c39b0] | (simp only [i64_w, i32_w]; rw [c39b0]) | skip)
       have H' := Aside0.mk H
       clear H
       go_wp2
       go_meet
       case rel => exact ⟨_, (true), (by first | rfl | (simp; done) | (simp [*]; done)), H', ⟨by have := HJ5.out; first | omega | exact Nat.le_refl _⟩, ⟨by (with_reducible repeat (first | apply Kd.V_alloc | apply Kd.V_drewN | apply Kd.V_drew)); exact Kd.V_mono HO679.out (fun _ hk => hk.1)⟩, ⟨bm BK651⟩, ⟨bw1 HB GE651⟩⟩
     case rest =>
      clear HC26
      try clear c1
      try clear p2
      try clear c3
      try clear c4
      try clear c5
      try clear p6
      try clear c12
      try clear c12b0
      try clear c12b1
      try clear c15
      try clear c15b0
      try clear c15b1
      try clear c16
      try clear c16b0
      try clear c16b1
      try clear c17
      try clear c19
      try clear c34
      try clear c36
      try clear c38
      try clear c39
      try clear c39b0
      try clear c39b1
      try clear c40
      try clear c40b0
      try clear c40b1
      try clear c41
      try clear hcz10_0
      try clear hcz10_1
      try clear hcz10_2
      try clear hcz14_0
      try clear hcz14_1
      try clear hcz14_2
      try clear hcz18_0
      try clear hcz18_1
      try clear hcz18_2
      try clear hcz27_0
      try clear hcz27_1
      try clear hcz27_2
      try clear hcz31_0
      try clear hcz31_1
      try clear hcz31_2
      try clear hcz8_0
      try clear hcz8_1
      try clear hcz8_2
      try clear hfz10_0
      try clear hfz10_1
      try clear hfz10_2
      try clear hfz14_0
      try clear hfz14_1
      try clear hfz14_2
      try clear hfz18_0
      try clear hfz18_1
      try clear hfz18_2
      try clear hfz27_0
      try clear hfz27_1
      try clear hfz27_2
      try clear hfz31_0
      try clear hfz31_1
      try clear hfz31_2
      try clear hfz8_0
      try clear hfz8_1
      try clear hfz8_2
      try clear p2
      try clear p6
      obtain ⟨kq, x86_25, rfl, HA, HJ25, HO_10, BK651, HB⟩ := hcut
      cases kq with
      | zero => exact absurd HA.out (by simp [macadamlaw04_GangFirst.j1])
      | succ kj25 =>
       have H := HA.out
       clear HA
       simp only [macadamlaw04_GangFirst.j1] at H
       by_cases c42 : x86_25 = true
       ·subst c42
        have H1 : (some false) = some r := by rw [if_pos rfl] at H; exact H
        clear H
        have H := H1
        clear H1
        obtain rfl := Option.some.inj H
        go_wp2
        go_ret
        exact ⟨by first | rfl | (simp [errW_none, errW_some] <;> rfl) | (simp [*, errW_none, errW_some] <;> rfl), bw1 HB GE651⟩
       ·replace c42 := Bool.eq_false_iff.mpr c42
        subst c42
        have H1 : (if t653 = 0 then (if (t677.length : Int) = 0 then (if t684 = true then ((macadamlaw04_shovelled.f).bind fun t685 => (some t685)) else (if t658 ≥ t652 then ((macadamlaw04_shovelled.f).bind fun t686 => (some t686)) else (some false))) else (some false)) else (if t684 = true then ((macadamlaw04_shovelled.f).bind fun t687 => (some t687)) else (some false))) = some r := by rw [if_neg (show ¬ (false = true) by decide)] at H; exact H
        clear H
        have H := H1
        clear H1
        by_cases c43 : t653 = 0
        ·rw [if_pos c43] at H
         have c43b0 : (t653 == 0) = true := beq_iff_eq.mpr c43
         have c43b1 : (t653 != 0) = false := bne_eq_false_iff_eq.mpr c43
         clear c43
         by_cases c44 : (t677.length : Int) = 0
         ·rw [if_pos c44] at H
          have c44b0 : ((t677.length : Int) == 0) = true := beq_iff_eq.mpr c44
          have c44b1 : ((t677.length : Int) != 0) = false := bne_eq_false_iff_eq.mpr c44
          clear c44
          by_cases c45 : t684 = true
          ·subst c45
           have H1 : ((macadamlaw04_shovelled.f).bind fun t685 => (some t685)) = some r := by rw [if_pos rfl] at H; exact H
           clear H
           have H := H1
           clear H1
           replace H := Option.bind_eq_some_iff.mp H
           obtain ⟨t685, A460, H⟩ := H
           replace H : (some t685) = some r := H
           have A46 := Aside0.mk A460
           clear A460
           obtain rfl := Option.some.inj H
           obtain ⟨Ao47, co47, eo47⟩ := Kd.V_slice HO_10.out
           subst eo47
           go_wp2_with (first | (go_at_call 24; (with_reducible refine (macadamlaw04_shovelled.calls  t685 _ ?side1 A46.out).mono ?_); (case side1 => exact gv_below HG.out (bw1 HB GE651)); rintro e w48 ⟨rfl, hb⟩; have n0_ := Aside0.mk (Kd.V_below (by (with_reducible repeat (first | apply Kd.V_alloc | apply Kd.V_drewN | apply Kd.V_drew)); exact HO_10.out) hb); have n1_ := Aside0.mk (blk_below (bm BK651) hb); have n2_ := Aside0.mk (below_step (bw1 HB GE651) hb); clear HO_10; clear BK651; clear HB; have HO_10 := n0_; have BK651 := n1_; have HB := n2_; clear n0_ n1_ n2_; (try clear hb); (try clear hb2); (try clear hk); (try clear hi)))
           go_ret
           exact ⟨by first | rfl | (simp [errW_none, errW_some] <;> rfl) | (simp [*, errW_none, errW_some] <;> rfl), bw1 HB GE651⟩
          ·replace c45 := Bool.eq_false_iff.mpr c45
           subst c45
           have H1 : (if t658 ≥ t652 then ((macadamlaw04_shovelled.f).bind fun t686 => (some t686)) else (some false)) = some r := by rw [if_neg (show ¬ (false = true) by decide)] at H; exact H
           clear H
           have H := H1
           clear H1
           by_cases c49 : t658 ≥ t652
           ·rw [if_pos c49] at H
            have c49b0 : decide (t652 ≤ t658) = true := decide_eq_true c49
            clear c49
            replace H := Option.bind_eq_some_iff.mp H
            obtain ⟨t686, A500, H⟩ := H
            replace H : (some t686) = some r := H
            have A50 := Aside0.mk A500
            clear A500
            obtain rfl := Option.some.inj H
            obtain ⟨Ao51, co51, eo51⟩ := Kd.V_slice HO_10.out
            subst eo51
            go_wp2_with (first | (go_at_call 24; (with_reducible refine (macadamlaw04_shovelled.calls  t686 _ ?side1 A50.out).mono ?_); (case side1 => exact gv_below HG.out (bw1 HB GE651)); rintro e w52 ⟨rfl, hb⟩; have n0_ := Aside0.mk (Kd.V_below (by (with_reducible repeat (first | apply Kd.V_alloc | apply Kd.V_drewN | apply Kd.V_drew)); exact HO_10.out) hb); have n1_ := Aside0.mk (blk_below (bm BK651) hb); have n2_ := Aside0.mk (below_step (bw1 HB GE651) hb); clear HO_10; clear BK651; clear HB; have HO_10 := n0_; have BK651 := n1_; have HB := n2_; clear n0_ n1_ n2_; (try clear hb); (try clear hb2); (try clear hk); (try clear hi)))
            go_ret
            exact ⟨by first | rfl | (simp [errW_none, errW_some] <;> rfl) | (simp [*, errW_none, errW_some] <;> rfl), bw1 HB GE651⟩
           ·rw [if_neg c49] at H
            have c49b0 : decide (t652 ≤ t658) = false := decide_eq_false c49
            clear c49
            obtain rfl := Option.some.inj H
            obtain ⟨Ao53, co53, eo53⟩ := Kd.V_slice HO_10.out
            subst eo53
            go_wp2
            go_ret
            exact ⟨by first | rfl | (simp [errW_none, errW_some] <;> rfl) | (simp [*, errW_none, errW_some] <;> rfl), bw1 HB GE651⟩
         ·rw [if_neg c44] at H
          have c44b0 : ((t677.length : Int) == 0) = false := beq_eq_false_iff_ne.mpr c44
          have c44b1 : ((t677.length : Int) != 0) = true := bne_iff_ne.mpr c44
          have c44b2 : ¬ (t677 = []) := fun h_ => c44 (by rw [h_]; rfl)
          obtain rfl := Option.some.inj H
          obtain ⟨Ao54, co54, eo54⟩ := Kd.V_slice HO_10.out
          subst eo54
          go_wp2
          go_ret
          exact ⟨by first | rfl | (simp [errW_none, errW_some] <;> rfl) | (simp [*, errW_none, errW_some] <;> rfl), bw1 HB GE651⟩
        ·rw [if_neg c43] at H
         have c43b0 : (t653 == 0) = false := beq_eq_false_iff_ne.mpr c43
         have c43b1 : (t653 != 0) = true := bne_iff_ne.mpr c43
         by_cases c55 : t684 = true
         ·subst c55
          have H1 : ((macadamlaw04_shovelled.f).bind fun t687 => (some t687)) = some r := by rw [if_pos rfl] at H; exact H
          clear H
          have H := H1
          clear H1
          replace H := Option.bind_eq_some_iff.mp H
          obtain ⟨t687, A560, H⟩ := H
          replace H : (some t687) = some r := H
          have A56 := Aside0.mk A560
          clear A560
          obtain rfl := Option.some.inj H
          go_wp2_with (first | (go_at_call 24; (with_reducible refine (macadamlaw04_shovelled.calls  t687 _ ?side1 A56.out).mono ?_); (case side1 => exact gv_below HG.out (bw1 HB GE651)); rintro e w57 ⟨rfl, hb⟩; have n0_ := Aside0.mk (Kd.V_below (by (with_reducible repeat (first | apply Kd.V_alloc | apply Kd.V_drewN | apply Kd.V_drew)); exact HO_10.out) hb); have n1_ := Aside0.mk (blk_below (bm BK651) hb); have n2_ := Aside0.mk (below_step (bw1 HB GE651) hb); clear HO_10; clear BK651; clear HB; have HO_10 := n0_; have BK651 := n1_; have HB := n2_; clear n0_ n1_ n2_; (try clear hb); (try clear hb2); (try clear hk); (try clear hi)))
          go_ret
          exact ⟨by first | rfl | (simp [errW_none, errW_some] <;> rfl) | (simp [*, errW_none, errW_some] <;> rfl), bw1 HB GE651⟩
         ·replace c55 := Bool.eq_false_iff.mpr c55
          subst c55
          have H1 : (some false) = some r := by rw [if_neg (show ¬ (false = true) by decide)] at H; exact H
          clear H
          have H := H1
          clear H1
          obtain rfl := Option.some.inj H
          go_wp2
          go_ret
          exact ⟨by first | rfl | (simp [errW_none, errW_some] <;> rfl) | (simp [*, errW_none, errW_some] <;> rfl), bw1 HB GE651⟩
 ·replace c5 := Bool.eq_false_iff.mpr c5
  subst c5
  have H1 : (if t653 = 40 then (if t652 = 0 then ((macadamlaw04_shovelled.f).bind fun t655 => (some t655)) else (some false)) else (some false)) = some r := by rw [if_neg (show ¬ (false = true) by decide)] at H; exact H
  clear H
  have H := H1
  clear H1
  by_cases c58 : t653 = 40
  ·rw [if_pos c58] at H
   have c58b0 : (t653 == 40) = true := beq_iff_eq.mpr c58
   have c58b1 : (t653 != 40) = false := bne_eq_false_iff_eq.mpr c58
   clear c58
   by_cases c59 : t652 = 0
   ·rw [if_pos c59] at H
    have c59b0 : (t652 == 0) = true := beq_iff_eq.mpr c59
    have c59b1 : (t652 != 0) = false := bne_eq_false_iff_eq.mpr c59
    clear c59
    replace H := Option.bind_eq_some_iff.mp H
    obtain ⟨t655, A600, H⟩ := H
    replace H : (some t655) = some r := H
    have A60 := Aside0.mk A600
    clear A600
    obtain rfl := Option.some.inj H
    go_enter Tryd.func12, Tryd.ntmps12
    go_wp2_with (first | ((with_reducible refine gate_dst (N := 2) rfl ?_); (try (refine gate_guard (by rfl) ?_; dsimp only)); refine bx 2 #[.slice A0_0 l0_0.length c0_0, .slice A0_1 l0_1.length c0_1, .int .i64 a0_2] 25 ?_; intro gb651 hg w61 hbox hb; have n0_ := Aside0.mk (below_step (bw HB) hb); have n1_ := Aside0.mk (hbox); have n2_ := Aside0.mk (bz (bw HB) hg); have n3_ := Aside0.mk (bz (bw HB) hg); clear HB; have HB := n0_; have BK651 := n1_; have GW651 := n2_; have GE651 := n3_; clear n0_ n1_ n2_ n3_; clear hb hbox hg; obtain ⟨hcz62_0, hcz62_1, hcz62_2, hfz62_0, hfz62_1, hfz62_2⟩ := b3 BK651) | ((with_reducible refine gate_callee (f := 36) rfl ?_); refine gL (some 15) Tryd.func36 #[.agg #[.slice A0_0 l0_0.length c0_0, .slice A0_1 l0_1.length c0_1, .int .i64 a0_2]] ?_; (with_reducible refine (gang_First.calls _ _ l0_0 _ _ l0_1 a0_2 t652 t653 _ ?side1 ?side2 ?side3 ?side4 ?side5 A3.out).mono ?_); (case side1 => repeat (first | exact (Kd.C_below HR0_0.out HB.out) | (with_reducible refine Kd.C_alloc ?_ _) | (with_reducible refine Kd.C_drewN ?_ _) | (with_reducible refine Kd.C_drew ?_))); (case side2 => exact HC0_0.out); (case side3 => repeat (first | exact (Kd.C_below HR0_1.out HB.out) | (with_reducible refine Kd.C_alloc ?_ _) | (with_reducible refine Kd.C_drewN ?_ _) | (with_reducible refine Kd.C_drew ?_))); (case side4 => exact HC0_1.out); (case side5 => exact gv_below HG.out (bw1 HB GE651)); rintro e w63 ⟨rfl, hb⟩; refine ⟨_, rfl, ?_⟩; have n0_ := Aside0.mk (blk_below (bm BK651) hb); have n1_ := Aside0.mk (below_step (bw1 HB GE651) hb); clear BK651; clear HB; have BK651 := n0_; have HB := n1_; clear n0_ n1_; (try clear hb); (try clear hb2); (try clear hk); (try clear hi); obtain ⟨hcz64_0, hcz64_1, hcz64_2, hfz64_0, hfz64_1, hfz64_2⟩ := b3 BK651) | ((with_reducible refine gate_callee (f := 38) rfl ?_); refine gL (some 19) Tryd.func38 #[.agg #[.slice A0_0 l0_0.length c0_0, .slice A0_1 l0_1.length c0_1, .int .i64 a0_2]] ?_; (with_reducible refine (macadamlaw04_sound.calls k _ _ l0_0 _ _ l0_1 a0_2 false _ ?side1 ?side2 ?side3 ?side4 A4.out).mono ?_); (case side1 => repeat (first | exact (Kd.C_below HR0_0.out HB.out) | (with_reducible refine Kd.C_alloc ?_ _) | (with_reducible refine Kd.C_drewN ?_ _) | (with_reducible refine Kd.C_drew ?_))); (case side2 => exact HC0_0.out); (case side3 => repeat (first | exact (Kd.C_below HR0_1.out HB.out) | (with_reducible refine Kd.C_alloc ?_ _) | (with_reducible refine Kd.C_drewN ?_ _) | (with_reducible refine Kd.C_drew ?_))); (case side4 => exact HC0_1.out); rintro e w65 ⟨rfl, hb⟩; refine ⟨_, rfl, ?_⟩; have n0_ := Aside0.mk (blk_below (bm BK651) hb); have n1_ := Aside0.mk (below_step (bw1 HB GE651) hb); clear BK651; clear HB; have BK651 := n0_; have HB := n1_; clear n0_ n1_; (try clear hb); (try clear hb2); (try clear hk); (try clear hi)) | (go_at_call 24; (with_reducible refine (macadamlaw04_shovelled.calls  t655 _ ?side1 A60.out).mono ?_); (case side1 => exact gv_below HG.out (bw1 HB GE651)); rintro e w66 ⟨rfl, hb⟩; have n0_ := Aside0.mk (blk_below (bm BK651) hb); have n1_ := Aside0.mk (below_step (bw1 HB GE651) hb); clear BK651; clear HB; have BK651 := n0_; have HB := n1_; clear n0_ n1_; (try clear hb); (try clear hb2); (try clear hk); (try clear hi)))
    go_ret
    exact ⟨by first | rfl | (simp [errW_none, errW_some] <;> rfl) | (simp [*, errW_none, errW_some] <;> rfl), bw1 HB GE651⟩
   ·rw [if_neg c59] at H
    have c59b0 : (t652 == 0) = false := beq_eq_false_iff_ne.mpr c59
    have c59b1 : (t652 != 0) = true := bne_iff_ne.mpr c59
    obtain rfl := Option.some.inj H
    go_enter Tryd.func12, Tryd.ntmps12
    go_wp2_with (first | ((with_reducible refine gate_dst (N := 2) rfl ?_); (try (refine gate_guard (by rfl) ?_; dsimp only)); refine bx 2 #[.slice A0_0 l0_0.length c0_0, .slice A0_1 l0_1.length c0_1, .int .i64 a0_2] 25 ?_; intro gb651 hg w67 hbox hb; have n0_ := Aside0.mk (below_step (bw HB) hb); have n1_ := Aside0.mk (hbox); have n2_ := Aside0.mk (bz (bw HB) hg); have n3_ := Aside0.mk (bz (bw HB) hg); clear HB; have HB := n0_; have BK651 := n1_; have GW651 := n2_; have GE651 := n3_; clear n0_ n1_ n2_ n3_; clear hb hbox hg; obtain ⟨hcz68_0, hcz68_1, hcz68_2, hfz68_0, hfz68_1, hfz68_2⟩ := b3 BK651) | ((with_reducible refine gate_callee (f := 36) rfl ?_); refine gL (some 15) Tryd.func36 #[.agg #[.slice A0_0 l0_0.length c0_0, .slice A0_1 l0_1.length c0_1, .int .i64 a0_2]] ?_; (with_reducible refine (gang_First.calls _ _ l0_0 _ _ l0_1 a0_2 t652 t653 _ ?side1 ?side2 ?side3 ?side4 ?side5 A3.out).mono ?_); (case side1 => repeat (first | exact (Kd.C_below HR0_0.out HB.out) | (with_reducible refine Kd.C_alloc ?_ _) | (with_reducible refine Kd.C_drewN ?_ _) | (with_reducible refine Kd.C_drew ?_))); (case side2 => exact HC0_0.out); (case side3 => repeat (first | exact (Kd.C_below HR0_1.out HB.out) | (with_reducible refine Kd.C_alloc ?_ _) | (with_reducible refine Kd.C_drewN ?_ _) | (with_reducible refine Kd.C_drew ?_))); (case side4 => exact HC0_1.out); (case side5 => exact gv_below HG.out (bw1 HB GE651)); rintro e w69 ⟨rfl, hb⟩; refine ⟨_, rfl, ?_⟩; have n0_ := Aside0.mk (blk_below (bm BK651) hb); have n1_ := Aside0.mk (below_step (bw1 HB GE651) hb); clear BK651; clear HB; have BK651 := n0_; have HB := n1_; clear n0_ n1_; (try clear hb); (try clear hb2); (try clear hk); (try clear hi); obtain ⟨hcz70_0, hcz70_1, hcz70_2, hfz70_0, hfz70_1, hfz70_2⟩ := b3 BK651) | ((with_reducible refine gate_callee (f := 38) rfl ?_); refine gL (some 19) Tryd.func38 #[.agg #[.slice A0_0 l0_0.length c0_0, .slice A0_1 l0_1.length c0_1, .int .i64 a0_2]] ?_; (with_reducible refine (macadamlaw04_sound.calls k _ _ l0_0 _ _ l0_1 a0_2 false _ ?side1 ?side2 ?side3 ?side4 A4.out).mono ?_); (case side1 => repeat (first | exact (Kd.C_below HR0_0.out HB.out) | (with_reducible refine Kd.C_alloc ?_ _) | (with_reducible refine Kd.C_drewN ?_ _) | (with_reducible refine Kd.C_drew ?_))); (case side2 => exact HC0_0.out); (case side3 => repeat (first | exact (Kd.C_below HR0_1.out HB.out) | (with_reducible refine Kd.C_alloc ?_ _) | (with_reducible refine Kd.C_drewN ?_ _) | (with_reducible refine Kd.C_drew ?_))); (case side4 => exact HC0_1.out); rintro e w71 ⟨rfl, hb⟩; refine ⟨_, rfl, ?_⟩; have n0_ := Aside0.mk (blk_below (bm BK651) hb); have n1_ := Aside0.mk (below_step (bw1 HB GE651) hb); clear BK651; clear HB; have BK651 := n0_; have HB := n1_; clear n0_ n1_; (try clear hb); (try clear hb2); (try clear hk); (try clear hi)))
    go_ret
    exact ⟨by first | rfl | (simp [errW_none, errW_some] <;> rfl) | (simp [*, errW_none, errW_some] <;> rfl), bw1 HB GE651⟩
  ·rw [if_neg c58] at H
   have c58b0 : (t653 == 40) = false := beq_eq_false_iff_ne.mpr c58
   have c58b1 : (t653 != 40) = true := bne_iff_ne.mpr c58
   obtain rfl := Option.some.inj H
   go_enter Tryd.func12, Tryd.ntmps12
   go_wp2_with (first | ((with_reducible refine gate_dst (N := 2) rfl ?_); (try (refine gate_guard (by rfl) ?_; dsimp only)); refine bx 2 #[.slice A0_0 l0_0.length c0_0, .slice A0_1 l0_1.length c0_1, .int .i64 a0_2] 25 ?_; intro gb651 hg w72 hbox hb; have n0_ := Aside0.mk (below_step (bw HB) hb); have n1_ := Aside0.mk (hbox); have n2_ := Aside0.mk (bz (bw HB) hg); have n3_ := Aside0.mk (bz (bw HB) hg); clear HB; have HB := n0_; have BK651 := n1_; have GW651 := n2_; have GE651 := n3_; clear n0_ n1_ n2_ n3_; clear hb hbox hg; obtain ⟨hcz73_0, hcz73_1, hcz73_2, hfz73_0, hfz73_1, hfz73_2⟩ := b3 BK651) | ((with_reducible refine gate_callee (f := 36) rfl ?_); refine gL (some 15) Tryd.func36 #[.agg #[.slice A0_0 l0_0.length c0_0, .slice A0_1 l0_1.length c0_1, .int .i64 a0_2]] ?_; (with_reducible refine (gang_First.calls _ _ l0_0 _ _ l0_1 a0_2 t652 t653 _ ?side1 ?side2 ?side3 ?side4 ?side5 A3.out).mono ?_); (case side1 => repeat (first | exact (Kd.C_below HR0_0.out HB.out) | (with_reducible refine Kd.C_alloc ?_ _) | (with_reducible refine Kd.C_drewN ?_ _) | (with_reducible refine Kd.C_drew ?_))); (case side2 => exact HC0_0.out); (case side3 => repeat (first | exact (Kd.C_below HR0_1.out HB.out) | (with_reducible refine Kd.C_alloc ?_ _) | (with_reducible refine Kd.C_drewN ?_ _) | (with_reducible refine Kd.C_drew ?_))); (case side4 => exact HC0_1.out); (case side5 => exact gv_below HG.out (bw1 HB GE651)); rintro e w74 ⟨rfl, hb⟩; refine ⟨_, rfl, ?_⟩; have n0_ := Aside0.mk (blk_below (bm BK651) hb); have n1_ := Aside0.mk (below_step (bw1 HB GE651) hb); clear BK651; clear HB; have BK651 := n0_; have HB := n1_; clear n0_ n1_; (try clear hb); (try clear hb2); (try clear hk); (try clear hi); obtain ⟨hcz75_0, hcz75_1, hcz75_2, hfz75_0, hfz75_1, hfz75_2⟩ := b3 BK651) | ((with_reducible refine gate_callee (f := 38) rfl ?_); refine gL (some 19) Tryd.func38 #[.agg #[.slice A0_0 l0_0.length c0_0, .slice A0_1 l0_1.length c0_1, .int .i64 a0_2]] ?_; (with_reducible refine (macadamlaw04_sound.calls k _ _ l0_0 _ _ l0_1 a0_2 false _ ?side1 ?side2 ?side3 ?side4 A4.out).mono ?_); (case side1 => repeat (first | exact (Kd.C_below HR0_0.out HB.out) | (with_reducible refine Kd.C_alloc ?_ _) | (with_reducible refine Kd.C_drewN ?_ _) | (with_reducible refine Kd.C_drew ?_))); (case side2 => exact HC0_0.out); (case side3 => repeat (first | exact (Kd.C_below HR0_1.out HB.out) | (with_reducible refine Kd.C_alloc ?_ _) | (with_reducible refine Kd.C_drewN ?_ _) | (with_reducible refine Kd.C_drew ?_))); (case side4 => exact HC0_1.out); rintro e w76 ⟨rfl, hb⟩; refine ⟨_, rfl, ?_⟩; have n0_ := Aside0.mk (blk_below (bm BK651) hb); have n1_ := Aside0.mk (below_step (bw1 HB GE651) hb); clear BK651; clear HB; have BK651 := n0_; have HB := n1_; clear n0_ n1_; (try clear hb); (try clear hb2); (try clear hk); (try clear hi)))
   go_ret
   exact ⟨by first | rfl | (simp [errW_none, errW_some] <;> rfl) | (simp [*, errW_none, errW_some] <;> rfl), bw1 HB GE651⟩
end Go.Proofs.YtikfghnkbgdbgaaDoor.Q
end
section
namespace Go.Proofs.YtikfghnkbgdbgaaDoor.Q
set_option linter.unusedSimpArgs false
set_option linter.unusedVariables false
open Go.RowKit Go.Proofs.YtikfghnkbgdbgaaDoorW.PrintWords Go.Proofs.YtikfghnkbgdbgaaDoorW.PrintLast Go.Proofs.YtikfghnkbgdbgaaDoorW.PrintMore
theorem aloneL_len (ms : List M) (t : Int) : (aloneL ms t).length = ms.length := by simp [aloneL]
theorem aloneL_rd {ms : List M} {t i : Int} (h0 : 0 ≤ i) (h1 : i < (ms.length : Int)) : rd_T66 (aloneL ms t) i = if i = t then rd_T66 ms i else ⟨(rd_T66 ms i).f0, 15⟩ := by
  have hl : i.toNat < ms.length := by omega
  have e : ((i.toNat : Nat) : Int) = i := by omega
  simp only [rd_T66, List.getD_eq_getElem?_getD, aloneL, List.getElem?_mapIdx, List.getElem?_eq_getElem hl, Option.map_some, Option.getD_some, aloneM, e]
theorem aloneL_need {ms : List M} {t i : Int} (h0 : 0 ≤ i) (h1 : i < (ms.length : Int)) : (rd_T66 (aloneL ms t) i).f0 = (rd_T66 ms i).f0 := by
  rw [aloneL_rd h0 h1]; split <;> rfl
theorem okB_alone {ms : List M} {gs : List G} {n : Int} (ok : okB ms gs n = true) (t : Int) : okB (aloneL ms t) gs n = true := by
  unfold okB at *
  rw [aloneL_len]
  simp only [Bool.and_eq_true, List.all_eq_true] at *
  obtain ⟨⟨h1, h2⟩, h3⟩ := ok
  refine ⟨⟨h1, fun x hx => ?_⟩, h3⟩
  unfold aloneL at hx
  rw [List.mem_mapIdx] at hx
  obtain ⟨i, hi, rfl⟩ := hx
  have := h2 ms[i] (List.getElem_mem hi)
  unfold aloneM
  split
  · exact this
  · exact ⟨⟨this.1.1, decide_eq_true (show (0 : Int) ≤ 15 by omega)⟩, decide_eq_true (show (15 : Int) ≤ 15 by omega)⟩
theorem bit15 {i : Int} (h0 : 0 ≤ i) (h1 : i ≤ 3) : bitB 15 i = true := by
  obtain ⟨i, rfl⟩ := toFin (n := 4) h0 (by omega)
  revert i; decide +kernel
theorem can_alone {ms : List M} {gs : List G} {n : Int} (ok : okB ms gs n = true) (t : Int) (x : Wk) : canB (aloneL ms t) gs n x = true ↔ canB ms gs n x = true ∧ x.f2 = t := by
  have hn := (okB_sizes ok).2.2
  rw [canB_iff, canB_iff, aloneL_len]
  constructor
  · rintro ⟨h1, h2, h3, h4⟩
    rw [aloneL_rd h2.1 h2.2] at h3
    by_cases e : x.f2 = t
    · rw [if_pos e] at h3
      exact ⟨⟨h1, h2, h3, h4⟩, e⟩
    · rw [if_neg e] at h3
      rw [bit15 h1.1 (by omega)] at h3
      simp at h3
  · rintro ⟨⟨h1, h2, h3, h4⟩, e⟩
    refine ⟨h1, h2, ?_, h4⟩
    rw [aloneL_rd h2.1 h2.2, if_pos e]
    exact h3
theorem plan_alone {ms : List M} {gs : List G} {n : Int} (ok : okB ms gs n = true) (t : Int) (p : List Wk) : planB (aloneL ms t) gs n p = true ↔ planB ms gs n p = true ∧ ∀ x ∈ p, x.f2 = t := by
  rw [planB_iff, planB_iff]
  constructor
  · rintro ⟨h1, h2⟩
    exact ⟨⟨fun x hx => ((can_alone ok t x).1 (h1 x hx)).1, h2⟩, fun x hx => ((can_alone ok t x).1 (h1 x hx)).2⟩
  · rintro ⟨⟨h1, h2⟩, h3⟩
    exact ⟨fun x hx => (can_alone ok t x).2 ⟨h1 x hx, h3 x hx⟩, h2⟩
theorem mended_alone (ms : List M) (gs : List G) (t : Int) (p : List Wk) : mendedL (aloneL ms t) gs p = mendedL ms gs p := by
  unfold mendedL
  rw [aloneL_len]
  refine List.filter_congr (fun i hi => ?_)
  have := mem_upTo.1 hi
  rw [aloneL_need this.1 this.2]
theorem done_other (gs : List G) (hi : Bool) {m : Int} : ∀ (p : List Wk), (∀ x ∈ p, x.f2 ≠ m) → doneAt gs hi m p = 0
  | [], _ => rfl
  | y :: r, h => by
    simp only [doneAt]
    rw [if_neg (h y (by simp)), done_other gs hi r (fun x hx => h x (by simp [hx]))]
    rfl
theorem done_only (gs : List G) (hi : Bool) (m : Int) : ∀ (p : List Wk), doneAt gs hi m (p.filter (fun x => decide (x.f2 = m))) = doneAt gs hi m p
  | [] => rfl
  | y :: r => by
    by_cases h : y.f2 = m
    · rw [List.filter_cons_of_pos (by simpa using h)]
      simp only [doneAt, if_pos h, done_only gs hi m r]
    · rw [List.filter_cons_of_neg (by simpa using h), done_only gs hi m r]
      simp only [doneAt, if_neg h]
      omega
theorem only_t {l : List Int} {t : Int} (hp : l.Pairwise (· < ·)) (h : ∀ i ∈ l, i = t) : l = [] ∨ l = [t] := by
  match l, hp, h with
  | [], _, _ => exact Or.inl rfl
  | [a], _, h => exact Or.inr (by rw [h a (by simp)])
  | a :: b :: r, hp, h =>
    have h1 := h a (by simp)
    have h2 := h b (by simp)
    have := (List.pairwise_cons.1 hp).1 b (by simp)
    omega
theorem mended_one {ms : List M} {gs : List G} {n : Int} (ok : okB ms gs n = true) {t : Int} {p : List Wk} (h : ∀ x ∈ p, x.f2 = t) : (mendedL ms gs p = [] ∧ t ∉ mendedL ms gs p) ∨ (mendedL ms gs p = [t] ∧ t ∈ mendedL ms gs p) := by
  have hall : ∀ i ∈ mendedL ms gs p, i = t := by
    intro i hi
    by_cases e : i = t
    · exact e
    · obtain ⟨⟨h0, h1⟩, h2⟩ := mem_mendedL.1 hi
      have hn := (okB_mile ok _ (rd_mem h0 h1)).1
      rw [done_other gs false p (fun x hx => by rw [h x hx]; exact fun e2 => e e2.symm)] at h2
      omega
  rcases only_t (l := mendedL ms gs p) ((upTo_pair _).filter _) hall with h | h
  · exact Or.inl ⟨h, by rw [h]; simp⟩
  · exact Or.inr ⟨h, by rw [h]; simp⟩
theorem most_alone {ms : List M} {gs : List G} {n : Int} (ok : okB ms gs n = true) (t : Int) : mostL (aloneL ms t) gs n = if hadAny ms gs n t = true then [t] else [] := by
  obtain ⟨⟨p, hp, hl⟩, hbest⟩ := mostL_spec (okB_alone ok t)
  obtain ⟨hp1, hp2⟩ := (plan_alone ok t p).1 hp
  rw [mended_alone] at hl
  by_cases h : hadAny ms gs n t = true
  · rw [if_pos h]
    obtain ⟨q, hq, hm⟩ := (hadAny_iff ok t).1 h
    have hq2 : ∀ x ∈ q.filter (fun x => decide (x.f2 = t)), x.f2 = t := fun x hx => by simpa using (List.mem_filter.1 hx).2
    have hq3 := planB_sub hq (List.filter_sublist (p := fun x : Wk => decide (x.f2 = t)))
    have hb := hbest _ ((plan_alone ok t _).2 ⟨hq3, hq2⟩)
    rw [mended_alone] at hb
    have hmt : t ∈ mendedL ms gs (q.filter (fun x => decide (x.f2 = t))) := by
      rw [mem_mendedL] at hm ⊢
      rw [done_only]
      exact hm
    rcases mended_one ok hq2 with ⟨_, h2⟩ | ⟨h1, _⟩
    · exact absurd hmt h2
    · rw [h1] at hb
      rcases mended_one ok hp2 with ⟨h3, _⟩ | ⟨h3, _⟩
      · rw [hl, h3] at hb
        exact absurd (Or.inl (by simp)) hb
      · rw [hl, h3]
  · rw [if_neg h]
    rcases mended_one ok hp2 with ⟨h3, _⟩ | ⟨_, h4⟩
    · rw [hl, h3]
    · exact absurd ((hadAny_iff ok t).2 ⟨p, hp1, h4⟩) h
theorem gangFirst_pure (ms : List M) (gs : List G) (n : Int) (ok0 : OkBook ms gs n) (a : Int) (_ok2 : (Lit.int .i64 a).wf = true) :
    ∃ k, macadamlaw04_GangFirst.f k ms gs n a = some true := by
  have hm : ms.length ≤ 9223372036854775807 := ok0.1.1
  have hg : gs.length ≤ 9223372036854775807 := ok0.2.1.1
  refine Ev.rounds ?_
  unfold macadamlaw04_GangFirst.f
  by_cases ok : okB ms gs n = true
  · obtain ⟨⟨hm1, hm2⟩, ⟨hg1, hg2⟩, hn1, hn2⟩ := okB_sizes ok
    obtain ⟨t, ht, t0, t1⟩ := wrap_f a (show (1 : Int) ≤ (ms.length : Int) by omega) (by omega)
    have hwl : wrap64 ((ms.length : Int) - 1) = (ms.length : Int) - 1 := by unfold wrap64; omega
    have hal : ∀ u, alone_given.f ms gs n u = some (aloneL ms u, n) := fun u => by unfold alone_given.f; rw [if_pos (by omega)]
    have hmo : ∀ u, gang_Most.f (aloneL ms u) gs n = some ((if hadAny ms gs n u = true then [u] else []), 0) := fun u => by unfold gang_Most.f; rw [if_pos (okB_alone ok u), most_alone ok u]
    -- what stands at the end
    have fin : ∀ (first e : Int), (e = 0 ∧ hadAny ms gs n first = false ∧ (∀ j, 0 ≤ j → j < first → hadAny ms gs n j = true)) ∨ (e ≠ 0 ∧ ∀ j, 0 ≤ j → j < (ms.length : Int) → hadAny ms gs n j = true) → Ev (fun k => macadamlaw04_GangFirst.j0 k a first e false ms gs n) true := by
      intro first e hfe
      have hlen : (if hadAny ms gs n t = true then [t] else []).length ≤ 1 := by split <;> simp
      refine Ev.step (f := fun k => (macadamref00_Like.f k (if hadAny ms gs n t = true then [t] else []) [t]).bind fun t684 => if t684 = true then macadamlaw04_GangFirst.j1 k first e t (if hadAny ms gs n first = true then [first] else []) t684 false else macadamlaw04_GangFirst.j1 k first e t (if hadAny ms gs n first = true then [first] else []) t684 (((if hadAny ms gs n t = true then [t] else []).length : Int) != 0)) (fun k => ?_) ?_
      · simp only [macadamlaw04_GangFirst.j0]
        rw [if_neg (by simp), ht]
        simp only [Option.bind_some, hal, hmo, if_true]
      · refine Ev.bind (like_f _ _ (by omega)) ?_
        by_cases hc : hadAny ms gs n t = true
        · simp only [if_pos hc, decide_true]
          refine Ev.pos trivial (Ev.step (f := fun _ => some true) (fun k => ?_) (Ev.now _))
          simp only [macadamlaw04_GangFirst.j1]
          rcases hfe with ⟨h1, h2, _⟩ | ⟨h1, _⟩
          · rw [if_neg (by simp), if_pos h1, if_pos (by rw [h2]; simp), if_pos trivial]; rfl
          · rw [if_neg (by simp), if_neg h1, if_pos trivial]; rfl
        · simp only [if_neg hc]
          refine Ev.neg (by simp) (Ev.step (f := fun _ => some true) (fun k => ?_) (Ev.now _))
          simp only [macadamlaw04_GangFirst.j1]
          rcases hfe with ⟨h1, h2, h3⟩ | ⟨h1, h3⟩
          · have : first ≤ t := by
              rcases Int.lt_or_le t first with h | h
              · exact absurd (h3 t t0 h) hc
              · exact h
            rw [if_neg (by simp), if_pos h1, if_pos (by rw [h2]; simp), if_neg (by simp), if_pos (by omega)]; rfl
          · exact absurd (h3 t t0 t1) hc
    rcases first_spec ok with ⟨i, he, hi, hno, hyes⟩ | ⟨he, hall⟩
    · refine Ev.bind (Ev.some he) (Ev.bind (sound_ev ms gs n hm hg) ?_)
      rw [ok]
      refine Ev.pos rfl (Ev.pos rfl ?_)
      rw [hwl, amid_f, show within i 0 ((ms.length : Int) - 1) = true by unfold within; simp; omega]
      exact fin i 0 (Or.inl ⟨rfl, hno, hyes⟩)
    · refine Ev.bind (Ev.some he) (Ev.bind (sound_ev ms gs n hm hg) ?_)
      rw [ok]
      refine Ev.pos rfl (Ev.neg (by decide) (Ev.pos rfl (Ev.pos rfl ?_)))
      rw [hwl, amid_f, show within 0 0 ((ms.length : Int) - 1) = true by unfold within; simp; omega]
      exact fin 0 4 (Or.inr ⟨by decide, hall⟩)
  · have e : gang_First.f ms gs n = some (0, 40) := by unfold gang_First.f; rw [if_neg ok]
    refine Ev.bind (Ev.some e) (Ev.bind (sound_ev ms gs n hm hg) ?_)
    rw [show okB ms gs n = false by simpa using ok]
    exact Ev.neg (by simp) (Ev.pos rfl (Ev.pos rfl (Ev.now _)))
end Go.Proofs.YtikfghnkbgdbgaaDoor.Q
end
section
namespace Go.Proofs.YtikfghnkbgdbgaaDoor.Q
open Go.ChangeShapes Go.WideShapes Go.ChangeAt Go.RowKit
set_option linter.unusedVariables false
set_option maxRecDepth 100000 in
theorem gangFirst_lifted (os : Os) (started : os.Started) (H : Type) (enc : TypeId × Value → H) :
    ReturnsInHanded {} Tryd.checked os 12 .any (fun w args => (Rows.gangFirstSpec.pre enc Tryd.prog Tryd.f12 [] false w args ∧ laidMetH Tryd.prog laidV w) ∧ sizedMet enc Tryd.prog Tryd.f12 (OpenSpec.ofChange Rows.gangFirstSpec) false w args)
      (Rows.gangFirstSpec.post enc Tryd.prog Tryd.f12 false true false false) := by
  refine returnsInHanded_of_change_and (C := Tryd.checked) (X := fun w _ => laidMetH Tryd.prog laidV w) (fun _ _ _ hh h => h.of_heap hh) ownK started (by kernel_rfl) Tryd.func12
    (ChangeSpec.witness_shaped (enc := enc) (C := Tryd.checked) (os := os) (X := fun w _ => laidMetH Tryd.prog laidV w) false (World.doorLaid Tryd.prog 19 os) #[.agg #[.slice none 0 0, .slice none 0 0, .int .i64 0], .int .i64 0] 8 rfl (World.shaped_of_RefB (by kernel_rfl) (by kernel_rfl)) (by kernel_rfl) (by kernel_rfl) (by kernel_rfl) (door_met os _)) ?_
  intro W base args ds gs before hval0 hW _ hsz0 hL _
  have hval : ∀ (j : Nat) t v, Tryd.f12.params[j]? = some t → args[j]? = some v → Value.okWide Tryd.prog W .any base t v := hval0
  have hsz : (DataW.weightsEach Tryd.prog (Tryd.f12.params.toList ++ Rows.gangFirstSpec.plain.varTypes Tryd.prog) (ds ++ gs)).all (· ≤ reachBytes) = true := hsz0
  have hW' := hW
  obtain ⟨p, q, hA0, hV, rfl, hfz, hnd⟩ := hW
  have hA : DataW.TrodAll enc Tryd.prog W 0 (fun _ => true) true Tryd.f12.params.toList args.toList ds p := hA0
  rw [Tryd.params12] at hA hval hsz
  obtain ⟨v0, vs0, d0, ds0, p0, q0, hargs, rfl, rfl, h0, r0⟩ := trodAll_cons hA
  obtain ⟨v1, vs1, d1, ds1, p1, q1, rfl, rfl, rfl, h1, r1⟩ := trodAll_cons r0
  obtain ⟨rfl, rfl, rfl⟩ := trodAll_nil r1
  obtain rfl : args = #[v0, v1] := by cases args; simp_all
  obtain ⟨rfl, rfl⟩ := trodVars_none hV
  have lt0 : ∀ x ∈ p0, x.block < W.heap.size := by obtain ⟨m, hm⟩ := h0; exact DataW.trod_lt m _ _ _ hm
  obtain ⟨y0, K0, ok0⟩ := opens_book.arg h0
  obtain ⟨A0_0, c0_0, A0_1, c0_1, e0, hc0_0, hr0_0, hc0_1, hr0_1⟩ := k25_open K0
  obtain rfl := cells_many e0
  have lt1 : ∀ x ∈ p1, x.block < W.heap.size := by obtain ⟨m, hm⟩ := h1; exact DataW.trod_lt m _ _ _ hm
  have h1k := h1
  obtain ⟨a1, rfl, rfl, rfl, w1⟩ := open_int Tryd.underlying3 (hval 1 3 v1 rfl rfl) h1
  have hG := gv_of_laid hL
  obtain ⟨k_, h_⟩ := gangFirst_pure y0.f0 y0.f1 y0.f2 ok0 a1 w1
  clear hA0 hval0 hsz0 hsz
  refine (macadamlaw04_GangFirst.calls k_ A0_0 c0_0 y0.f0 A0_1 c0_1 y0.f1 y0.f2 a1 true W hr0_0 hc0_0 hr0_1 hc0_1 hG h_).mono fun e W' ⟨he, bel⟩ => ?_
  subst he
  exact ⟨_, rfl, _, _, _, [], _, [], hW', trodAll_mk1 (shut_bool Tryd.underlying4 _), (trodAll_cons_mk (Below.trod laidOut (by kernel_rfl) (of_decide_eq_true (by kernel_rfl)) h0 bel lt0) (trodAll_cons_mk (shut_int Tryd.underlying3 w1) trodAll_mk0)), rfl, bel.frame _, fun h => by cases h⟩
theorem gangFirst_over : Rows.gangFirstRow.holds Tryd.pinned (OpenSpec.ofChange Rows.gangFirstSpec) :=
  OpenClaim.holds_of_wide 12 Tryd.f12 rfl rfl rfl rfl rfl rfl rfl ⟨rfl, rfl, rfl, rfl, rfl⟩ rfl rfl rfl rfl rfl (by kernel_rfl) Tryd.func12 (by kernel_rfl)
    (of_decide_eq_true (by kernel_rfl)) (by unfold Func.isWrapper; first | (rw [if_pos (by decide +kernel)]; kernel_rfl) | (rw [if_neg (by decide +kernel)]; exact ⟨rfl, rfl⟩))
    (fun os started H enc _ => gangFirst_lifted os started H enc)
end Go.Proofs.YtikfghnkbgdbgaaDoor.Q
namespace Go.Proofs.YtikfghnkbgdbgaaDoor
set_option maxRecDepth 100000 in
/-- THE CARD. -/
theorem gangFirst_holds : Rows.GangFirstCardSaid :=
  Claim7.holds_tied_plain_at .later [] [.data, .funcs] true (true, "88f50df5e688c53fcba80ffbc790cc1082a54a252ac4bc190e21b1a8f43ba8e5") false
    Q.gangFirst_over (fun _ h => by cases h) (by kernel_rfl) (fun _ h => by cases h) gangFirst_row_tie rfl ⟨rfl, rfl⟩ (by kernel_rfl) rfl
    (fun f fn hf hfn => by
      obtain rfl : f = 12 := Option.some.inj ((show Tryd.prog.funcNamed "macadam/macadamlaw04.GangFirst" = some 12 by kernel_rfl).symm.trans hf) |>.symm
      obtain rfl : fn = Tryd.f12 := (Option.some.inj (Tryd.func12.symm.trans hfn)).symm
      exact ⟨by kernel_rfl, fun j t ht => by
        rw [Tryd.params12] at ht
        have hm : t ∈ [25, 3] := by simpa using Array.mem_of_getElem? ht
        have hall : ([25, 3].all fun u => !Tryd.prog.wantsStandIn u) = true := by kernel_rfl
        exact (show Tryd.prog.wantsStandIn t = false by simpa using List.all_eq_true.1 hall t hm)⟩)
    (by kernel_rfl)
end Go.Proofs.YtikfghnkbgdbgaaDoor
end
