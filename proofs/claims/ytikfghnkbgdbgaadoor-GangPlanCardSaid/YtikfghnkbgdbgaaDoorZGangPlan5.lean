/- It is proved that the statement GangPlan holds of the given program for every book and every list of numbers; there are no conditions. -/
import Derived.Test.YtikfghnkbgdbgaaDoorZGangPlan4
import Derived.Test.YtikfghnkbgdbgaaDoorTie
import Derived.Test.YtikfghnkbgdbgaaDoorCards
import Derived.SevenTiedAt
set_option linter.unusedSimpArgs false
set_option linter.unusedVariables false
section
namespace Go.Proofs.YtikfghnkbgdbgaaDoor.Q
open Go.RowKit Go.Proofs.YtikfghnkbgdbgaaDoorW.PrintWords Go.Proofs.YtikfghnkbgdbgaaDoorW.PrintLast Go.Proofs.YtikfghnkbgdbgaaDoorW.PrintMore
attribute [local go_sem] max2_int min2_int max_two min_two max_three min_three max_four min_four   -- for this text's walks alone
set_option linter.unusedVariables false
set_option linter.unusedSimpArgs false
def macadamlaw04_GangPlan.j0 : Nat → List Int → List (S59) → Int → Bool → List (S66) → List (S63) → Int → Option (Bool)
 | 0, _, _, _, _, _, _, _ => none
 | k + 1, x1, x5, x6, x58, x526000, x526001, x526002 => if x58 = true then (some false) else ((macadamlaw04_drawn.f k x526000 x526001 x526002 x1).bind fun t536 => ((macadamlaw04_mended.f k x526000 x526001 x526002 t536).bind fun t539 => (if (t539.length : Int) = (x526000.length : Int) then ((macadamlaw04_last.f x5).bind fun t543 => ((macadamlaw04_last.f t536).bind fun t544 => (if x6 = 0 then (if t543 < t544 then ((macadamlaw04_shovelled.f).bind fun t545 => (some t545)) else (if t543 = t544 then (if (x5.length : Int) < (t536.length : Int) then ((macadamlaw04_shovelled.f).bind fun t546 => (some t546)) else (if (x5.length : Int) = (t536.length : Int) then ((macadamlaw04_sooner.f k t536 x5).bind fun t547 => (if t547 = true then (some false) else ((macadamlaw04_shovelled.f).bind fun t548 => (some t548)))) else (some false))) else (some false))) else (some false)))) else ((macadamlaw04_shovelled.f).bind fun t542 => (some t542)))))
def macadamlaw04_GangPlan.f (k : Nat) (l0_0 : List (S66)) (l0_1 : List (S63)) (a0_2 : Int) (l1 : List Int) : Option (Bool) := (gang_Plan.f l0_0 l0_1 a0_2).bind fun bt526 => ((macadamlaw04_sound.f k l0_0 l0_1 a0_2).bind fun t530 => (if t530 = true then (if bt526.2 = 0 then ((macadamlaw04_lawful.f k l0_0 l0_1 a0_2 bt526.1).bind fun t532 => (if t532 = true then ((macadamlaw04_mended.f k l0_0 l0_1 a0_2 bt526.1).bind fun t533 => (macadamlaw04_GangPlan.j0 k l1 bt526.1 bt526.2 ((t533.length : Int) != (l0_0.length : Int)) l0_0 l0_1 a0_2)) else (macadamlaw04_GangPlan.j0 k l1 bt526.1 bt526.2 true l0_0 l0_1 a0_2))) else (if bt526.2 = 4 then (if (bt526.1.length : Int) = 0 then (macadamlaw04_GangPlan.j0 k l1 bt526.1 bt526.2 false l0_0 l0_1 a0_2) else (macadamlaw04_GangPlan.j0 k l1 bt526.1 bt526.2 true l0_0 l0_1 a0_2)) else (macadamlaw04_GangPlan.j0 k l1 bt526.1 bt526.2 true l0_0 l0_1 a0_2))) else (if bt526.2 = 40 then (if (bt526.1.length : Int) = 0 then ((macadamlaw04_shovelled.f).bind fun t531 => (some t531)) else (some false)) else (some false))))
def macadamlaw04_GangPlan.T4 : Bool × List (List Nat × List Nat) := (true, [([], []), ([0], [0]), ([1], [1]), ([2], [2]), ([3, 2], [2, 3]), ([4, 2, 2], [2, 4]), ([5], [5]), ([6, 5], [5, 6]), ([7, 5], [5, 7]), ([5, 8, 2], [2, 5, 8]), ([2, 9], [2, 9]), ([10, 5], [10]), ([11], [11]), ([12, 11], [11, 12]), ([13, 11, 11], [11, 13]), ([14], [14]), ([14], [14]), ([15, 16, 14, 14], [14, 15, 16]), ([17, 14], [14, 17]), ([18, 17, 14], [14, 18]), ([19], [19]), ([19], [19]), ([20, 21, 19, 19], [19, 20, 21]), ([22, 19], [19, 22]), ([19], [19]), ([24, 19], [19, 24]), ([25, 19], [19, 25]), ([23, 26, 19], [19, 23, 26]), ([19, 27, 14], [14, 19, 27]), ([14, 28, 11], [11, 14, 28]), ([11, 29], [11, 29])])
def macadamlaw04_GangPlan.B4 : List Nat := [0, 1, 3, 7, 15, 31, 63, 127, 255, 511, 1023, 2047, 4095, 8191, 16383, 32767, 32767, 131071, 262143, 524287, 1048575, 1048575, 4194303, 8388607, 1048575, 17825791, 51380223, 134217727, 268435455, 536870911, 1073741823]
theorem macadamlaw04_GangPlan.tab4 : rtab .any (opsOf Tryd.f9 4) = macadamlaw04_GangPlan.T4 := by kernel_rfl
theorem macadamlaw04_GangPlan.bits4 : waitsOk macadamlaw04_GangPlan.T4.2 macadamlaw04_GangPlan.B4 = true := by kernel_rfl
def macadamlaw04_GangPlan.T7 : Bool × List (List Nat × List Nat) := (true, [([], []), ([], []), ([0, 1], [0, 1]), ([2], [2]), ([], []), ([4], [4]), ([5], [5]), ([3, 6], [3, 6])])
def macadamlaw04_GangPlan.B7 : List Nat := [0, 0, 3, 7, 0, 16, 48, 127]
theorem macadamlaw04_GangPlan.tab7 : rtab .any (opsOf Tryd.f9 7) = macadamlaw04_GangPlan.T7 := by kernel_rfl
theorem macadamlaw04_GangPlan.bits7 : waitsOk macadamlaw04_GangPlan.T7.2 macadamlaw04_GangPlan.B7 = true := by kernel_rfl
set_option maxHeartbeats 8000000 in
set_option maxRecDepth 100000 in
theorem macadamlaw04_GangPlan.calls (k : Nat) (A0_0 : Option Addr) (c0_0 : Nat) (l0_0 : List (S66)) (A0_1 : Option Addr) (c0_1 : Nat) (l0_1 : List (S63)) (a0_2 : Int) (A1 : Option Addr) (c1 : Nat) (l1 : List Int) (r : Bool) (w : World) (hr0_0 : Kd.C k66 w A0_0 l0_0.length l0_0) (hc0_0 : l0_0.length ≤ c0_0) (hr0_1 : Kd.C k63 w A0_1 l0_1.length l0_1) (hc0_1 : l0_1.length ≤ c0_1) (hr1 : Kd.C (Kd.int .i64) w A1 l1.length l1) (hc1 : l1.length ≤ c1) (hG : GV w) (h : macadamlaw04_GangPlan.f k l0_0 l0_1 a0_2 l1 = some r) :
  Calls Tryd.prog 9 #[.agg #[.slice A0_0 l0_0.length c0_0, .slice A0_1 l0_1.length c0_1, .int .i64 a0_2], .slice A1 l1.length c1] w fun e w' => e = .returned (.bool r) ∧ Below w.heap.size w w' := by
 have hu25 := Tryd.underlying25
 have HR0_0 := Aside0.mk hr0_0
 have HC0_0 := Aside0.mk hc0_0
 clear hr0_0 hc0_0
 have HR0_1 := Aside0.mk hr0_1
 have HC0_1 := Aside0.mk hc0_1
 clear hr0_1 hc0_1
 have HR1 := Aside0.mk hr1
 have HC1 := Aside0.mk hc1
 clear hr1 hc1
 have HB := Aside0.mk (Below.refl w.heap.size w)
 have HG := Aside0.mk hG
 clear hG
 have H : ((gang_Plan.f l0_0 l0_1 a0_2).bind fun bt526 => ((macadamlaw04_sound.f k l0_0 l0_1 a0_2).bind fun t530 => (if t530 = true then (if bt526.2 = 0 then ((macadamlaw04_lawful.f k l0_0 l0_1 a0_2 bt526.1).bind fun t532 => (if t532 = true then ((macadamlaw04_mended.f k l0_0 l0_1 a0_2 bt526.1).bind fun t533 => (macadamlaw04_GangPlan.j0 k l1 bt526.1 bt526.2 ((t533.length : Int) != (l0_0.length : Int)) l0_0 l0_1 a0_2)) else (macadamlaw04_GangPlan.j0 k l1 bt526.1 bt526.2 true l0_0 l0_1 a0_2))) else (if bt526.2 = 4 then (if (bt526.1.length : Int) = 0 then (macadamlaw04_GangPlan.j0 k l1 bt526.1 bt526.2 false l0_0 l0_1 a0_2) else (macadamlaw04_GangPlan.j0 k l1 bt526.1 bt526.2 true l0_0 l0_1 a0_2)) else (macadamlaw04_GangPlan.j0 k l1 bt526.1 bt526.2 true l0_0 l0_1 a0_2))) else (if bt526.2 = 40 then (if (bt526.1.length : Int) = 0 then ((macadamlaw04_shovelled.f).bind fun t531 => (some t531)) else (some false)) else (some false))))) = some r := h
 clear h
 replace H := Option.bind_eq_some_iff.mp H
 obtain ⟨⟨t526, t529⟩, A30, H⟩ := H
 replace H : ((macadamlaw04_sound.f k l0_0 l0_1 a0_2).bind fun t530 => (if t530 = true then (if t529 = 0 then ((macadamlaw04_lawful.f k l0_0 l0_1 a0_2 t526).bind fun t532 => (if t532 = true then ((macadamlaw04_mended.f k l0_0 l0_1 a0_2 t526).bind fun t533 => (macadamlaw04_GangPlan.j0 k l1 t526 t529 ((t533.length : Int) != (l0_0.length : Int)) l0_0 l0_1 a0_2)) else (macadamlaw04_GangPlan.j0 k l1 t526 t529 true l0_0 l0_1 a0_2))) else (if t529 = 4 then (if (t526.length : Int) = 0 then (macadamlaw04_GangPlan.j0 k l1 t526 t529 false l0_0 l0_1 a0_2) else (macadamlaw04_GangPlan.j0 k l1 t526 t529 true l0_0 l0_1 a0_2)) else (macadamlaw04_GangPlan.j0 k l1 t526 t529 true l0_0 l0_1 a0_2))) else (if t529 = 40 then (if (t526.length : Int) = 0 then ((macadamlaw04_shovelled.f).bind fun t531 => (some t531)) else (some false)) else (some false)))) = some r := H
 have A3 := Aside0.mk A30
 clear A30
 replace H := Option.bind_eq_some_iff.mp H
 obtain ⟨t530, A40, H⟩ := H
 replace H : (if t530 = true then (if t529 = 0 then ((macadamlaw04_lawful.f k l0_0 l0_1 a0_2 t526).bind fun t532 => (if t532 = true then ((macadamlaw04_mended.f k l0_0 l0_1 a0_2 t526).bind fun t533 => (macadamlaw04_GangPlan.j0 k l1 t526 t529 ((t533.length : Int) != (l0_0.length : Int)) l0_0 l0_1 a0_2)) else (macadamlaw04_GangPlan.j0 k l1 t526 t529 true l0_0 l0_1 a0_2))) else (if t529 = 4 then (if (t526.length : Int) = 0 then (macadamlaw04_GangPlan.j0 k l1 t526 t529 false l0_0 l0_1 a0_2) else (macadamlaw04_GangPlan.j0 k l1 t526 t529 true l0_0 l0_1 a0_2)) else (macadamlaw04_GangPlan.j0 k l1 t526 t529 true l0_0 l0_1 a0_2))) else (if t529 = 40 then (if (t526.length : Int) = 0 then ((macadamlaw04_shovelled.f).bind fun t531 => (some t531)) else (some false)) else (some false))) = some r := H
 have A4 := Aside0.mk A40
 clear A40
 by_cases c5 : t530 = true
 ·subst c5
  have H1 : (if t529 = 0 then ((macadamlaw04_lawful.f k l0_0 l0_1 a0_2 t526).bind fun t532 => (if t532 = true then ((macadamlaw04_mended.f k l0_0 l0_1 a0_2 t526).bind fun t533 => (macadamlaw04_GangPlan.j0 k l1 t526 t529 ((t533.length : Int) != (l0_0.length : Int)) l0_0 l0_1 a0_2)) else (macadamlaw04_GangPlan.j0 k l1 t526 t529 true l0_0 l0_1 a0_2))) else (if t529 = 4 then (if (t526.length : Int) = 0 then (macadamlaw04_GangPlan.j0 k l1 t526 t529 false l0_0 l0_1 a0_2) else (macadamlaw04_GangPlan.j0 k l1 t526 t529 true l0_0 l0_1 a0_2)) else (macadamlaw04_GangPlan.j0 k l1 t526 t529 true l0_0 l0_1 a0_2))) = some r := by rw [if_pos rfl] at H; exact H
  clear H
  have H := H1
  clear H1
  have HC6 := Aside0.mk H
  clear H
  go_enter Tryd.func9, Tryd.ntmps9
  go_upto_region 4 with (first | ((with_reducible refine gate_dst (N := 2) rfl ?_); (try (refine gate_guard (by rfl) ?_; dsimp only)); refine bx 2 #[.slice A0_0 l0_0.length c0_0, .slice A0_1 l0_1.length c0_1, .int .i64 a0_2] 25 ?_; intro gb525 hg w7 hbox hb; have n0_ := Aside0.mk (below_step (bw HB) hb); have n1_ := Aside0.mk (hbox); have n2_ := Aside0.mk (bz (bw HB) hg); have n3_ := Aside0.mk (bz (bw HB) hg); clear HB; have HB := n0_; have BK525 := n1_; have GW525 := n2_; have GE525 := n3_; clear n0_ n1_ n2_ n3_; clear hb hbox hg; obtain ⟨hcz8_0, hcz8_1, hcz8_2, hfz8_0, hfz8_1, hfz8_2⟩ := b3 BK525) | ((with_reducible refine gate_callee (f := 31) rfl ?_); refine gL (some 12) Tryd.func31 #[.agg #[.slice A0_0 l0_0.length c0_0, .slice A0_1 l0_1.length c0_1, .int .i64 a0_2]] ?_; (with_reducible refine (gang_Plan.calls _ _ l0_0 _ _ l0_1 a0_2 t526 t529 _ ?side1 ?side2 ?side3 ?side4 ?side5 A3.out).mono ?_); (case side1 => repeat (first | exact (Kd.C_below HR0_0.out HB.out) | (with_reducible refine Kd.C_alloc ?_ _) | (with_reducible refine Kd.C_drewN ?_ _) | (with_reducible refine Kd.C_drew ?_))); (case side2 => exact HC0_0.out); (case side3 => repeat (first | exact (Kd.C_below HR0_1.out HB.out) | (with_reducible refine Kd.C_alloc ?_ _) | (with_reducible refine Kd.C_drewN ?_ _) | (with_reducible refine Kd.C_drew ?_))); (case side4 => exact HC0_1.out); (case side5 => exact gv_below HG.out (bw1 HB GE525)); rintro e w9 ⟨v527, rfl, ho0, hb⟩; refine ⟨_, rfl, ?_⟩; have n0_ := Aside0.mk (Kd.V_lower (Kd.V_mono (ok' := fun k_ => k_ ≠ gb525) ho0 (fun k_ hk_ => (Kd.freshB (g := gb525) (o := .cells #[.slice A0_0 l0_0.length c0_0, .slice A0_1 l0_1.length c0_1, .int .i64 a0_2] 25 (0, 0)) (bm BK525) k_ hk_))) (below_size (bw1 HB GE525))); have n1_ := Aside0.mk (blk_below (bm BK525) hb); have n2_ := Aside0.mk (below_step (bw1 HB GE525) hb); clear BK525; clear HB; have HO528 := n0_; have BK525 := n1_; have HB := n2_; clear n0_ n1_ n2_; (try clear hb); (try clear hb2); (try clear hk); (try clear hi); (try clear ho0); obtain ⟨hcz10_0, hcz10_1, hcz10_2, hfz10_0, hfz10_1, hfz10_2⟩ := b3 BK525) | ((with_reducible refine gate_callee (f := 38) rfl ?_); refine gL (some 16) Tryd.func38 #[.agg #[.slice A0_0 l0_0.length c0_0, .slice A0_1 l0_1.length c0_1, .int .i64 a0_2]] ?_; (with_reducible refine (macadamlaw04_sound.calls k _ _ l0_0 _ _ l0_1 a0_2 true _ ?side1 ?side2 ?side3 ?side4 A4.out).mono ?_); (case side1 => repeat (first | exact (Kd.C_below HR0_0.out HB.out) | (with_reducible refine Kd.C_alloc ?_ _) | (with_reducible refine Kd.C_drewN ?_ _) | (with_reducible refine Kd.C_drew ?_))); (case side2 => exact HC0_0.out); (case side3 => repeat (first | exact (Kd.C_below HR0_1.out HB.out) | (with_reducible refine Kd.C_alloc ?_ _) | (with_reducible refine Kd.C_drewN ?_ _) | (with_reducible refine Kd.C_drew ?_))); (case side4 => exact HC0_1.out); rintro e w11 ⟨rfl, hb⟩; refine ⟨_, rfl, ?_⟩; have n0_ := Aside0.mk (Kd.V_below (by (with_reducible repeat (first | apply Kd.V_alloc | apply Kd.V_drewN | apply Kd.V_drew)); exact HO528.out) hb); have n1_ := Aside0.mk (blk_below (bm BK525) hb); have n2_ := Aside0.mk (below_step (bw1 HB GE525) hb); clear HO528; clear BK525; clear HB; have HO528 := n0_; have BK525 := n1_; have HB := n2_; clear n0_ n1_ n2_; (try clear hb); (try clear hb2); (try clear hk); (try clear hi)))
  (try simp only [Act.put, List.setIfInBounds_toArray, List.set_cons_zero, List.set_cons_succ])
  go_cut [58] (fun v58 wc => ∃ (kq : Nat) (x58_5 : Bool), v58 = .bool x58_5 ∧ Aside0 (macadamlaw04_GangPlan.j0 kq l1 t526 t529 x58_5 l0_0 l0_1 a0_2 = some r) ∧ Aside0 (kq ≤ k) ∧ Aside0 (Kd.V k59 59 wc w.heap.size (fun k_ => k_ ≠ gb525) v527 t526) ∧ Aside0 (wc.heap[gb525]? = some (.cells #[(.slice A0_0 l0_0.length c0_0), (.slice A0_1 l0_1.length c0_1), .int .i64 a0_2] 25 (0, 0))) ∧ Aside0 (Below w.heap.size w wc))
  case first =>
   have H := HC6.out
   clear HC6
   by_cases c12 : t529 = 0
   ·rw [if_pos c12] at H
    have c12b0 : (t529 == 0) = true := beq_iff_eq.mpr c12
    have c12b1 : (t529 != 0) = false := bne_eq_false_iff_eq.mpr c12
    clear c12
    (first | rw [c12b0] | (simp only [i64_w, i32_w]; rw [c12b0]) | skip)
    replace H := Option.bind_eq_some_iff.mp H
    obtain ⟨t532, A130, H⟩ := H
    replace H : (if t532 = true then ((macadamlaw04_mended.f k l0_0 l0_1 a0_2 t526).bind fun t533 => (macadamlaw04_GangPlan.j0 k l1 t526 t529 ((t533.length : Int) != (l0_0.length : Int)) l0_0 l0_1 a0_2)) else (macadamlaw04_GangPlan.j0 k l1 t526 t529 true l0_0 l0_1 a0_2)) = some r := H
    have A13 := Aside0.mk A130
    clear A130
    by_cases c14 : t532 = true
    ·subst c14
     have H1 : ((macadamlaw04_mended.f k l0_0 l0_1 a0_2 t526).bind fun t533 => (macadamlaw04_GangPlan.j0 k l1 t526 t529 ((t533.length : Int) != (l0_0.length : Int)) l0_0 l0_1 a0_2)) = some r := by rw [if_pos rfl] at H; exact H
     clear H
     have H := H1
     clear H1
     replace H := Option.bind_eq_some_iff.mp H
     obtain ⟨t533, A150, H⟩ := H
     replace H : (macadamlaw04_GangPlan.j0 k l1 t526 t529 ((t533.length : Int) != (l0_0.length : Int)) l0_0 l0_1 a0_2) = some r := H
     have A15 := Aside0.mk A150
     clear A150
     have H' := Aside0.mk H
     clear H
     try go_wp2
     have n0_ := Aside0.mk (Kd.V_drew HO528.out)
     have n1_ := Aside0.mk (blk_drew BK525.out)
     have n2_ := Aside0.mk (below_drew1 HB.out)
     clear HO528
     clear BK525
     clear HB
     have HO528 := n0_
     have BK525 := n1_
     have HB := n2_
     clear n0_ n1_ n2_
     obtain ⟨Ao17, co17, eo17⟩ := Kd.V_slice HO528.out
     (first | subst eo17 | (injection eo17 with f1_ f2_ f3_; have f4_ := f1_.symm; have f5_ := f3_.symm; clear f1_ f2_ f3_; subst f4_; subst f5_))
     refine start_ (n := 31) (S := fun w' => w'.cell? ⟨gb525, 0, none⟩ = some (.slice A0_0 l0_0.length c0_0) ∧ w'.cell? ⟨gb525, 1, none⟩ = some (.slice A0_1 l0_1.length c0_1) ∧ w'.cell? ⟨gb525, 2, none⟩ = some (.int .i64 a0_2)) (ds := []) (bs 31 0) (by kernel_rfl) rfl rfl ⟨(blk_cell BK525.out 0).trans rfl, (blk_cell BK525.out 1).trans rfl, (blk_cell BK525.out 2).trans rfl⟩ (fun hHeld => ?_); refine with_tabW macadamlaw04_GangPlan.tab4 macadamlaw04_GangPlan.bits4 (fun HT_ HW_ => ?_)
     generalize w11.drew = w16 at HO528 BK525 HB hHeld ⊢
     refine pu HT_ 0 (some 28) (bs 31 1) ?_
     refine pu HT_ 1 (some 29) (bs 31 3) ?_
     refine pu HT_ 2 (some 30) (bs 31 7) ?_
     refine pn HT_ 3 (some 31) (bs 31 15) ?_
     refine pn HT_ 4 (some 32) (bs 31 31) ?_
     refine pn HT_ 5 (some 33) (bs 31 63) ?_
     refine pn HT_ 6 (some 34) (bs 31 127) ?_
     refine pn HT_ 7 (some 35) (bs 31 255) ?_
     refine pn HT_ 8 (some 36) (bs 31 511) ?_
     refine pn HT_ 9 (some 37) (bs 31 1023) ?_
     refine pu HT_ 10 (some 38) (bs 31 2047) ?_
     refine pu HT_ 11 (some 39) (bs 31 4095) ?_
     refine pu HT_ 12 (some 40) (bs 31 8191) ?_
     refine pu HT_ 13 (some 41) (bs 31 16383) ?_
     refine pu HT_ 14 (some 42) (bs 31 32767) ?_
     refine pu HT_ 16 (some 44) (bs 31 98303) ?_
     refine tk3 HT_ HW_ hHeld 15 (some 43) (bs 31 131071) ?_
     refine on HT_ 17 (some 45) (bs 31 262143) (fun K hK => ?_)
     refine goes_ Tryd.func40 (by kernel_rfl) rfl #[.agg #[.slice A0_0 l0_0.length c0_0, .slice A0_1 l0_1.length c0_1, .int .i64 a0_2], .slice Ao17 t526.length co17] (by rfl) rfl rfl (by (try simp only [List.map_toArray, List.map_cons, List.map_nil]); first | done | rfl | (simp only [List.length_drop, List.length_take]; rfl)) ?_
     with_reducible refine (macadamlaw04_lawful.calls k _ _ l0_0 _ _ l0_1 a0_2 _ _ t526 true _ ?side1 ?side2 ?side3 ?side4 ?side5 ?side6 A13.out).mono ?_
     (case side1 => repeat (first | exact (Kd.C_below HR0_0.out HB.out) | (with_reducible refine Kd.C_alloc ?_ _) | (with_reducible refine Kd.C_drewN ?_ _) | (with_reducible refine Kd.C_drew ?_)))
     (case side2 => exact HC0_0.out)
     (case side3 => repeat (first | exact (Kd.C_below HR0_1.out HB.out) | (with_reducible refine Kd.C_alloc ?_ _) | (with_reducible refine Kd.C_drewN ?_ _) | (with_reducible refine Kd.C_drew ?_)))
     (case side4 => exact HC0_1.out)
     (case side5 => repeat (first | exact (Kd.V_reads' HO528.out).2.2 | (with_reducible refine Kd.C_alloc ?_ _) | (with_reducible refine Kd.C_drewN ?_ _) | (with_reducible refine Kd.C_drew ?_)))
     (case side6 => exact (Kd.V_reads' HO528.out).2.1)
     rintro e w18 ⟨rfl, hb⟩
     refine ⟨_, rfl, ?_⟩
     have n0_ := Aside0.mk (Kd.V_below (by (with_reducible repeat (first | apply Kd.V_alloc | apply Kd.V_drewN | apply Kd.V_drew)); exact HO528.out) hb)
     have n1_ := Aside0.mk (blk_below (bm BK525) hb)
     have n2_ := Aside0.mk (below_step (bw1 HB GE525) hb)
     clear HO528
     clear BK525
     clear HB
     have HO528 := n0_
     have BK525 := n1_
     have HB := n2_
     clear n0_ n1_ n2_
     (try clear hb)
     (try clear hb2)
     (try clear hk)
     (try clear hi)
     refine hK.out _ _ ⟨(blk_cell BK525.out 0).trans rfl, (blk_cell BK525.out 1).trans rfl, (blk_cell BK525.out 2).trans rfl⟩ (fun hHeld => ?_)
     clear hK K
     refine nm 45 ?_
     refine pu HT_ 18 (some 46) (bs 31 524287) ?_
     refine pu HT_ 19 (some 47) (bs 31 1048575) ?_
     refine pu HT_ 21 (some 49) (bs 31 3145727) ?_
     refine pu HT_ 24 (some 52) (bs 31 19922943) ?_
     refine tk3 HT_ HW_ hHeld 20 (some 48) (bs 31 20971519) ?_
     refine tk3 HT_ HW_ hHeld 25 (some 53) (bs 31 54525951) ?_
     refine pu HT_ 26 (some 54) (bs 31 121634815) ?_
     refine on HT_ 22 (some 50) (bs 31 125829119) (fun K hK => ?_)
     refine goes_ Tryd.func48 (by kernel_rfl) rfl #[.agg #[.slice A0_0 l0_0.length c0_0, .slice A0_1 l0_1.length c0_1, .int .i64 a0_2], .slice Ao17 t526.length co17] (by rfl) rfl rfl (by (try simp only [List.map_toArray, List.map_cons, List.map_nil]); first | done | rfl | (simp only [List.length_drop, List.length_take]; rfl)) ?_
     with_reducible refine (macadamlaw04_mended.calls k _ _ l0_0 _ _ l0_1 a0_2 _ _ t526 t533 _ ?side1 ?side2 ?side3 ?side4 ?side5 ?side6 A15.out).mono ?_
     (case side1 => repeat (first | exact (Kd.C_below HR0_0.out HB.out) | (with_reducible refine Kd.C_alloc ?_ _) | (with_reducible refine Kd.C_drewN ?_ _) | (with_reducible refine Kd.C_drew ?_)))
     (case side2 => exact HC0_0.out)
     (case side3 => repeat (first | exact (Kd.C_below HR0_1.out HB.out) | (with_reducible refine Kd.C_alloc ?_ _) | (with_reducible refine Kd.C_drewN ?_ _) | (with_reducible refine Kd.C_drew ?_)))
     (case side4 => exact HC0_1.out)
     (case side5 => repeat (first | exact (Kd.V_reads' HO528.out).2.2 | (with_reducible refine Kd.C_alloc ?_ _) | (with_reducible refine Kd.C_drewN ?_ _) | (with_reducible refine Kd.C_drew ?_)))
     (case side6 => exact (Kd.V_reads' HO528.out).2.1)
     rintro e w19 ⟨v534, rfl, ho0, hb⟩
     refine ⟨_, rfl, ?_⟩
     have n0_ := Aside0.mk (Kd.V_elder' (by (with_reducible repeat (first | apply Kd.V_alloc | apply Kd.V_drewN | apply Kd.V_drew)); exact HO528.out) (Kd.R_base ho0) hb)
     have n1_ := Aside0.mk (Kd.R_lower ho0 (below_size (bw1 HB GE525)))
     have n2_ := Aside0.mk (blk_below (bm BK525) hb)
     have n3_ := Aside0.mk (below_step (bw1 HB GE525) hb)
     clear HO528
     clear BK525
     clear HB
     have HO528 := n0_
     have HO535 := n1_
     have BK525 := n2_
     have HB := n3_
     clear n0_ n1_ n2_ n3_
     (try clear hb)
     (try clear hb2)
     (try clear hk)
     (try clear hi)
     (try clear ho0)
     obtain ⟨Ao20, co20, eo20⟩ := Kd.R_slice HO535.out
     (first | subst eo20 | (injection eo20 with f1_ f2_ f3_; have f4_ := f1_.symm; have f5_ := f3_.symm; clear f1_ f2_ f3_; subst f4_; subst f5_))
     refine hK.out _ _ ⟨(blk_cell BK525.out 0).trans rfl, (blk_cell BK525.out 1).trans rfl, (blk_cell BK525.out 2).trans rfl⟩ (fun hHeld => ?_)
     clear hK K
     refine nm 50 ?_
     refine pu HT_ 23 (some 51) (bs 31 134217727) ?_
     refine pu HT_ 27 (some 55) (bs 31 268435455) ?_
     refine pu HT_ 28 (some 56) (bs 31 536870911) ?_
     refine pu HT_ 29 (some 57) (bs 31 1073741823) ?_
     refine pu HT_ 30 (some 58) (bs 31 2147483647) ?_
     refine done_ (done_of HT_.out (by kernel_rfl)) ?_
     try go_wp2
     go_meet
     case rel => exact ⟨_, (((t533.length : Int) != (l0_0.length : Int))), (by first | rfl | (simp; done) | (simp [*]; done)), H', ⟨by first | omega | exact Nat.le_refl _⟩, ⟨by (with_reducible repeat (first | apply Kd.V_alloc | apply Kd.V_drewN | apply Kd.V_drew)); exact Kd.V_mono HO528.out (fun _ hk => hk.1)⟩, ⟨bm BK525⟩, ⟨bw1 HB GE525⟩⟩
    ·replace c14 := Bool.eq_false_iff.mpr c14
     subst c14
     have H1 : (macadamlaw04_GangPlan.j0 k l1 t526 t529 true l0_0 l0_1 a0_2) = some r := by rw [if_neg (show ¬ (false = true) by decide)] at H; exact H
     clear H
     have H := H1
     clear H1
     have H' := Aside0.mk H
     clear H
     try go_wp2
     have n0_ := Aside0.mk (Kd.V_drew HO528.out)
     have n1_ := Aside0.mk (blk_drew BK525.out)
     have n2_ := Aside0.mk (below_drew1 HB.out)
     clear HO528
     clear BK525
     clear HB
     have HO528 := n0_
     have BK525 := n1_
     have HB := n2_
     clear n0_ n1_ n2_
     obtain ⟨Ao22, co22, eo22⟩ := Kd.V_slice HO528.out
     (first | subst eo22 | (injection eo22 with f1_ f2_ f3_; have f4_ := f1_.symm; have f5_ := f3_.symm; clear f1_ f2_ f3_; subst f4_; subst f5_))
     refine start_ (n := 31) (S := fun w' => w'.cell? ⟨gb525, 0, none⟩ = some (.slice A0_0 l0_0.length c0_0) ∧ w'.cell? ⟨gb525, 1, none⟩ = some (.slice A0_1 l0_1.length c0_1) ∧ w'.cell? ⟨gb525, 2, none⟩ = some (.int .i64 a0_2)) (ds := []) (bs 31 0) (by kernel_rfl) rfl rfl ⟨(blk_cell BK525.out 0).trans rfl, (blk_cell BK525.out 1).trans rfl, (blk_cell BK525.out 2).trans rfl⟩ (fun hHeld => ?_); refine with_tabW macadamlaw04_GangPlan.tab4 macadamlaw04_GangPlan.bits4 (fun HT_ HW_ => ?_)
     generalize w11.drew = w21 at HO528 BK525 HB hHeld ⊢
     refine pu HT_ 0 (some 28) (bs 31 1) ?_
     refine pu HT_ 1 (some 29) (bs 31 3) ?_
     refine pu HT_ 2 (some 30) (bs 31 7) ?_
     refine pn HT_ 3 (some 31) (bs 31 15) ?_
     refine pn HT_ 4 (some 32) (bs 31 31) ?_
     refine pn HT_ 5 (some 33) (bs 31 63) ?_
     refine pn HT_ 6 (some 34) (bs 31 127) ?_
     refine pn HT_ 7 (some 35) (bs 31 255) ?_
     refine pn HT_ 8 (some 36) (bs 31 511) ?_
     refine pn HT_ 9 (some 37) (bs 31 1023) ?_
     refine pu HT_ 10 (some 38) (bs 31 2047) ?_
     refine pu HT_ 11 (some 39) (bs 31 4095) ?_
     refine pu HT_ 12 (some 40) (bs 31 8191) ?_
     refine pu HT_ 13 (some 41) (bs 31 16383) ?_
     refine pu HT_ 14 (some 42) (bs 31 32767) ?_
     refine pu HT_ 16 (some 44) (bs 31 98303) ?_
     refine tk3 HT_ HW_ hHeld 15 (some 43) (bs 31 131071) ?_
     refine on HT_ 17 (some 45) (bs 31 262143) (fun K hK => ?_)
     refine goes_ Tryd.func40 (by kernel_rfl) rfl #[.agg #[.slice A0_0 l0_0.length c0_0, .slice A0_1 l0_1.length c0_1, .int .i64 a0_2], .slice Ao22 t526.length co22] (by rfl) rfl rfl (by (try simp only [List.map_toArray, List.map_cons, List.map_nil]); first | done | rfl | (simp only [List.length_drop, List.length_take]; rfl)) ?_
     with_reducible refine (macadamlaw04_lawful.calls k _ _ l0_0 _ _ l0_1 a0_2 _ _ t526 false _ ?side1 ?side2 ?side3 ?side4 ?side5 ?side6 A13.out).mono ?_
     (case side1 => repeat (first | exact (Kd.C_below HR0_0.out HB.out) | (with_reducible refine Kd.C_alloc ?_ _) | (with_reducible refine Kd.C_drewN ?_ _) | (with_reducible refine Kd.C_drew ?_)))
     (case side2 => exact HC0_0.out)
     (case side3 => repeat (first | exact (Kd.C_below HR0_1.out HB.out) | (with_reducible refine Kd.C_alloc ?_ _) | (with_reducible refine Kd.C_drewN ?_ _) | (with_reducible refine Kd.C_drew ?_)))
     (case side4 => exact HC0_1.out)
     (case side5 => repeat (first | exact (Kd.V_reads' HO528.out).2.2 | (with_reducible refine Kd.C_alloc ?_ _) | (with_reducible refine Kd.C_drewN ?_ _) | (with_reducible refine Kd.C_drew ?_)))
     (case side6 => exact (Kd.V_reads' HO528.out).2.1)
     rintro e w23 ⟨rfl, hb⟩
     refine ⟨_, rfl, ?_⟩
     have n0_ := Aside0.mk (Kd.V_below (by (with_reducible repeat (first | apply Kd.V_alloc | apply Kd.V_drewN | apply Kd.V_drew)); exact HO528.out) hb)
     have n1_ := Aside0.mk (blk_below (bm BK525) hb)
     have n2_ := Aside0.mk (below_step (bw1 HB GE525) hb)
     clear HO528
     clear BK525
     clear HB
     have HO528 := n0_
     have BK525 := n1_
     have HB := n2_
     clear n0_ n1_ n2_
     (try clear hb)
     (try clear hb2)
     (try clear hk)
     (try clear hi)
     refine hK.out _ _ ⟨(blk_cell BK525.out 0).trans rfl, (blk_cell BK525.out 1).trans rfl, (blk_cell BK525.out 2).trans rfl⟩ (fun hHeld => ?_)
     clear hK K
     refine nm 45 ?_
     refine pu HT_ 18 (some 46) (bs 31 524287) ?_
     refine pu HT_ 19 (some 47) (bs 31 1048575) ?_
     refine pn HT_ 20 (some 48) (bs 31 2097151) ?_
     refine pn HT_ 21 (some 49) (bs 31 4194303) ?_
     refine pn HT_ 22 (some 50) (bs 31 8388607) ?_
     refine pn HT_ 23 (some 51) (bs 31 16777215) ?_
     refine pn HT_ 24 (some 52) (bs 31 33554431) ?_
     refine pn HT_ 25 (some 53) (bs 31 67108863) ?_
     refine pn HT_ 26 (some 54) (bs 31 134217727) ?_
     refine pn HT_ 27 (some 55) (bs 31 268435455) ?_
     refine pu HT_ 28 (some 56) (bs 31 536870911) ?_
     refine pu HT_ 29 (some 57) (bs 31 1073741823) ?_
     refine pu HT_ 30 (some 58) (bs 31 2147483647) ?_
     refine done_ (done_of HT_.out (by kernel_rfl)) ?_
     try go_wp2
     go_meet
     case rel => exact ⟨_, (true), (by first | rfl | (simp; done) | (simp [*]; done)), H', ⟨by first | omega | exact Nat.le_refl _⟩, ⟨by (with_reducible repeat (first | apply Kd.V_alloc | apply Kd.V_drewN | apply Kd.V_drew)); exact HO528.out⟩, ⟨bm BK525⟩, ⟨bw1 HB GE525⟩⟩
   ·rw [if_neg c12] at H
    have c12b0 : (t529 == 0) = false := beq_eq_false_iff_ne.mpr c12
    have c12b1 : (t529 != 0) = true := bne_iff_ne.mpr c12
    (first | rw [c12b0] | (simp only [i64_w, i32_w]; rw [c12b0]) | skip)
    by_cases c24 : t529 = 4
    ·rw [if_pos c24] at H
     have c24b0 : (t529 == 4) = true := beq_iff_eq.mpr c24
     have c24b1 : (t529 != 4) = false := bne_eq_false_iff_eq.mpr c24
     clear c24
     by_cases c25 : (t526.length : Int) = 0
     ·rw [if_pos c25] at H
      have c25b0 : ((t526.length : Int) == 0) = true := beq_iff_eq.mpr c25
      have c25b1 : ((t526.length : Int) != 0) = false := bne_eq_false_iff_eq.mpr c25
      clear c25
      have H' := Aside0.mk H
      clear H
      try go_wp2
      have n0_ := Aside0.mk (Kd.V_drew HO528.out)
      have n1_ := Aside0.mk (blk_drew BK525.out)
      have n2_ := Aside0.mk (below_drew1 HB.out)
      clear HO528
      clear BK525
      clear HB
      have HO528 := n0_
      have BK525 := n1_
      have HB := n2_
      clear n0_ n1_ n2_
      obtain ⟨Ao27, co27, eo27⟩ := Kd.V_slice HO528.out
      (first | subst eo27 | (injection eo27 with f1_ f2_ f3_; have f4_ := f1_.symm; have f5_ := f3_.symm; clear f1_ f2_ f3_; subst f4_; subst f5_))
      refine start_ (n := 31) (S := fun w' => True) (ds := []) (bs 31 0) (by kernel_rfl) rfl rfl trivial (fun hHeld => ?_); refine with_tabW macadamlaw04_GangPlan.tab4 macadamlaw04_GangPlan.bits4 (fun HT_ HW_ => ?_)
      generalize w11.drew = w26 at HO528 BK525 HB hHeld ⊢
      refine pu HT_ 0 (some 28) (bs 31 1) ?_
      refine pu HT_ 1 (some 29) (bs 31 3) ?_
      refine pu HT_ 2 (some 30) (bs 31 7) ?_
      refine pu HT_ 3 (some 31) (bs 31 15) ?_
      refine pu HT_ 4 (some 32) (bs 31 31) ?_
      refine pu HT_ 5 (some 33) (bs 31 63) ?_
      refine pu HT_ 6 (some 34) (bs 31 127) ?_
      refine pu HT_ 7 (some 35) (bs 31 255) ?_
      refine pu HT_ 8 (some 36) (bs 31 511) ?_
      refine pu HT_ 9 (some 37) (bs 31 1023) ?_
      refine pu HT_ 10 (some 38) (bs 31 2047) ?_
      refine pu HT_ 11 (some 39) (bs 31 4095) ?_
      refine pu HT_ 12 (some 40) (bs 31 8191) ?_
      refine pu HT_ 13 (some 41) (bs 31 16383) ?_
      refine pu HT_ 14 (some 42) (bs 31 32767) ?_
      refine pn HT_ 15 (some 43) (bs 31 65535) ?_
      refine pn HT_ 16 (some 44) (bs 31 131071) ?_
      refine pn HT_ 17 (some 45) (bs 31 262143) ?_
      refine pn HT_ 18 (some 46) (bs 31 524287) ?_
      refine pn HT_ 19 (some 47) (bs 31 1048575) ?_
      refine pn HT_ 20 (some 48) (bs 31 2097151) ?_
      refine pn HT_ 21 (some 49) (bs 31 4194303) ?_
      refine pn HT_ 22 (some 50) (bs 31 8388607) ?_
      refine pn HT_ 23 (some 51) (bs 31 16777215) ?_
      refine pn HT_ 24 (some 52) (bs 31 33554431) ?_
      refine pn HT_ 25 (some 53) (bs 31 67108863) ?_
      refine pn HT_ 26 (some 54) (bs 31 134217727) ?_
      refine pn HT_ 27 (some 55) (bs 31 268435455) ?_
      refine pn HT_ 28 (some 56) (bs 31 536870911) ?_
      refine pu HT_ 29 (some 57) (bs 31 1073741823) ?_
      refine pu HT_ 30 (some 58) (bs 31 2147483647) ?_
      refine done_ (done_of HT_.out (by kernel_rfl)) ?_
      try go_wp2
      go_meet
      case rel => exact ⟨_, (false), (by first | rfl | (simp; done) | (simp [*]; done)), H', ⟨by first | omega | exact Nat.le_refl _⟩, ⟨by (with_reducible repeat (first | apply Kd.V_alloc | apply Kd.V_drewN | apply Kd.V_drew)); exact HO528.out⟩, ⟨bm BK525⟩, ⟨bw1 HB GE525⟩⟩
     ·rw [if_neg c25] at H
      have c25b0 : ((t526.length : Int) == 0) = false := beq_eq_false_iff_ne.mpr c25
      have c25b1 : ((t526.length : Int) != 0) = true := bne_iff_ne.mpr c25
      have c25b2 : ¬ (t526 = []) := fun h_ => c25 (by rw [h_]; rfl)
      have H' := Aside0.mk H
      clear H
      try go_wp2
      have n0_ := Aside0.mk (Kd.V_drew HO528.out)
      have n1_ := Aside0.mk (blk_drew BK525.out)
      have n2_ := Aside0.mk (below_drew1 HB.out)
      clear HO528
      clear BK525
      clear HB
      have HO528 := n0_
      have BK525 := n1_
      have HB := n2_
      clear n0_ n1_ n2_
      obtain ⟨Ao29, co29, eo29⟩ := Kd.V_slice HO528.out
      (first | subst eo29 | (injection eo29 with f1_ f2_ f3_; have f4_ := f1_.symm; have f5_ := f3_.symm; clear f1_ f2_ f3_; subst f4_; subst f5_))
      refine start_ (n := 31) (S := fun w' => True) (ds := []) (bs 31 0) (by kernel_rfl) rfl rfl trivial (fun hHeld => ?_); refine with_tabW macadamlaw04_GangPlan.tab4 macadamlaw04_GangPlan.bits4 (fun HT_ HW_ => ?_)
      generalize w11.drew = w28 at HO528 BK525 HB hHeld ⊢
      refine pu HT_ 0 (some 28) (bs 31 1) ?_
      refine pu HT_ 1 (some 29) (bs 31 3) ?_
      refine pu HT_ 2 (some 30) (bs 31 7) ?_
      refine pu HT_ 3 (some 31) (bs 31 15) ?_
      refine pu HT_ 4 (some 32) (bs 31 31) ?_
      refine pu HT_ 5 (some 33) (bs 31 63) ?_
      refine pu HT_ 6 (some 34) (bs 31 127) ?_
      refine pu HT_ 7 (some 35) (bs 31 255) ?_
      refine pu HT_ 8 (some 36) (bs 31 511) ?_
      refine pu HT_ 9 (some 37) (bs 31 1023) ?_
      refine pu HT_ 10 (some 38) (bs 31 2047) ?_
      refine pu HT_ 11 (some 39) (bs 31 4095) ?_
      refine pn HT_ 12 (some 40) (bs 31 8191) ?_
      refine pn HT_ 13 (some 41) (bs 31 16383) ?_
      refine pn HT_ 14 (some 42) (bs 31 32767) ?_
      refine pn HT_ 15 (some 43) (bs 31 65535) ?_
      refine pn HT_ 16 (some 44) (bs 31 131071) ?_
      refine pn HT_ 17 (some 45) (bs 31 262143) ?_
      refine pn HT_ 18 (some 46) (bs 31 524287) ?_
      refine pn HT_ 19 (some 47) (bs 31 1048575) ?_
      refine pn HT_ 20 (some 48) (bs 31 2097151) ?_
      refine pn HT_ 21 (some 49) (bs 31 4194303) ?_
      refine pn HT_ 22 (some 50) (bs 31 8388607) ?_
      refine pn HT_ 23 (some 51) (bs 31 16777215) ?_
      refine pn HT_ 24 (some 52) (bs 31 33554431) ?_
      refine pn HT_ 25 (some 53) (bs 31 67108863) ?_
      refine pn HT_ 26 (some 54) (bs 31 134217727) ?_
      refine pn HT_ 27 (some 55) (bs 31 268435455) ?_
      refine pn HT_ 28 (some 56) (bs 31 536870911) ?_
      refine pn HT_ 29 (some 57) (bs 31 1073741823) ?_
      refine pu HT_ 30 (some 58) (bs 31 2147483647) ?_
      refine done_ (done_of HT_.out (by kernel_rfl)) ?_
      try go_wp2
      go_meet
      case rel => exact ⟨_, (true), (by first | rfl | (simp; done) | (simp [*]; done)), H', ⟨by first | omega | exact Nat.le_refl _⟩, ⟨by (with_reducible repeat (first | apply Kd.V_alloc | apply Kd.V_drewN | apply Kd.V_drew)); exact HO528.out⟩, ⟨bm BK525⟩, ⟨bw1 HB GE525⟩⟩
    ·rw [if_neg c24] at H
     have c24b0 : (t529 == 4) = false := beq_eq_false_iff_ne.mpr c24
     have c24b1 : (t529 != 4) = true := bne_iff_ne.mpr c24
     have H' := Aside0.mk H
     clear H
     try go_wp2
     have n0_ := Aside0.mk (Kd.V_drew HO528.out)
     have n1_ := Aside0.mk (blk_drew BK525.out)
     have n2_ := Aside0.mk (below_drew1 HB.out)
     clear HO528
     clear BK525
     clear HB
     have HO528 := n0_
     have BK525 := n1_
     have HB := n2_
     clear n0_ n1_ n2_
     refine start_ (n := 31) (S := fun w' => True) (ds := []) (bs 31 0) (by kernel_rfl) rfl rfl trivial (fun hHeld => ?_); refine with_tabW macadamlaw04_GangPlan.tab4 macadamlaw04_GangPlan.bits4 (fun HT_ HW_ => ?_)
     generalize w11.drew = w30 at HO528 BK525 HB hHeld ⊢
     refine pu HT_ 0 (some 28) (bs 31 1) ?_
     refine pu HT_ 1 (some 29) (bs 31 3) ?_
     refine pu HT_ 2 (some 30) (bs 31 7) ?_
     refine pu HT_ 3 (some 31) (bs 31 15) ?_
     refine pu HT_ 4 (some 32) (bs 31 31) ?_
     refine pu HT_ 5 (some 33) (bs 31 63) ?_
     refine pn HT_ 6 (some 34) (bs 31 127) ?_
     refine pn HT_ 7 (some 35) (bs 31 255) ?_
     refine pn HT_ 8 (some 36) (bs 31 511) ?_
     refine pu HT_ 9 (some 37) (bs 31 1023) ?_
     refine pu HT_ 10 (some 38) (bs 31 2047) ?_
     refine pu HT_ 11 (some 39) (bs 31 4095) ?_
     refine pn HT_ 12 (some 40) (bs 31 8191) ?_
     refine pn HT_ 13 (some 41) (bs 31 16383) ?_
     refine pn HT_ 14 (some 42) (bs 31 32767) ?_
     refine pn HT_ 15 (some 43) (bs 31 65535) ?_
     refine pn HT_ 16 (some 44) (bs 31 131071) ?_
     refine pn HT_ 17 (some 45) (bs 31 262143) ?_
     refine pn HT_ 18 (some 46) (bs 31 524287) ?_
     refine pn HT_ 19 (some 47) (bs 31 1048575) ?_
     refine pn HT_ 20 (some 48) (bs 31 2097151) ?_
     refine pn HT_ 21 (some 49) (bs 31 4194303) ?_
     refine pn HT_ 22 (some 50) (bs 31 8388607) ?_
     refine pn HT_ 23 (some 51) (bs 31 16777215) ?_
     refine pn HT_ 24 (some 52) (bs 31 33554431) ?_
     refine pn HT_ 25 (some 53) (bs 31 67108863) ?_
     refine pn HT_ 26 (some 54) (bs 31 134217727) ?_
     refine pn HT_ 27 (some 55) (bs 31 268435455) ?_
     refine pn HT_ 28 (some 56) (bs 31 536870911) ?_
     refine pn HT_ 29 (some 57) (bs 31 1073741823) ?_
     refine pu HT_ 30 (some 58) (bs 31 2147483647) ?_
     refine done_ (done_of HT_.out (by kernel_rfl)) ?_
     try go_wp2
     go_meet
     case rel => exact ⟨_, (true), (by first | rfl | (simp; done) | (simp [*]; done)), H', ⟨by first | omega | exact Nat.le_refl _⟩, ⟨by (with_reducible repeat (first | apply Kd.V_alloc | apply Kd.V_drewN | apply Kd.V_drew)); exact HO528.out⟩, ⟨bm BK525⟩, ⟨bw1 HB GE525⟩⟩
  case rest =>
   clear HC6
   try clear c2
   try clear p2
   try clear c24
   try clear c24b0
   try clear c24b1
   try clear c25
   try clear c25b0
   try clear c25b1
   try clear c25b2
   obtain ⟨kq, x58_5, rfl, HA, HJ5, HO_5, BK525, HB⟩ := hcut
   cases kq with
   | zero => exact absurd HA.out (by simp [macadamlaw04_GangPlan.j0])
   | succ kj5 =>
    have H := HA.out
    clear HA
    simp only [macadamlaw04_GangPlan.j0] at H
    by_cases c31 : x58_5 = true
    ·subst c31
     have H1 : (some false) = some r := by rw [if_pos rfl] at H; exact H
     clear H
     have H := H1
     clear H1
     obtain rfl := Option.some.inj H
     go_wp2
     go_ret
     exact ⟨by first | rfl | (simp [errW_none, errW_some] <;> rfl) | (simp [*, errW_none, errW_some] <;> rfl), bw1 HB GE525⟩
    ·replace c31 := Bool.eq_false_iff.mpr c31
     subst c31
     have H1 : ((macadamlaw04_drawn.f kj5 l0_0 l0_1 a0_2 l1).bind fun t536 => ((macadamlaw04_mended.f kj5 l0_0 l0_1 a0_2 t536).bind fun t539 => (if (t539.length : Int) = (l0_0.length : Int) then ((macadamlaw04_last.f t526).bind fun t543 => ((macadamlaw04_last.f t536).bind fun t544 => (if t529 = 0 then (if t543 < t544 then ((macadamlaw04_shovelled.f).bind fun t545 => (some t545)) else (if t543 = t544 then (if (t526.length : Int) < (t536.length : Int) then ((macadamlaw04_shovelled.f).bind fun t546 => (some t546)) else (if (t526.length : Int) = (t536.length : Int) then ((macadamlaw04_sooner.f kj5 t536 t526).bind fun t547 => (if t547 = true then (some false) else ((macadamlaw04_shovelled.f).bind fun t548 => (some t548)))) else (some false))) else (some false))) else (some false)))) else ((macadamlaw04_shovelled.f).bind fun t542 => (some t542))))) = some r := by rw [if_neg (show ¬ (false = true) by decide)] at H; exact H
     clear H
     have H := H1
     clear H1
     replace H := Option.bind_eq_some_iff.mp H
     obtain ⟨t536, A320, H⟩ := H
     replace H : ((macadamlaw04_mended.f kj5 l0_0 l0_1 a0_2 t536).bind fun t539 => (if (t539.length : Int) = (l0_0.length : Int) then ((macadamlaw04_last.f t526).bind fun t543 => ((macadamlaw04_last.f t536).bind fun t544 => (if t529 = 0 then (if t543 < t544 then ((macadamlaw04_shovelled.f).bind fun t545 => (some t545)) else (if t543 = t544 then (if (t526.length : Int) < (t536.length : Int) then ((macadamlaw04_shovelled.f).bind fun t546 => (some t546)) else (if (t526.length : Int) = (t536.length : Int) then ((macadamlaw04_sooner.f kj5 t536 t526).bind fun t547 => (if t547 = true then (some false) else ((macadamlaw04_shovelled.f).bind fun t548 => (some t548)))) else (some false))) else (some false))) else (some false)))) else ((macadamlaw04_shovelled.f).bind fun t542 => (some t542)))) = some r := H
     have A32 := Aside0.mk A320
     clear A320
     replace H := Option.bind_eq_some_iff.mp H
     obtain ⟨t539, A330, H⟩ := H
     replace H : (if (t539.length : Int) = (l0_0.length : Int) then ((macadamlaw04_last.f t526).bind fun t543 => ((macadamlaw04_last.f t536).bind fun t544 => (if t529 = 0 then (if t543 < t544 then ((macadamlaw04_shovelled.f).bind fun t545 => (some t545)) else (if t543 = t544 then (if (t526.length : Int) < (t536.length : Int) then ((macadamlaw04_shovelled.f).bind fun t546 => (some t546)) else (if (t526.length : Int) = (t536.length : Int) then ((macadamlaw04_sooner.f kj5 t536 t526).bind fun t547 => (if t547 = true then (some false) else ((macadamlaw04_shovelled.f).bind fun t548 => (some t548)))) else (some false))) else (some false))) else (some false)))) else ((macadamlaw04_shovelled.f).bind fun t542 => (some t542))) = some r := H
     have A33 := Aside0.mk A330
     clear A330
     by_cases c34 : (t539.length : Int) = (l0_0.length : Int)
     ·rw [if_pos c34] at H
      have c34b0 : ((t539.length : Int) == (l0_0.length : Int)) = true := beq_iff_eq.mpr c34
      have c34b1 : ((t539.length : Int) != (l0_0.length : Int)) = false := bne_eq_false_iff_eq.mpr c34
      have c34b2 : (t539.length == l0_0.length) = true := by first | simpa using c34 | (simp at c34 ⊢; omega)
      clear c34
      replace H := Option.bind_eq_some_iff.mp H
      obtain ⟨t543, A350, H⟩ := H
      replace H : ((macadamlaw04_last.f t536).bind fun t544 => (if t529 = 0 then (if t543 < t544 then ((macadamlaw04_shovelled.f).bind fun t545 => (some t545)) else (if t543 = t544 then (if (t526.length : Int) < (t536.length : Int) then ((macadamlaw04_shovelled.f).bind fun t546 => (some t546)) else (if (t526.length : Int) = (t536.length : Int) then ((macadamlaw04_sooner.f kj5 t536 t526).bind fun t547 => (if t547 = true then (some false) else ((macadamlaw04_shovelled.f).bind fun t548 => (some t548)))) else (some false))) else (some false))) else (some false))) = some r := H
      have A35 := Aside0.mk A350
      clear A350
      replace H := Option.bind_eq_some_iff.mp H
      obtain ⟨t544, A360, H⟩ := H
      replace H : (if t529 = 0 then (if t543 < t544 then ((macadamlaw04_shovelled.f).bind fun t545 => (some t545)) else (if t543 = t544 then (if (t526.length : Int) < (t536.length : Int) then ((macadamlaw04_shovelled.f).bind fun t546 => (some t546)) else (if (t526.length : Int) = (t536.length : Int) then ((macadamlaw04_sooner.f kj5 t536 t526).bind fun t547 => (if t547 = true then (some false) else ((macadamlaw04_shovelled.f).bind fun t548 => (some t548)))) else (some false))) else (some false))) else (some false)) = some r := H
      have A36 := Aside0.mk A360
      clear A360
      by_cases c37 : t529 = 0
      ·rw [if_pos c37] at H
       have c37b0 : (t529 == 0) = true := beq_iff_eq.mpr c37
       have c37b1 : (t529 != 0) = false := bne_eq_false_iff_eq.mpr c37
       clear c37
       by_cases c38 : t543 < t544
       ·rw [if_pos c38] at H
        have c38b0 : decide (t543 < t544) = true := decide_eq_true c38
        clear c38
        replace H := Option.bind_eq_some_iff.mp H
        obtain ⟨t545, A390, H⟩ := H
        replace H : (some t545) = some r := H
        have A39 := Aside0.mk A390
        clear A390
        obtain rfl := Option.some.inj H
        obtain ⟨hcz40_0, hcz40_1, hcz40_2, hfz40_0, hfz40_1, hfz40_2⟩ := b3 BK525
        try go_wp2_with (first | ((with_reducible refine gate_callee (f := 47) rfl ?_); refine gL (some 61) Tryd.func47 #[.agg #[.slice A0_0 l0_0.length c0_0, .slice A0_1 l0_1.length c0_1, .int .i64 a0_2], .slice A1 l1.length c1] ?_; (with_reducible refine (macadamlaw04_drawn.calls kj5 _ _ l0_0 _ _ l0_1 a0_2 _ _ l1 t536 _ ?side1 ?side2 ?side3 ?side4 ?side5 ?side6 A32.out).mono ?_); (case side1 => repeat (first | exact (Kd.C_below HR0_0.out HB.out) | (with_reducible refine Kd.C_alloc ?_ _) | (with_reducible refine Kd.C_drewN ?_ _) | (with_reducible refine Kd.C_drew ?_))); (case side2 => exact HC0_0.out); (case side3 => repeat (first | exact (Kd.C_below HR0_1.out HB.out) | (with_reducible refine Kd.C_alloc ?_ _) | (with_reducible refine Kd.C_drewN ?_ _) | (with_reducible refine Kd.C_drew ?_))); (case side4 => exact HC0_1.out); (case side5 => repeat (first | exact (Kd.C_below HR1.out HB.out) | (with_reducible refine Kd.C_alloc ?_ _) | (with_reducible refine Kd.C_drewN ?_ _) | (with_reducible refine Kd.C_drew ?_))); (case side6 => exact HC1.out); rintro e w41 ⟨v537, rfl, ho0, hb⟩; refine ⟨_, rfl, ?_⟩; have n0_ := Aside0.mk (Kd.V_elder' (by (with_reducible repeat (first | apply Kd.V_alloc | apply Kd.V_drewN | apply Kd.V_drew)); exact HO_5.out) (Kd.R_base ho0) hb); have n1_ := Aside0.mk (Kd.R_lower ho0 (below_size (bw1 HB GE525))); have n2_ := Aside0.mk (blk_below (bm BK525) hb); have n3_ := Aside0.mk (below_step (bw1 HB GE525) hb); clear HO_5; clear BK525; clear HB; have HO_5 := n0_; have HO538 := n1_; have BK525 := n2_; have HB := n3_; clear n0_ n1_ n2_ n3_; (try clear hb); (try clear hb2); (try clear hk); (try clear hi); (try clear ho0)))
        have n0_ := Aside0.mk (Kd.V_drew HO_5.out)
        have n1_ := Aside0.mk (Kd.R_drew HO538.out)
        have n2_ := Aside0.mk (blk_drew BK525.out)
        have n3_ := Aside0.mk (below_drew1 HB.out)
        clear HO_5
        clear HO538
        clear BK525
        clear HB
        have HO_5 := n0_
        have HO538 := n1_
        have BK525 := n2_
        have HB := n3_
        clear n0_ n1_ n2_ n3_
        obtain ⟨Ao43, co43, eo43⟩ := Kd.R_slice HO538.out
        (first | subst eo43 | (injection eo43 with f1_ f2_ f3_; have f4_ := f1_.symm; have f5_ := f3_.symm; clear f1_ f2_ f3_; subst f4_; subst f5_))
        refine start_ (n := 8) (S := fun w' => w'.cell? ⟨gb525, 0, none⟩ = some (.slice A0_0 l0_0.length c0_0) ∧ w'.cell? ⟨gb525, 1, none⟩ = some (.slice A0_1 l0_1.length c0_1) ∧ w'.cell? ⟨gb525, 2, none⟩ = some (.int .i64 a0_2)) (ds := []) (bs 8 0) (by kernel_rfl) rfl rfl ⟨(blk_cell BK525.out 0).trans rfl, (blk_cell BK525.out 1).trans rfl, (blk_cell BK525.out 2).trans rfl⟩ (fun hHeld => ?_); refine with_tabW macadamlaw04_GangPlan.tab7 macadamlaw04_GangPlan.bits7 (fun HT_ HW_ => ?_)
        generalize w41.drew = w42 at HO_5 HO538 BK525 HB hHeld ⊢
        refine pu HT_ 1 (some 63) (bs 8 2) ?_
        refine pu HT_ 4 (some 66) (bs 8 18) ?_
        refine tk3 HT_ HW_ hHeld 0 (some 62) (bs 8 19) ?_
        refine tk3 HT_ HW_ hHeld 5 (some 67) (bs 8 51) ?_
        refine pu HT_ 6 (some 68) (bs 8 115) ?_
        refine on HT_ 2 (some 64) (bs 8 119) (fun K hK => ?_)
        refine goes_ Tryd.func48 (by kernel_rfl) rfl #[.agg #[.slice A0_0 l0_0.length c0_0, .slice A0_1 l0_1.length c0_1, .int .i64 a0_2], .slice Ao43 t536.length co43] (by rfl) rfl rfl (by (try simp only [List.map_toArray, List.map_cons, List.map_nil]); first | done | rfl | (simp only [List.length_drop, List.length_take]; rfl)) ?_
        with_reducible refine (macadamlaw04_mended.calls kj5 _ _ l0_0 _ _ l0_1 a0_2 _ _ t536 t539 _ ?side1 ?side2 ?side3 ?side4 ?side5 ?side6 A33.out).mono ?_
        (case side1 => repeat (first | exact (Kd.C_below HR0_0.out HB.out) | (with_reducible refine Kd.C_alloc ?_ _) | (with_reducible refine Kd.C_drewN ?_ _) | (with_reducible refine Kd.C_drew ?_)))
        (case side2 => exact HC0_0.out)
        (case side3 => repeat (first | exact (Kd.C_below HR0_1.out HB.out) | (with_reducible refine Kd.C_alloc ?_ _) | (with_reducible refine Kd.C_drewN ?_ _) | (with_reducible refine Kd.C_drew ?_)))
        (case side4 => exact HC0_1.out)
        (case side5 => repeat (first | exact (Kd.R_reads' HO538.out).2.2 | (with_reducible refine Kd.C_alloc ?_ _) | (with_reducible refine Kd.C_drewN ?_ _) | (with_reducible refine Kd.C_drew ?_)))
        (case side6 => exact (Kd.R_reads' HO538.out).2.1)
        rintro e w44 ⟨v540, rfl, ho0, hb⟩
        refine ⟨_, rfl, ?_⟩
        have n0_ := Aside0.mk (Kd.V_elder' (by (with_reducible repeat (first | apply Kd.V_alloc | apply Kd.V_drewN | apply Kd.V_drew)); exact HO_5.out) (Kd.R_base ho0) hb)
        have n1_ := Aside0.mk (Kd.R_below (by (with_reducible repeat (first | apply Kd.R_alloc | apply Kd.R_drewN | apply Kd.R_drew)); exact HO538.out) hb)
        have n2_ := Aside0.mk (Kd.R_lower ho0 (below_size (bw1 HB GE525)))
        have n3_ := Aside0.mk (blk_below (bm BK525) hb)
        have n4_ := Aside0.mk (below_step (bw1 HB GE525) hb)
        clear HO_5
        clear HO538
        clear BK525
        clear HB
        have HO_5 := n0_
        have HO538 := n1_
        have HO541 := n2_
        have BK525 := n3_
        have HB := n4_
        clear n0_ n1_ n2_ n3_ n4_
        (try clear hb)
        (try clear hb2)
        (try clear hk)
        (try clear hi)
        (try clear ho0)
        obtain ⟨Ao45, co45, eo45⟩ := Kd.R_slice HO541.out
        (first | subst eo45 | (injection eo45 with f1_ f2_ f3_; have f4_ := f1_.symm; have f5_ := f3_.symm; clear f1_ f2_ f3_; subst f4_; subst f5_))
        refine hK.out _ _ ⟨(blk_cell BK525.out 0).trans rfl, (blk_cell BK525.out 1).trans rfl, (blk_cell BK525.out 2).trans rfl⟩ (fun hHeld => ?_)
        clear hK K
        refine nm 64 ?_
        refine pu HT_ 3 (some 65) (bs 8 127) ?_
        refine pu HT_ 7 (some 69) (bs 8 255) ?_
        refine done_ (done_of HT_.out (by kernel_rfl)) ?_
        obtain ⟨Ao46, co46, eo46⟩ := Kd.V_slice HO_5.out
        subst eo46
        try go_wp2_with (first | ((with_reducible refine gate_callee (f := 52) rfl ?_); refine gL (some 72) Tryd.func52 #[.slice Ao46 t526.length co46] ?_; (with_reducible refine (macadamlaw04_last.calls _ _ t526 t543 _ ?side1 ?side2 A35.out).mono ?_); (case side1 => repeat (first | exact (Kd.V_reads' HO_5.out).2.2 | (with_reducible refine Kd.C_alloc ?_ _) | (with_reducible refine Kd.C_drewN ?_ _) | (with_reducible refine Kd.C_drew ?_))); (case side2 => exact (Kd.V_reads' HO_5.out).2.1); rintro e w' ⟨rfl, ⟨nd, rfl⟩⟩; refine ⟨_, rfl, ?_⟩) | ((with_reducible refine gate_callee (f := 52) rfl ?_); refine gL (some 74) Tryd.func52 #[.slice Ao43 t536.length co43] ?_; (with_reducible refine (macadamlaw04_last.calls _ _ t536 t544 _ ?side1 ?side2 A36.out).mono ?_); (case side1 => repeat (first | exact (Kd.R_reads' HO538.out).2.2 | (with_reducible refine Kd.C_alloc ?_ _) | (with_reducible refine Kd.C_drewN ?_ _) | (with_reducible refine Kd.C_drew ?_))); (case side2 => exact (Kd.R_reads' HO538.out).2.1); rintro e w' ⟨rfl, ⟨nd, rfl⟩⟩; refine ⟨_, rfl, ?_⟩) | (go_at_call 24; (with_reducible refine (macadamlaw04_shovelled.calls  t545 _ ?side1 A39.out).mono ?_); (case side1 => exact gv_below HG.out (bw1 HB GE525)); rintro e w47 ⟨rfl, hb⟩; have n0_ := Aside0.mk (Kd.V_below (by (with_reducible repeat (first | apply Kd.V_alloc | apply Kd.V_drewN | apply Kd.V_drew)); exact HO_5.out) hb); have n1_ := Aside0.mk (Kd.R_below (by (with_reducible repeat (first | apply Kd.R_alloc | apply Kd.R_drewN | apply Kd.R_drew)); exact HO538.out) hb); have n2_ := Aside0.mk (Kd.R_below (by (with_reducible repeat (first | apply Kd.R_alloc | apply Kd.R_drewN | apply Kd.R_drew)); exact HO541.out) hb); have n3_ := Aside0.mk (blk_below (bm BK525) hb); have n4_ := Aside0.mk (below_step (bw1 HB GE525) hb); clear HO_5; clear HO538; clear HO541; clear BK525; clear HB; have HO_5 := n0_; have HO538 := n1_; have HO541 := n2_; have BK525 := n3_; have HB := n4_; clear n0_ n1_ n2_ n3_ n4_; (try clear hb); (try clear hb2); (try clear hk); (try clear hi)))
        go_ret
        exact ⟨by first | rfl | (simp [errW_none, errW_some] <;> rfl) | (simp [*, errW_none, errW_some] <;> rfl), bw1 HB GE525⟩
       ·rw [if_neg c38] at H
        have c38b0 : decide (t543 < t544) = false := decide_eq_false c38
        clear c38
        by_cases c48 : t543 = t544
        ·rw [if_pos c48] at H
         have c48b0 : (t543 == t544) = true := beq_iff_eq.mpr c48
         have c48b1 : (t543 != t544) = false := bne_eq_false_iff_eq.mpr c48
         clear c48
         by_cases c49 : (t526.length : Int) < (t536.length : Int)
         ·rw [if_pos c49] at H
          have c49b0 : decide ((t526.length : Int) < (t536.length : Int)) = true := decide_eq_true c49
          have c49b1 : decide (t526.length < t536.length) = true := decide_eq_true (Int.ofNat_lt.mp c49)
          clear c49
          replace H := Option.bind_eq_some_iff.mp H
          obtain ⟨t546, A500, H⟩ := H
          replace H : (some t546) = some r := H
          have A50 := Aside0.mk A500
          clear A500
          obtain rfl := Option.some.inj H
          obtain ⟨hcz51_0, hcz51_1, hcz51_2, hfz51_0, hfz51_1, hfz51_2⟩ := b3 BK525
          try go_wp2_with (first | ((with_reducible refine gate_callee (f := 47) rfl ?_); refine gL (some 61) Tryd.func47 #[.agg #[.slice A0_0 l0_0.length c0_0, .slice A0_1 l0_1.length c0_1, .int .i64 a0_2], .slice A1 l1.length c1] ?_; (with_reducible refine (macadamlaw04_drawn.calls kj5 _ _ l0_0 _ _ l0_1 a0_2 _ _ l1 t536 _ ?side1 ?side2 ?side3 ?side4 ?side5 ?side6 A32.out).mono ?_); (case side1 => repeat (first | exact (Kd.C_below HR0_0.out HB.out) | (with_reducible refine Kd.C_alloc ?_ _) | (with_reducible refine Kd.C_drewN ?_ _) | (with_reducible refine Kd.C_drew ?_))); (case side2 => exact HC0_0.out); (case side3 => repeat (first | exact (Kd.C_below HR0_1.out HB.out) | (with_reducible refine Kd.C_alloc ?_ _) | (with_reducible refine Kd.C_drewN ?_ _) | (with_reducible refine Kd.C_drew ?_))); (case side4 => exact HC0_1.out); (case side5 => repeat (first | exact (Kd.C_below HR1.out HB.out) | (with_reducible refine Kd.C_alloc ?_ _) | (with_reducible refine Kd.C_drewN ?_ _) | (with_reducible refine Kd.C_drew ?_))); (case side6 => exact HC1.out); rintro e w52 ⟨v537, rfl, ho0, hb⟩; refine ⟨_, rfl, ?_⟩; have n0_ := Aside0.mk (Kd.V_elder' (by (with_reducible repeat (first | apply Kd.V_alloc | apply Kd.V_drewN | apply Kd.V_drew)); exact HO_5.out) (Kd.R_base ho0) hb); have n1_ := Aside0.mk (Kd.R_lower ho0 (below_size (bw1 HB GE525))); have n2_ := Aside0.mk (blk_below (bm BK525) hb); have n3_ := Aside0.mk (below_step (bw1 HB GE525) hb); clear HO_5; clear BK525; clear HB; have HO_5 := n0_; have HO538 := n1_; have BK525 := n2_; have HB := n3_; clear n0_ n1_ n2_ n3_; (try clear hb); (try clear hb2); (try clear hk); (try clear hi); (try clear ho0)))
          have n0_ := Aside0.mk (Kd.V_drew HO_5.out)
          have n1_ := Aside0.mk (Kd.R_drew HO538.out)
          have n2_ := Aside0.mk (blk_drew BK525.out)
          have n3_ := Aside0.mk (below_drew1 HB.out)
          clear HO_5
          clear HO538
          clear BK525
          clear HB
          have HO_5 := n0_
          have HO538 := n1_
          have BK525 := n2_
          have HB := n3_
          clear n0_ n1_ n2_ n3_
          obtain ⟨Ao54, co54, eo54⟩ := Kd.R_slice HO538.out
          (first | subst eo54 | (injection eo54 with f1_ f2_ f3_; have f4_ := f1_.symm; have f5_ := f3_.symm; clear f1_ f2_ f3_; subst f4_; subst f5_))
          refine start_ (n := 8) (S := fun w' => w'.cell? ⟨gb525, 0, none⟩ = some (.slice A0_0 l0_0.length c0_0) ∧ w'.cell? ⟨gb525, 1, none⟩ = some (.slice A0_1 l0_1.length c0_1) ∧ w'.cell? ⟨gb525, 2, none⟩ = some (.int .i64 a0_2)) (ds := []) (bs 8 0) (by kernel_rfl) rfl rfl ⟨(blk_cell BK525.out 0).trans rfl, (blk_cell BK525.out 1).trans rfl, (blk_cell BK525.out 2).trans rfl⟩ (fun hHeld => ?_); refine with_tabW macadamlaw04_GangPlan.tab7 macadamlaw04_GangPlan.bits7 (fun HT_ HW_ => ?_)
          generalize w52.drew = w53 at HO_5 HO538 BK525 HB hHeld ⊢
          refine pu HT_ 1 (some 63) (bs 8 2) ?_
          refine pu HT_ 4 (some 66) (bs 8 18) ?_
          refine tk3 HT_ HW_ hHeld 0 (some 62) (bs 8 19) ?_
          refine tk3 HT_ HW_ hHeld 5 (some 67) (bs 8 51) ?_
          refine pu HT_ 6 (some 68) (bs 8 115) ?_
          refine on HT_ 2 (some 64) (bs 8 119) (fun K hK => ?_)
          refine goes_ Tryd.func48 (by kernel_rfl) rfl #[.agg #[.slice A0_0 l0_0.length c0_0, .slice A0_1 l0_1.length c0_1, .int .i64 a0_2], .slice Ao54 t536.length co54] (by rfl) rfl rfl (by (try simp only [List.map_toArray, List.map_cons, List.map_nil]); first | done | rfl | (simp only [List.length_drop, List.length_take]; rfl)) ?_
          with_reducible refine (macadamlaw04_mended.calls kj5 _ _ l0_0 _ _ l0_1 a0_2 _ _ t536 t539 _ ?side1 ?side2 ?side3 ?side4 ?side5 ?side6 A33.out).mono ?_
          (case side1 => repeat (first | exact (Kd.C_below HR0_0.out HB.out) | (with_reducible refine Kd.C_alloc ?_ _) | (with_reducible refine Kd.C_drewN ?_ _) | (with_reducible refine Kd.C_drew ?_)))
          (case side2 => exact HC0_0.out)
          (case side3 => repeat (first | exact (Kd.C_below HR0_1.out HB.out) | (with_reducible refine Kd.C_alloc ?_ _) | (with_reducible refine Kd.C_drewN ?_ _) | (with_reducible refine Kd.C_drew ?_)))
          (case side4 => exact HC0_1.out)
          (case side5 => repeat (first | exact (Kd.R_reads' HO538.out).2.2 | (with_reducible refine Kd.C_alloc ?_ _) | (with_reducible refine Kd.C_drewN ?_ _) | (with_reducible refine Kd.C_drew ?_)))
          (case side6 => exact (Kd.R_reads' HO538.out).2.1)
          rintro e w55 ⟨v540, rfl, ho0, hb⟩
          refine ⟨_, rfl, ?_⟩
          have n0_ := Aside0.mk (Kd.V_elder' (by (with_reducible repeat (first | apply Kd.V_alloc | apply Kd.V_drewN | apply Kd.V_drew)); exact HO_5.out) (Kd.R_base ho0) hb)
          have n1_ := Aside0.mk (Kd.R_below (by (with_reducible repeat (first | apply Kd.R_alloc | apply Kd.R_drewN | apply Kd.R_drew)); exact HO538.out) hb)
          have n2_ := Aside0.mk (Kd.R_lower ho0 (below_size (bw1 HB GE525)))
          have n3_ := Aside0.mk (blk_below (bm BK525) hb)
          have n4_ := Aside0.mk (below_step (bw1 HB GE525) hb)
          clear HO_5
          clear HO538
          clear BK525
          clear HB
          have HO_5 := n0_
          have HO538 := n1_
          have HO541 := n2_
          have BK525 := n3_
          have HB := n4_
          clear n0_ n1_ n2_ n3_ n4_
          (try clear hb)
          (try clear hb2)
          (try clear hk)
          (try clear hi)
          (try clear ho0)
          obtain ⟨Ao56, co56, eo56⟩ := Kd.R_slice HO541.out
          (first | subst eo56 | (injection eo56 with f1_ f2_ f3_; have f4_ := f1_.symm; have f5_ := f3_.symm; clear f1_ f2_ f3_; subst f4_; subst f5_))
          refine hK.out _ _ ⟨(blk_cell BK525.out 0).trans rfl, (blk_cell BK525.out 1).trans rfl, (blk_cell BK525.out 2).trans rfl⟩ (fun hHeld => ?_)
          clear hK K
          refine nm 64 ?_
          refine pu HT_ 3 (some 65) (bs 8 127) ?_
          refine pu HT_ 7 (some 69) (bs 8 255) ?_
          refine done_ (done_of HT_.out (by kernel_rfl)) ?_
          obtain ⟨Ao57, co57, eo57⟩ := Kd.V_slice HO_5.out
          subst eo57
          try go_wp2_with (first | ((with_reducible refine gate_callee (f := 52) rfl ?_); refine gL (some 72) Tryd.func52 #[.slice Ao57 t526.length co57] ?_; (with_reducible refine (macadamlaw04_last.calls _ _ t526 t543 _ ?side1 ?side2 A35.out).mono ?_); (case side1 => repeat (first | exact (Kd.V_reads' HO_5.out).2.2 | (with_reducible refine Kd.C_alloc ?_ _) | (with_reducible refine Kd.C_drewN ?_ _) | (with_reducible refine Kd.C_drew ?_))); (case side2 => exact (Kd.V_reads' HO_5.out).2.1); rintro e w' ⟨rfl, ⟨nd, rfl⟩⟩; refine ⟨_, rfl, ?_⟩) | ((with_reducible refine gate_callee (f := 52) rfl ?_); refine gL (some 74) Tryd.func52 #[.slice Ao54 t536.length co54] ?_; (with_reducible refine (macadamlaw04_last.calls _ _ t536 t544 _ ?side1 ?side2 A36.out).mono ?_); (case side1 => repeat (first | exact (Kd.R_reads' HO538.out).2.2 | (with_reducible refine Kd.C_alloc ?_ _) | (with_reducible refine Kd.C_drewN ?_ _) | (with_reducible refine Kd.C_drew ?_))); (case side2 => exact (Kd.R_reads' HO538.out).2.1); rintro e w' ⟨rfl, ⟨nd, rfl⟩⟩; refine ⟨_, rfl, ?_⟩) | (go_at_call 24; (with_reducible refine (macadamlaw04_shovelled.calls  t546 _ ?side1 A50.out).mono ?_); (case side1 => exact gv_below HG.out (bw1 HB GE525)); rintro e w58 ⟨rfl, hb⟩; have n0_ := Aside0.mk (Kd.V_below (by (with_reducible repeat (first | apply Kd.V_alloc | apply Kd.V_drewN | apply Kd.V_drew)); exact HO_5.out) hb); have n1_ := Aside0.mk (Kd.R_below (by (with_reducible repeat (first | apply Kd.R_alloc | apply Kd.R_drewN | apply Kd.R_drew)); exact HO538.out) hb); have n2_ := Aside0.mk (Kd.R_below (by (with_reducible repeat (first | apply Kd.R_alloc | apply Kd.R_drewN | apply Kd.R_drew)); exact HO541.out) hb); have n3_ := Aside0.mk (blk_below (bm BK525) hb); have n4_ := Aside0.mk (below_step (bw1 HB GE525) hb); clear HO_5; clear HO538; clear HO541; clear BK525; clear HB; have HO_5 := n0_; have HO538 := n1_; have HO541 := n2_; have BK525 := n3_; have HB := n4_; clear n0_ n1_ n2_ n3_ n4_; (try clear hb); (try clear hb2); (try clear hk); (try clear hi)))
          go_ret
          exact ⟨by first | rfl | (simp [errW_none, errW_some] <;> rfl) | (simp [*, errW_none, errW_some] <;> rfl), bw1 HB GE525⟩
         ·rw [if_neg c49] at H
          have c49b0 : decide ((t526.length : Int) < (t536.length : Int)) = false := decide_eq_false c49
          have c49b1 : decide (t526.length < t536.length) = false := decide_eq_false (fun h => c49 (Int.ofNat_lt.mpr h))
          clear c49
          by_cases c59 : (t526.length : Int) = (t536.length : Int)
          ·rw [if_pos c59] at H
           have c59b0 : ((t526.length : Int) == (t536.length : Int)) = true := beq_iff_eq.mpr c59
           have c59b1 : ((t526.length : Int) != (t536.length : Int)) = false := bne_eq_false_iff_eq.mpr c59
           have c59b2 : (t526.length == t536.length) = true := by first | simpa using c59 | (simp at c59 ⊢; omega)
           clear c59
           replace H := Option.bind_eq_some_iff.mp H
           obtain ⟨t547, A600, H⟩ := H
           replace H : (if t547 = true then (some false) else ((macadamlaw04_shovelled.f).bind fun t548 => (some t548))) = some r := H
           have A60 := Aside0.mk A600
           clear A600
           by_cases c61 : t547 = true
           ·subst c61
            have H1 : (some false) = some r := by rw [if_pos rfl] at H; exact H
            clear H
            have H := H1
            clear H1
            obtain rfl := Option.some.inj H
            obtain ⟨hcz62_0, hcz62_1, hcz62_2, hfz62_0, hfz62_1, hfz62_2⟩ := b3 BK525
            try go_wp2_with (first | ((with_reducible refine gate_callee (f := 47) rfl ?_); refine gL (some 61) Tryd.func47 #[.agg #[.slice A0_0 l0_0.length c0_0, .slice A0_1 l0_1.length c0_1, .int .i64 a0_2], .slice A1 l1.length c1] ?_; (with_reducible refine (macadamlaw04_drawn.calls kj5 _ _ l0_0 _ _ l0_1 a0_2 _ _ l1 t536 _ ?side1 ?side2 ?side3 ?side4 ?side5 ?side6 A32.out).mono ?_); (case side1 => repeat (first | exact (Kd.C_below HR0_0.out HB.out) | (with_reducible refine Kd.C_alloc ?_ _) | (with_reducible refine Kd.C_drewN ?_ _) | (with_reducible refine Kd.C_drew ?_))); (case side2 => exact HC0_0.out); (case side3 => repeat (first | exact (Kd.C_below HR0_1.out HB.out) | (with_reducible refine Kd.C_alloc ?_ _) | (with_reducible refine Kd.C_drewN ?_ _) | (with_reducible refine Kd.C_drew ?_))); (case side4 => exact HC0_1.out); (case side5 => repeat (first | exact (Kd.C_below HR1.out HB.out) | (with_reducible refine Kd.C_alloc ?_ _) | (with_reducible refine Kd.C_drewN ?_ _) | (with_reducible refine Kd.C_drew ?_))); (case side6 => exact HC1.out); rintro e w63 ⟨v537, rfl, ho0, hb⟩; refine ⟨_, rfl, ?_⟩; have n0_ := Aside0.mk (Kd.V_elder' (by (with_reducible repeat (first | apply Kd.V_alloc | apply Kd.V_drewN | apply Kd.V_drew)); exact HO_5.out) (Kd.R_base ho0) hb); have n1_ := Aside0.mk (Kd.R_lower ho0 (below_size (bw1 HB GE525))); have n2_ := Aside0.mk (blk_below (bm BK525) hb); have n3_ := Aside0.mk (below_step (bw1 HB GE525) hb); clear HO_5; clear BK525; clear HB; have HO_5 := n0_; have HO538 := n1_; have BK525 := n2_; have HB := n3_; clear n0_ n1_ n2_ n3_; (try clear hb); (try clear hb2); (try clear hk); (try clear hi); (try clear ho0)))
            have n0_ := Aside0.mk (Kd.V_drew HO_5.out)
            have n1_ := Aside0.mk (Kd.R_drew HO538.out)
            have n2_ := Aside0.mk (blk_drew BK525.out)
            have n3_ := Aside0.mk (below_drew1 HB.out)
            clear HO_5
            clear HO538
            clear BK525
            clear HB
            have HO_5 := n0_
            have HO538 := n1_
            have BK525 := n2_
            have HB := n3_
            clear n0_ n1_ n2_ n3_
            obtain ⟨Ao65, co65, eo65⟩ := Kd.R_slice HO538.out
            (first | subst eo65 | (injection eo65 with f1_ f2_ f3_; have f4_ := f1_.symm; have f5_ := f3_.symm; clear f1_ f2_ f3_; subst f4_; subst f5_))
            refine start_ (n := 8) (S := fun w' => w'.cell? ⟨gb525, 0, none⟩ = some (.slice A0_0 l0_0.length c0_0) ∧ w'.cell? ⟨gb525, 1, none⟩ = some (.slice A0_1 l0_1.length c0_1) ∧ w'.cell? ⟨gb525, 2, none⟩ = some (.int .i64 a0_2)) (ds := []) (bs 8 0) (by kernel_rfl) rfl rfl ⟨(blk_cell BK525.out 0).trans rfl, (blk_cell BK525.out 1).trans rfl, (blk_cell BK525.out 2).trans rfl⟩ (fun hHeld => ?_); refine with_tabW macadamlaw04_GangPlan.tab7 macadamlaw04_GangPlan.bits7 (fun HT_ HW_ => ?_)
            generalize w63.drew = w64 at HO_5 HO538 BK525 HB hHeld ⊢
            refine pu HT_ 1 (some 63) (bs 8 2) ?_
            refine pu HT_ 4 (some 66) (bs 8 18) ?_
            refine tk3 HT_ HW_ hHeld 0 (some 62) (bs 8 19) ?_
            refine tk3 HT_ HW_ hHeld 5 (some 67) (bs 8 51) ?_
            refine pu HT_ 6 (some 68) (bs 8 115) ?_
            refine on HT_ 2 (some 64) (bs 8 119) (fun K hK => ?_)
            refine goes_ Tryd.func48 (by kernel_rfl) rfl #[.agg #[.slice A0_0 l0_0.length c0_0, .slice A0_1 l0_1.length c0_1, .int .i64 a0_2], .slice Ao65 t536.length co65] (by rfl) rfl rfl (by (try simp only [List.map_toArray, List.map_cons, List.map_nil]); first | done | rfl | (simp only [List.length_drop, List.length_take]; rfl)) ?_
            with_reducible refine (macadamlaw04_mended.calls kj5 _ _ l0_0 _ _ l0_1 a0_2 _ _ t536 t539 _ ?side1 ?side2 ?side3 ?side4 ?side5 ?side6 A33.out).mono ?_
            (case side1 => repeat (first | exact (Kd.C_below HR0_0.out HB.out) | (with_reducible refine Kd.C_alloc ?_ _) | (with_reducible refine Kd.C_drewN ?_ _) | (with_reducible refine Kd.C_drew ?_)))
            (case side2 => exact HC0_0.out)
            (case side3 => repeat (first | exact (Kd.C_below HR0_1.out HB.out) | (with_reducible refine Kd.C_alloc ?_ _) | (with_reducible refine Kd.C_drewN ?_ _) | (with_reducible refine Kd.C_drew ?_)))
            (case side4 => exact HC0_1.out)
            (case side5 => repeat (first | exact (Kd.R_reads' HO538.out).2.2 | (with_reducible refine Kd.C_alloc ?_ _) | (with_reducible refine Kd.C_drewN ?_ _) | (with_reducible refine Kd.C_drew ?_)))
            (case side6 => exact (Kd.R_reads' HO538.out).2.1)
            rintro e w66 ⟨v540, rfl, ho0, hb⟩
            refine ⟨_, rfl, ?_⟩
            have n0_ := Aside0.mk (Kd.V_elder' (by (with_reducible repeat (first | apply Kd.V_alloc | apply Kd.V_drewN | apply Kd.V_drew)); exact HO_5.out) (Kd.R_base ho0) hb)
            have n1_ := Aside0.mk (Kd.R_below (by (with_reducible repeat (first | apply Kd.R_alloc | apply Kd.R_drewN | apply Kd.R_drew)); exact HO538.out) hb)
            have n2_ := Aside0.mk (Kd.R_lower ho0 (below_size (bw1 HB GE525)))
            have n3_ := Aside0.mk (blk_below (bm BK525) hb)
            have n4_ := Aside0.mk (below_step (bw1 HB GE525) hb)
            clear HO_5
            clear HO538
            clear BK525
            clear HB
            have HO_5 := n0_
            have HO538 := n1_
            have HO541 := n2_
            have BK525 := n3_
            have HB := n4_
            clear n0_ n1_ n2_ n3_ n4_
            (try clear hb)
            (try clear hb2)
            (try clear hk)
            (try clear hi)
            (try clear ho0)
            obtain ⟨Ao67, co67, eo67⟩ := Kd.R_slice HO541.out
            (first | subst eo67 | (injection eo67 with f1_ f2_ f3_; have f4_ := f1_.symm; have f5_ := f3_.symm; clear f1_ f2_ f3_; subst f4_; subst f5_))
            refine hK.out _ _ ⟨(blk_cell BK525.out 0).trans rfl, (blk_cell BK525.out 1).trans rfl, (blk_cell BK525.out 2).trans rfl⟩ (fun hHeld => ?_)
            clear hK K
            refine nm 64 ?_
            refine pu HT_ 3 (some 65) (bs 8 127) ?_
            refine pu HT_ 7 (some 69) (bs 8 255) ?_
            refine done_ (done_of HT_.out (by kernel_rfl)) ?_
            obtain ⟨Ao68, co68, eo68⟩ := Kd.V_slice HO_5.out
            subst eo68
            try go_wp2_with (first | ((with_reducible refine gate_callee (f := 52) rfl ?_); refine gL (some 72) Tryd.func52 #[.slice Ao68 t526.length co68] ?_; (with_reducible refine (macadamlaw04_last.calls _ _ t526 t543 _ ?side1 ?side2 A35.out).mono ?_); (case side1 => repeat (first | exact (Kd.V_reads' HO_5.out).2.2 | (with_reducible refine Kd.C_alloc ?_ _) | (with_reducible refine Kd.C_drewN ?_ _) | (with_reducible refine Kd.C_drew ?_))); (case side2 => exact (Kd.V_reads' HO_5.out).2.1); rintro e w' ⟨rfl, ⟨nd, rfl⟩⟩; refine ⟨_, rfl, ?_⟩) | ((with_reducible refine gate_callee (f := 52) rfl ?_); refine gL (some 74) Tryd.func52 #[.slice Ao65 t536.length co65] ?_; (with_reducible refine (macadamlaw04_last.calls _ _ t536 t544 _ ?side1 ?side2 A36.out).mono ?_); (case side1 => repeat (first | exact (Kd.R_reads' HO538.out).2.2 | (with_reducible refine Kd.C_alloc ?_ _) | (with_reducible refine Kd.C_drewN ?_ _) | (with_reducible refine Kd.C_drew ?_))); (case side2 => exact (Kd.R_reads' HO538.out).2.1); rintro e w' ⟨rfl, ⟨nd, rfl⟩⟩; refine ⟨_, rfl, ?_⟩) | (go_at_call 53; (with_reducible refine (macadamlaw04_sooner.calls kj5 _ _ t536 _ _ t526 true _ ?side1 ?side2 ?side3 ?side4 A60.out).mono ?_); (case side1 => repeat (first | exact (Kd.R_reads' HO538.out).2.2 | (with_reducible refine Kd.C_alloc ?_ _) | (with_reducible refine Kd.C_drewN ?_ _) | (with_reducible refine Kd.C_drew ?_))); (case side2 => exact (Kd.R_reads' HO538.out).2.1); (case side3 => repeat (first | exact (Kd.V_reads' HO_5.out).2.2 | (with_reducible refine Kd.C_alloc ?_ _) | (with_reducible refine Kd.C_drewN ?_ _) | (with_reducible refine Kd.C_drew ?_))); (case side4 => exact (Kd.V_reads' HO_5.out).2.1); rintro e w69 ⟨rfl, hb⟩; have n0_ := Aside0.mk (Kd.V_below (by (with_reducible repeat (first | apply Kd.V_alloc | apply Kd.V_drewN | apply Kd.V_drew)); exact HO_5.out) hb); have n1_ := Aside0.mk (Kd.R_below (by (with_reducible repeat (first | apply Kd.R_alloc | apply Kd.R_drewN | apply Kd.R_drew)); exact HO538.out) hb); have n2_ := Aside0.mk (Kd.R_below (by (with_reducible repeat (first | apply Kd.R_alloc | apply Kd.R_drewN | apply Kd.R_drew)); exact HO541.out) hb); have n3_ := Aside0.mk (blk_below (bm BK525) hb); have n4_ := Aside0.mk (below_step (bw1 HB GE525) hb); clear HO_5; clear HO538; clear HO541; clear BK525; clear HB; have HO_5 := n0_; have HO538 := n1_; have HO541 := n2_; have BK525 := n3_; have HB := n4_; clear n0_ n1_ n2_ n3_ n4_; (try clear hb); (try clear hb2); (try clear hk); (try clear hi)))
            go_ret
            exact ⟨by first | rfl | (simp [errW_none, errW_some] <;> rfl) | (simp [*, errW_none, errW_some] <;> rfl), bw1 HB GE525⟩
           ·replace c61 := Bool.eq_false_iff.mpr c61
            subst c61
            have H1 : ((macadamlaw04_shovelled.f).bind fun t548 => (some t548)) = some r := by rw [if_neg (show ¬ (false = true) by decide)] at H; exact H
            clear H
            have H := H1
            clear H1
            replace H := Option.bind_eq_some_iff.mp H
            obtain ⟨t548, A700, H⟩ := H
            replace H : (some t548) = some r := H
            have A70 := Aside0.mk A700
            clear A700
            obtain rfl := Option.some.inj H
            obtain ⟨hcz71_0, hcz71_1, hcz71_2, hfz71_0, hfz71_1, hfz71_2⟩ := b3 BK525
            try go_wp2_with (first | ((with_reducible refine gate_callee (f := 47) rfl ?_); refine gL (some 61) Tryd.func47 #[.agg #[.slice A0_0 l0_0.length c0_0, .slice A0_1 l0_1.length c0_1, .int .i64 a0_2], .slice A1 l1.length c1] ?_; (with_reducible refine (macadamlaw04_drawn.calls kj5 _ _ l0_0 _ _ l0_1 a0_2 _ _ l1 t536 _ ?side1 ?side2 ?side3 ?side4 ?side5 ?side6 A32.out).mono ?_); (case side1 => repeat (first | exact (Kd.C_below HR0_0.out HB.out) | (with_reducible refine Kd.C_alloc ?_ _) | (with_reducible refine Kd.C_drewN ?_ _) | (with_reducible refine Kd.C_drew ?_))); (case side2 => exact HC0_0.out); (case side3 => repeat (first | exact (Kd.C_below HR0_1.out HB.out) | (with_reducible refine Kd.C_alloc ?_ _) | (with_reducible refine Kd.C_drewN ?_ _) | (with_reducible refine Kd.C_drew ?_))); (case side4 => exact HC0_1.out); (case side5 => repeat (first | exact (Kd.C_below HR1.out HB.out) | (with_reducible refine Kd.C_alloc ?_ _) | (with_reducible refine Kd.C_drewN ?_ _) | (with_reducible refine Kd.C_drew ?_))); (case side6 => exact HC1.out); rintro e w72 ⟨v537, rfl, ho0, hb⟩; refine ⟨_, rfl, ?_⟩; have n0_ := Aside0.mk (Kd.V_elder' (by (with_reducible repeat (first | apply Kd.V_alloc | apply Kd.V_drewN | apply Kd.V_drew)); exact HO_5.out) (Kd.R_base ho0) hb); have n1_ := Aside0.mk (Kd.R_lower ho0 (below_size (bw1 HB GE525))); have n2_ := Aside0.mk (blk_below (bm BK525) hb); have n3_ := Aside0.mk (below_step (bw1 HB GE525) hb); clear HO_5; clear BK525; clear HB; have HO_5 := n0_; have HO538 := n1_; have BK525 := n2_; have HB := n3_; clear n0_ n1_ n2_ n3_; (try clear hb); (try clear hb2); (try clear hk); (try clear hi); (try clear ho0)))
            have n0_ := Aside0.mk (Kd.V_drew HO_5.out)
            have n1_ := Aside0.mk (Kd.R_drew HO538.out)
            have n2_ := Aside0.mk (blk_drew BK525.out)
            have n3_ := Aside0.mk (below_drew1 HB.out)
            clear HO_5
            clear HO538
            clear BK525
            clear HB
            have HO_5 := n0_
            have HO538 := n1_
            have BK525 := n2_
            have HB := n3_
            clear n0_ n1_ n2_ n3_
            obtain ⟨Ao74, co74, eo74⟩ := Kd.R_slice HO538.out
            (first | subst eo74 | (injection eo74 with f1_ f2_ f3_; have f4_ := f1_.symm; have f5_ := f3_.symm; clear f1_ f2_ f3_; subst f4_; subst f5_))
            refine start_ (n := 8) (S := fun w' => w'.cell? ⟨gb525, 0, none⟩ = some (.slice A0_0 l0_0.length c0_0) ∧ w'.cell? ⟨gb525, 1, none⟩ = some (.slice A0_1 l0_1.length c0_1) ∧ w'.cell? ⟨gb525, 2, none⟩ = some (.int .i64 a0_2)) (ds := []) (bs 8 0) (by kernel_rfl) rfl rfl ⟨(blk_cell BK525.out 0).trans rfl, (blk_cell BK525.out 1).trans rfl, (blk_cell BK525.out 2).trans rfl⟩ (fun hHeld => ?_); refine with_tabW macadamlaw04_GangPlan.tab7 macadamlaw04_GangPlan.bits7 (fun HT_ HW_ => ?_)
            generalize w72.drew = w73 at HO_5 HO538 BK525 HB hHeld ⊢
            refine pu HT_ 1 (some 63) (bs 8 2) ?_
            refine pu HT_ 4 (some 66) (bs 8 18) ?_
            refine tk3 HT_ HW_ hHeld 0 (some 62) (bs 8 19) ?_
            refine tk3 HT_ HW_ hHeld 5 (some 67) (bs 8 51) ?_
            refine pu HT_ 6 (some 68) (bs 8 115) ?_
            refine on HT_ 2 (some 64) (bs 8 119) (fun K hK => ?_)
            refine goes_ Tryd.func48 (by kernel_rfl) rfl #[.agg #[.slice A0_0 l0_0.length c0_0, .slice A0_1 l0_1.length c0_1, .int .i64 a0_2], .slice Ao74 t536.length co74] (by rfl) rfl rfl (by (try simp only [List.map_toArray, List.map_cons, List.map_nil]); first | done | rfl | (simp only [List.length_drop, List.length_take]; rfl)) ?_
            with_reducible refine (macadamlaw04_mended.calls kj5 _ _ l0_0 _ _ l0_1 a0_2 _ _ t536 t539 _ ?side1 ?side2 ?side3 ?side4 ?side5 ?side6 A33.out).mono ?_
            (case side1 => repeat (first | exact (Kd.C_below HR0_0.out HB.out) | (with_reducible refine Kd.C_alloc ?_ _) | (with_reducible refine Kd.C_drewN ?_ _) | (with_reducible refine Kd.C_drew ?_)))
            (case side2 => exact HC0_0.out)
            (case side3 => repeat (first | exact (Kd.C_below HR0_1.out HB.out) | (with_reducible refine Kd.C_alloc ?_ _) | (with_reducible refine Kd.C_drewN ?_ _) | (with_reducible refine Kd.C_drew ?_)))
            (case side4 => exact HC0_1.out)
            (case side5 => repeat (first | exact (Kd.R_reads' HO538.out).2.2 | (with_reducible refine Kd.C_alloc ?_ _) | (with_reducible refine Kd.C_drewN ?_ _) | (with_reducible refine Kd.C_drew ?_)))
            (case side6 => exact (Kd.R_reads' HO538.out).2.1)
            rintro e w75 ⟨v540, rfl, ho0, hb⟩
            refine ⟨_, rfl, ?_⟩
            have n0_ := Aside0.mk (Kd.V_elder' (by (with_reducible repeat (first | apply Kd.V_alloc | apply Kd.V_drewN | apply Kd.V_drew)); exact HO_5.out) (Kd.R_base ho0) hb)
            have n1_ := Aside0.mk (Kd.R_below (by (with_reducible repeat (first | apply Kd.R_alloc | apply Kd.R_drewN | apply Kd.R_drew)); exact HO538.out) hb)
            have n2_ := Aside0.mk (Kd.R_lower ho0 (below_size (bw1 HB GE525)))
            have n3_ := Aside0.mk (blk_below (bm BK525) hb)
            have n4_ := Aside0.mk (below_step (bw1 HB GE525) hb)
            clear HO_5
            clear HO538
            clear BK525
            clear HB
            have HO_5 := n0_
            have HO538 := n1_
            have HO541 := n2_
            have BK525 := n3_
            have HB := n4_
            clear n0_ n1_ n2_ n3_ n4_
            (try clear hb)
            (try clear hb2)
            (try clear hk)
            (try clear hi)
            (try clear ho0)
            obtain ⟨Ao76, co76, eo76⟩ := Kd.R_slice HO541.out
            (first | subst eo76 | (injection eo76 with f1_ f2_ f3_; have f4_ := f1_.symm; have f5_ := f3_.symm; clear f1_ f2_ f3_; subst f4_; subst f5_))
            refine hK.out _ _ ⟨(blk_cell BK525.out 0).trans rfl, (blk_cell BK525.out 1).trans rfl, (blk_cell BK525.out 2).trans rfl⟩ (fun hHeld => ?_)
            clear hK K
            refine nm 64 ?_
            refine pu HT_ 3 (some 65) (bs 8 127) ?_
            refine pu HT_ 7 (some 69) (bs 8 255) ?_
            refine done_ (done_of HT_.out (by kernel_rfl)) ?_
            obtain ⟨Ao77, co77, eo77⟩ := Kd.V_slice HO_5.out
            subst eo77
            try go_wp2_with (first | ((with_reducible refine gate_callee (f := 52) rfl ?_); refine gL (some 72) Tryd.func52 #[.slice Ao77 t526.length co77] ?_; (with_reducible refine (macadamlaw04_last.calls _ _ t526 t543 _ ?side1 ?side2 A35.out).mono ?_); (case side1 => repeat (first | exact (Kd.V_reads' HO_5.out).2.2 | (with_reducible refine Kd.C_alloc ?_ _) | (with_reducible refine Kd.C_drewN ?_ _) | (with_reducible refine Kd.C_drew ?_))); (case side2 => exact (Kd.V_reads' HO_5.out).2.1); rintro e w' ⟨rfl, ⟨nd, rfl⟩⟩; refine ⟨_, rfl, ?_⟩) | ((with_reducible refine gate_callee (f := 52) rfl ?_); refine gL (some 74) Tryd.func52 #[.slice Ao74 t536.length co74] ?_; (with_reducible refine (macadamlaw04_last.calls _ _ t536 t544 _ ?side1 ?side2 A36.out).mono ?_); (case side1 => repeat (first | exact (Kd.R_reads' HO538.out).2.2 | (with_reducible refine Kd.C_alloc ?_ _) | (with_reducible refine Kd.C_drewN ?_ _) | (with_reducible refine Kd.C_drew ?_))); (case side2 => exact (Kd.R_reads' HO538.out).2.1); rintro e w' ⟨rfl, ⟨nd, rfl⟩⟩; refine ⟨_, rfl, ?_⟩) | (go_at_call 53; (with_reducible refine (macadamlaw04_sooner.calls kj5 _ _ t536 _ _ t526 false _ ?side1 ?side2 ?side3 ?side4 A60.out).mono ?_); (case side1 => repeat (first | exact (Kd.R_reads' HO538.out).2.2 | (with_reducible refine Kd.C_alloc ?_ _) | (with_reducible refine Kd.C_drewN ?_ _) | (with_reducible refine Kd.C_drew ?_))); (case side2 => exact (Kd.R_reads' HO538.out).2.1); (case side3 => repeat (first | exact (Kd.V_reads' HO_5.out).2.2 | (with_reducible refine Kd.C_alloc ?_ _) | (with_reducible refine Kd.C_drewN ?_ _) | (with_reducible refine Kd.C_drew ?_))); (case side4 => exact (Kd.V_reads' HO_5.out).2.1); rintro e w78 ⟨rfl, hb⟩; have n0_ := Aside0.mk (Kd.V_below (by (with_reducible repeat (first | apply Kd.V_alloc | apply Kd.V_drewN | apply Kd.V_drew)); exact HO_5.out) hb); have n1_ := Aside0.mk (Kd.R_below (by (with_reducible repeat (first | apply Kd.R_alloc | apply Kd.R_drewN | apply Kd.R_drew)); exact HO538.out) hb); have n2_ := Aside0.mk (Kd.R_below (by (with_reducible repeat (first | apply Kd.R_alloc | apply Kd.R_drewN | apply Kd.R_drew)); exact HO541.out) hb); have n3_ := Aside0.mk (blk_below (bm BK525) hb); have n4_ := Aside0.mk (below_step (bw1 HB GE525) hb); clear HO_5; clear HO538; clear HO541; clear BK525; clear HB; have HO_5 := n0_; have HO538 := n1_; have HO541 := n2_; have BK525 := n3_; have HB := n4_; clear n0_ n1_ n2_ n3_ n4_; (try clear hb); (try clear hb2); (try clear hk); (try clear hi)) | (go_at_call 24; (with_reducible refine (macadamlaw04_shovelled.calls  t548 _ ?side1 A70.out).mono ?_); (case side1 => exact gv_below HG.out (bw1 HB GE525)); rintro e w79 ⟨rfl, hb⟩; have n0_ := Aside0.mk (Kd.V_below (by (with_reducible repeat (first | apply Kd.V_alloc | apply Kd.V_drewN | apply Kd.V_drew)); exact HO_5.out) hb); have n1_ := Aside0.mk (Kd.R_below (by (with_reducible repeat (first | apply Kd.R_alloc | apply Kd.R_drewN | apply Kd.R_drew)); exact HO538.out) hb); have n2_ := Aside0.mk (Kd.R_below (by (with_reducible repeat (first | apply Kd.R_alloc | apply Kd.R_drewN | apply Kd.R_drew)); exact HO541.out) hb); have n3_ := Aside0.mk (blk_below (bm BK525) hb); have n4_ := Aside0.mk (below_step (bw1 HB GE525) hb); clear HO_5; clear HO538; clear HO541; clear BK525; clear HB; have HO_5 := n0_; have HO538 := n1_; have HO541 := n2_; have BK525 := n3_; have HB := n4_; clear n0_ n1_ n2_ n3_ n4_; (try clear hb); (try clear hb2); (try clear hk); (try clear hi)))
            go_ret
            exact ⟨by first | rfl | (simp [errW_none, errW_some] <;> rfl) | (simp [*, errW_none, errW_some] <;> rfl), bw1 HB GE525⟩
          ·rw [if_neg c59] at H
           have c59b0 : ((t526.length : Int) == (t536.length : Int)) = false := beq_eq_false_iff_ne.mpr c59
           have c59b1 : ((t526.length : Int) != (t536.length : Int)) = true := bne_iff_ne.mpr c59
           have c59b2 : (t526.length == t536.length) = false := by first | simpa using c59 | (simp at c59 ⊢; omega)
           obtain rfl := Option.some.inj H
           obtain ⟨hcz80_0, hcz80_1, hcz80_2, hfz80_0, hfz80_1, hfz80_2⟩ := b3 BK525
           try go_wp2_with (first | ((with_reducible refine gate_callee (f := 47) rfl ?_); refine gL (some 61) Tryd.func47 #[.agg #[.slice A0_0 l0_0.length c0_0, .slice A0_1 l0_1.length c0_1, .int .i64 a0_2], .slice A1 l1.length c1] ?_; (with_reducible refine (macadamlaw04_drawn.calls kj5 _ _ l0_0 _ _ l0_1 a0_2 _ _ l1 t536 _ ?side1 ?side2 ?side3 ?side4 ?side5 ?side6 A32.out).mono ?_); (case side1 => repeat (first | exact (Kd.C_below HR0_0.out HB.out) | (with_reducible refine Kd.C_alloc ?_ _) | (with_reducible refine Kd.C_drewN ?_ _) | (with_reducible refine Kd.C_drew ?_))); (case side2 => exact HC0_0.out); (case side3 => repeat (first | exact (Kd.C_below HR0_1.out HB.out) | (with_reducible refine Kd.C_alloc ?_ _) | (with_reducible refine Kd.C_drewN ?_ _) | (with_reducible refine Kd.C_drew ?_))); (case side4 => exact HC0_1.out); (case side5 => repeat (first | exact (Kd.C_below HR1.out HB.out) | (with_reducible refine Kd.C_alloc ?_ _) | (with_reducible refine Kd.C_drewN ?_ _) | (with_reducible refine Kd.C_drew ?_))); (case side6 => exact HC1.out); rintro e w81 ⟨v537, rfl, ho0, hb⟩; refine ⟨_, rfl, ?_⟩; have n0_ := Aside0.mk (Kd.V_elder' (by (with_reducible repeat (first | apply Kd.V_alloc | apply Kd.V_drewN | apply Kd.V_drew)); exact HO_5.out) (Kd.R_base ho0) hb); have n1_ := Aside0.mk (Kd.R_lower ho0 (below_size (bw1 HB GE525))); have n2_ := Aside0.mk (blk_below (bm BK525) hb); have n3_ := Aside0.mk (below_step (bw1 HB GE525) hb); clear HO_5; clear BK525; clear HB; have HO_5 := n0_; have HO538 := n1_; have BK525 := n2_; have HB := n3_; clear n0_ n1_ n2_ n3_; (try clear hb); (try clear hb2); (try clear hk); (try clear hi); (try clear ho0)))
           have n0_ := Aside0.mk (Kd.V_drew HO_5.out)
           have n1_ := Aside0.mk (Kd.R_drew HO538.out)
           have n2_ := Aside0.mk (blk_drew BK525.out)
           have n3_ := Aside0.mk (below_drew1 HB.out)
           clear HO_5
           clear HO538
           clear BK525
           clear HB
           have HO_5 := n0_
           have HO538 := n1_
           have BK525 := n2_
           have HB := n3_
           clear n0_ n1_ n2_ n3_
           obtain ⟨Ao83, co83, eo83⟩ := Kd.R_slice HO538.out
           (first | subst eo83 | (injection eo83 with f1_ f2_ f3_; have f4_ := f1_.symm; have f5_ := f3_.symm; clear f1_ f2_ f3_; subst f4_; subst f5_))
           refine start_ (n := 8) (S := fun w' => w'.cell? ⟨gb525, 0, none⟩ = some (.slice A0_0 l0_0.length c0_0) ∧ w'.cell? ⟨gb525, 1, none⟩ = some (.slice A0_1 l0_1.length c0_1) ∧ w'.cell? ⟨gb525, 2, none⟩ = some (.int .i64 a0_2)) (ds := []) (bs 8 0) (by kernel_rfl) rfl rfl ⟨(blk_cell BK525.out 0).trans rfl, (blk_cell BK525.out 1).trans rfl, (blk_cell BK525.out 2).trans rfl⟩ (fun hHeld => ?_); refine with_tabW macadamlaw04_GangPlan.tab7 macadamlaw04_GangPlan.bits7 (fun HT_ HW_ => ?_)
           generalize w81.drew = w82 at HO_5 HO538 BK525 HB hHeld ⊢
           refine pu HT_ 1 (some 63) (bs 8 2) ?_
           refine pu HT_ 4 (some 66) (bs 8 18) ?_
           refine tk3 HT_ HW_ hHeld 0 (some 62) (bs 8 19) ?_
           refine tk3 HT_ HW_ hHeld 5 (some 67) (bs 8 51) ?_
           refine pu HT_ 6 (some 68) (bs 8 115) ?_
           refine on HT_ 2 (some 64) (bs 8 119) (fun K hK => ?_)
           refine goes_ Tryd.func48 (by kernel_rfl) rfl #[.agg #[.slice A0_0 l0_0.length c0_0, .slice A0_1 l0_1.length c0_1, .int .i64 a0_2], .slice Ao83 t536.length co83] (by rfl) rfl rfl (by (try simp only [List.map_toArray, List.map_cons, List.map_nil]); first | done | rfl | (simp only [List.length_drop, List.length_take]; rfl)) ?_
           with_reducible refine (macadamlaw04_mended.calls kj5 _ _ l0_0 _ _ l0_1 a0_2 _ _ t536 t539 _ ?side1 ?side2 ?side3 ?side4 ?side5 ?side6 A33.out).mono ?_
           (case side1 => repeat (first | exact (Kd.C_below HR0_0.out HB.out) | (with_reducible refine Kd.C_alloc ?_ _) | (with_reducible refine Kd.C_drewN ?_ _) | (with_reducible refine Kd.C_drew ?_)))
           (case side2 => exact HC0_0.out)
           (case side3 => repeat (first | exact (Kd.C_below HR0_1.out HB.out) | (with_reducible refine Kd.C_alloc ?_ _) | (with_reducible refine Kd.C_drewN ?_ _) | (with_reducible refine Kd.C_drew ?_)))
           (case side4 => exact HC0_1.out)
           (case side5 => repeat (first | exact (Kd.R_reads' HO538.out).2.2 | (with_reducible refine Kd.C_alloc ?_ _) | (with_reducible refine Kd.C_drewN ?_ _) | (with_reducible refine Kd.C_drew ?_)))
           (case side6 => exact (Kd.R_reads' HO538.out).2.1)
           rintro e w84 ⟨v540, rfl, ho0, hb⟩
           refine ⟨_, rfl, ?_⟩
           have n0_ := Aside0.mk (Kd.V_elder' (by (with_reducible repeat (first | apply Kd.V_alloc | apply Kd.V_drewN | apply Kd.V_drew)); exact HO_5.out) (Kd.R_base ho0) hb)
           have n1_ := Aside0.mk (Kd.R_below (by (with_reducible repeat (first | apply Kd.R_alloc | apply Kd.R_drewN | apply Kd.R_drew)); exact HO538.out) hb)
           have n2_ := Aside0.mk (Kd.R_lower ho0 (below_size (bw1 HB GE525)))
           have n3_ := Aside0.mk (blk_below (bm BK525) hb)
           have n4_ := Aside0.mk (below_step (bw1 HB GE525) hb)
           clear HO_5
           clear HO538
           clear BK525
           clear HB
           have HO_5 := n0_
           have HO538 := n1_
           have HO541 := n2_
           have BK525 := n3_
           have HB := n4_
           clear n0_ n1_ n2_ n3_ n4_
           (try clear hb)
           (try clear hb2)
           (try clear hk)
           (try clear hi)
           (try clear ho0)
           obtain ⟨Ao85, co85, eo85⟩ := Kd.R_slice HO541.out
           (first | subst eo85 | (injection eo85 with f1_ f2_ f3_; have f4_ := f1_.symm; have f5_ := f3_.symm; clear f1_ f2_ f3_; subst f4_; subst f5_))
           refine hK.out _ _ ⟨(blk_cell BK525.out 0).trans rfl, (blk_cell BK525.out 1).trans rfl, (blk_cell BK525.out 2).trans rfl⟩ (fun hHeld => ?_)
           clear hK K
           refine nm 64 ?_
           refine pu HT_ 3 (some 65) (bs 8 127) ?_
           refine pu HT_ 7 (some 69) (bs 8 255) ?_
           refine done_ (done_of HT_.out (by kernel_rfl)) ?_
           obtain ⟨Ao86, co86, eo86⟩ := Kd.V_slice HO_5.out
           subst eo86
           try go_wp2_with (first | ((with_reducible refine gate_callee (f := 52) rfl ?_); refine gL (some 72) Tryd.func52 #[.slice Ao86 t526.length co86] ?_; (with_reducible refine (macadamlaw04_last.calls _ _ t526 t543 _ ?side1 ?side2 A35.out).mono ?_); (case side1 => repeat (first | exact (Kd.V_reads' HO_5.out).2.2 | (with_reducible refine Kd.C_alloc ?_ _) | (with_reducible refine Kd.C_drewN ?_ _) | (with_reducible refine Kd.C_drew ?_))); (case side2 => exact (Kd.V_reads' HO_5.out).2.1); rintro e w' ⟨rfl, ⟨nd, rfl⟩⟩; refine ⟨_, rfl, ?_⟩) | ((with_reducible refine gate_callee (f := 52) rfl ?_); refine gL (some 74) Tryd.func52 #[.slice Ao83 t536.length co83] ?_; (with_reducible refine (macadamlaw04_last.calls _ _ t536 t544 _ ?side1 ?side2 A36.out).mono ?_); (case side1 => repeat (first | exact (Kd.R_reads' HO538.out).2.2 | (with_reducible refine Kd.C_alloc ?_ _) | (with_reducible refine Kd.C_drewN ?_ _) | (with_reducible refine Kd.C_drew ?_))); (case side2 => exact (Kd.R_reads' HO538.out).2.1); rintro e w' ⟨rfl, ⟨nd, rfl⟩⟩; refine ⟨_, rfl, ?_⟩))
           go_ret
           exact ⟨by first | rfl | (simp [errW_none, errW_some] <;> rfl) | (simp [*, errW_none, errW_some] <;> rfl), bw1 HB GE525⟩
        ·rw [if_neg c48] at H
         have c48b0 : (t543 == t544) = false := beq_eq_false_iff_ne.mpr c48
         have c48b1 : (t543 != t544) = true := bne_iff_ne.mpr c48
         obtain rfl := Option.some.inj H
         obtain ⟨hcz87_0, hcz87_1, hcz87_2, hfz87_0, hfz87_1, hfz87_2⟩ := b3 BK525
         try go_wp2_with (first | ((with_reducible refine gate_callee (f := 47) rfl ?_); refine gL (some 61) Tryd.func47 #[.agg #[.slice A0_0 l0_0.length c0_0, .slice A0_1 l0_1.length c0_1, .int .i64 a0_2], .slice A1 l1.length c1] ?_; (with_reducible refine (macadamlaw04_drawn.calls kj5 _ _ l0_0 _ _ l0_1 a0_2 _ _ l1 t536 _ ?side1 ?side2 ?side3 ?side4 ?side5 ?side6 A32.out).mono ?_); (case side1 => repeat (first | exact (Kd.C_below HR0_0.out HB.out) | (with_reducible refine Kd.C_alloc ?_ _) | (with_reducible refine Kd.C_drewN ?_ _) | (with_reducible refine Kd.C_drew ?_))); (case side2 => exact HC0_0.out); (case side3 => repeat (first | exact (Kd.C_below HR0_1.out HB.out) | (with_reducible refine Kd.C_alloc ?_ _) | (with_reducible refine Kd.C_drewN ?_ _) | (with_reducible refine Kd.C_drew ?_))); (case side4 => exact HC0_1.out); (case side5 => repeat (first | exact (Kd.C_below HR1.out HB.out) | (with_reducible refine Kd.C_alloc ?_ _) | (with_reducible refine Kd.C_drewN ?_ _) | (with_reducible refine Kd.C_drew ?_))); (case side6 => exact HC1.out); rintro e w88 ⟨v537, rfl, ho0, hb⟩; refine ⟨_, rfl, ?_⟩; have n0_ := Aside0.mk (Kd.V_elder' (by (with_reducible repeat (first | apply Kd.V_alloc | apply Kd.V_drewN | apply Kd.V_drew)); exact HO_5.out) (Kd.R_base ho0) hb); have n1_ := Aside0.mk (Kd.R_lower ho0 (below_size (bw1 HB GE525))); have n2_ := Aside0.mk (blk_below (bm BK525) hb); have n3_ := Aside0.mk (below_step (bw1 HB GE525) hb); clear HO_5; clear BK525; clear HB; have HO_5 := n0_; have HO538 := n1_; have BK525 := n2_; have HB := n3_; clear n0_ n1_ n2_ n3_; (try clear hb); (try clear hb2); (try clear hk); (try clear hi); (try clear ho0)))
         have n0_ := Aside0.mk (Kd.V_drew HO_5.out)
         have n1_ := Aside0.mk (Kd.R_drew HO538.out)
         have n2_ := Aside0.mk (blk_drew BK525.out)
         have n3_ := Aside0.mk (below_drew1 HB.out)
         clear HO_5
         clear HO538
         clear BK525
         clear HB
         have HO_5 := n0_
         have HO538 := n1_
         have BK525 := n2_
         have HB := n3_
         clear n0_ n1_ n2_ n3_
         obtain ⟨Ao90, co90, eo90⟩ := Kd.R_slice HO538.out
         (first | subst eo90 | (injection eo90 with f1_ f2_ f3_; have f4_ := f1_.symm; have f5_ := f3_.symm; clear f1_ f2_ f3_; subst f4_; subst f5_))
         refine start_ (n := 8) (S := fun w' => w'.cell? ⟨gb525, 0, none⟩ = some (.slice A0_0 l0_0.length c0_0) ∧ w'.cell? ⟨gb525, 1, none⟩ = some (.slice A0_1 l0_1.length c0_1) ∧ w'.cell? ⟨gb525, 2, none⟩ = some (.int .i64 a0_2)) (ds := []) (bs 8 0) (by kernel_rfl) rfl rfl ⟨(blk_cell BK525.out 0).trans rfl, (blk_cell BK525.out 1).trans rfl, (blk_cell BK525.out 2).trans rfl⟩ (fun hHeld => ?_); refine with_tabW macadamlaw04_GangPlan.tab7 macadamlaw04_GangPlan.bits7 (fun HT_ HW_ => ?_)
         generalize w88.drew = w89 at HO_5 HO538 BK525 HB hHeld ⊢
         refine pu HT_ 1 (some 63) (bs 8 2) ?_
         refine pu HT_ 4 (some 66) (bs 8 18) ?_
         refine tk3 HT_ HW_ hHeld 0 (some 62) (bs 8 19) ?_
         refine tk3 HT_ HW_ hHeld 5 (some 67) (bs 8 51) ?_
         refine pu HT_ 6 (some 68) (bs 8 115) ?_
         refine on HT_ 2 (some 64) (bs 8 119) (fun K hK => ?_)
         refine goes_ Tryd.func48 (by kernel_rfl) rfl #[.agg #[.slice A0_0 l0_0.length c0_0, .slice A0_1 l0_1.length c0_1, .int .i64 a0_2], .slice Ao90 t536.length co90] (by rfl) rfl rfl (by (try simp only [List.map_toArray, List.map_cons, List.map_nil]); first | done | rfl | (simp only [List.length_drop, List.length_take]; rfl)) ?_
         with_reducible refine (macadamlaw04_mended.calls kj5 _ _ l0_0 _ _ l0_1 a0_2 _ _ t536 t539 _ ?side1 ?side2 ?side3 ?side4 ?side5 ?side6 A33.out).mono ?_
         (case side1 => repeat (first | exact (Kd.C_below HR0_0.out HB.out) | (with_reducible refine Kd.C_alloc ?_ _) | (with_reducible refine Kd.C_drewN ?_ _) | (with_reducible refine Kd.C_drew ?_)))
         (case side2 => exact HC0_0.out)
         (case side3 => repeat (first | exact (Kd.C_below HR0_1.out HB.out) | (with_reducible refine Kd.C_alloc ?_ _) | (with_reducible refine Kd.C_drewN ?_ _) | (with_reducible refine Kd.C_drew ?_)))
         (case side4 => exact HC0_1.out)
         (case side5 => repeat (first | exact (Kd.R_reads' HO538.out).2.2 | (with_reducible refine Kd.C_alloc ?_ _) | (with_reducible refine Kd.C_drewN ?_ _) | (with_reducible refine Kd.C_drew ?_)))
         (case side6 => exact (Kd.R_reads' HO538.out).2.1)
         rintro e w91 ⟨v540, rfl, ho0, hb⟩
         refine ⟨_, rfl, ?_⟩
         have n0_ := Aside0.mk (Kd.V_elder' (by (with_reducible repeat (first | apply Kd.V_alloc | apply Kd.V_drewN | apply Kd.V_drew)); exact HO_5.out) (Kd.R_base ho0) hb)
         have n1_ := Aside0.mk (Kd.R_below (by (with_reducible repeat (first | apply Kd.R_alloc | apply Kd.R_drewN | apply Kd.R_drew)); exact HO538.out) hb)
         have n2_ := Aside0.mk (Kd.R_lower ho0 (below_size (bw1 HB GE525)))
         have n3_ := Aside0.mk (blk_below (bm BK525) hb)
         have n4_ := Aside0.mk (below_step (bw1 HB GE525) hb)
         clear HO_5
         clear HO538
         clear BK525
         clear HB
         have HO_5 := n0_
         have HO538 := n1_
         have HO541 := n2_
         have BK525 := n3_
         have HB := n4_
         clear n0_ n1_ n2_ n3_ n4_
         (try clear hb)
         (try clear hb2)
         (try clear hk)
         (try clear hi)
         (try clear ho0)
         obtain ⟨Ao92, co92, eo92⟩ := Kd.R_slice HO541.out
         (first | subst eo92 | (injection eo92 with f1_ f2_ f3_; have f4_ := f1_.symm; have f5_ := f3_.symm; clear f1_ f2_ f3_; subst f4_; subst f5_))
         refine hK.out _ _ ⟨(blk_cell BK525.out 0).trans rfl, (blk_cell BK525.out 1).trans rfl, (blk_cell BK525.out 2).trans rfl⟩ (fun hHeld => ?_)
         clear hK K
         refine nm 64 ?_
         refine pu HT_ 3 (some 65) (bs 8 127) ?_
         refine pu HT_ 7 (some 69) (bs 8 255) ?_
         refine done_ (done_of HT_.out (by kernel_rfl)) ?_
         obtain ⟨Ao93, co93, eo93⟩ := Kd.V_slice HO_5.out
         subst eo93
         try go_wp2_with (first | ((with_reducible refine gate_callee (f := 52) rfl ?_); refine gL (some 72) Tryd.func52 #[.slice Ao93 t526.length co93] ?_; (with_reducible refine (macadamlaw04_last.calls _ _ t526 t543 _ ?side1 ?side2 A35.out).mono ?_); (case side1 => repeat (first | exact (Kd.V_reads' HO_5.out).2.2 | (with_reducible refine Kd.C_alloc ?_ _) | (with_reducible refine Kd.C_drewN ?_ _) | (with_reducible refine Kd.C_drew ?_))); (case side2 => exact (Kd.V_reads' HO_5.out).2.1); rintro e w' ⟨rfl, ⟨nd, rfl⟩⟩; refine ⟨_, rfl, ?_⟩) | ((with_reducible refine gate_callee (f := 52) rfl ?_); refine gL (some 74) Tryd.func52 #[.slice Ao90 t536.length co90] ?_; (with_reducible refine (macadamlaw04_last.calls _ _ t536 t544 _ ?side1 ?side2 A36.out).mono ?_); (case side1 => repeat (first | exact (Kd.R_reads' HO538.out).2.2 | (with_reducible refine Kd.C_alloc ?_ _) | (with_reducible refine Kd.C_drewN ?_ _) | (with_reducible refine Kd.C_drew ?_))); (case side2 => exact (Kd.R_reads' HO538.out).2.1); rintro e w' ⟨rfl, ⟨nd, rfl⟩⟩; refine ⟨_, rfl, ?_⟩))
         go_ret
         exact ⟨by first | rfl | (simp [errW_none, errW_some] <;> rfl) | (simp [*, errW_none, errW_some] <;> rfl), bw1 HB GE525⟩
      ·rw [if_neg c37] at H
       have c37b0 : (t529 == 0) = false := beq_eq_false_iff_ne.mpr c37
       have c37b1 : (t529 != 0) = true := bne_iff_ne.mpr c37
       obtain rfl := Option.some.inj H
       obtain ⟨hcz94_0, hcz94_1, hcz94_2, hfz94_0, hfz94_1, hfz94_2⟩ := b3 BK525
       try go_wp2_with (first | ((with_reducible refine gate_callee (f := 47) rfl ?_); refine gL (some 61) Tryd.func47 #[.agg #[.slice A0_0 l0_0.length c0_0, .slice A0_1 l0_1.length c0_1, .int .i64 a0_2], .slice A1 l1.length c1] ?_; (with_reducible refine (macadamlaw04_drawn.calls kj5 _ _ l0_0 _ _ l0_1 a0_2 _ _ l1 t536 _ ?side1 ?side2 ?side3 ?side4 ?side5 ?side6 A32.out).mono ?_); (case side1 => repeat (first | exact (Kd.C_below HR0_0.out HB.out) | (with_reducible refine Kd.C_alloc ?_ _) | (with_reducible refine Kd.C_drewN ?_ _) | (with_reducible refine Kd.C_drew ?_))); (case side2 => exact HC0_0.out); (case side3 => repeat (first | exact (Kd.C_below HR0_1.out HB.out) | (with_reducible refine Kd.C_alloc ?_ _) | (with_reducible refine Kd.C_drewN ?_ _) | (with_reducible refine Kd.C_drew ?_))); (case side4 => exact HC0_1.out); (case side5 => repeat (first | exact (Kd.C_below HR1.out HB.out) | (with_reducible refine Kd.C_alloc ?_ _) | (with_reducible refine Kd.C_drewN ?_ _) | (with_reducible refine Kd.C_drew ?_))); (case side6 => exact HC1.out); rintro e w95 ⟨v537, rfl, ho0, hb⟩; refine ⟨_, rfl, ?_⟩; have n0_ := Aside0.mk (Kd.V_elder' (by (with_reducible repeat (first | apply Kd.V_alloc | apply Kd.V_drewN | apply Kd.V_drew)); exact HO_5.out) (Kd.R_base ho0) hb); have n1_ := Aside0.mk (Kd.R_lower ho0 (below_size (bw1 HB GE525))); have n2_ := Aside0.mk (blk_below (bm BK525) hb); have n3_ := Aside0.mk (below_step (bw1 HB GE525) hb); clear HO_5; clear BK525; clear HB; have HO_5 := n0_; have HO538 := n1_; have BK525 := n2_; have HB := n3_; clear n0_ n1_ n2_ n3_; (try clear hb); (try clear hb2); (try clear hk); (try clear hi); (try clear ho0)))
       have n0_ := Aside0.mk (Kd.V_drew HO_5.out)
       have n1_ := Aside0.mk (Kd.R_drew HO538.out)
       have n2_ := Aside0.mk (blk_drew BK525.out)
       have n3_ := Aside0.mk (below_drew1 HB.out)
       clear HO_5
       clear HO538
       clear BK525
       clear HB
       have HO_5 := n0_
       have HO538 := n1_
       have BK525 := n2_
       have HB := n3_
       clear n0_ n1_ n2_ n3_
       obtain ⟨Ao97, co97, eo97⟩ := Kd.R_slice HO538.out
       (first | subst eo97 | (injection eo97 with f1_ f2_ f3_; have f4_ := f1_.symm; have f5_ := f3_.symm; clear f1_ f2_ f3_; subst f4_; subst f5_))
       refine start_ (n := 8) (S := fun w' => w'.cell? ⟨gb525, 0, none⟩ = some (.slice A0_0 l0_0.length c0_0) ∧ w'.cell? ⟨gb525, 1, none⟩ = some (.slice A0_1 l0_1.length c0_1) ∧ w'.cell? ⟨gb525, 2, none⟩ = some (.int .i64 a0_2)) (ds := []) (bs 8 0) (by kernel_rfl) rfl rfl ⟨(blk_cell BK525.out 0).trans rfl, (blk_cell BK525.out 1).trans rfl, (blk_cell BK525.out 2).trans rfl⟩ (fun hHeld => ?_); refine with_tabW macadamlaw04_GangPlan.tab7 macadamlaw04_GangPlan.bits7 (fun HT_ HW_ => ?_)
       generalize w95.drew = w96 at HO_5 HO538 BK525 HB hHeld ⊢
       refine pu HT_ 1 (some 63) (bs 8 2) ?_
       refine pu HT_ 4 (some 66) (bs 8 18) ?_
       refine tk3 HT_ HW_ hHeld 0 (some 62) (bs 8 19) ?_
       refine tk3 HT_ HW_ hHeld 5 (some 67) (bs 8 51) ?_
       refine pu HT_ 6 (some 68) (bs 8 115) ?_
       refine on HT_ 2 (some 64) (bs 8 119) (fun K hK => ?_)
       refine goes_ Tryd.func48 (by kernel_rfl) rfl #[.agg #[.slice A0_0 l0_0.length c0_0, .slice A0_1 l0_1.length c0_1, .int .i64 a0_2], .slice Ao97 t536.length co97] (by rfl) rfl rfl (by (try simp only [List.map_toArray, List.map_cons, List.map_nil]); first | done | rfl | (simp only [List.length_drop, List.length_take]; rfl)) ?_
       with_reducible refine (macadamlaw04_mended.calls kj5 _ _ l0_0 _ _ l0_1 a0_2 _ _ t536 t539 _ ?side1 ?side2 ?side3 ?side4 ?side5 ?side6 A33.out).mono ?_
       (case side1 => repeat (first | exact (Kd.C_below HR0_0.out HB.out) | (with_reducible refine Kd.C_alloc ?_ _) | (with_reducible refine Kd.C_drewN ?_ _) | (with_reducible refine Kd.C_drew ?_)))
       (case side2 => exact HC0_0.out)
       (case side3 => repeat (first | exact (Kd.C_below HR0_1.out HB.out) | (with_reducible refine Kd.C_alloc ?_ _) | (with_reducible refine Kd.C_drewN ?_ _) | (with_reducible refine Kd.C_drew ?_)))
       (case side4 => exact HC0_1.out)
       (case side5 => repeat (first | exact (Kd.R_reads' HO538.out).2.2 | (with_reducible refine Kd.C_alloc ?_ _) | (with_reducible refine Kd.C_drewN ?_ _) | (with_reducible refine Kd.C_drew ?_)))
       (case side6 => exact (Kd.R_reads' HO538.out).2.1)
       rintro e w98 ⟨v540, rfl, ho0, hb⟩
       refine ⟨_, rfl, ?_⟩
       have n0_ := Aside0.mk (Kd.V_elder' (by (with_reducible repeat (first | apply Kd.V_alloc | apply Kd.V_drewN | apply Kd.V_drew)); exact HO_5.out) (Kd.R_base ho0) hb)
       have n1_ := Aside0.mk (Kd.R_below (by (with_reducible repeat (first | apply Kd.R_alloc | apply Kd.R_drewN | apply Kd.R_drew)); exact HO538.out) hb)
       have n2_ := Aside0.mk (Kd.R_lower ho0 (below_size (bw1 HB GE525)))
       have n3_ := Aside0.mk (blk_below (bm BK525) hb)
       have n4_ := Aside0.mk (below_step (bw1 HB GE525) hb)
       clear HO_5
       clear HO538
       clear BK525
       clear HB
       have HO_5 := n0_
       have HO538 := n1_
       have HO541 := n2_
       have BK525 := n3_
       have HB := n4_
       clear n0_ n1_ n2_ n3_ n4_
       (try clear hb)
       (try clear hb2)
       (try clear hk)
       (try clear hi)
       (try clear ho0)
       obtain ⟨Ao99, co99, eo99⟩ := Kd.R_slice HO541.out
       (first | subst eo99 | (injection eo99 with f1_ f2_ f3_; have f4_ := f1_.symm; have f5_ := f3_.symm; clear f1_ f2_ f3_; subst f4_; subst f5_))
       refine hK.out _ _ ⟨(blk_cell BK525.out 0).trans rfl, (blk_cell BK525.out 1).trans rfl, (blk_cell BK525.out 2).trans rfl⟩ (fun hHeld => ?_)
       clear hK K
       refine nm 64 ?_
       refine pu HT_ 3 (some 65) (bs 8 127) ?_
       refine pu HT_ 7 (some 69) (bs 8 255) ?_
       refine done_ (done_of HT_.out (by kernel_rfl)) ?_
       obtain ⟨Ao100, co100, eo100⟩ := Kd.V_slice HO_5.out
       subst eo100
       try go_wp2_with (first | ((with_reducible refine gate_callee (f := 52) rfl ?_); refine gL (some 72) Tryd.func52 #[.slice Ao100 t526.length co100] ?_; (with_reducible refine (macadamlaw04_last.calls _ _ t526 t543 _ ?side1 ?side2 A35.out).mono ?_); (case side1 => repeat (first | exact (Kd.V_reads' HO_5.out).2.2 | (with_reducible refine Kd.C_alloc ?_ _) | (with_reducible refine Kd.C_drewN ?_ _) | (with_reducible refine Kd.C_drew ?_))); (case side2 => exact (Kd.V_reads' HO_5.out).2.1); rintro e w' ⟨rfl, ⟨nd, rfl⟩⟩; refine ⟨_, rfl, ?_⟩) | ((with_reducible refine gate_callee (f := 52) rfl ?_); refine gL (some 74) Tryd.func52 #[.slice Ao97 t536.length co97] ?_; (with_reducible refine (macadamlaw04_last.calls _ _ t536 t544 _ ?side1 ?side2 A36.out).mono ?_); (case side1 => repeat (first | exact (Kd.R_reads' HO538.out).2.2 | (with_reducible refine Kd.C_alloc ?_ _) | (with_reducible refine Kd.C_drewN ?_ _) | (with_reducible refine Kd.C_drew ?_))); (case side2 => exact (Kd.R_reads' HO538.out).2.1); rintro e w' ⟨rfl, ⟨nd, rfl⟩⟩; refine ⟨_, rfl, ?_⟩))
       go_ret
       exact ⟨by first | rfl | (simp [errW_none, errW_some] <;> rfl) | (simp [*, errW_none, errW_some] <;> rfl), bw1 HB GE525⟩
     ·rw [if_neg c34] at H
      have c34b0 : ((t539.length : Int) == (l0_0.length : Int)) = false := beq_eq_false_iff_ne.mpr c34
      have c34b1 : ((t539.length : Int) != (l0_0.length : Int)) = true := bne_iff_ne.mpr c34
      have c34b2 : (t539.length == l0_0.length) = false := by first | simpa using c34 | (simp at c34 ⊢; omega)
      replace H := Option.bind_eq_some_iff.mp H
      obtain ⟨t542, A1010, H⟩ := H
      replace H : (some t542) = some r := H
      have A101 := Aside0.mk A1010
      clear A1010
      obtain rfl := Option.some.inj H
      obtain ⟨hcz102_0, hcz102_1, hcz102_2, hfz102_0, hfz102_1, hfz102_2⟩ := b3 BK525
      try go_wp2_with (first | ((with_reducible refine gate_callee (f := 47) rfl ?_); refine gL (some 61) Tryd.func47 #[.agg #[.slice A0_0 l0_0.length c0_0, .slice A0_1 l0_1.length c0_1, .int .i64 a0_2], .slice A1 l1.length c1] ?_; (with_reducible refine (macadamlaw04_drawn.calls kj5 _ _ l0_0 _ _ l0_1 a0_2 _ _ l1 t536 _ ?side1 ?side2 ?side3 ?side4 ?side5 ?side6 A32.out).mono ?_); (case side1 => repeat (first | exact (Kd.C_below HR0_0.out HB.out) | (with_reducible refine Kd.C_alloc ?_ _) | (with_reducible refine Kd.C_drewN ?_ _) | (with_reducible refine Kd.C_drew ?_))); (case side2 => exact HC0_0.out); (case side3 => repeat (first | exact (Kd.C_below HR0_1.out HB.out) | (with_reducible refine Kd.C_alloc ?_ _) | (with_reducible refine Kd.C_drewN ?_ _) | (with_reducible refine Kd.C_drew ?_))); (case side4 => exact HC0_1.out); (case side5 => repeat (first | exact (Kd.C_below HR1.out HB.out) | (with_reducible refine Kd.C_alloc ?_ _) | (with_reducible refine Kd.C_drewN ?_ _) | (with_reducible refine Kd.C_drew ?_))); (case side6 => exact HC1.out); rintro e w103 ⟨v537, rfl, ho0, hb⟩; refine ⟨_, rfl, ?_⟩; have n0_ := Aside0.mk (Kd.V_elder' (by (with_reducible repeat (first | apply Kd.V_alloc | apply Kd.V_drewN | apply Kd.V_drew)); exact HO_5.out) (Kd.R_base ho0) hb); have n1_ := Aside0.mk (Kd.R_lower ho0 (below_size (bw1 HB GE525))); have n2_ := Aside0.mk (blk_below (bm BK525) hb); have n3_ := Aside0.mk (below_step (bw1 HB GE525) hb); clear HO_5; clear BK525; clear HB; have HO_5 := n0_; have HO538 := n1_; have BK525 := n2_; have HB := n3_; clear n0_ n1_ n2_ n3_; (try clear hb); (try clear hb2); (try clear hk); (try clear hi); (try clear ho0)))
      have n0_ := Aside0.mk (Kd.V_drew HO_5.out)
      have n1_ := Aside0.mk (Kd.R_drew HO538.out)
      have n2_ := Aside0.mk (blk_drew BK525.out)
      have n3_ := Aside0.mk (below_drew1 HB.out)
      clear HO_5
      clear HO538
      clear BK525
      clear HB
      have HO_5 := n0_
      have HO538 := n1_
      have BK525 := n2_
      have HB := n3_
      clear n0_ n1_ n2_ n3_
      obtain ⟨Ao105, co105, eo105⟩ := Kd.R_slice HO538.out
      (first | subst eo105 | (injection eo105 with f1_ f2_ f3_; have f4_ := f1_.symm; have f5_ := f3_.symm; clear f1_ f2_ f3_; subst f4_; subst f5_))
      refine start_ (n := 8) (S := fun w' => w'.cell? ⟨gb525, 0, none⟩ = some (.slice A0_0 l0_0.length c0_0) ∧ w'.cell? ⟨gb525, 1, none⟩ = some (.slice A0_1 l0_1.length c0_1) ∧ w'.cell? ⟨gb525, 2, none⟩ = some (.int .i64 a0_2)) (ds := []) (bs 8 0) (by kernel_rfl) rfl rfl ⟨(blk_cell BK525.out 0).trans rfl, (blk_cell BK525.out 1).trans rfl, (blk_cell BK525.out 2).trans rfl⟩ (fun hHeld => ?_); refine with_tabW macadamlaw04_GangPlan.tab7 macadamlaw04_GangPlan.bits7 (fun HT_ HW_ => ?_)
      generalize w103.drew = w104 at HO_5 HO538 BK525 HB hHeld ⊢
      refine pu HT_ 1 (some 63) (bs 8 2) ?_
      refine pu HT_ 4 (some 66) (bs 8 18) ?_
      refine tk3 HT_ HW_ hHeld 0 (some 62) (bs 8 19) ?_
      refine tk3 HT_ HW_ hHeld 5 (some 67) (bs 8 51) ?_
      refine pu HT_ 6 (some 68) (bs 8 115) ?_
      refine on HT_ 2 (some 64) (bs 8 119) (fun K hK => ?_)
      refine goes_ Tryd.func48 (by kernel_rfl) rfl #[.agg #[.slice A0_0 l0_0.length c0_0, .slice A0_1 l0_1.length c0_1, .int .i64 a0_2], .slice Ao105 t536.length co105] (by rfl) rfl rfl (by (try simp only [List.map_toArray, List.map_cons, List.map_nil]); first | done | rfl | (simp only [List.length_drop, List.length_take]; rfl)) ?_
      with_reducible refine (macadamlaw04_mended.calls kj5 _ _ l0_0 _ _ l0_1 a0_2 _ _ t536 t539 _ ?side1 ?side2 ?side3 ?side4 ?side5 ?side6 A33.out).mono ?_
      (case side1 => repeat (first | exact (Kd.C_below HR0_0.out HB.out) | (with_reducible refine Kd.C_alloc ?_ _) | (with_reducible refine Kd.C_drewN ?_ _) | (with_reducible refine Kd.C_drew ?_)))
      (case side2 => exact HC0_0.out)
      (case side3 => repeat (first | exact (Kd.C_below HR0_1.out HB.out) | (with_reducible refine Kd.C_alloc ?_ _) | (with_reducible refine Kd.C_drewN ?_ _) | (with_reducible refine Kd.C_drew ?_)))
      (case side4 => exact HC0_1.out)
      (case side5 => repeat (first | exact (Kd.R_reads' HO538.out).2.2 | (with_reducible refine Kd.C_alloc ?_ _) | (with_reducible refine Kd.C_drewN ?_ _) | (with_reducible refine Kd.C_drew ?_)))
      (case side6 => exact (Kd.R_reads' HO538.out).2.1)
      rintro e w106 ⟨v540, rfl, ho0, hb⟩
      refine ⟨_, rfl, ?_⟩
      have n0_ := Aside0.mk (Kd.V_elder' (by (with_reducible repeat (first | apply Kd.V_alloc | apply Kd.V_drewN | apply Kd.V_drew)); exact HO_5.out) (Kd.R_base ho0) hb)
      have n1_ := Aside0.mk (Kd.R_below (by (with_reducible repeat (first | apply Kd.R_alloc | apply Kd.R_drewN | apply Kd.R_drew)); exact HO538.out) hb)
      have n2_ := Aside0.mk (Kd.R_lower ho0 (below_size (bw1 HB GE525)))
      have n3_ := Aside0.mk (blk_below (bm BK525) hb)
      have n4_ := Aside0.mk (below_step (bw1 HB GE525) hb)
      clear HO_5
      clear HO538
      clear BK525
      clear HB
      have HO_5 := n0_
      have HO538 := n1_
      have HO541 := n2_
      have BK525 := n3_
      have HB := n4_
      clear n0_ n1_ n2_ n3_ n4_
      (try clear hb)
      (try clear hb2)
      (try clear hk)
      (try clear hi)
      (try clear ho0)
      obtain ⟨Ao107, co107, eo107⟩ := Kd.R_slice HO541.out
      (first | subst eo107 | (injection eo107 with f1_ f2_ f3_; have f4_ := f1_.symm; have f5_ := f3_.symm; clear f1_ f2_ f3_; subst f4_; subst f5_))
      refine hK.out _ _ ⟨(blk_cell BK525.out 0).trans rfl, (blk_cell BK525.out 1).trans rfl, (blk_cell BK525.out 2).trans rfl⟩ (fun hHeld => ?_)
      clear hK K
      refine nm 64 ?_
      refine pu HT_ 3 (some 65) (bs 8 127) ?_
      refine pu HT_ 7 (some 69) (bs 8 255) ?_
      refine done_ (done_of HT_.out (by kernel_rfl)) ?_
      try go_wp2_with (first | ((with_reducible refine gate_callee (f := 24) rfl ?_); refine gL (some 70) Tryd.func24 #[] ?_; (with_reducible refine (macadamlaw04_shovelled.calls  t542 _ ?side1 A101.out).mono ?_); (case side1 => exact gv_below HG.out (bw1 HB GE525)); rintro e w108 ⟨rfl, hb⟩; refine ⟨_, rfl, ?_⟩; have n0_ := Aside0.mk (Kd.V_below (by (with_reducible repeat (first | apply Kd.V_alloc | apply Kd.V_drewN | apply Kd.V_drew)); exact HO_5.out) hb); have n1_ := Aside0.mk (Kd.R_below (by (with_reducible repeat (first | apply Kd.R_alloc | apply Kd.R_drewN | apply Kd.R_drew)); exact HO538.out) hb); have n2_ := Aside0.mk (Kd.R_below (by (with_reducible repeat (first | apply Kd.R_alloc | apply Kd.R_drewN | apply Kd.R_drew)); exact HO541.out) hb); have n3_ := Aside0.mk (blk_below (bm BK525) hb); have n4_ := Aside0.mk (below_step (bw1 HB GE525) hb); clear HO_5; clear HO538; clear HO541; clear BK525; clear HB; have HO_5 := n0_; have HO538 := n1_; have HO541 := n2_; have BK525 := n3_; have HB := n4_; clear n0_ n1_ n2_ n3_ n4_; (try clear hb); (try clear hb2); (try clear hk); (try clear hi)))
      go_ret
      exact ⟨by first | rfl | (simp [errW_none, errW_some] <;> rfl) | (simp [*, errW_none, errW_some] <;> rfl), bw1 HB GE525⟩
 ·replace c5 := Bool.eq_false_iff.mpr c5
  subst c5
  have H1 : (if t529 = 40 then (if (t526.length : Int) = 0 then ((macadamlaw04_shovelled.f).bind fun t531 => (some t531)) else (some false)) else (some false)) = some r := by rw [if_neg (show ¬ (false = true) by decide)] at H; exact H
  clear H
  have H := H1
  clear H1
  by_cases c109 : t529 = 40
  ·rw [if_pos c109] at H
   have c109b0 : (t529 == 40) = true := beq_iff_eq.mpr c109
   have c109b1 : (t529 != 40) = false := bne_eq_false_iff_eq.mpr c109
   clear c109
   by_cases c110 : (t526.length : Int) = 0
   ·rw [if_pos c110] at H
    have c110b0 : ((t526.length : Int) == 0) = true := beq_iff_eq.mpr c110
    have c110b1 : ((t526.length : Int) != 0) = false := bne_eq_false_iff_eq.mpr c110
    clear c110
    replace H := Option.bind_eq_some_iff.mp H
    obtain ⟨t531, A1110, H⟩ := H
    replace H : (some t531) = some r := H
    have A111 := Aside0.mk A1110
    clear A1110
    obtain rfl := Option.some.inj H
    go_enter Tryd.func9, Tryd.ntmps9
    go_wp2_with (first | ((with_reducible refine gate_dst (N := 2) rfl ?_); (try (refine gate_guard (by rfl) ?_; dsimp only)); refine bx 2 #[.slice A0_0 l0_0.length c0_0, .slice A0_1 l0_1.length c0_1, .int .i64 a0_2] 25 ?_; intro gb525 hg w112 hbox hb; have n0_ := Aside0.mk (below_step (bw HB) hb); have n1_ := Aside0.mk (hbox); have n2_ := Aside0.mk (bz (bw HB) hg); have n3_ := Aside0.mk (bz (bw HB) hg); clear HB; have HB := n0_; have BK525 := n1_; have GW525 := n2_; have GE525 := n3_; clear n0_ n1_ n2_ n3_; clear hb hbox hg; obtain ⟨hcz113_0, hcz113_1, hcz113_2, hfz113_0, hfz113_1, hfz113_2⟩ := b3 BK525) | ((with_reducible refine gate_callee (f := 31) rfl ?_); refine gL (some 12) Tryd.func31 #[.agg #[.slice A0_0 l0_0.length c0_0, .slice A0_1 l0_1.length c0_1, .int .i64 a0_2]] ?_; (with_reducible refine (gang_Plan.calls _ _ l0_0 _ _ l0_1 a0_2 t526 t529 _ ?side1 ?side2 ?side3 ?side4 ?side5 A3.out).mono ?_); (case side1 => repeat (first | exact (Kd.C_below HR0_0.out HB.out) | (with_reducible refine Kd.C_alloc ?_ _) | (with_reducible refine Kd.C_drewN ?_ _) | (with_reducible refine Kd.C_drew ?_))); (case side2 => exact HC0_0.out); (case side3 => repeat (first | exact (Kd.C_below HR0_1.out HB.out) | (with_reducible refine Kd.C_alloc ?_ _) | (with_reducible refine Kd.C_drewN ?_ _) | (with_reducible refine Kd.C_drew ?_))); (case side4 => exact HC0_1.out); (case side5 => exact gv_below HG.out (bw1 HB GE525)); rintro e w114 ⟨v527, rfl, ho0, hb⟩; refine ⟨_, rfl, ?_⟩; have n0_ := Aside0.mk (Kd.V_lower (Kd.V_mono (ok' := fun k_ => k_ ≠ gb525) ho0 (fun k_ hk_ => (Kd.freshB (g := gb525) (o := .cells #[.slice A0_0 l0_0.length c0_0, .slice A0_1 l0_1.length c0_1, .int .i64 a0_2] 25 (0, 0)) (bm BK525) k_ hk_))) (below_size (bw1 HB GE525))); have n1_ := Aside0.mk (blk_below (bm BK525) hb); have n2_ := Aside0.mk (below_step (bw1 HB GE525) hb); clear BK525; clear HB; have HO528 := n0_; have BK525 := n1_; have HB := n2_; clear n0_ n1_ n2_; (try clear hb); (try clear hb2); (try clear hk); (try clear hi); (try clear ho0); obtain ⟨hcz115_0, hcz115_1, hcz115_2, hfz115_0, hfz115_1, hfz115_2⟩ := b3 BK525) | ((with_reducible refine gate_callee (f := 38) rfl ?_); refine gL (some 16) Tryd.func38 #[.agg #[.slice A0_0 l0_0.length c0_0, .slice A0_1 l0_1.length c0_1, .int .i64 a0_2]] ?_; (with_reducible refine (macadamlaw04_sound.calls k _ _ l0_0 _ _ l0_1 a0_2 false _ ?side1 ?side2 ?side3 ?side4 A4.out).mono ?_); (case side1 => repeat (first | exact (Kd.C_below HR0_0.out HB.out) | (with_reducible refine Kd.C_alloc ?_ _) | (with_reducible refine Kd.C_drewN ?_ _) | (with_reducible refine Kd.C_drew ?_))); (case side2 => exact HC0_0.out); (case side3 => repeat (first | exact (Kd.C_below HR0_1.out HB.out) | (with_reducible refine Kd.C_alloc ?_ _) | (with_reducible refine Kd.C_drewN ?_ _) | (with_reducible refine Kd.C_drew ?_))); (case side4 => exact HC0_1.out); rintro e w116 ⟨rfl, hb⟩; refine ⟨_, rfl, ?_⟩; have n0_ := Aside0.mk (Kd.V_below (by (with_reducible repeat (first | apply Kd.V_alloc | apply Kd.V_drewN | apply Kd.V_drew)); exact HO528.out) hb); have n1_ := Aside0.mk (blk_below (bm BK525) hb); have n2_ := Aside0.mk (below_step (bw1 HB GE525) hb); clear HO528; clear BK525; clear HB; have HO528 := n0_; have BK525 := n1_; have HB := n2_; clear n0_ n1_ n2_; (try clear hb); (try clear hb2); (try clear hk); (try clear hi); obtain ⟨Ao117, co117, eo117⟩ := Kd.V_slice HO528.out; subst eo117) | (go_at_call 24; (with_reducible refine (macadamlaw04_shovelled.calls  t531 _ ?side1 A111.out).mono ?_); (case side1 => exact gv_below HG.out (bw1 HB GE525)); rintro e w118 ⟨rfl, hb⟩; have n0_ := Aside0.mk (Kd.V_below (by (with_reducible repeat (first | apply Kd.V_alloc | apply Kd.V_drewN | apply Kd.V_drew)); exact HO528.out) hb); have n1_ := Aside0.mk (blk_below (bm BK525) hb); have n2_ := Aside0.mk (below_step (bw1 HB GE525) hb); clear HO528; clear BK525; clear HB; have HO528 := n0_; have BK525 := n1_; have HB := n2_; clear n0_ n1_ n2_; (try clear hb); (try clear hb2); (try clear hk); (try clear hi)))
    go_ret
    exact ⟨by first | rfl | (simp [errW_none, errW_some] <;> rfl) | (simp [*, errW_none, errW_some] <;> rfl), bw1 HB GE525⟩
   ·rw [if_neg c110] at H
    have c110b0 : ((t526.length : Int) == 0) = false := beq_eq_false_iff_ne.mpr c110
    have c110b1 : ((t526.length : Int) != 0) = true := bne_iff_ne.mpr c110
    have c110b2 : ¬ (t526 = []) := fun h_ => c110 (by rw [h_]; rfl)
    obtain rfl := Option.some.inj H
    go_enter Tryd.func9, Tryd.ntmps9
    go_wp2_with (first | ((with_reducible refine gate_dst (N := 2) rfl ?_); (try (refine gate_guard (by rfl) ?_; dsimp only)); refine bx 2 #[.slice A0_0 l0_0.length c0_0, .slice A0_1 l0_1.length c0_1, .int .i64 a0_2] 25 ?_; intro gb525 hg w119 hbox hb; have n0_ := Aside0.mk (below_step (bw HB) hb); have n1_ := Aside0.mk (hbox); have n2_ := Aside0.mk (bz (bw HB) hg); have n3_ := Aside0.mk (bz (bw HB) hg); clear HB; have HB := n0_; have BK525 := n1_; have GW525 := n2_; have GE525 := n3_; clear n0_ n1_ n2_ n3_; clear hb hbox hg; obtain ⟨hcz120_0, hcz120_1, hcz120_2, hfz120_0, hfz120_1, hfz120_2⟩ := b3 BK525) | ((with_reducible refine gate_callee (f := 31) rfl ?_); refine gL (some 12) Tryd.func31 #[.agg #[.slice A0_0 l0_0.length c0_0, .slice A0_1 l0_1.length c0_1, .int .i64 a0_2]] ?_; (with_reducible refine (gang_Plan.calls _ _ l0_0 _ _ l0_1 a0_2 t526 t529 _ ?side1 ?side2 ?side3 ?side4 ?side5 A3.out).mono ?_); (case side1 => repeat (first | exact (Kd.C_below HR0_0.out HB.out) | (with_reducible refine Kd.C_alloc ?_ _) | (with_reducible refine Kd.C_drewN ?_ _) | (with_reducible refine Kd.C_drew ?_))); (case side2 => exact HC0_0.out); (case side3 => repeat (first | exact (Kd.C_below HR0_1.out HB.out) | (with_reducible refine Kd.C_alloc ?_ _) | (with_reducible refine Kd.C_drewN ?_ _) | (with_reducible refine Kd.C_drew ?_))); (case side4 => exact HC0_1.out); (case side5 => exact gv_below HG.out (bw1 HB GE525)); rintro e w121 ⟨v527, rfl, ho0, hb⟩; refine ⟨_, rfl, ?_⟩; have n0_ := Aside0.mk (Kd.V_lower (Kd.V_mono (ok' := fun k_ => k_ ≠ gb525) ho0 (fun k_ hk_ => (Kd.freshB (g := gb525) (o := .cells #[.slice A0_0 l0_0.length c0_0, .slice A0_1 l0_1.length c0_1, .int .i64 a0_2] 25 (0, 0)) (bm BK525) k_ hk_))) (below_size (bw1 HB GE525))); have n1_ := Aside0.mk (blk_below (bm BK525) hb); have n2_ := Aside0.mk (below_step (bw1 HB GE525) hb); clear BK525; clear HB; have HO528 := n0_; have BK525 := n1_; have HB := n2_; clear n0_ n1_ n2_; (try clear hb); (try clear hb2); (try clear hk); (try clear hi); (try clear ho0); obtain ⟨hcz122_0, hcz122_1, hcz122_2, hfz122_0, hfz122_1, hfz122_2⟩ := b3 BK525) | ((with_reducible refine gate_callee (f := 38) rfl ?_); refine gL (some 16) Tryd.func38 #[.agg #[.slice A0_0 l0_0.length c0_0, .slice A0_1 l0_1.length c0_1, .int .i64 a0_2]] ?_; (with_reducible refine (macadamlaw04_sound.calls k _ _ l0_0 _ _ l0_1 a0_2 false _ ?side1 ?side2 ?side3 ?side4 A4.out).mono ?_); (case side1 => repeat (first | exact (Kd.C_below HR0_0.out HB.out) | (with_reducible refine Kd.C_alloc ?_ _) | (with_reducible refine Kd.C_drewN ?_ _) | (with_reducible refine Kd.C_drew ?_))); (case side2 => exact HC0_0.out); (case side3 => repeat (first | exact (Kd.C_below HR0_1.out HB.out) | (with_reducible refine Kd.C_alloc ?_ _) | (with_reducible refine Kd.C_drewN ?_ _) | (with_reducible refine Kd.C_drew ?_))); (case side4 => exact HC0_1.out); rintro e w123 ⟨rfl, hb⟩; refine ⟨_, rfl, ?_⟩; have n0_ := Aside0.mk (Kd.V_below (by (with_reducible repeat (first | apply Kd.V_alloc | apply Kd.V_drewN | apply Kd.V_drew)); exact HO528.out) hb); have n1_ := Aside0.mk (blk_below (bm BK525) hb); have n2_ := Aside0.mk (below_step (bw1 HB GE525) hb); clear HO528; clear BK525; clear HB; have HO528 := n0_; have BK525 := n1_; have HB := n2_; clear n0_ n1_ n2_; (try clear hb); (try clear hb2); (try clear hk); (try clear hi); obtain ⟨Ao124, co124, eo124⟩ := Kd.V_slice HO528.out; subst eo124))
    go_ret
    exact ⟨by first | rfl | (simp [errW_none, errW_some] <;> rfl) | (simp [*, errW_none, errW_some] <;> rfl), bw1 HB GE525⟩
  ·rw [if_neg c109] at H
   have c109b0 : (t529 == 40) = false := beq_eq_false_iff_ne.mpr c109
   have c109b1 : (t529 != 40) = true := bne_iff_ne.mpr c109
   obtain rfl := Option.some.inj H
   go_enter Tryd.func9, Tryd.ntmps9
   go_wp2_with (first | ((with_reducible refine gate_dst (N := 2) rfl ?_); (try (refine gate_guard (by rfl) ?_; dsimp only)); refine bx 2 #[.slice A0_0 l0_0.length c0_0, .slice A0_1 l0_1.length c0_1, .int .i64 a0_2] 25 ?_; intro gb525 hg w125 hbox hb; have n0_ := Aside0.mk (below_step (bw HB) hb); have n1_ := Aside0.mk (hbox); have n2_ := Aside0.mk (bz (bw HB) hg); have n3_ := Aside0.mk (bz (bw HB) hg); clear HB; have HB := n0_; have BK525 := n1_; have GW525 := n2_; have GE525 := n3_; clear n0_ n1_ n2_ n3_; clear hb hbox hg; obtain ⟨hcz126_0, hcz126_1, hcz126_2, hfz126_0, hfz126_1, hfz126_2⟩ := b3 BK525) | ((with_reducible refine gate_callee (f := 31) rfl ?_); refine gL (some 12) Tryd.func31 #[.agg #[.slice A0_0 l0_0.length c0_0, .slice A0_1 l0_1.length c0_1, .int .i64 a0_2]] ?_; (with_reducible refine (gang_Plan.calls _ _ l0_0 _ _ l0_1 a0_2 t526 t529 _ ?side1 ?side2 ?side3 ?side4 ?side5 A3.out).mono ?_); (case side1 => repeat (first | exact (Kd.C_below HR0_0.out HB.out) | (with_reducible refine Kd.C_alloc ?_ _) | (with_reducible refine Kd.C_drewN ?_ _) | (with_reducible refine Kd.C_drew ?_))); (case side2 => exact HC0_0.out); (case side3 => repeat (first | exact (Kd.C_below HR0_1.out HB.out) | (with_reducible refine Kd.C_alloc ?_ _) | (with_reducible refine Kd.C_drewN ?_ _) | (with_reducible refine Kd.C_drew ?_))); (case side4 => exact HC0_1.out); (case side5 => exact gv_below HG.out (bw1 HB GE525)); rintro e w127 ⟨v527, rfl, ho0, hb⟩; refine ⟨_, rfl, ?_⟩; have n0_ := Aside0.mk (Kd.V_lower (Kd.V_mono (ok' := fun k_ => k_ ≠ gb525) ho0 (fun k_ hk_ => (Kd.freshB (g := gb525) (o := .cells #[.slice A0_0 l0_0.length c0_0, .slice A0_1 l0_1.length c0_1, .int .i64 a0_2] 25 (0, 0)) (bm BK525) k_ hk_))) (below_size (bw1 HB GE525))); have n1_ := Aside0.mk (blk_below (bm BK525) hb); have n2_ := Aside0.mk (below_step (bw1 HB GE525) hb); clear BK525; clear HB; have HO528 := n0_; have BK525 := n1_; have HB := n2_; clear n0_ n1_ n2_; (try clear hb); (try clear hb2); (try clear hk); (try clear hi); (try clear ho0); obtain ⟨hcz128_0, hcz128_1, hcz128_2, hfz128_0, hfz128_1, hfz128_2⟩ := b3 BK525) | ((with_reducible refine gate_callee (f := 38) rfl ?_); refine gL (some 16) Tryd.func38 #[.agg #[.slice A0_0 l0_0.length c0_0, .slice A0_1 l0_1.length c0_1, .int .i64 a0_2]] ?_; (with_reducible refine (macadamlaw04_sound.calls k _ _ l0_0 _ _ l0_1 a0_2 false _ ?side1 ?side2 ?side3 ?side4 A4.out).mono ?_); (case side1 => repeat (first | exact (Kd.C_below HR0_0.out HB.out) | (with_reducible refine Kd.C_alloc ?_ _) | (with_reducible refine Kd.C_drewN ?_ _) | (with_reducible refine Kd.C_drew ?_))); (case side2 => exact HC0_0.out); (case side3 => repeat (first | exact (Kd.C_below HR0_1.out HB.out) | (with_reducible refine Kd.C_alloc ?_ _) | (with_reducible refine Kd.C_drewN ?_ _) | (with_reducible refine Kd.C_drew ?_))); (case side4 => exact HC0_1.out); rintro e w129 ⟨rfl, hb⟩; refine ⟨_, rfl, ?_⟩; have n0_ := Aside0.mk (Kd.V_below (by (with_reducible repeat (first | apply Kd.V_alloc | apply Kd.V_drewN | apply Kd.V_drew)); exact HO528.out) hb); have n1_ := Aside0.mk (blk_below (bm BK525) hb); have n2_ := Aside0.mk (below_step (bw1 HB GE525) hb); clear HO528; clear BK525; clear HB; have HO528 := n0_; have BK525 := n1_; have HB := n2_; clear n0_ n1_ n2_; (try clear hb); (try clear hb2); (try clear hk); (try clear hi)))
   go_ret
   exact ⟨by first | rfl | (simp [errW_none, errW_some] <;> rfl) | (simp [*, errW_none, errW_some] <;> rfl), bw1 HB GE525⟩
end Go.Proofs.YtikfghnkbgdbgaaDoor.Q
end
section
namespace Go.Proofs.YtikfghnkbgdbgaaDoor.Q
set_option linter.unusedSimpArgs false
set_option linter.unusedVariables false
open Go.RowKit Go.Proofs.YtikfghnkbgdbgaaDoorW.PrintWords Go.Proofs.YtikfghnkbgdbgaaDoorW.PrintLast Go.Proofs.YtikfghnkbgdbgaaDoorW.PrintMore
theorem cmpW3 (x y : Wk) : decide (cmpIL [x.f0, x.f1, x.f2] [y.f0, y.f1, y.f2] < 0) = decide (cmpW x y < 0) := by
  rw [decide_eq_decide, cmpIL_cons_lt, cmpIL_cons_lt, cmpIL_cons_lt, cmpW_lt]
  simp only [cmpIL]
  constructor
  · rintro (h | ⟨h0, h | ⟨h1, h | ⟨_, h⟩⟩⟩)
    · exact Or.inl h
    · exact Or.inr ⟨h0, Or.inl h⟩
    · exact Or.inr ⟨h0, Or.inr ⟨h1, h⟩⟩
    · omega
  · rintro (h | ⟨h0, h | ⟨h1, h⟩⟩)
    · exact Or.inl h
    · exact Or.inr ⟨h0, Or.inl h⟩
    · exact Or.inr ⟨h0, Or.inr ⟨h1, Or.inl h⟩⟩
theorem wsooner_l (l m : List Wk) (hl : l.length ≤ 9223372036854775807) (hm : m.length ≤ 9223372036854775807) (d : Nat) : ∀ (i : Nat), l.length - i = d → i ≤ l.length → i ≤ m.length → Ev (fun k => macadamlaw04_sooner.l0 k l m i) (decide (cmpL (l.drop i) (m.drop i) < 0)) := by
  have hmn : mn (l.length : Int) (m.length : Int) = if (m.length : Int) < (l.length : Int) then (m.length : Int) else (l.length : Int) := rfl
  have endv : ∀ i : Nat, i = l.length ∨ i = m.length → i ≤ l.length → i ≤ m.length → decide (cmpL (l.drop i) (m.drop i) < 0) = decide ((l.length : Int) < (m.length : Int)) := fun i h h1 h2 => by
    rw [decide_eq_decide]
    cases hdl : l.drop i with
    | nil =>
      rw [List.drop_eq_nil_iff] at hdl
      cases hdm : m.drop i with
      | nil => rw [List.drop_eq_nil_iff] at hdm; simp [cmpL]; omega
      | cons y r =>
        have : (m.drop i).length = r.length + 1 := by rw [hdm]; rfl
        rw [List.length_drop] at this
        simp [cmpL]; omega
    | cons x s =>
      have h3 : (l.drop i).length = s.length + 1 := by rw [hdl]; rfl
      rw [List.length_drop] at h3
      rw [List.drop_of_length_le (l := m) (by omega)]
      simp [cmpL]; omega
  induction d with
  | zero =>
    intro i hd hi hi2
    rw [endv i (Or.inl (by omega)) hi hi2]
    exact Ev.step (f := fun _ => some (decide ((l.length : Int) < (m.length : Int)))) (fun k => by simp only [macadamlaw04_sooner.l0]; rw [hmn, if_neg (by split <;> omega)]) (Ev.now _)
  | succ d ih =>
    intro i hd hi hi2
    have hlt : i < l.length := by omega
    have hw : wrap64 ((i : Int) + 1) = ((i + 1 : Nat) : Int) := by unfold wrap64; omega
    by_cases hm2 : i < m.length
    · have hx : rd_T59 l (i : Int) = W3 l i := rfl
      have hy : rd_T59 m (i : Int) = W3 m i := rfl
      rw [drop_W3 l i hlt, drop_W3 m i hm2]
      generalize hX : W3 l i = x at hx
      generalize hY : W3 m i = y at hy
      refine Ev.step (f := fun k => (macadamref00_Like.f k [x.f0, x.f1, x.f2] [y.f0, y.f1, y.f2]).bind fun t523 => if t523 = true then macadamlaw04_sooner.l0 k l m ((i + 1 : Nat) : Int) else (macadamref00_Sooner.f k [x.f0, x.f1, x.f2] [y.f0, y.f1, y.f2]).bind fun t524 => some t524) (fun k => ?_) ?_
      · simp only [macadamlaw04_sooner.l0]
        rw [hmn, if_pos (by split <;> omega), if_pos (by omega), if_pos (by omega), hx]
        (try simp only [Option.bind_some])
        rw [if_pos (by omega), hy]
        (try simp only [Option.bind_some])
        rw [hw]
      · refine Ev.bind (like_f _ _ (by simp)) ?_
        have hcc := @cmpL_cons_lt x y (l.drop (i + 1)) (m.drop (i + 1))
        have hxy : [x.f0, x.f1, x.f2] = [y.f0, y.f1, y.f2] ↔ x = y := by
          obtain ⟨a, b, c⟩ := x
          obtain ⟨d, e, f⟩ := y
          simp
        by_cases h : x = y
        · have e : decide (cmpL (x :: l.drop (i + 1)) (y :: m.drop (i + 1)) < 0) = decide (cmpL (l.drop (i + 1)) (m.drop (i + 1)) < 0) := by
            rw [decide_eq_decide, hcc]
            have := @cmpW_lt x y
            subst h
            constructor
            · rintro (h | ⟨_, h⟩)
              · rw [this] at h; omega
              · exact h
            · exact fun h => Or.inr ⟨rfl, h⟩
          rw [e]
          exact Ev.pos (by rw [decide_eq_true_eq]; exact hxy.2 h) (ih (i + 1) (by omega) (by omega) (by omega))
        · have e : decide (cmpL (x :: l.drop (i + 1)) (y :: m.drop (i + 1)) < 0) = decide (cmpIL [x.f0, x.f1, x.f2] [y.f0, y.f1, y.f2] < 0) := by
            rw [cmpW3, decide_eq_decide, hcc]; simp [h]
          rw [e]
          exact Ev.neg (by rw [decide_eq_true_eq]; exact fun hc => h (hxy.1 hc)) (Ev.bind (sooner_ev _ _ (by simp) (by simp)) (Ev.now _))
    · rw [endv i (Or.inr (by omega)) hi hi2]
      exact Ev.step (f := fun _ => some (decide ((l.length : Int) < (m.length : Int)))) (fun k => by simp only [macadamlaw04_sooner.l0]; rw [hmn, if_neg (by split <;> omega)]) (Ev.now _)
theorem wsooner_ev (l m : List Wk) (hl : l.length ≤ 9223372036854775807) (hm : m.length ≤ 9223372036854775807) : Ev (fun k => macadamlaw04_sooner.f k l m) (decide (cmpL l m < 0)) := by
  have := wsooner_l l m hl hm l.length 0 (by omega) (by omega) (by omega)
  rw [List.drop_zero, List.drop_zero] at this
  exact this
theorem gangPlan_pure (ms : List M) (gs : List G) (n : Int) (ok0 : OkBook ms gs n) (bits : List Int) (ok1 : bits.length ≤ maxLen ∧ ∀ x ∈ bits, (Lit.int .i64 x).wf = true) (_z : bits.length * 8 ≤ 140737488351232) :
    ∃ k, macadamlaw04_GangPlan.f k ms gs n bits = some true := by
  have hm : ms.length ≤ 9223372036854775807 := ok0.1.1
  have hg : gs.length ≤ 9223372036854775807 := ok0.2.1.1
  refine Ev.rounds ?_
  unfold macadamlaw04_GangPlan.f
  by_cases ok : okB ms gs n = true
  · obtain ⟨q, hq, he⟩ := drawn_ev ok (bits := bits) ok1.1
    have hq8 := plan_len ok hq
    rcases plan_f ok with ⟨p, hp, e⟩ | ⟨hp, e⟩
    · obtain ⟨c1, c2, c3, c4⟩ := planL_some ok hp
      have hp8 := plan_len ok c1
      have hlaw := lawful_ev ok (p := p) (by omega)
      rw [c1] at hlaw
      refine Ev.bind (Ev.some e) (Ev.bind (sound_ev ms gs n hm hg) ?_)
      rw [ok]
      refine Ev.pos rfl (Ev.pos rfl (Ev.bind hlaw (Ev.pos rfl (Ev.bind (lmended_ev ok c1) ?_))))
      have hcf : ((mendedL ms gs p).length : Int) = (ms.length : Int) := by unfold fullB at c2; omega
      refine Ev.step (f := fun k => (macadamlaw04_drawn.f k ms gs n bits).bind fun t536 => (macadamlaw04_mended.f k ms gs n t536).bind fun t539 => if (t539.length : Int) = (ms.length : Int) then (macadamlaw04_last.f t536).bind fun t544 => (if lastN p < t544 then some true else if lastN p = t544 then (if (p.length : Int) < (t536.length : Int) then some true else if (p.length : Int) = (t536.length : Int) then (macadamlaw04_sooner.f k t536 p).bind fun t547 => (if t547 = true then some false else some true) else some false) else some false) else some true) (fun k => ?_) ?_
      · simp only [macadamlaw04_GangPlan.j0]
        rw [if_neg (by simp [hcf]), last_f p (by omega)]
        simp only [Option.bind_some, if_true]
        rfl
      · refine Ev.bind he (Ev.bind (lmended_ev ok hq) ?_)
        by_cases hf : ((mendedL ms gs q).length : Int) = (ms.length : Int)
        · have hqf : fullB ms gs q := by unfold fullB; omega
          have hb := c4 q hq hqf
          refine Ev.pos hf (Ev.bind (Ev.some (last_f q (by omega))) ?_)
          by_cases h1 : lastN p < lastN q
          · exact Ev.pos h1 (Ev.now _)
          · have h2 : lastN p = lastN q := by omega
            refine Ev.neg h1 (Ev.pos h2 ?_)
            have h3 := mt betterB_iff.2 (hb.2 h2.symm)
            by_cases h4 : (p.length : Int) < (q.length : Int)
            · exact Ev.pos h4 (Ev.now _)
            · have h5 : (p.length : Int) = (q.length : Int) := by
                have := mt Or.inl h3
                omega
              refine Ev.neg h4 (Ev.pos h5 (Ev.bind (wsooner_ev q p (by omega) (by omega)) (Ev.neg ?_ (Ev.now _))))
              rw [decide_eq_true_eq]
              exact fun hc => h3 (Or.inr ⟨by omega, hc⟩)
        · exact Ev.neg hf (Ev.now _)
    · refine Ev.bind (Ev.some e) (Ev.bind (sound_ev ms gs n hm hg) ?_)
      rw [ok]
      refine Ev.pos rfl (Ev.neg (by decide) (Ev.pos rfl (Ev.pos rfl ?_)))
      refine Ev.step (f := fun k => (macadamlaw04_drawn.f k ms gs n bits).bind fun t536 => (macadamlaw04_mended.f k ms gs n t536).bind fun t539 => if (t539.length : Int) = (ms.length : Int) then (macadamlaw04_last.f t536).bind fun t544 => some false else some true) (fun k => ?_) ?_
      · simp only [macadamlaw04_GangPlan.j0]
        rw [if_neg (by simp)]
        rfl
      · exact Ev.bind he (Ev.bind (lmended_ev ok hq) (Ev.neg (fun h => planL_none ok hp q hq (by unfold fullB; omega)) (Ev.now _)))
  · refine Ev.bind (Ev.some (plan_bad ok)) (Ev.bind (sound_ev ms gs n hm hg) ?_)
    rw [show okB ms gs n = false by simpa using ok]
    exact Ev.neg (by simp) (Ev.pos rfl (Ev.pos rfl (Ev.some rfl)))
end Go.Proofs.YtikfghnkbgdbgaaDoor.Q
end
section
namespace Go.Proofs.YtikfghnkbgdbgaaDoor.Q
open Go.ChangeShapes Go.WideShapes Go.ChangeAt Go.RowKit
set_option linter.unusedVariables false
set_option maxRecDepth 100000 in
theorem gangPlan_lifted (os : Os) (started : os.Started) (H : Type) (enc : TypeId × Value → H) :
    ReturnsInHanded {} Tryd.checked os 9 .any (fun w args => (Rows.gangPlanSpec.pre enc Tryd.prog Tryd.f9 [] false w args ∧ laidMetH Tryd.prog laidV w) ∧ sizedMet enc Tryd.prog Tryd.f9 (OpenSpec.ofChange Rows.gangPlanSpec) false w args)
      (Rows.gangPlanSpec.post enc Tryd.prog Tryd.f9 false true false false) := by
  refine returnsInHanded_of_change_and (C := Tryd.checked) (X := fun w _ => laidMetH Tryd.prog laidV w) (fun _ _ _ hh h => h.of_heap hh) ownK started (by kernel_rfl) Tryd.func9
    (ChangeSpec.witness_shaped (enc := enc) (C := Tryd.checked) (os := os) (X := fun w _ => laidMetH Tryd.prog laidV w) false (World.doorLaid Tryd.prog 19 os) #[.agg #[.slice none 0 0, .slice none 0 0, .int .i64 0], .slice none 0 0] 8 rfl (World.shaped_of_RefB (by kernel_rfl) (by kernel_rfl)) (by kernel_rfl) (by kernel_rfl) (by kernel_rfl) (door_met os _)) ?_
  intro W base args ds gs before hval0 hW _ hsz0 hL _
  have hval : ∀ (j : Nat) t v, Tryd.f9.params[j]? = some t → args[j]? = some v → Value.okWide Tryd.prog W .any base t v := hval0
  have hsz : (DataW.weightsEach Tryd.prog (Tryd.f9.params.toList ++ Rows.gangPlanSpec.plain.varTypes Tryd.prog) (ds ++ gs)).all (· ≤ reachBytes) = true := hsz0
  have hW' := hW
  obtain ⟨p, q, hA0, hV, rfl, hfz, hnd⟩ := hW
  have hA : DataW.TrodAll enc Tryd.prog W 0 (fun _ => true) true Tryd.f9.params.toList args.toList ds p := hA0
  rw [Tryd.params9] at hA hval hsz
  obtain ⟨v0, vs0, d0, ds0, p0, q0, hargs, rfl, rfl, h0, r0⟩ := trodAll_cons hA
  obtain ⟨v1, vs1, d1, ds1, p1, q1, rfl, rfl, rfl, h1, r1⟩ := trodAll_cons r0
  obtain ⟨rfl, rfl, rfl⟩ := trodAll_nil r1
  obtain rfl : args = #[v0, v1] := by cases args; simp_all
  obtain ⟨rfl, rfl⟩ := trodVars_none hV
  have lt0 : ∀ x ∈ p0, x.block < W.heap.size := by obtain ⟨m, hm⟩ := h0; exact DataW.trod_lt m _ _ _ hm
  obtain ⟨y0, K0, ok0⟩ := opens_book.arg h0
  obtain ⟨A0_0, c0_0, A0_1, c0_1, e0, hc0_0, hr0_0, hc0_1, hr0_1⟩ := k25_open K0
  obtain rfl := cells_many e0
  have lt1 : ∀ x ∈ p1, x.block < W.heap.size := by obtain ⟨m, hm⟩ := h1; exact DataW.trod_lt m _ _ _ hm
  obtain ⟨a1, len1, cap1, rfl⟩ := okWide_slice Tryd.underlying28 (hval 1 28 v1 rfl rfl)
  have z1 : len1 * 8 ≤ 140737488351232 := sized_any hsz (j := 1) (t := 28) rfl rfl Tryd.underlying28 (by kernel_rfl) h1
  obtain ⟨y1, K1, ok1⟩ := opens_ints.arg h1
  obtain ⟨A1, c1, e1, hc1, hr1⟩ := K1
  simp only [Value.cells, List.cons.injEq, Value.slice.injEq, and_true] at e1
  obtain ⟨rfl, rfl, rfl⟩ := e1
  have hG := gv_of_laid hL
  obtain ⟨k_, h_⟩ := gangPlan_pure y0.f0 y0.f1 y0.f2 ok0 y1 ok1 z1
  clear hA0 hval0 hsz0 hsz
  refine (macadamlaw04_GangPlan.calls k_ A0_0 c0_0 y0.f0 A0_1 c0_1 y0.f1 y0.f2 _ _ y1 true W hr0_0 hc0_0 hr0_1 hc0_1 hr1 hc1 hG h_).mono fun e W' ⟨he, bel⟩ => ?_
  subst he
  exact ⟨_, rfl, _, _, _, [], _, [], hW', trodAll_mk1 (shut_bool Tryd.underlying4 _), (trodAll_cons_mk (Below.trod laidOut (by kernel_rfl) (of_decide_eq_true (by kernel_rfl)) h0 bel lt0) (trodAll_cons_mk (Below.trod laidOut (by kernel_rfl) (of_decide_eq_true (by kernel_rfl)) h1 bel lt1) trodAll_mk0)), rfl, bel.frame _, fun h => by cases h⟩
theorem gangPlan_over : Rows.gangPlanRow.holds Tryd.pinned (OpenSpec.ofChange Rows.gangPlanSpec) :=
  OpenClaim.holds_of_wide 9 Tryd.f9 rfl rfl rfl rfl rfl rfl rfl ⟨rfl, rfl, rfl, rfl, rfl⟩ rfl rfl rfl rfl rfl (by kernel_rfl) Tryd.func9 (by kernel_rfl)
    (of_decide_eq_true (by kernel_rfl)) (by unfold Func.isWrapper; first | (rw [if_pos (by decide +kernel)]; kernel_rfl) | (rw [if_neg (by decide +kernel)]; exact ⟨rfl, rfl⟩))
    (fun os started H enc _ => gangPlan_lifted os started H enc)
end Go.Proofs.YtikfghnkbgdbgaaDoor.Q
namespace Go.Proofs.YtikfghnkbgdbgaaDoor
set_option maxRecDepth 100000 in
/-- THE CARD. -/
theorem gangPlan_holds : Rows.GangPlanCardSaid :=
  Claim7.holds_tied_plain_at .later [] [.data, .funcs] true (true, "88f50df5e688c53fcba80ffbc790cc1082a54a252ac4bc190e21b1a8f43ba8e5") false
    Q.gangPlan_over (fun _ h => by cases h) (by kernel_rfl) (fun _ h => by cases h) gangPlan_row_tie rfl ⟨rfl, rfl⟩ (by kernel_rfl) rfl
    (fun f fn hf hfn => by
      obtain rfl : f = 9 := Option.some.inj ((show Tryd.prog.funcNamed "macadam/macadamlaw04.GangPlan" = some 9 by kernel_rfl).symm.trans hf) |>.symm
      obtain rfl : fn = Tryd.f9 := (Option.some.inj (Tryd.func9.symm.trans hfn)).symm
      exact ⟨by kernel_rfl, fun j t ht => by
        rw [Tryd.params9] at ht
        have hm : t ∈ [25, 28] := by simpa using Array.mem_of_getElem? ht
        have hall : ([25, 28].all fun u => !Tryd.prog.wantsStandIn u) = true := by kernel_rfl
        exact (show Tryd.prog.wantsStandIn t = false by simpa using List.all_eq_true.1 hall t hm)⟩)
    (by kernel_rfl)
end Go.Proofs.YtikfghnkbgdbgaaDoor
end
