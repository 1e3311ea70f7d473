/- For any book and any number the statement GangNone holds: from the plan that is told no work can be left out, nor can it be done a night sooner. -/
import Derived.Test.YtikfghnkbgdbgaaDoorZGangNone3
import Derived.Test.YtikfghnkbgdbgaaDoorTie
import Derived.Test.YtikfghnkbgdbgaaDoorCards
import Derived.SevenTiedAt
set_option linter.unusedSimpArgs false
set_option linter.unusedVariables false
section
namespace Go.Proofs.YtikfghnkbgdbgaaDoor.Q
open Go.RowKit Go.Proofs.YtikfghnkbgdbgaaDoorW.PrintWords Go.Proofs.YtikfghnkbgdbgaaDoorW.PrintLast Go.Proofs.YtikfghnkbgdbgaaDoorW.PrintMore
attribute [local go_sem] max2_int min2_int max_two min_two max_three min_three max_four min_four   -- for this text's walks alone
set_option linter.unusedVariables false
set_option linter.unusedSimpArgs false
mutual
def macadamlaw04_GangNone.j0 : Nat → Int → List (S59) → Int → Bool → List (S66) → List (S63) → Int → Option (Bool)
 | 0, _, _, _, _, _, _, _ => none
 | k + 1, x1, x5, x6, x25, x550000, x550001, x550002 => if x25 = true then (if ((x6 == 0) == (decide ((x5.length : Int) > 0))) = true then ((macadamlaw04_shovelled.f).bind fun t555 => (some t555)) else (some false)) else ((macadamlaw04_lawful.f k x550000 x550001 x550002 x5).bind fun t556 => (if t556 = true then (macadamlaw04_GangNone.j1 k x1 x5 ((x5.length : Int) == 0) x550000 x550001 x550002) else (macadamlaw04_GangNone.j1 k x1 x5 true x550000 x550001 x550002)))
def macadamlaw04_GangNone.j1 : Nat → Int → List (S59) → Bool → List (S66) → List (S63) → Int → Option (Bool)
 | 0, _, _, _, _, _, _ => none
 | k + 1, x1, x5, x43, x550000, x550001, x550002 => if x43 = true then (some false) else ((macadamref00_Wrap.f x1 (x5.length : Int)).bind fun t557 => ((some (([] : List (S59)) : List (S59))).bind fun y558 => (if 0 ≤ t557 then (if t557 ≤ (x5.length : Int) then ((some (x5.take (t557 : Int).toNat : List (S59))).bind fun y561 => (if y558.length + y561.length < 5864062014805 then ((some (y558 ++ y561 : List (S59))).bind fun y566 => (if 0 ≤ (wrap64 (t557 + 1)) then (if (wrap64 (t557 + 1)) ≤ (x5.length : Int) then ((some (x5.drop ((wrap64 (t557 + 1)) : Int).toNat : List (S59))).bind fun y569 => (if y566.length + y569.length < 5864062014805 then ((macadamlaw04_mended.f k x550000 x550001 x550002 (y566 ++ y569)).bind fun t577 => (if (t577.length : Int) = (x550000.length : Int) then (some false) else ((macadamlaw04_last.f x5).bind fun t581 => ((gang_Plan.f x550000 x550001 (wrap64 (t581 + 1))).bind fun bt582 => (if bt582.2 = 0 then ((macadamlaw04_same.f k x5 bt582.1).bind fun t586 => (macadamlaw04_GangNone.j2 k (!t586) x550000 x550001 (wrap64 (t581 + 1)))) else (macadamlaw04_GangNone.j2 k true x550000 x550001 (wrap64 (t581 + 1)))))))) else (none))) else (none)) else (none))) else (none))) else (none)) else (none))))
def macadamlaw04_GangNone.j2 : Nat → Bool → List (S66) → List (S63) → Int → Option (Bool)
 | 0, _, _, _, _ => none
 | k + 1, x83, x581000, x581001, x581002 => if x83 = true then (some false) else (if x581002 = 1 then ((macadamlaw04_shovelled.f).bind fun t587 => (some t587)) else ((gang_Plan.f x581000 x581001 (wrap64 (x581002 - 1))).bind fun bt588 => (if bt588.2 = 4 then ((macadamlaw04_shovelled.f).bind fun t592 => (some t592)) else (some false))))
end
def macadamlaw04_GangNone.f (k : Nat) (l0_0 : List (S66)) (l0_1 : List (S63)) (a0_2 : Int) (a1 : Int) : Option (Bool) := (gang_Plan.f l0_0 l0_1 a0_2).bind fun bt550 => ((macadamlaw04_sound.f k l0_0 l0_1 a0_2).bind fun t554 => (if t554 = true then (macadamlaw04_GangNone.j0 k a1 bt550.1 bt550.2 (bt550.2 != 0) l0_0 l0_1 a0_2) else (macadamlaw04_GangNone.j0 k a1 bt550.1 bt550.2 true l0_0 l0_1 a0_2)))
def macadamlaw04_GangNone.T7 : Bool × List (List Nat × List Nat) := (true, [([], []), ([], []), ([], []), ([1, 2], [1, 2]), ([0, 3], [0, 3]), ([], []), ([], []), ([6], [6]), ([5, 7], [5, 7]), ([4, 8, 4], [4, 8]), ([9, 9, 0, 1, 2, 3, 4, 5, 6, 7, 8, 9], [9])])
def macadamlaw04_GangNone.B7 : List Nat := [0, 0, 0, 6, 15, 0, 0, 64, 224, 511, 1023]
theorem macadamlaw04_GangNone.tab7 : rtab .any (opsOf Tryd.f10 7) = macadamlaw04_GangNone.T7 := by kernel_rfl
theorem macadamlaw04_GangNone.bits7 : waitsOk macadamlaw04_GangNone.T7.2 macadamlaw04_GangNone.B7 = true := by kernel_rfl
def macadamlaw04_GangNone.T8 : Bool × List (List Nat × List Nat) := (true, [([], []), ([], []), ([0, 1], [0, 1]), ([2], [2]), ([], []), ([4], [4]), ([5], [5]), ([3, 6], [3, 6])])
def macadamlaw04_GangNone.B8 : List Nat := [0, 0, 3, 7, 0, 16, 48, 127]
theorem macadamlaw04_GangNone.tab8 : rtab .any (opsOf Tryd.f10 8) = macadamlaw04_GangNone.T8 := by kernel_rfl
theorem macadamlaw04_GangNone.bits8 : waitsOk macadamlaw04_GangNone.T8.2 macadamlaw04_GangNone.B8 = true := by kernel_rfl
set_option maxHeartbeats 8000000 in
set_option maxRecDepth 100000 in
theorem macadamlaw04_GangNone.calls (k : Nat) (A0_0 : Option Addr) (c0_0 : Nat) (l0_0 : List (S66)) (A0_1 : Option Addr) (c0_1 : Nat) (l0_1 : List (S63)) (a0_2 : Int) (a1 : Int) (r : Bool) (w : World) (hr0_0 : Kd.C k66 w A0_0 l0_0.length l0_0) (hc0_0 : l0_0.length ≤ c0_0) (hr0_1 : Kd.C k63 w A0_1 l0_1.length l0_1) (hc0_1 : l0_1.length ≤ c0_1) (hG : GV w) (h : macadamlaw04_GangNone.f k l0_0 l0_1 a0_2 a1 = some r) :
  Calls Tryd.prog 10 #[.agg #[.slice A0_0 l0_0.length c0_0, .slice A0_1 l0_1.length c0_1, .int .i64 a0_2], .int .i64 a1] w fun e w' => e = .returned (.bool r) ∧ Below w.heap.size w w' := by
 have hu25 := Tryd.underlying25
 have HR0_0 := Aside0.mk hr0_0
 have HC0_0 := Aside0.mk hc0_0
 clear hr0_0 hc0_0
 have HR0_1 := Aside0.mk hr0_1
 have HC0_1 := Aside0.mk hc0_1
 clear hr0_1 hc0_1
 have HB := Aside0.mk (Below.refl w.heap.size w)
 have HG := Aside0.mk hG
 clear hG
 have H : ((gang_Plan.f l0_0 l0_1 a0_2).bind fun bt550 => ((macadamlaw04_sound.f k l0_0 l0_1 a0_2).bind fun t554 => (if t554 = true then (macadamlaw04_GangNone.j0 k a1 bt550.1 bt550.2 (bt550.2 != 0) l0_0 l0_1 a0_2) else (macadamlaw04_GangNone.j0 k a1 bt550.1 bt550.2 true l0_0 l0_1 a0_2)))) = some r := h
 clear h
 replace H := Option.bind_eq_some_iff.mp H
 obtain ⟨⟨t550, t553⟩, A30, H⟩ := H
 replace H : ((macadamlaw04_sound.f k l0_0 l0_1 a0_2).bind fun t554 => (if t554 = true then (macadamlaw04_GangNone.j0 k a1 t550 t553 (t553 != 0) l0_0 l0_1 a0_2) else (macadamlaw04_GangNone.j0 k a1 t550 t553 true l0_0 l0_1 a0_2))) = some r := H
 have A3 := Aside0.mk A30
 clear A30
 have HC4 := Aside0.mk H
 clear H
 go_enter Tryd.func10, Tryd.ntmps10
 go_upto_region 2 with (first | ((with_reducible refine gate_dst (N := 2) rfl ?_); (try (refine gate_guard (by rfl) ?_; dsimp only)); refine bx 2 #[.slice A0_0 l0_0.length c0_0, .slice A0_1 l0_1.length c0_1, .int .i64 a0_2] 25 ?_; intro gb549 hg w5 hbox hb; have n0_ := Aside0.mk (below_step (bw HB) hb); have n1_ := Aside0.mk (hbox); have n2_ := Aside0.mk (bz (bw HB) hg); have n3_ := Aside0.mk (bz (bw HB) hg); clear HB; have HB := n0_; have BK549 := n1_; have GW549 := n2_; have GE549 := n3_; clear n0_ n1_ n2_ n3_; clear hb hbox hg; obtain ⟨hcz6_0, hcz6_1, hcz6_2, hfz6_0, hfz6_1, hfz6_2⟩ := b3 BK549) | ((with_reducible refine gate_callee (f := 31) rfl ?_); refine gL (some 16) Tryd.func31 #[.agg #[.slice A0_0 l0_0.length c0_0, .slice A0_1 l0_1.length c0_1, .int .i64 a0_2]] ?_; (with_reducible refine (gang_Plan.calls _ _ l0_0 _ _ l0_1 a0_2 t550 t553 _ ?side1 ?side2 ?side3 ?side4 ?side5 A3.out).mono ?_); (case side1 => repeat (first | exact (Kd.C_below HR0_0.out HB.out) | (with_reducible refine Kd.C_alloc ?_ _) | (with_reducible refine Kd.C_drewN ?_ _) | (with_reducible refine Kd.C_drew ?_))); (case side2 => exact HC0_0.out); (case side3 => repeat (first | exact (Kd.C_below HR0_1.out HB.out) | (with_reducible refine Kd.C_alloc ?_ _) | (with_reducible refine Kd.C_drewN ?_ _) | (with_reducible refine Kd.C_drew ?_))); (case side4 => exact HC0_1.out); (case side5 => exact gv_below HG.out (bw1 HB GE549)); rintro e w7 ⟨v551, rfl, ho0, hb⟩; refine ⟨_, rfl, ?_⟩; have n0_ := Aside0.mk (Kd.V_lower (Kd.V_mono (ok' := fun k_ => k_ ≠ gb549) ho0 (fun k_ hk_ => (Kd.freshB (g := gb549) (o := .cells #[.slice A0_0 l0_0.length c0_0, .slice A0_1 l0_1.length c0_1, .int .i64 a0_2] 25 (0, 0)) (bm BK549) k_ hk_))) (below_size (bw1 HB GE549))); have n1_ := Aside0.mk (blk_below (bm BK549) hb); have n2_ := Aside0.mk (below_step (bw1 HB GE549) hb); clear BK549; clear HB; have HO552 := n0_; have BK549 := n1_; have HB := n2_; clear n0_ n1_ n2_; (try clear hb); (try clear hb2); (try clear hk); (try clear hi); (try clear ho0)))
 (try simp only [Act.put, List.setIfInBounds_toArray, List.set_cons_zero, List.set_cons_succ])
 go_cut [25] (fun v25 wc => ∃ (kq : Nat) (x25_3 : Bool), v25 = .bool x25_3 ∧ Aside0 (macadamlaw04_GangNone.j0 kq a1 t550 t553 x25_3 l0_0 l0_1 a0_2 = some r) ∧ Aside0 (kq ≤ k) ∧ Aside0 (Kd.V k59 59 wc w.heap.size (fun k_ => k_ ≠ gb549) v551 t550) ∧ Aside0 (wc.heap[gb549]? = some (.cells #[(.slice A0_0 l0_0.length c0_0), (.slice A0_1 l0_1.length c0_1), .int .i64 a0_2] 25 (0, 0))) ∧ Aside0 (Below w.heap.size w wc))
 case first =>
  have H := HC4.out
  clear HC4
  replace H := Option.bind_eq_some_iff.mp H
  obtain ⟨t554, A80, H⟩ := H
  replace H : (if t554 = true then (macadamlaw04_GangNone.j0 k a1 t550 t553 (t553 != 0) l0_0 l0_1 a0_2) else (macadamlaw04_GangNone.j0 k a1 t550 t553 true l0_0 l0_1 a0_2)) = some r := H
  have A8 := Aside0.mk A80
  clear A80
  by_cases c9 : t554 = true
  ·subst c9
   have H1 : (macadamlaw04_GangNone.j0 k a1 t550 t553 (t553 != 0) l0_0 l0_1 a0_2) = some r := by rw [if_pos rfl] at H; exact H
   clear H
   have H := H1
   clear H1
   have H' := Aside0.mk H
   clear H
   obtain ⟨hcz10_0, hcz10_1, hcz10_2, hfz10_0, hfz10_1, hfz10_2⟩ := b3 BK549
   go_wp2_with (first | ((with_reducible refine gate_callee (f := 38) rfl ?_); refine gL (some 20) Tryd.func38 #[.agg #[.slice A0_0 l0_0.length c0_0, .slice A0_1 l0_1.length c0_1, .int .i64 a0_2]] ?_; (with_reducible refine (macadamlaw04_sound.calls k _ _ l0_0 _ _ l0_1 a0_2 true _ ?side1 ?side2 ?side3 ?side4 A8.out).mono ?_); (case side1 => repeat (first | exact (Kd.C_below HR0_0.out HB.out) | (with_reducible refine Kd.C_alloc ?_ _) | (with_reducible refine Kd.C_drewN ?_ _) | (with_reducible refine Kd.C_drew ?_))); (case side2 => exact HC0_0.out); (case side3 => repeat (first | exact (Kd.C_below HR0_1.out HB.out) | (with_reducible refine Kd.C_alloc ?_ _) | (with_reducible refine Kd.C_drewN ?_ _) | (with_reducible refine Kd.C_drew ?_))); (case side4 => exact HC0_1.out); rintro e w11 ⟨rfl, hb⟩; refine ⟨_, rfl, ?_⟩; have n0_ := Aside0.mk (Kd.V_below (by (with_reducible repeat (first | apply Kd.V_alloc | apply Kd.V_drewN | apply Kd.V_drew)); exact HO552.out) hb); have n1_ := Aside0.mk (blk_below (bm BK549) hb); have n2_ := Aside0.mk (below_step (bw1 HB GE549) hb); clear HO552; clear BK549; clear HB; have HO552 := n0_; have BK549 := n1_; have HB := n2_; clear n0_ n1_ n2_; (try clear hb); (try clear hb2); (try clear hk); (try clear hi)))
   go_meet
   case rel => exact ⟨_, ((t553 != 0)), (by first | rfl | (simp; done) | (simp [*]; done)), H', ⟨by first | omega | exact Nat.le_refl _⟩, ⟨by (with_reducible repeat (first | apply Kd.V_alloc | apply Kd.V_drewN | apply Kd.V_drew)); exact HO552.out⟩, ⟨bm BK549⟩, ⟨bw1 HB GE549⟩⟩
  ·replace c9 := Bool.eq_false_iff.mpr c9
   subst c9
   have H1 : (macadamlaw04_GangNone.j0 k a1 t550 t553 true l0_0 l0_1 a0_2) = some r := by rw [if_neg (show ¬ (false = true) by decide)] at H; exact H
   clear H
   have H := H1
   clear H1
   have H' := Aside0.mk H
   clear H
   obtain ⟨hcz12_0, hcz12_1, hcz12_2, hfz12_0, hfz12_1, hfz12_2⟩ := b3 BK549
   go_wp2_with (first | ((with_reducible refine gate_callee (f := 38) rfl ?_); refine gL (some 20) Tryd.func38 #[.agg #[.slice A0_0 l0_0.length c0_0, .slice A0_1 l0_1.length c0_1, .int .i64 a0_2]] ?_; (with_reducible refine (macadamlaw04_sound.calls k _ _ l0_0 _ _ l0_1 a0_2 false _ ?side1 ?side2 ?side3 ?side4 A8.out).mono ?_); (case side1 => repeat (first | exact (Kd.C_below HR0_0.out HB.out) | (with_reducible refine Kd.C_alloc ?_ _) | (with_reducible refine Kd.C_drewN ?_ _) | (with_reducible refine Kd.C_drew ?_))); (case side2 => exact HC0_0.out); (case side3 => repeat (first | exact (Kd.C_below HR0_1.out HB.out) | (with_reducible refine Kd.C_alloc ?_ _) | (with_reducible refine Kd.C_drewN ?_ _) | (with_reducible refine Kd.C_drew ?_))); (case side4 => exact HC0_1.out); rintro e w13 ⟨rfl, hb⟩; refine ⟨_, rfl, ?_⟩; have n0_ := Aside0.mk (Kd.V_below (by (with_reducible repeat (first | apply Kd.V_alloc | apply Kd.V_drewN | apply Kd.V_drew)); exact HO552.out) hb); have n1_ := Aside0.mk (blk_below (bm BK549) hb); have n2_ := Aside0.mk (below_step (bw1 HB GE549) hb); clear HO552; clear BK549; clear HB; have HO552 := n0_; have BK549 := n1_; have HB := n2_; clear n0_ n1_ n2_; (try clear hb); (try clear hb2); (try clear hk); (try clear hi)))
   go_meet
   case rel => exact ⟨_, (true), (by first | rfl | (simp; done) | (simp [*]; done)), H', ⟨by first | omega | exact Nat.le_refl _⟩, ⟨by (with_reducible repeat (first | apply Kd.V_alloc | apply Kd.V_drewN | apply Kd.V_drew)); exact HO552.out⟩, ⟨bm BK549⟩, ⟨bw1 HB GE549⟩⟩
 case rest =>
  clear HC4
  try clear c1
  try clear p2
  try clear c3
  try clear c9
  try clear c10
  try clear hcz10_0
  try clear hcz10_1
  try clear hcz10_2
  try clear hcz12_0
  try clear hcz12_1
  try clear hcz12_2
  try clear hcz6_0
  try clear hcz6_1
  try clear hcz6_2
  try clear hfz10_0
  try clear hfz10_1
  try clear hfz10_2
  try clear hfz12_0
  try clear hfz12_1
  try clear hfz12_2
  try clear hfz6_0
  try clear hfz6_1
  try clear hfz6_2
  obtain ⟨kq, x25_3, rfl, HA, HJ3, HO_5, BK549, HB⟩ := hcut
  cases kq with
  | zero => exact absurd HA.out (by simp [macadamlaw04_GangNone.j0])
  | succ kj3 =>
   have H := HA.out
   clear HA
   simp only [macadamlaw04_GangNone.j0] at H
   by_cases c14 : x25_3 = true
   ·subst c14
    have H1 : (if ((t553 == 0) == (decide ((t550.length : Int) > 0))) = true then ((macadamlaw04_shovelled.f).bind fun t555 => (some t555)) else (some false)) = some r := by rw [if_pos rfl] at H; exact H
    clear H
    have H := H1
    clear H1
    by_cases c15 : ((t553 == 0) == (decide ((t550.length : Int) > 0))) = true
    ·rw [if_pos c15] at H
     have c15b0 : ((t553 == 0) == (decide ((t550.length : Int) > 0))) = true := c15
     (try (have c15b1 : decide ((t553 == 0) = (decide ((t550.length : Int) > 0))) = true := by simpa using c15))
     (try (have c15b2 : ((t553 == 0) == (decide ((t550.length : Int) > 0))) = true := by simpa using c15))
     (try (have c15b9 : ((t553 == 0) == (decide (0 < t550.length))) = true := by simpa using c15))
     clear c15
     replace H := Option.bind_eq_some_iff.mp H
     obtain ⟨t555, A160, H⟩ := H
     replace H : (some t555) = some r := H
     have A16 := Aside0.mk A160
     clear A160
     obtain rfl := Option.some.inj H
     obtain ⟨Ao17, co17, eo17⟩ := Kd.V_slice HO_5.out
     subst eo17
     go_wp2_with (first | (go_at_call 24; (with_reducible refine (macadamlaw04_shovelled.calls  t555 _ ?side1 A16.out).mono ?_); (case side1 => exact gv_below HG.out (bw1 HB GE549)); rintro e w18 ⟨rfl, hb⟩; have n0_ := Aside0.mk (Kd.V_below (by (with_reducible repeat (first | apply Kd.V_alloc | apply Kd.V_drewN | apply Kd.V_drew)); exact HO_5.out) hb); have n1_ := Aside0.mk (blk_below (bm BK549) hb); have n2_ := Aside0.mk (below_step (bw1 HB GE549) hb); clear HO_5; clear BK549; clear HB; have HO_5 := n0_; have BK549 := n1_; have HB := n2_; clear n0_ n1_ n2_; (try clear hb); (try clear hb2); (try clear hk); (try clear hi)))
     go_ret
     exact ⟨by first | rfl | (simp [errW_none, errW_some] <;> rfl) | (simp [*, errW_none, errW_some] <;> rfl), bw1 HB GE549⟩
    ·rw [if_neg c15] at H
     have c15b0 : ((t553 == 0) == (decide ((t550.length : Int) > 0))) = false := by simpa using c15
     (try (have c15b1 : decide ((t553 == 0) = (decide ((t550.length : Int) > 0))) = false := by simpa using c15))
     (try (have c15b2 : ((t553 == 0) == (decide ((t550.length : Int) > 0))) = false := by simpa using c15))
     (try (have c15b9 : ((t553 == 0) == (decide (0 < t550.length))) = false := by simpa using c15))
     (try (have c15b3 : ¬ ((t553 == 0) = (decide ((t550.length : Int) > 0))) := by simpa using c15))
     clear c15
     obtain rfl := Option.some.inj H
     obtain ⟨Ao19, co19, eo19⟩ := Kd.V_slice HO_5.out
     subst eo19
     go_wp2
     go_ret
     exact ⟨by first | rfl | (simp [errW_none, errW_some] <;> rfl) | (simp [*, errW_none, errW_some] <;> rfl), bw1 HB GE549⟩
   ·replace c14 := Bool.eq_false_iff.mpr c14
    subst c14
    have H1 : ((macadamlaw04_lawful.f kj3 l0_0 l0_1 a0_2 t550).bind fun t556 => (if t556 = true then (macadamlaw04_GangNone.j1 kj3 a1 t550 ((t550.length : Int) == 0) l0_0 l0_1 a0_2) else (macadamlaw04_GangNone.j1 kj3 a1 t550 true l0_0 l0_1 a0_2))) = some r := by rw [if_neg (show ¬ (false = true) by decide)] at H; exact H
    clear H
    have H := H1
    clear H1
    have HC20 := Aside0.mk H
    clear H
    go_upto_region 4 with (fail)
    go_cut [43] (fun v43 wc => ∃ (kq : Nat) (x43_19 : Bool), v43 = .bool x43_19 ∧ Aside0 (macadamlaw04_GangNone.j1 kq a1 t550 x43_19 l0_0 l0_1 a0_2 = some r) ∧ Aside0 (kq ≤ kj3) ∧ Aside0 (Kd.V k59 59 wc w.heap.size (fun k_ => k_ ≠ gb549) v551 t550) ∧ Aside0 (wc.heap[gb549]? = some (.cells #[(.slice A0_0 l0_0.length c0_0), (.slice A0_1 l0_1.length c0_1), .int .i64 a0_2] 25 (0, 0))) ∧ Aside0 (Below w.heap.size w wc))
    case first =>
     have H := HC20.out
     clear HC20
     replace H := Option.bind_eq_some_iff.mp H
     obtain ⟨t556, A210, H⟩ := H
     replace H : (if t556 = true then (macadamlaw04_GangNone.j1 kj3 a1 t550 ((t550.length : Int) == 0) l0_0 l0_1 a0_2) else (macadamlaw04_GangNone.j1 kj3 a1 t550 true l0_0 l0_1 a0_2)) = some r := H
     have A21 := Aside0.mk A210
     clear A210
     by_cases c22 : t556 = true
     ·subst c22
      have H1 : (macadamlaw04_GangNone.j1 kj3 a1 t550 ((t550.length : Int) == 0) l0_0 l0_1 a0_2) = some r := by rw [if_pos rfl] at H; exact H
      clear H
      have H := H1
      clear H1
      have H' := Aside0.mk H
      clear H
      obtain ⟨hcz23_0, hcz23_1, hcz23_2, hfz23_0, hfz23_1, hfz23_2⟩ := b3 BK549
      obtain ⟨Ao24, co24, eo24⟩ := Kd.V_slice HO_5.out
      subst eo24
      go_wp2_with (first | ((with_reducible refine gate_callee (f := 40) rfl ?_); refine gL (some 37) Tryd.func40 #[.agg #[.slice A0_0 l0_0.length c0_0, .slice A0_1 l0_1.length c0_1, .int .i64 a0_2], .slice Ao24 t550.length co24] ?_; (with_reducible refine (macadamlaw04_lawful.calls kj3 _ _ l0_0 _ _ l0_1 a0_2 _ _ t550 true _ ?side1 ?side2 ?side3 ?side4 ?side5 ?side6 A21.out).mono ?_); (case side1 => repeat (first | exact (Kd.C_below HR0_0.out HB.out) | (with_reducible refine Kd.C_alloc ?_ _) | (with_reducible refine Kd.C_drewN ?_ _) | (with_reducible refine Kd.C_drew ?_))); (case side2 => exact HC0_0.out); (case side3 => repeat (first | exact (Kd.C_below HR0_1.out HB.out) | (with_reducible refine Kd.C_alloc ?_ _) | (with_reducible refine Kd.C_drewN ?_ _) | (with_reducible refine Kd.C_drew ?_))); (case side4 => exact HC0_1.out); (case side5 => repeat (first | exact (Kd.V_reads' HO_5.out).2.2 | (with_reducible refine Kd.C_alloc ?_ _) | (with_reducible refine Kd.C_drewN ?_ _) | (with_reducible refine Kd.C_drew ?_))); (case side6 => exact (Kd.V_reads' HO_5.out).2.1); rintro e w25 ⟨rfl, hb⟩; refine ⟨_, rfl, ?_⟩; have n0_ := Aside0.mk (Kd.V_below (by (with_reducible repeat (first | apply Kd.V_alloc | apply Kd.V_drewN | apply Kd.V_drew)); exact HO_5.out) hb); have n1_ := Aside0.mk (blk_below (bm BK549) hb); have n2_ := Aside0.mk (below_step (bw1 HB GE549) hb); clear HO_5; clear BK549; clear HB; have HO_5 := n0_; have BK549 := n1_; have HB := n2_; clear n0_ n1_ n2_; (try clear hb); (try clear hb2); (try clear hk); (try clear hi)))
      go_meet
      case rel => exact ⟨_, (((t550.length : Int) == 0)), (by first | rfl | (simp; done) | (simp [*]; done)), H', ⟨by have := HJ3.out; first | omega | exact Nat.le_refl _⟩, ⟨by (with_reducible repeat (first | apply Kd.V_alloc | apply Kd.V_drewN | apply Kd.V_drew)); exact HO_5.out⟩, ⟨bm BK549⟩, ⟨bw1 HB GE549⟩⟩
     ·replace c22 := Bool.eq_false_iff.mpr c22
      subst c22
      have H1 : (macadamlaw04_GangNone.j1 kj3 a1 t550 true l0_0 l0_1 a0_2) = some r := by rw [if_neg (show ¬ (false = true) by decide)] at H; exact H
      clear H
      have H := H1
      clear H1
      have H' := Aside0.mk H
      clear H
      obtain ⟨hcz26_0, hcz26_1, hcz26_2, hfz26_0, hfz26_1, hfz26_2⟩ := b3 BK549
      obtain ⟨Ao27, co27, eo27⟩ := Kd.V_slice HO_5.out
      subst eo27
      go_wp2_with (first | ((with_reducible refine gate_callee (f := 40) rfl ?_); refine gL (some 37) Tryd.func40 #[.agg #[.slice A0_0 l0_0.length c0_0, .slice A0_1 l0_1.length c0_1, .int .i64 a0_2], .slice Ao27 t550.length co27] ?_; (with_reducible refine (macadamlaw04_lawful.calls kj3 _ _ l0_0 _ _ l0_1 a0_2 _ _ t550 false _ ?side1 ?side2 ?side3 ?side4 ?side5 ?side6 A21.out).mono ?_); (case side1 => repeat (first | exact (Kd.C_below HR0_0.out HB.out) | (with_reducible refine Kd.C_alloc ?_ _) | (with_reducible refine Kd.C_drewN ?_ _) | (with_reducible refine Kd.C_drew ?_))); (case side2 => exact HC0_0.out); (case side3 => repeat (first | exact (Kd.C_below HR0_1.out HB.out) | (with_reducible refine Kd.C_alloc ?_ _) | (with_reducible refine Kd.C_drewN ?_ _) | (with_reducible refine Kd.C_drew ?_))); (case side4 => exact HC0_1.out); (case side5 => repeat (first | exact (Kd.V_reads' HO_5.out).2.2 | (with_reducible refine Kd.C_alloc ?_ _) | (with_reducible refine Kd.C_drewN ?_ _) | (with_reducible refine Kd.C_drew ?_))); (case side6 => exact (Kd.V_reads' HO_5.out).2.1); rintro e w28 ⟨rfl, hb⟩; refine ⟨_, rfl, ?_⟩; have n0_ := Aside0.mk (Kd.V_below (by (with_reducible repeat (first | apply Kd.V_alloc | apply Kd.V_drewN | apply Kd.V_drew)); exact HO_5.out) hb); have n1_ := Aside0.mk (blk_below (bm BK549) hb); have n2_ := Aside0.mk (below_step (bw1 HB GE549) hb); clear HO_5; clear BK549; clear HB; have HO_5 := n0_; have BK549 := n1_; have HB := n2_; clear n0_ n1_ n2_; (try clear hb); (try clear hb2); (try clear hk); (try clear hi)))
      go_meet
      case rel => exact ⟨_, (true), (by first | rfl | (simp; done) | (simp [*]; done)), H', ⟨by have := HJ3.out; first | omega | exact Nat.le_refl _⟩, ⟨by (with_reducible repeat (first | apply Kd.V_alloc | apply Kd.V_drewN | apply Kd.V_drew)); exact HO_5.out⟩, ⟨bm BK549⟩, ⟨bw1 HB GE549⟩⟩
    case rest =>
     clear HC20
     try clear c1
     try clear c2
     try clear p2
     try clear c3
     try clear c4
     try clear c9
     try clear c10
     try clear c14
     try clear c15
     try clear c15b0
     try clear c15b1
     try clear c15b2
     try clear c22
     try clear hcz10_0
     try clear hcz10_1
     try clear hcz10_2
     try clear hcz12_0
     try clear hcz12_1
     try clear hcz12_2
     try clear hcz23_0
     try clear hcz23_1
     try clear hcz23_2
     try clear hcz26_0
     try clear hcz26_1
     try clear hcz26_2
     try clear hcz6_0
     try clear hcz6_1
     try clear hcz6_2
     try clear hfz10_0
     try clear hfz10_1
     try clear hfz10_2
     try clear hfz12_0
     try clear hfz12_1
     try clear hfz12_2
     try clear hfz23_0
     try clear hfz23_1
     try clear hfz23_2
     try clear hfz26_0
     try clear hfz26_1
     try clear hfz26_2
     try clear hfz6_0
     try clear hfz6_1
     try clear hfz6_2
     try clear p2
     obtain ⟨kq, x43_19, rfl, HA, HJ19, HO_5, BK549, HB⟩ := hcut
     cases kq with
     | zero => exact absurd HA.out (by simp [macadamlaw04_GangNone.j1])
     | succ kj19 =>
      have H := HA.out
      clear HA
      simp only [macadamlaw04_GangNone.j1] at H
      by_cases c29 : x43_19 = true
      ·subst c29
       have H1 : (some false) = some r := by rw [if_pos rfl] at H; exact H
       clear H
       have H := H1
       clear H1
       obtain rfl := Option.some.inj H
       go_wp2
       go_ret
       exact ⟨by first | rfl | (simp [errW_none, errW_some] <;> rfl) | (simp [*, errW_none, errW_some] <;> rfl), bw1 HB GE549⟩
      ·replace c29 := Bool.eq_false_iff.mpr c29
       subst c29
       have H1 : ((macadamref00_Wrap.f a1 (t550.length : Int)).bind fun t557 => ((some (([] : List (S59)) : List (S59))).bind fun y558 => (if 0 ≤ t557 then (if t557 ≤ (t550.length : Int) then ((some (t550.take (t557 : Int).toNat : List (S59))).bind fun y561 => (if y558.length + y561.length < 5864062014805 then ((some (y558 ++ y561 : List (S59))).bind fun y566 => (if 0 ≤ (wrap64 (t557 + 1)) then (if (wrap64 (t557 + 1)) ≤ (t550.length : Int) then ((some (t550.drop ((wrap64 (t557 + 1)) : Int).toNat : List (S59))).bind fun y569 => (if y566.length + y569.length < 5864062014805 then ((macadamlaw04_mended.f kj19 l0_0 l0_1 a0_2 (y566 ++ y569)).bind fun t577 => (if (t577.length : Int) = (l0_0.length : Int) then (some false) else ((macadamlaw04_last.f t550).bind fun t581 => ((gang_Plan.f l0_0 l0_1 (wrap64 (t581 + 1))).bind fun bt582 => (if bt582.2 = 0 then ((macadamlaw04_same.f kj19 t550 bt582.1).bind fun t586 => (macadamlaw04_GangNone.j2 kj19 (!t586) l0_0 l0_1 (wrap64 (t581 + 1)))) else (macadamlaw04_GangNone.j2 kj19 true l0_0 l0_1 (wrap64 (t581 + 1)))))))) else (none))) else (none)) else (none))) else (none))) else (none)) else (none)))) = some r := by rw [if_neg (show ¬ (false = true) by decide)] at H; exact H
       clear H
       have H := H1
       clear H1
       replace H := Option.bind_eq_some_iff.mp H
       obtain ⟨t557, A300, H⟩ := H
       replace H : ((some (([] : List (S59)) : List (S59))).bind fun y558 => (if 0 ≤ t557 then (if t557 ≤ (t550.length : Int) then ((some (t550.take (t557 : Int).toNat : List (S59))).bind fun y561 => (if y558.length + y561.length < 5864062014805 then ((some (y558 ++ y561 : List (S59))).bind fun y566 => (if 0 ≤ (wrap64 (t557 + 1)) then (if (wrap64 (t557 + 1)) ≤ (t550.length : Int) then ((some (t550.drop ((wrap64 (t557 + 1)) : Int).toNat : List (S59))).bind fun y569 => (if y566.length + y569.length < 5864062014805 then ((macadamlaw04_mended.f kj19 l0_0 l0_1 a0_2 (y566 ++ y569)).bind fun t577 => (if (t577.length : Int) = (l0_0.length : Int) then (some false) else ((macadamlaw04_last.f t550).bind fun t581 => ((gang_Plan.f l0_0 l0_1 (wrap64 (t581 + 1))).bind fun bt582 => (if bt582.2 = 0 then ((macadamlaw04_same.f kj19 t550 bt582.1).bind fun t586 => (macadamlaw04_GangNone.j2 kj19 (!t586) l0_0 l0_1 (wrap64 (t581 + 1)))) else (macadamlaw04_GangNone.j2 kj19 true l0_0 l0_1 (wrap64 (t581 + 1)))))))) else (none))) else (none)) else (none))) else (none))) else (none)) else (none))) = some r := H
       have A30 := Aside0.mk A300
       clear A300
       obtain ⟨y558, hy558⟩ : ∃ y_ : List (S59), y_ = (([] : List (S59))) := ⟨_, rfl⟩
       replace H : (if 0 ≤ t557 then (if t557 ≤ (t550.length : Int) then ((some (t550.take (t557 : Int).toNat : List (S59))).bind fun y561 => (if y558.length + y561.length < 5864062014805 then ((some (y558 ++ y561 : List (S59))).bind fun y566 => (if 0 ≤ (wrap64 (t557 + 1)) then (if (wrap64 (t557 + 1)) ≤ (t550.length : Int) then ((some (t550.drop ((wrap64 (t557 + 1)) : Int).toNat : List (S59))).bind fun y569 => (if y566.length + y569.length < 5864062014805 then ((macadamlaw04_mended.f kj19 l0_0 l0_1 a0_2 (y566 ++ y569)).bind fun t577 => (if (t577.length : Int) = (l0_0.length : Int) then (some false) else ((macadamlaw04_last.f t550).bind fun t581 => ((gang_Plan.f l0_0 l0_1 (wrap64 (t581 + 1))).bind fun bt582 => (if bt582.2 = 0 then ((macadamlaw04_same.f kj19 t550 bt582.1).bind fun t586 => (macadamlaw04_GangNone.j2 kj19 (!t586) l0_0 l0_1 (wrap64 (t581 + 1)))) else (macadamlaw04_GangNone.j2 kj19 true l0_0 l0_1 (wrap64 (t581 + 1)))))))) else (none))) else (none)) else (none))) else (none))) else (none)) else (none)) = some r := by first | (rw [hy558]; with_reducible exact H) | (have H2_ := (Option.bind_some _ _).symm.trans H; rw [hy558]; with_reducible exact H2_) | (have H2_ := (Option.bind_some _ _).symm.trans H; with_reducible exact H2_) | with_reducible exact H | (rw [hy558]; exact H) | exact H
       have Ny558 := Aside0.mk hy558
       clear hy558
       by_cases c31 : 0 ≤ t557
       ·rw [if_pos c31] at H
        have c31b0 := eq_true c31
        have c31b1 : decide (0 ≤ t557) = true := decide_eq_true c31
        clear c31
        by_cases c32 : t557 ≤ (t550.length : Int)
        ·rw [if_pos c32] at H
         have c32b0 := eq_true c32
         have c32b1 : decide (t557 ≤ (t550.length : Int)) = true := decide_eq_true c32
         clear c32
         obtain ⟨y561, hy561⟩ : ∃ y_ : List (S59), y_ = (t550.take (t557 : Int).toNat) := ⟨_, rfl⟩
         replace H : (if y558.length + y561.length < 5864062014805 then ((some (y558 ++ y561 : List (S59))).bind fun y566 => (if 0 ≤ (wrap64 (t557 + 1)) then (if (wrap64 (t557 + 1)) ≤ (t550.length : Int) then ((some (t550.drop ((wrap64 (t557 + 1)) : Int).toNat : List (S59))).bind fun y569 => (if y566.length + y569.length < 5864062014805 then ((macadamlaw04_mended.f kj19 l0_0 l0_1 a0_2 (y566 ++ y569)).bind fun t577 => (if (t577.length : Int) = (l0_0.length : Int) then (some false) else ((macadamlaw04_last.f t550).bind fun t581 => ((gang_Plan.f l0_0 l0_1 (wrap64 (t581 + 1))).bind fun bt582 => (if bt582.2 = 0 then ((macadamlaw04_same.f kj19 t550 bt582.1).bind fun t586 => (macadamlaw04_GangNone.j2 kj19 (!t586) l0_0 l0_1 (wrap64 (t581 + 1)))) else (macadamlaw04_GangNone.j2 kj19 true l0_0 l0_1 (wrap64 (t581 + 1)))))))) else (none))) else (none)) else (none))) else (none)) = some r := by first | (rw [hy561]; with_reducible exact H) | (have H2_ := (Option.bind_some _ _).symm.trans H; rw [hy561]; with_reducible exact H2_) | (have H2_ := (Option.bind_some _ _).symm.trans H; with_reducible exact H2_) | with_reducible exact H | (rw [hy561]; exact H) | exact H
         have Ny561 := Aside0.mk hy561
         clear hy561
         by_cases c33 : y558.length + y561.length < 5864062014805
         ·rw [if_pos c33] at H
          have LMc33 := Aside0.mk c33
          clear c33
          obtain ⟨y566, hy566⟩ : ∃ y_ : List (S59), y_ = (y558 ++ y561) := ⟨_, rfl⟩
          replace H : (if 0 ≤ (wrap64 (t557 + 1)) then (if (wrap64 (t557 + 1)) ≤ (t550.length : Int) then ((some (t550.drop ((wrap64 (t557 + 1)) : Int).toNat : List (S59))).bind fun y569 => (if y566.length + y569.length < 5864062014805 then ((macadamlaw04_mended.f kj19 l0_0 l0_1 a0_2 (y566 ++ y569)).bind fun t577 => (if (t577.length : Int) = (l0_0.length : Int) then (some false) else ((macadamlaw04_last.f t550).bind fun t581 => ((gang_Plan.f l0_0 l0_1 (wrap64 (t581 + 1))).bind fun bt582 => (if bt582.2 = 0 then ((macadamlaw04_same.f kj19 t550 bt582.1).bind fun t586 => (macadamlaw04_GangNone.j2 kj19 (!t586) l0_0 l0_1 (wrap64 (t581 + 1)))) else (macadamlaw04_GangNone.j2 kj19 true l0_0 l0_1 (wrap64 (t581 + 1)))))))) else (none))) else (none)) else (none)) = some r := by first | (rw [hy566]; with_reducible exact H) | (have H2_ := (Option.bind_some _ _).symm.trans H; rw [hy566]; with_reducible exact H2_) | (have H2_ := (Option.bind_some _ _).symm.trans H; with_reducible exact H2_) | with_reducible exact H | (rw [hy566]; exact H) | exact H
          have Ny566 := Aside0.mk hy566
          clear hy566
          obtain ⟨ji34, hji34⟩ : ∃ j_ : Int, (wrap64 (t557 + 1)) = j_ := ⟨_, rfl⟩
          replace H : (if 0 ≤ (ji34) then (if (ji34) ≤ (t550.length : Int) then ((some (t550.drop ((ji34) : Int).toNat : List (S59))).bind fun y569 => (if y566.length + y569.length < 5864062014805 then ((macadamlaw04_mended.f kj19 l0_0 l0_1 a0_2 (y566 ++ y569)).bind fun t577 => (if (t577.length : Int) = (l0_0.length : Int) then (some false) else ((macadamlaw04_last.f t550).bind fun t581 => ((gang_Plan.f l0_0 l0_1 (wrap64 (t581 + 1))).bind fun bt582 => (if bt582.2 = 0 then ((macadamlaw04_same.f kj19 t550 bt582.1).bind fun t586 => (macadamlaw04_GangNone.j2 kj19 (!t586) l0_0 l0_1 (wrap64 (t581 + 1)))) else (macadamlaw04_GangNone.j2 kj19 true l0_0 l0_1 (wrap64 (t581 + 1)))))))) else (none))) else (none)) else (none)) = some r := by first | (rw [hji34] at H; exact H) | (simp only [hji34] at H ⊢; exact H)
          (try rw [hji34] at A30)
          have hji34w : (IntKind.i64.wrap (t557 + 1)) = ji34 := (i64_w _).trans hji34
          by_cases c35 : 0 ≤ (ji34)
          ·rw [if_pos c35] at H
           have c35b0 := eq_true c35
           have c35b1 : decide (0 ≤ (ji34)) = true := decide_eq_true c35
           clear c35
           by_cases c36 : (ji34) ≤ (t550.length : Int)
           ·rw [if_pos c36] at H
            have c36b0 := eq_true c36
            have c36b1 : decide ((ji34) ≤ (t550.length : Int)) = true := decide_eq_true c36
            clear c36
            obtain ⟨y569, hy569⟩ : ∃ y_ : List (S59), y_ = (t550.drop ((ji34) : Int).toNat) := ⟨_, rfl⟩
            replace H : (if y566.length + y569.length < 5864062014805 then ((macadamlaw04_mended.f kj19 l0_0 l0_1 a0_2 (y566 ++ y569)).bind fun t577 => (if (t577.length : Int) = (l0_0.length : Int) then (some false) else ((macadamlaw04_last.f t550).bind fun t581 => ((gang_Plan.f l0_0 l0_1 (wrap64 (t581 + 1))).bind fun bt582 => (if bt582.2 = 0 then ((macadamlaw04_same.f kj19 t550 bt582.1).bind fun t586 => (macadamlaw04_GangNone.j2 kj19 (!t586) l0_0 l0_1 (wrap64 (t581 + 1)))) else (macadamlaw04_GangNone.j2 kj19 true l0_0 l0_1 (wrap64 (t581 + 1)))))))) else (none)) = some r := by first | (rw [hy569]; with_reducible exact H) | (have H2_ := (Option.bind_some _ _).symm.trans H; rw [hy569]; with_reducible exact H2_) | (have H2_ := (Option.bind_some _ _).symm.trans H; with_reducible exact H2_) | with_reducible exact H | (rw [hy569]; exact H) | exact H
            have Ny569 := Aside0.mk hy569
            clear hy569
            by_cases c37 : y566.length + y569.length < 5864062014805
            ·rw [if_pos c37] at H
             have LMc37 := Aside0.mk c37
             clear c37
             obtain ⟨y574, hy574⟩ : ∃ y_ : List (S59), y_ = (y566 ++ y569) := ⟨_, rfl⟩
             replace H : ((macadamlaw04_mended.f kj19 l0_0 l0_1 a0_2 y574).bind fun t577 => (if (t577.length : Int) = (l0_0.length : Int) then (some false) else ((macadamlaw04_last.f t550).bind fun t581 => ((gang_Plan.f l0_0 l0_1 (wrap64 (t581 + 1))).bind fun bt582 => (if bt582.2 = 0 then ((macadamlaw04_same.f kj19 t550 bt582.1).bind fun t586 => (macadamlaw04_GangNone.j2 kj19 (!t586) l0_0 l0_1 (wrap64 (t581 + 1)))) else (macadamlaw04_GangNone.j2 kj19 true l0_0 l0_1 (wrap64 (t581 + 1)))))))) = some r := by first | (rw [hy574]; with_reducible exact H) | (have H2_ := (Option.bind_some _ _).symm.trans H; rw [hy574]; with_reducible exact H2_) | (have H2_ := (Option.bind_some _ _).symm.trans H; with_reducible exact H2_) | with_reducible exact H | (rw [hy574]; exact H) | exact H
             have Ny574 := Aside0.mk hy574
             clear hy574
             replace H := Option.bind_eq_some_iff.mp H
             obtain ⟨t577, A380, H⟩ := H
             replace H : (if (t577.length : Int) = (l0_0.length : Int) then (some false) else ((macadamlaw04_last.f t550).bind fun t581 => ((gang_Plan.f l0_0 l0_1 (wrap64 (t581 + 1))).bind fun bt582 => (if bt582.2 = 0 then ((macadamlaw04_same.f kj19 t550 bt582.1).bind fun t586 => (macadamlaw04_GangNone.j2 kj19 (!t586) l0_0 l0_1 (wrap64 (t581 + 1)))) else (macadamlaw04_GangNone.j2 kj19 true l0_0 l0_1 (wrap64 (t581 + 1))))))) = some r := H
             have A38 := Aside0.mk A380
             clear A380
             by_cases c39 : (t577.length : Int) = (l0_0.length : Int)
             ·rw [if_pos c39] at H
              have c39b0 : ((t577.length : Int) == (l0_0.length : Int)) = true := beq_iff_eq.mpr c39
              have c39b1 : ((t577.length : Int) != (l0_0.length : Int)) = false := bne_eq_false_iff_eq.mpr c39
              have c39b2 : (t577.length == l0_0.length) = true := by first | simpa using c39 | (simp at c39 ⊢; omega)
              clear c39
              obtain rfl := Option.some.inj H
              obtain ⟨Ao40, co40, eo40⟩ := Kd.V_slice HO_5.out
              subst eo40
              try go_wp2_with (first | ((with_reducible refine gate_callee (f := 39) rfl ?_); refine gL (some 47) Tryd.func39 #[.int .i64 a1, .int .i64 (t550.length : Int)] ?_; (with_reducible refine (macadamref00_Wrap.calls a1 (t550.length : Int) t557 _ A30.out).mono ?_); rintro e w' ⟨rfl, ⟨nd, rfl⟩⟩; refine ⟨_, rfl, ?_⟩))
              (try (rw [drewN_self wc]; generalize hq_ : World.drewN wc _ = wc; have n0_ : Aside0 (Kd.V k59 59 wc w.heap.size (fun k_ => k_ ≠ gb549) (.slice Ao40 t550.length co40) t550) := ⟨by rw [← hq_]; exact (by (with_reducible repeat (first | apply Kd.V_alloc | apply Kd.V_drewN | apply Kd.V_drew)); exact HO_5.out)⟩; have n1_ : Aside0 (wc.heap[gb549]? = some (.cells #[.slice A0_0 l0_0.length c0_0, .slice A0_1 l0_1.length c0_1, .int .i64 a0_2] 25 (0, 0))) := ⟨by rw [← hq_]; exact (bm BK549)⟩; have n2_ : Aside0 (Below w.heap.size w wc) := ⟨by rw [← hq_]; exact (bw1 HB GE549)⟩; clear HO_5 BK549 HB hq_; have HO_5 := n0_; have BK549 := n1_; have HB := n2_; clear n0_ n1_ n2_))
              have n0_ := Aside0.mk (Kd.V_drew HO_5.out)
              have n1_ := Aside0.mk (blk_drew BK549.out)
              have n2_ := Aside0.mk (below_drew1 HB.out)
              clear HO_5
              clear BK549
              clear HB
              have HO_5 := n0_
              have BK549 := n1_
              have HB := n2_
              clear n0_ n1_ n2_
              have q42 : (t557 : Int) ≤ ((t550.length : Int) : Int) := of_decide_eq_true (by first | (with_reducible assumption) | assumption)
              obtain ⟨i042, hi042, _, hsz42, _⟩ := info_parts info59
              have hroom42 : t550.length ≤ co40 := (Kd.V_reads' HO_5.out).2.1
              have hC42 : Kd.F k59 _ _ Ao40 t550.length t550 := (Kd.V_at (base := w.heap.size) HO_5.out).2.2
              have hcut42 := cut_to (P := Tryd.prog) 26 59 .i64 Tryd.underlying26 hi042 Ao40 t550.length co40 t557 (of_decide_eq_true (by first | (with_reducible assumption) | assumption)) q42 hroom42
              have hr42 := Kd.F_take (m := (t557 : Int).toNat) hC42 (by omega)
              have hy42 : y561.length = (t557 : Int).toNat := (by rw [Ny561.out, List.length_take]; omega)
              rw [← Ny561.out] at hr42
              rw [← hy42] at hcut42
              have HO565 := Aside0.mk (show Kd.V k59 59 _ w.heap.size _ (.slice Ao40 y561.length co40) y561 from Kd.V_mk (by omega) hr42)
              have HC565 := Aside0.mk (show y561.length ≤ co40 from by omega)
              clear hr42 hC42 hroom42 hi042 hsz42
              have KY42 := Aside0.mk hy42
              clear hy42
              replace q42 := eq_true q42
              have q43 : ((ji34) : Int) ≤ ((t550.length : Int) : Int) := of_decide_eq_true (by first | (with_reducible assumption) | assumption)
              obtain ⟨i043, hi043, _, hsz43, _⟩ := info_parts info59
              have hroom43 : t550.length ≤ co40 := (Kd.V_reads' HO_5.out).2.1
              have hC43 : Kd.F k59 _ _ Ao40 t550.length t550 := (Kd.V_at (base := w.heap.size) HO_5.out).2.2
              have q043 : (0 : Int) ≤ ((ji34) : Int) := of_decide_eq_true (by first | (with_reducible assumption) | assumption)
              have hcut43 := cut_from (P := Tryd.prog) 26 59 .i64 Tryd.underlying26 hi043 3 hsz43 Ao40 t550.length co40 (ji34) q043 q43
              have hr43 := Kd.F_cut (m := ((ji34) : Int).toNat) (c := co40) hC43 (by omega) hroom43
              obtain ⟨A43, hA43⟩ : ∃ A1, A1 = (if co40 = ((ji34) : Int).toNat then Ao40 else (Ao40 : Option Addr).map (·.add (((ji34) : Int).toNat * 3))) := ⟨_, rfl⟩
              obtain ⟨c43, hc43⟩ : ∃ c1, c1 = co40 - ((ji34) : Int).toNat := ⟨_, rfl⟩
              have hy43 : y569.length = t550.length - ((ji34) : Int).toNat := (by rw [Ny569.out, List.length_drop] <;> omega)
              rw [show (t550).drop ((ji34) : Int).toNat = y569 from Ny569.out.symm] at hr43
              replace hr43 : Kd.F k59 _ _ A43 y569.length y569 := (by rw [hA43]; exact hr43)
              rw [← hy43, ← hA43, ← hc43] at hcut43
              have HO573 := Aside0.mk (show Kd.V k59 59 _ w.heap.size _ (.slice A43 y569.length c43) y569 from Kd.V_mk (by rw [hy43, hc43]; exact Nat.sub_le_sub_right hroom43 _) hr43)
              have HC573 := Aside0.mk (show y569.length ≤ c43 from by rw [hy43, hc43]; exact Nat.sub_le_sub_right hroom43 _)
              clear hr43 hC43 hroom43 hi043 hsz43 hc43
              have KY43 := Aside0.mk hy43
              have KA43 := Aside0.mk hA43
              clear hy43 hA43
              replace q43 := eq_true q43
              refine start_ (n := 11) (S := fun w' => True) (ds := []) (bs 11 0) (by kernel_rfl) rfl rfl trivial (fun hHeld => ?_); refine with_tabW macadamlaw04_GangNone.tab7 macadamlaw04_GangNone.bits7 (fun HT_ HW_ => ?_)
              generalize wc.drew = w41 at HO_5 BK549 HB HO565 HO573 hHeld ⊢
              refine pu HT_ 1 (some 49) (bs 11 2) ?_
              refine pu HT_ 2 (some 50) (bs 11 6) ?_
              refine pu HT_ 3 (some 51) (bs 11 14) ?_
              refine pu HT_ 5 (some 53) (bs 11 46) ?_
              refine pu HT_ 6 (some 54) (bs 11 110) ?_
              refine pu HT_ 7 (some 55) (bs 11 238) ?_
              refine pu HT_ 8 (some 56) (bs 11 494) ?_
              refine on HT_ 0 (some 48) (bs 11 495) (fun K hK => ?_)
              refine Kd.R_lit_step k59 _ 59 ?hg (N := 48) ?hd (xs := ([] : List (S59))) (inner := []) (ok := fun _ => True) (okp := fun _ => True) ?hr ?hp (fun _ hk => hk) trivial (Below.refl _ _) (Nat.le_refl _) (by simp) ?_; (case hd => rfl); (case hg => rfl); (case hr => first | (go_simp; done) | (go_simp; rfl)); (case hp => exact (Reps.none _ _))
              intro v559 w44 ho45 hb hg_ hnew_
              clear hg_ hnew_
              (first | rw [← Ny558.out] at ho45 | (simp only [Int.reduceToNat] at ho45; rw [← Ny558.out] at ho45))
              have n0_ := Aside0.mk (Kd.V_elder' (by (with_reducible repeat (first | apply Kd.V_alloc | apply Kd.V_drewN | apply Kd.V_drew)); exact HO_5.out) (Kd.R_base ho45) hb)
              have n1_ := Aside0.mk (Kd.V_elder' (by (with_reducible repeat (first | apply Kd.V_alloc | apply Kd.V_drewN | apply Kd.V_drew)); exact HO565.out) (Kd.R_base ho45) hb)
              have n2_ := Aside0.mk (Kd.V_elder' (by (with_reducible repeat (first | apply Kd.V_alloc | apply Kd.V_drewN | apply Kd.V_drew)); exact HO573.out) (Kd.R_base ho45) hb)
              have n3_ := Aside0.mk (Kd.R_lower ho45 (below_size (bw1 HB GE549)))
              have n4_ := Aside0.mk (blk_below (bm BK549) hb)
              have n5_ := Aside0.mk (below_step (bw1 HB GE549) hb)
              clear HO_5
              clear HO565
              clear HO573
              clear BK549
              clear HB
              have HO_5 := n0_
              have HO565 := n1_
              have HO573 := n2_
              have HO560 := n3_
              have BK549 := n4_
              have HB := n5_
              clear n0_ n1_ n2_ n3_ n4_ n5_
              clear hb ho45
              refine hK.out _ _ trivial (fun hHeld => ?_)
              clear hK K
              refine nm 48 ?_
              refine on HT_ 4 (some 52) (bs 11 511) (fun K hK => ?_)
              refine Kd.R_append_rows_step k59 (w0 := w) w.heap.size (by rfl) (.tmp 48) (.tmp 51) 26 59 (.agg #[(.int .i64 0), (.int .i64 0), (.int .i64 0)]) 24 rfl Tryd.underlying26 info59 rfl (by decide) (by omega) v559 y558 y561 _ _ _ (fun _ => True) (fun _ => False) rfl rfl ?aO ?aR (fun _ _ h => h) (fun _ h => h.elim) ?aF ?aB ?aS ?aL ?_
              (case aR => repeat (first | exact (Kd.V_reads' HO565.out).2.2 | (with_reducible refine Kd.C_alloc ?_ _) | (with_reducible refine Kd.C_drewN ?_ _) | (with_reducible refine Kd.C_drew ?_)))
              (case aB => exact (bw1 HB GE549))
              (case aF => exact (fun _ _ => trivial))
              (case aO => exact (by (with_reducible repeat (first | apply Kd.R_alloc | apply Kd.R_drewN | apply Kd.R_drew)); exact HO560.out))
              (case aS => exact (below_size (bw1 HB GE549)))
              (case aL => have := LMc33.out; omega)
              intro v567 w46 ho hb hg hat
              rw [← Ny566.out] at ho
              have n0_ := Aside0.mk (Kd.V_afterv (ok := (fun k_ => k_ ≠ gb549)) (by (with_reducible repeat (first | apply Kd.V_alloc | apply Kd.V_drewN | apply Kd.V_drew)); exact HO_5.out) hg hat)
              have n1_ := Aside0.mk (blk_grown (g := gb549) (o := .cells #[.slice A0_0 l0_0.length c0_0, .slice A0_1 l0_1.length c0_1, .int .i64 a0_2] 25 (0, 0)) (bm BK549) hg (Kd.R_ne HO560.out BK549.out (by decide)))
              have n2_ := Aside0.mk (Kd.V_afterv (ok := (fun k_ => k_ ≠ gb549)) (by (with_reducible repeat (first | apply Kd.V_alloc | apply Kd.V_drewN | apply Kd.V_drew)); exact HO565.out) hg hat)
              have n3_ := Aside0.mk (Kd.V_afterv (ok := (fun k_ => k_ ≠ gb549)) (by (with_reducible repeat (first | apply Kd.V_alloc | apply Kd.V_drewN | apply Kd.V_drew)); exact HO573.out) hg hat)
              have n4_ := Aside0.mk (hb)
              have n5_ := Aside0.mk (ho)
              clear HO_5
              clear BK549
              clear HO565
              clear HO573
              clear HB
              clear HO560
              have HO_5 := n0_
              have BK549 := n1_
              have HO565 := n2_
              have HO573 := n3_
              have HB := n4_
              have HO568 := n5_
              clear n0_ n1_ n2_ n3_ n4_ n5_
              clear ho hb hg hat
              refine hK.out _ _ trivial (fun hHeld => ?_)
              clear hK K
              refine nm 52 ?_
              refine on HT_ 9 (some 57) (bs 11 1023) (fun K hK => ?_)
              refine Kd.R_append_rows_step k59 (w0 := w) w.heap.size (by rfl) (.tmp 52) (.tmp 56) 26 59 (.agg #[(.int .i64 0), (.int .i64 0), (.int .i64 0)]) 24 rfl Tryd.underlying26 info59 rfl (by decide) (by omega) v567 y566 y569 _ _ _ (fun _ => True) (fun _ => False) rfl rfl ?aO ?aR (fun _ _ h => h) (fun _ h => h.elim) ?aF ?aB ?aS ?aL ?_
              (case aR => repeat (first | exact (Kd.V_reads' HO573.out).2.2 | (with_reducible refine Kd.C_alloc ?_ _) | (with_reducible refine Kd.C_drewN ?_ _) | (with_reducible refine Kd.C_drew ?_)))
              (case aB => exact (bw1 HB GE549))
              (case aF => exact (fun _ _ => trivial))
              (case aO => exact (by (with_reducible repeat (first | apply Kd.R_alloc | apply Kd.R_drewN | apply Kd.R_drew)); exact HO568.out))
              (case aS => exact (below_size (bw1 HB GE549)))
              (case aL => have := LMc37.out; omega)
              intro v575 w47 ho hb hg hat
              rw [← Ny574.out] at ho
              have n0_ := Aside0.mk (Kd.V_afterv (ok := (fun k_ => k_ ≠ gb549)) (by (with_reducible repeat (first | apply Kd.V_alloc | apply Kd.V_drewN | apply Kd.V_drew)); exact HO_5.out) hg hat)
              have n1_ := Aside0.mk (blk_grown (g := gb549) (o := .cells #[.slice A0_0 l0_0.length c0_0, .slice A0_1 l0_1.length c0_1, .int .i64 a0_2] 25 (0, 0)) (bm BK549) hg (Kd.R_ne HO568.out BK549.out (by decide)))
              have n2_ := Aside0.mk (Kd.V_afterv (ok := (fun k_ => k_ ≠ gb549)) (by (with_reducible repeat (first | apply Kd.V_alloc | apply Kd.V_drewN | apply Kd.V_drew)); exact HO565.out) hg hat)
              have n3_ := Aside0.mk (Kd.V_afterv (ok := (fun k_ => k_ ≠ gb549)) (by (with_reducible repeat (first | apply Kd.V_alloc | apply Kd.V_drewN | apply Kd.V_drew)); exact HO573.out) hg hat)
              have n4_ := Aside0.mk (hb)
              have n5_ := Aside0.mk (ho)
              clear HO_5
              clear BK549
              clear HO565
              clear HO573
              clear HB
              clear HO568
              have HO_5 := n0_
              have BK549 := n1_
              have HO565 := n2_
              have HO573 := n3_
              have HB := n4_
              have HO576 := n5_
              clear n0_ n1_ n2_ n3_ n4_ n5_
              clear ho hb hg hat
              refine hK.out _ _ trivial (fun hHeld => ?_)
              clear hK K
              refine nm 57 ?_
              refine pu HT_ 10 (some 8) (bs 11 2047) ?_
              refine done_ (done_of HT_.out (by kernel_rfl)) ?_
              try go_wp2
              have n0_ := Aside0.mk (Kd.V_drew HO_5.out)
              have n1_ := Aside0.mk (Kd.V_drew HO565.out)
              have n2_ := Aside0.mk (Kd.V_drew HO573.out)
              have n3_ := Aside0.mk (Kd.R_drew HO576.out)
              have n4_ := Aside0.mk (blk_drew BK549.out)
              have n5_ := Aside0.mk (below_drew1 HB.out)
              clear HO_5
              clear HO565
              clear HO573
              clear HO576
              clear BK549
              clear HB
              have HO_5 := n0_
              have HO565 := n1_
              have HO573 := n2_
              have HO576 := n3_
              have BK549 := n4_
              have HB := n5_
              clear n0_ n1_ n2_ n3_ n4_ n5_
              obtain ⟨Ao49, co49, eo49⟩ := Kd.R_slice HO576.out
              (first | subst eo49 | (injection eo49 with f1_ f2_ f3_; have f4_ := f1_.symm; have f5_ := f3_.symm; clear f1_ f2_ f3_; subst f4_; subst f5_))
              refine start_ (n := 8) (S := fun w' => w'.cell? ⟨gb549, 0, none⟩ = some (.slice A0_0 l0_0.length c0_0) ∧ w'.cell? ⟨gb549, 1, none⟩ = some (.slice A0_1 l0_1.length c0_1) ∧ w'.cell? ⟨gb549, 2, none⟩ = some (.int .i64 a0_2)) (ds := []) (bs 8 0) (by kernel_rfl) rfl rfl ⟨(blk_cell BK549.out 0).trans rfl, (blk_cell BK549.out 1).trans rfl, (blk_cell BK549.out 2).trans rfl⟩ (fun hHeld => ?_); refine with_tabW macadamlaw04_GangNone.tab8 macadamlaw04_GangNone.bits8 (fun HT_ HW_ => ?_)
              generalize w47.drew = w48 at HO_5 HO565 HO573 HO576 BK549 HB hHeld ⊢
              refine pu HT_ 1 (some 59) (bs 8 2) ?_
              refine pu HT_ 4 (some 62) (bs 8 18) ?_
              refine tk3 HT_ HW_ hHeld 0 (some 58) (bs 8 19) ?_
              refine tk3 HT_ HW_ hHeld 5 (some 63) (bs 8 51) ?_
              refine pu HT_ 6 (some 64) (bs 8 115) ?_
              refine on HT_ 2 (some 60) (bs 8 119) (fun K hK => ?_)
              refine goes_ Tryd.func48 (by kernel_rfl) rfl #[.agg #[.slice A0_0 l0_0.length c0_0, .slice A0_1 l0_1.length c0_1, .int .i64 a0_2], .slice Ao49 y574.length co49] (by rfl) rfl rfl (by (try simp only [List.map_toArray, List.map_cons, List.map_nil]); first | done | rfl | (simp only [List.length_drop, List.length_take]; rfl)) ?_
              with_reducible refine (macadamlaw04_mended.calls kj19 _ _ l0_0 _ _ l0_1 a0_2 _ _ y574 t577 _ ?side1 ?side2 ?side3 ?side4 ?side5 ?side6 A38.out).mono ?_
              (case side1 => repeat (first | exact (Kd.C_below HR0_0.out HB.out) | (with_reducible refine Kd.C_alloc ?_ _) | (with_reducible refine Kd.C_drewN ?_ _) | (with_reducible refine Kd.C_drew ?_)))
              (case side2 => exact HC0_0.out)
              (case side3 => repeat (first | exact (Kd.C_below HR0_1.out HB.out) | (with_reducible refine Kd.C_alloc ?_ _) | (with_reducible refine Kd.C_drewN ?_ _) | (with_reducible refine Kd.C_drew ?_)))
              (case side4 => exact HC0_1.out)
              (case side5 => repeat (first | exact (Kd.R_reads' HO576.out).2.2 | (with_reducible refine Kd.C_alloc ?_ _) | (with_reducible refine Kd.C_drewN ?_ _) | (with_reducible refine Kd.C_drew ?_)))
              (case side6 => exact (Kd.R_reads' HO576.out).2.1)
              rintro e w50 ⟨v578, rfl, ho0, hb⟩
              refine ⟨_, rfl, ?_⟩
              have n0_ := Aside0.mk (Kd.V_elder' (by (with_reducible repeat (first | apply Kd.V_alloc | apply Kd.V_drewN | apply Kd.V_drew)); exact HO_5.out) (Kd.R_base ho0) hb)
              have n1_ := Aside0.mk (Kd.V_elder' (by (with_reducible repeat (first | apply Kd.V_alloc | apply Kd.V_drewN | apply Kd.V_drew)); exact HO565.out) (Kd.R_base ho0) hb)
              have n2_ := Aside0.mk (Kd.V_elder' (by (with_reducible repeat (first | apply Kd.V_alloc | apply Kd.V_drewN | apply Kd.V_drew)); exact HO573.out) (Kd.R_base ho0) hb)
              have n3_ := Aside0.mk (Kd.R_below (by (with_reducible repeat (first | apply Kd.R_alloc | apply Kd.R_drewN | apply Kd.R_drew)); exact HO576.out) hb)
              have n4_ := Aside0.mk (Kd.R_lower ho0 (below_size (bw1 HB GE549)))
              have n5_ := Aside0.mk (blk_below (bm BK549) hb)
              have n6_ := Aside0.mk (below_step (bw1 HB GE549) hb)
              clear HO_5
              clear HO565
              clear HO573
              clear HO576
              clear BK549
              clear HB
              have HO_5 := n0_
              have HO565 := n1_
              have HO573 := n2_
              have HO576 := n3_
              have HO579 := n4_
              have BK549 := n5_
              have HB := n6_
              clear n0_ n1_ n2_ n3_ n4_ n5_ n6_
              (try clear hb)
              (try clear hb2)
              (try clear hk)
              (try clear hi)
              (try clear ho0)
              obtain ⟨Ao51, co51, eo51⟩ := Kd.R_slice HO579.out
              (first | subst eo51 | (injection eo51 with f1_ f2_ f3_; have f4_ := f1_.symm; have f5_ := f3_.symm; clear f1_ f2_ f3_; subst f4_; subst f5_))
              refine hK.out _ _ ⟨(blk_cell BK549.out 0).trans rfl, (blk_cell BK549.out 1).trans rfl, (blk_cell BK549.out 2).trans rfl⟩ (fun hHeld => ?_)
              clear hK K
              refine nm 60 ?_
              refine pu HT_ 3 (some 61) (bs 8 127) ?_
              refine pu HT_ 7 (some 65) (bs 8 255) ?_
              refine done_ (done_of HT_.out (by kernel_rfl)) ?_
              try go_wp2
              go_ret
              exact ⟨by first | rfl | (simp [errW_none, errW_some] <;> rfl) | (simp only [← hji34]; first | rfl | (simp [errW_none, errW_some] <;> rfl)) | (simp [*, errW_none, errW_some] <;> rfl), bw1 HB GE549⟩
             ·rw [if_neg c39] at H
              have c39b0 : ((t577.length : Int) == (l0_0.length : Int)) = false := beq_eq_false_iff_ne.mpr c39
              have c39b1 : ((t577.length : Int) != (l0_0.length : Int)) = true := bne_iff_ne.mpr c39
              have c39b2 : (t577.length == l0_0.length) = false := by first | simpa using c39 | (simp at c39 ⊢; omega)
              replace H := Option.bind_eq_some_iff.mp H
              obtain ⟨t581, A520, H⟩ := H
              replace H : ((gang_Plan.f l0_0 l0_1 (wrap64 (t581 + 1))).bind fun bt582 => (if bt582.2 = 0 then ((macadamlaw04_same.f kj19 t550 bt582.1).bind fun t586 => (macadamlaw04_GangNone.j2 kj19 (!t586) l0_0 l0_1 (wrap64 (t581 + 1)))) else (macadamlaw04_GangNone.j2 kj19 true l0_0 l0_1 (wrap64 (t581 + 1))))) = some r := H
              have A52 := Aside0.mk A520
              clear A520
              replace H := Option.bind_eq_some_iff.mp H
              obtain ⟨⟨t582, t585⟩, A530, H⟩ := H
              replace H : (if t585 = 0 then ((macadamlaw04_same.f kj19 t550 t582).bind fun t586 => (macadamlaw04_GangNone.j2 kj19 (!t586) l0_0 l0_1 (wrap64 (t581 + 1)))) else (macadamlaw04_GangNone.j2 kj19 true l0_0 l0_1 (wrap64 (t581 + 1)))) = some r := H
              have A53 := Aside0.mk A530
              clear A530
              have HC54 := Aside0.mk H
              clear H
              obtain ⟨Ao55, co55, eo55⟩ := Kd.V_slice HO_5.out
              subst eo55
              try go_wp2_with (first | ((with_reducible refine gate_callee (f := 39) rfl ?_); refine gL (some 47) Tryd.func39 #[.int .i64 a1, .int .i64 (t550.length : Int)] ?_; (with_reducible refine (macadamref00_Wrap.calls a1 (t550.length : Int) t557 _ A30.out).mono ?_); rintro e w' ⟨rfl, ⟨nd, rfl⟩⟩; refine ⟨_, rfl, ?_⟩; (try (rw [drewN_self wc]; generalize hq_ : World.drewN wc _ = wc; have n0_ : Aside0 (Kd.V k59 59 wc w.heap.size (fun k_ => k_ ≠ gb549) (.slice Ao55 t550.length co55) t550) := ⟨by rw [← hq_]; exact (by (with_reducible repeat (first | apply Kd.V_alloc | apply Kd.V_drewN | apply Kd.V_drew)); exact HO_5.out)⟩; have n1_ : Aside0 (wc.heap[gb549]? = some (.cells #[.slice A0_0 l0_0.length c0_0, .slice A0_1 l0_1.length c0_1, .int .i64 a0_2] 25 (0, 0))) := ⟨by rw [← hq_]; exact (bm BK549)⟩; have n2_ : Aside0 (Below w.heap.size w wc) := ⟨by rw [← hq_]; exact (bw1 HB GE549)⟩; clear HO_5 BK549 HB hq_; have HO_5 := n0_; have BK549 := n1_; have HB := n2_; clear n0_ n1_ n2_))))
              have n0_ := Aside0.mk (Kd.V_drew HO_5.out)
              have n1_ := Aside0.mk (blk_drew BK549.out)
              have n2_ := Aside0.mk (below_drew1 HB.out)
              clear HO_5
              clear BK549
              clear HB
              have HO_5 := n0_
              have BK549 := n1_
              have HB := n2_
              clear n0_ n1_ n2_
              have q57 : (t557 : Int) ≤ ((t550.length : Int) : Int) := of_decide_eq_true (by first | (with_reducible assumption) | assumption)
              obtain ⟨i057, hi057, _, hsz57, _⟩ := info_parts info59
              have hroom57 : t550.length ≤ co55 := (Kd.V_reads' HO_5.out).2.1
              have hC57 : Kd.F k59 _ _ Ao55 t550.length t550 := (Kd.V_at (base := w.heap.size) HO_5.out).2.2
              have hcut57 := cut_to (P := Tryd.prog) 26 59 .i64 Tryd.underlying26 hi057 Ao55 t550.length co55 t557 (of_decide_eq_true (by first | (with_reducible assumption) | assumption)) q57 hroom57
              have hr57 := Kd.F_take (m := (t557 : Int).toNat) hC57 (by omega)
              have hy57 : y561.length = (t557 : Int).toNat := (by rw [Ny561.out, List.length_take]; omega)
              rw [← Ny561.out] at hr57
              rw [← hy57] at hcut57
              have HO565 := Aside0.mk (show Kd.V k59 59 _ w.heap.size _ (.slice Ao55 y561.length co55) y561 from Kd.V_mk (by omega) hr57)
              have HC565 := Aside0.mk (show y561.length ≤ co55 from by omega)
              clear hr57 hC57 hroom57 hi057 hsz57
              have KY57 := Aside0.mk hy57
              clear hy57
              replace q57 := eq_true q57
              have q58 : ((ji34) : Int) ≤ ((t550.length : Int) : Int) := of_decide_eq_true (by first | (with_reducible assumption) | assumption)
              obtain ⟨i058, hi058, _, hsz58, _⟩ := info_parts info59
              have hroom58 : t550.length ≤ co55 := (Kd.V_reads' HO_5.out).2.1
              have hC58 : Kd.F k59 _ _ Ao55 t550.length t550 := (Kd.V_at (base := w.heap.size) HO_5.out).2.2
              have q058 : (0 : Int) ≤ ((ji34) : Int) := of_decide_eq_true (by first | (with_reducible assumption) | assumption)
              have hcut58 := cut_from (P := Tryd.prog) 26 59 .i64 Tryd.underlying26 hi058 3 hsz58 Ao55 t550.length co55 (ji34) q058 q58
              have hr58 := Kd.F_cut (m := ((ji34) : Int).toNat) (c := co55) hC58 (by omega) hroom58
              obtain ⟨A58, hA58⟩ : ∃ A1, A1 = (if co55 = ((ji34) : Int).toNat then Ao55 else (Ao55 : Option Addr).map (·.add (((ji34) : Int).toNat * 3))) := ⟨_, rfl⟩
              obtain ⟨c58, hc58⟩ : ∃ c1, c1 = co55 - ((ji34) : Int).toNat := ⟨_, rfl⟩
              have hy58 : y569.length = t550.length - ((ji34) : Int).toNat := (by rw [Ny569.out, List.length_drop] <;> omega)
              rw [show (t550).drop ((ji34) : Int).toNat = y569 from Ny569.out.symm] at hr58
              replace hr58 : Kd.F k59 _ _ A58 y569.length y569 := (by rw [hA58]; exact hr58)
              rw [← hy58, ← hA58, ← hc58] at hcut58
              have HO573 := Aside0.mk (show Kd.V k59 59 _ w.heap.size _ (.slice A58 y569.length c58) y569 from Kd.V_mk (by rw [hy58, hc58]; exact Nat.sub_le_sub_right hroom58 _) hr58)
              have HC573 := Aside0.mk (show y569.length ≤ c58 from by rw [hy58, hc58]; exact Nat.sub_le_sub_right hroom58 _)
              clear hr58 hC58 hroom58 hi058 hsz58 hc58
              have KY58 := Aside0.mk hy58
              have KA58 := Aside0.mk hA58
              clear hy58 hA58
              replace q58 := eq_true q58
              refine start_ (n := 11) (S := fun w' => True) (ds := []) (bs 11 0) (by kernel_rfl) rfl rfl trivial (fun hHeld => ?_); refine with_tabW macadamlaw04_GangNone.tab7 macadamlaw04_GangNone.bits7 (fun HT_ HW_ => ?_)
              generalize wc.drew = w56 at HO_5 BK549 HB HO565 HO573 hHeld ⊢
              refine pu HT_ 1 (some 49) (bs 11 2) ?_
              refine pu HT_ 2 (some 50) (bs 11 6) ?_
              refine pu HT_ 3 (some 51) (bs 11 14) ?_
              refine pu HT_ 5 (some 53) (bs 11 46) ?_
              refine pu HT_ 6 (some 54) (bs 11 110) ?_
              refine pu HT_ 7 (some 55) (bs 11 238) ?_
              refine pu HT_ 8 (some 56) (bs 11 494) ?_
              refine on HT_ 0 (some 48) (bs 11 495) (fun K hK => ?_)
              refine Kd.R_lit_step k59 _ 59 ?hg (N := 48) ?hd (xs := ([] : List (S59))) (inner := []) (ok := fun _ => True) (okp := fun _ => True) ?hr ?hp (fun _ hk => hk) trivial (Below.refl _ _) (Nat.le_refl _) (by simp) ?_; (case hd => rfl); (case hg => rfl); (case hr => first | (go_simp; done) | (go_simp; rfl)); (case hp => exact (Reps.none _ _))
              intro v559 w59 ho60 hb hg_ hnew_
              clear hg_ hnew_
              (first | rw [← Ny558.out] at ho60 | (simp only [Int.reduceToNat] at ho60; rw [← Ny558.out] at ho60))
              have n0_ := Aside0.mk (Kd.V_elder' (by (with_reducible repeat (first | apply Kd.V_alloc | apply Kd.V_drewN | apply Kd.V_drew)); exact HO_5.out) (Kd.R_base ho60) hb)
              have n1_ := Aside0.mk (Kd.V_elder' (by (with_reducible repeat (first | apply Kd.V_alloc | apply Kd.V_drewN | apply Kd.V_drew)); exact HO565.out) (Kd.R_base ho60) hb)
              have n2_ := Aside0.mk (Kd.V_elder' (by (with_reducible repeat (first | apply Kd.V_alloc | apply Kd.V_drewN | apply Kd.V_drew)); exact HO573.out) (Kd.R_base ho60) hb)
              have n3_ := Aside0.mk (Kd.R_lower ho60 (below_size (bw1 HB GE549)))
              have n4_ := Aside0.mk (blk_below (bm BK549) hb)
              have n5_ := Aside0.mk (below_step (bw1 HB GE549) hb)
              clear HO_5
              clear HO565
              clear HO573
              clear BK549
              clear HB
              have HO_5 := n0_
              have HO565 := n1_
              have HO573 := n2_
              have HO560 := n3_
              have BK549 := n4_
              have HB := n5_
              clear n0_ n1_ n2_ n3_ n4_ n5_
              clear hb ho60
              refine hK.out _ _ trivial (fun hHeld => ?_)
              clear hK K
              refine nm 48 ?_
              refine on HT_ 4 (some 52) (bs 11 511) (fun K hK => ?_)
              refine Kd.R_append_rows_step k59 (w0 := w) w.heap.size (by rfl) (.tmp 48) (.tmp 51) 26 59 (.agg #[(.int .i64 0), (.int .i64 0), (.int .i64 0)]) 24 rfl Tryd.underlying26 info59 rfl (by decide) (by omega) v559 y558 y561 _ _ _ (fun _ => True) (fun _ => False) rfl rfl ?aO ?aR (fun _ _ h => h) (fun _ h => h.elim) ?aF ?aB ?aS ?aL ?_
              (case aR => repeat (first | exact (Kd.V_reads' HO565.out).2.2 | (with_reducible refine Kd.C_alloc ?_ _) | (with_reducible refine Kd.C_drewN ?_ _) | (with_reducible refine Kd.C_drew ?_)))
              (case aB => exact (bw1 HB GE549))
              (case aF => exact (fun _ _ => trivial))
              (case aO => exact (by (with_reducible repeat (first | apply Kd.R_alloc | apply Kd.R_drewN | apply Kd.R_drew)); exact HO560.out))
              (case aS => exact (below_size (bw1 HB GE549)))
              (case aL => have := LMc33.out; omega)
              intro v567 w61 ho hb hg hat
              rw [← Ny566.out] at ho
              have n0_ := Aside0.mk (Kd.V_afterv (ok := (fun k_ => k_ ≠ gb549)) (by (with_reducible repeat (first | apply Kd.V_alloc | apply Kd.V_drewN | apply Kd.V_drew)); exact HO_5.out) hg hat)
              have n1_ := Aside0.mk (blk_grown (g := gb549) (o := .cells #[.slice A0_0 l0_0.length c0_0, .slice A0_1 l0_1.length c0_1, .int .i64 a0_2] 25 (0, 0)) (bm BK549) hg (Kd.R_ne HO560.out BK549.out (by decide)))
              have n2_ := Aside0.mk (Kd.V_afterv (ok := (fun k_ => k_ ≠ gb549)) (by (with_reducible repeat (first | apply Kd.V_alloc | apply Kd.V_drewN | apply Kd.V_drew)); exact HO565.out) hg hat)
              have n3_ := Aside0.mk (Kd.V_afterv (ok := (fun k_ => k_ ≠ gb549)) (by (with_reducible repeat (first | apply Kd.V_alloc | apply Kd.V_drewN | apply Kd.V_drew)); exact HO573.out) hg hat)
              have n4_ := Aside0.mk (hb)
              have n5_ := Aside0.mk (ho)
              clear HO_5
              clear BK549
              clear HO565
              clear HO573
              clear HB
              clear HO560
              have HO_5 := n0_
              have BK549 := n1_
              have HO565 := n2_
              have HO573 := n3_
              have HB := n4_
              have HO568 := n5_
              clear n0_ n1_ n2_ n3_ n4_ n5_
              clear ho hb hg hat
              refine hK.out _ _ trivial (fun hHeld => ?_)
              clear hK K
              refine nm 52 ?_
              refine on HT_ 9 (some 57) (bs 11 1023) (fun K hK => ?_)
              refine Kd.R_append_rows_step k59 (w0 := w) w.heap.size (by rfl) (.tmp 52) (.tmp 56) 26 59 (.agg #[(.int .i64 0), (.int .i64 0), (.int .i64 0)]) 24 rfl Tryd.underlying26 info59 rfl (by decide) (by omega) v567 y566 y569 _ _ _ (fun _ => True) (fun _ => False) rfl rfl ?aO ?aR (fun _ _ h => h) (fun _ h => h.elim) ?aF ?aB ?aS ?aL ?_
              (case aR => repeat (first | exact (Kd.V_reads' HO573.out).2.2 | (with_reducible refine Kd.C_alloc ?_ _) | (with_reducible refine Kd.C_drewN ?_ _) | (with_reducible refine Kd.C_drew ?_)))
              (case aB => exact (bw1 HB GE549))
              (case aF => exact (fun _ _ => trivial))
              (case aO => exact (by (with_reducible repeat (first | apply Kd.R_alloc | apply Kd.R_drewN | apply Kd.R_drew)); exact HO568.out))
              (case aS => exact (below_size (bw1 HB GE549)))
              (case aL => have := LMc37.out; omega)
              intro v575 w62 ho hb hg hat
              rw [← Ny574.out] at ho
              have n0_ := Aside0.mk (Kd.V_afterv (ok := (fun k_ => k_ ≠ gb549)) (by (with_reducible repeat (first | apply Kd.V_alloc | apply Kd.V_drewN | apply Kd.V_drew)); exact HO_5.out) hg hat)
              have n1_ := Aside0.mk (blk_grown (g := gb549) (o := .cells #[.slice A0_0 l0_0.length c0_0, .slice A0_1 l0_1.length c0_1, .int .i64 a0_2] 25 (0, 0)) (bm BK549) hg (Kd.R_ne HO568.out BK549.out (by decide)))
              have n2_ := Aside0.mk (Kd.V_afterv (ok := (fun k_ => k_ ≠ gb549)) (by (with_reducible repeat (first | apply Kd.V_alloc | apply Kd.V_drewN | apply Kd.V_drew)); exact HO565.out) hg hat)
              have n3_ := Aside0.mk (Kd.V_afterv (ok := (fun k_ => k_ ≠ gb549)) (by (with_reducible repeat (first | apply Kd.V_alloc | apply Kd.V_drewN | apply Kd.V_drew)); exact HO573.out) hg hat)
              have n4_ := Aside0.mk (hb)
              have n5_ := Aside0.mk (ho)
              clear HO_5
              clear BK549
              clear HO565
              clear HO573
              clear HB
              clear HO568
              have HO_5 := n0_
              have BK549 := n1_
              have HO565 := n2_
              have HO573 := n3_
              have HB := n4_
              have HO576 := n5_
              clear n0_ n1_ n2_ n3_ n4_ n5_
              clear ho hb hg hat
              refine hK.out _ _ trivial (fun hHeld => ?_)
              clear hK K
              refine nm 57 ?_
              refine pu HT_ 10 (some 8) (bs 11 2047) ?_
              refine done_ (done_of HT_.out (by kernel_rfl)) ?_
              try go_wp2
              have n0_ := Aside0.mk (Kd.V_drew HO_5.out)
              have n1_ := Aside0.mk (Kd.V_drew HO565.out)
              have n2_ := Aside0.mk (Kd.V_drew HO573.out)
              have n3_ := Aside0.mk (Kd.R_drew HO576.out)
              have n4_ := Aside0.mk (blk_drew BK549.out)
              have n5_ := Aside0.mk (below_drew1 HB.out)
              clear HO_5
              clear HO565
              clear HO573
              clear HO576
              clear BK549
              clear HB
              have HO_5 := n0_
              have HO565 := n1_
              have HO573 := n2_
              have HO576 := n3_
              have BK549 := n4_
              have HB := n5_
              clear n0_ n1_ n2_ n3_ n4_ n5_
              obtain ⟨Ao64, co64, eo64⟩ := Kd.R_slice HO576.out
              (first | subst eo64 | (injection eo64 with f1_ f2_ f3_; have f4_ := f1_.symm; have f5_ := f3_.symm; clear f1_ f2_ f3_; subst f4_; subst f5_))
              refine start_ (n := 8) (S := fun w' => w'.cell? ⟨gb549, 0, none⟩ = some (.slice A0_0 l0_0.length c0_0) ∧ w'.cell? ⟨gb549, 1, none⟩ = some (.slice A0_1 l0_1.length c0_1) ∧ w'.cell? ⟨gb549, 2, none⟩ = some (.int .i64 a0_2)) (ds := []) (bs 8 0) (by kernel_rfl) rfl rfl ⟨(blk_cell BK549.out 0).trans rfl, (blk_cell BK549.out 1).trans rfl, (blk_cell BK549.out 2).trans rfl⟩ (fun hHeld => ?_); refine with_tabW macadamlaw04_GangNone.tab8 macadamlaw04_GangNone.bits8 (fun HT_ HW_ => ?_)
              generalize w62.drew = w63 at HO_5 HO565 HO573 HO576 BK549 HB hHeld ⊢
              refine pu HT_ 1 (some 59) (bs 8 2) ?_
              refine pu HT_ 4 (some 62) (bs 8 18) ?_
              refine tk3 HT_ HW_ hHeld 0 (some 58) (bs 8 19) ?_
              refine tk3 HT_ HW_ hHeld 5 (some 63) (bs 8 51) ?_
              refine pu HT_ 6 (some 64) (bs 8 115) ?_
              refine on HT_ 2 (some 60) (bs 8 119) (fun K hK => ?_)
              refine goes_ Tryd.func48 (by kernel_rfl) rfl #[.agg #[.slice A0_0 l0_0.length c0_0, .slice A0_1 l0_1.length c0_1, .int .i64 a0_2], .slice Ao64 y574.length co64] (by rfl) rfl rfl (by (try simp only [List.map_toArray, List.map_cons, List.map_nil]); first | done | rfl | (simp only [List.length_drop, List.length_take]; rfl)) ?_
              with_reducible refine (macadamlaw04_mended.calls kj19 _ _ l0_0 _ _ l0_1 a0_2 _ _ y574 t577 _ ?side1 ?side2 ?side3 ?side4 ?side5 ?side6 A38.out).mono ?_
              (case side1 => repeat (first | exact (Kd.C_below HR0_0.out HB.out) | (with_reducible refine Kd.C_alloc ?_ _) | (with_reducible refine Kd.C_drewN ?_ _) | (with_reducible refine Kd.C_drew ?_)))
              (case side2 => exact HC0_0.out)
              (case side3 => repeat (first | exact (Kd.C_below HR0_1.out HB.out) | (with_reducible refine Kd.C_alloc ?_ _) | (with_reducible refine Kd.C_drewN ?_ _) | (with_reducible refine Kd.C_drew ?_)))
              (case side4 => exact HC0_1.out)
              (case side5 => repeat (first | exact (Kd.R_reads' HO576.out).2.2 | (with_reducible refine Kd.C_alloc ?_ _) | (with_reducible refine Kd.C_drewN ?_ _) | (with_reducible refine Kd.C_drew ?_)))
              (case side6 => exact (Kd.R_reads' HO576.out).2.1)
              rintro e w65 ⟨v578, rfl, ho0, hb⟩
              refine ⟨_, rfl, ?_⟩
              have n0_ := Aside0.mk (Kd.V_elder' (by (with_reducible repeat (first | apply Kd.V_alloc | apply Kd.V_drewN | apply Kd.V_drew)); exact HO_5.out) (Kd.R_base ho0) hb)
              have n1_ := Aside0.mk (Kd.V_elder' (by (with_reducible repeat (first | apply Kd.V_alloc | apply Kd.V_drewN | apply Kd.V_drew)); exact HO565.out) (Kd.R_base ho0) hb)
              have n2_ := Aside0.mk (Kd.V_elder' (by (with_reducible repeat (first | apply Kd.V_alloc | apply Kd.V_drewN | apply Kd.V_drew)); exact HO573.out) (Kd.R_base ho0) hb)
              have n3_ := Aside0.mk (Kd.R_below (by (with_reducible repeat (first | apply Kd.R_alloc | apply Kd.R_drewN | apply Kd.R_drew)); exact HO576.out) hb)
              have n4_ := Aside0.mk (Kd.R_lower ho0 (below_size (bw1 HB GE549)))
              have n5_ := Aside0.mk (blk_below (bm BK549) hb)
              have n6_ := Aside0.mk (below_step (bw1 HB GE549) hb)
              clear HO_5
              clear HO565
              clear HO573
              clear HO576
              clear BK549
              clear HB
              have HO_5 := n0_
              have HO565 := n1_
              have HO573 := n2_
              have HO576 := n3_
              have HO579 := n4_
              have BK549 := n5_
              have HB := n6_
              clear n0_ n1_ n2_ n3_ n4_ n5_ n6_
              (try clear hb)
              (try clear hb2)
              (try clear hk)
              (try clear hi)
              (try clear ho0)
              obtain ⟨Ao66, co66, eo66⟩ := Kd.R_slice HO579.out
              (first | subst eo66 | (injection eo66 with f1_ f2_ f3_; have f4_ := f1_.symm; have f5_ := f3_.symm; clear f1_ f2_ f3_; subst f4_; subst f5_))
              refine hK.out _ _ ⟨(blk_cell BK549.out 0).trans rfl, (blk_cell BK549.out 1).trans rfl, (blk_cell BK549.out 2).trans rfl⟩ (fun hHeld => ?_)
              clear hK K
              refine nm 60 ?_
              refine pu HT_ 3 (some 61) (bs 8 127) ?_
              refine pu HT_ 7 (some 65) (bs 8 255) ?_
              refine done_ (done_of HT_.out (by kernel_rfl)) ?_
              obtain ⟨hcz67_0, hcz67_1, hcz67_2, hfz67_0, hfz67_1, hfz67_2⟩ := b3 BK549
              go_upto_region 12 with (first | ((with_reducible refine gate_dst (N := 9) rfl ?_); (try (refine gate_guard (by rfl) ?_; dsimp only)); refine bx 9 #[.slice none 0 0, .slice none 0 0, .int .i64 0] 25 ?_; intro gb580 hg w68 hbox hb; have n0_ := Aside0.mk (Kd.V_below (Kd.V_elderB (by (with_reducible repeat (first | apply Kd.V_alloc | apply Kd.V_drewN | apply Kd.V_drew)); exact HO_5.out) gb580 (Nat.le_of_eq hg.symm)) hb); have n1_ := Aside0.mk (Kd.V_below (Kd.V_elderB (by (with_reducible repeat (first | apply Kd.V_alloc | apply Kd.V_drewN | apply Kd.V_drew)); exact HO565.out) gb580 (Nat.le_of_eq hg.symm)) hb); have n2_ := Aside0.mk (Kd.V_below (Kd.V_elderB (by (with_reducible repeat (first | apply Kd.V_alloc | apply Kd.V_drewN | apply Kd.V_drew)); exact HO573.out) gb580 (Nat.le_of_eq hg.symm)) hb); have n3_ := Aside0.mk (Kd.R_below (by (with_reducible repeat (first | apply Kd.R_alloc | apply Kd.R_drewN | apply Kd.R_drew)); exact HO576.out) hb); have n4_ := Aside0.mk (Kd.R_below (by (with_reducible repeat (first | apply Kd.R_alloc | apply Kd.R_drewN | apply Kd.R_drew)); exact HO579.out) hb); have n5_ := Aside0.mk (blk_below (bm BK549) hb); have n6_ := Aside0.mk (below_step (bw1 HB GE549) hb); have n7_ := Aside0.mk (hbox); have n8_ := Aside0.mk (bz (bw1 HB GE549) hg); have n9_ := Aside0.mk (bz (bw1 HB GE549) hg); have n10_ := Aside0.mk (bl (bm BK549) hg); have n11_ := Aside0.mk (bg (bm BK549) hg); clear HO_5; clear HO565; clear HO573; clear HO576; clear HO579; clear BK549; clear HB; have HO_5 := n0_; have HO565 := n1_; have HO573 := n2_; have HO576 := n3_; have HO579 := n4_; have BK549 := n5_; have HB := n6_; have BK580 := n7_; have GW580 := n8_; have GE580 := n9_; have NB549_580 := n10_; have NB580_549 := n11_; clear n0_ n1_ n2_ n3_ n4_ n5_ n6_ n7_ n8_ n9_ n10_ n11_; clear hb hbox hg; have hnb69 := NB580_549.out; have hnc69 := NB549_580.out; obtain ⟨hcz70_0, hcz70_1, hcz70_2, hfz70_0, hfz70_1, hfz70_2⟩ := b3 BK580) | ((with_reducible refine gate_callee (f := 52) rfl ?_); refine gL (some 68) Tryd.func52 #[.slice Ao55 t550.length co55] ?_; (with_reducible refine (macadamlaw04_last.calls _ _ t550 t581 _ ?side1 ?side2 A52.out).mono ?_); (case side1 => refine (Kd.V_reads' (e := 59) (base := w.heap.size) (ok := fun k_ => (((k_ ≠ gb549 ∧ some k_ ≠ (.slice Ao64 y574.length co64 : Value).ownBlock) ∧ some k_ ≠ (.slice Ao66 t577.length co66 : Value).ownBlock) ∧ k_ ≠ gb580)) (n := t550.length) (c := co55) ?_).2.2; exact (by (with_reducible repeat (first | apply Kd.V_alloc | apply Kd.V_drewN | apply Kd.V_drew)); exact (Kd.V_mono (Kd.V_far (p := ⟨gb580, 2, none⟩) (Kd.V_far (p := ⟨gb580, 1, none⟩) (Kd.V_far (p := ⟨gb580, 0, none⟩) (Kd.V_mono HO_5.out (fun k_ hk => (⟨hk, hk.2⟩ : _ ∧ k_ ≠ gb580))) (fun _ hk => hk.2) (.slice A0_0 l0_0.length c0_0)) (fun _ hk => hk.2) (.slice A0_1 l0_1.length c0_1)) (fun _ hk => hk.2) (.int .i64 a0_2)) (fun _ h_ => h_.1)))); (case side2 => exact (Kd.V_reads' HO_5.out).2.1); rintro e w' ⟨rfl, ⟨nd, rfl⟩⟩; refine ⟨_, rfl, ?_⟩; have hq9 : (World.drewN (((World.setCell w68 ⟨gb580, 0, none⟩ (.slice A0_0 l0_0.length c0_0)).setCell ⟨gb580, 1, none⟩ (.slice A0_1 l0_1.length c0_1)).setCell ⟨gb580, 2, none⟩ (.int .i64 a0_2)) nd).cell? ⟨gb580, 2, none⟩ = some (.int .i64 a0_2) := (blk_cell (blk_set (blk_set (blk_set BK580.out 0 _) 1 _) 2 _) 2).trans (by rfl)))
              have hz := below_size HB.out
              have hXb : Below w.heap.size w (((((w68.setCell ⟨gb580, 0, none⟩ (.slice A0_0 l0_0.length c0_0)).setCell ⟨gb580, 1, none⟩ (.slice A0_1 l0_1.length c0_1)).setCell ⟨gb580, 2, none⟩ (.int .i64 a0_2)).drewN nd).setCell ⟨gb580, 2, none⟩ (.int .i64 (wrap64 (t581 + 1)))) := (pw_below_drewN ((((HB.out.setCell (p := ⟨gb580, 0, none⟩) GE580.out _).setCell (p := ⟨gb580, 1, none⟩) GE580.out _).setCell (p := ⟨gb580, 2, none⟩) GE580.out _)) nd).setCell (p := ⟨gb580, 2, none⟩) GE580.out _
              have hXk : Kept w68 (((((w68.setCell ⟨gb580, 0, none⟩ (.slice A0_0 l0_0.length c0_0)).setCell ⟨gb580, 1, none⟩ (.slice A0_1 l0_1.length c0_1)).setCell ⟨gb580, 2, none⟩ (.int .i64 a0_2)).drewN nd).setCell ⟨gb580, 2, none⟩ (.int .i64 (wrap64 (t581 + 1)))) (fun k_ => k_ = gb580) := by refine Kept.setCell (S := fun k_ => k_ = gb580) (p := ⟨gb580, 2, none⟩) ?_ (.inl rfl) _; refine Kept.drewN ?_ nd; refine Kept.setCell (S := fun k_ => k_ = gb580) (p := ⟨gb580, 2, none⟩) ?_ (.inl rfl) _; refine Kept.setCell (S := fun k_ => k_ = gb580) (p := ⟨gb580, 1, none⟩) ?_ (.inl rfl) _; refine Kept.setCell (S := fun k_ => k_ = gb580) (p := ⟨gb580, 0, none⟩) ?_ (.inl rfl) _; exact Kept.refl _ _
              have hXc := blk_set (blk_drewN (blk_set (blk_set (blk_set BK580.out 0 (.slice A0_0 l0_0.length c0_0)) 1 (.slice A0_1 l0_1.length c0_1)) 2 (.int .i64 a0_2)) nd) 2 (.int .i64 (wrap64 (t581 + 1)))
              generalize (((((w68.setCell ⟨gb580, 0, none⟩ (.slice A0_0 l0_0.length c0_0)).setCell ⟨gb580, 1, none⟩ (.slice A0_1 l0_1.length c0_1)).setCell ⟨gb580, 2, none⟩ (.int .i64 a0_2)).drewN nd).setCell ⟨gb580, 2, none⟩ (.int .i64 (wrap64 (t581 + 1)))) = X at hXb hXk hXc ⊢
              replace hXc : X.heap[gb580]? = some (.cells #[.slice A0_0 l0_0.length c0_0, .slice A0_1 l0_1.length c0_1, .int .i64 (wrap64 (t581 + 1))] 25 (0, 0)) := hXc.trans rfl
              have n0_ := Aside0.mk (Kd.V_kept HO_5.out hXk (fun k_ h_ e_ => h_.2 e_))
              have n6_ := Aside0.mk (blk_kept BK549.out hXk (fun e_ => NB549_580.out e_))
              replace HO_5 := n0_
              replace BK549 := n6_
              replace BK580 := Aside0.mk hXc
              replace HB := Aside0.mk hXb
              clear n0_ n6_ hXc hXb hXk hz HO565 HO573 HO576 HO579 hcz70_0 hcz70_1 hcz70_2 hfz70_0 hfz70_1 hfz70_2
              try clear hq9
              have hcz70_0 := (blk_cell BK580.out 0).trans rfl
              have hcz70_1 := (blk_cell BK580.out 1).trans rfl
              have hcz70_2 := (blk_cell BK580.out 2).trans rfl
              go_upto_region 13 with (first | ((with_reducible refine gate_callee (f := 31) rfl ?_); refine gL (some 73) Tryd.func31 #[.agg #[.slice A0_0 l0_0.length c0_0, .slice A0_1 l0_1.length c0_1, .int .i64 (wrap64 (t581 + 1))]] ?_; (with_reducible refine (gang_Plan.calls _ _ l0_0 _ _ l0_1 (wrap64 (t581 + 1)) t582 t585 _ ?side1 ?side2 ?side3 ?side4 ?side5 A53.out).mono ?_); (case side1 => exact Kd.C_below HR0_0.out HB.out); (case side2 => exact HC0_0.out); (case side3 => exact Kd.C_below HR0_1.out HB.out); (case side4 => exact HC0_1.out); (case side5 => exact gv_below HG.out HB.out); rintro e w71 ⟨v583, rfl, ho0, hb⟩; refine ⟨_, rfl, ?_⟩; have n0_ := Aside0.mk (Kd.V_below HO_5.out hb); have n5_ := Aside0.mk (Kd.V_lower (Kd.V_mono (ok' := fun _ => True) ho0 (fun _ _ => trivial)) (below_size HB.out)); have n6_ := Aside0.mk ((hb.block _ (Array.getElem?_eq_some_iff.1 BK549.out).1).trans BK549.out); have n7_ := Aside0.mk ((hb.block _ (Array.getElem?_eq_some_iff.1 BK580.out).1).trans BK580.out); have n8_ := Aside0.mk (below_step HB.out hb); clear HO_5; clear BK549; clear BK580; clear HB; have HO_5 := n0_; have HO584 := n5_; have BK549 := n6_; have BK580 := n7_; have HB := n8_; clear n0_ n5_ n6_ n7_ n8_; clear hb ho0))
              (try simp only [Act.put, List.setIfInBounds_toArray, List.set_cons_zero, List.set_cons_succ])
              go_cut [83] (fun v83 wc => ∃ (kq : Nat) (x83_53 : Bool), v83 = .bool x83_53 ∧ Aside0 (macadamlaw04_GangNone.j2 kq x83_53 l0_0 l0_1 (wrap64 (t581 + 1)) = some r) ∧ Aside0 (kq ≤ kj19) ∧ Aside0 (wc.heap[gb549]? = some (.cells #[(.slice A0_0 l0_0.length c0_0), (.slice A0_1 l0_1.length c0_1), .int .i64 a0_2] 25 (0, 0))) ∧ Aside0 (wc.heap[gb580]? = some (.cells #[(.slice A0_0 l0_0.length c0_0), (.slice A0_1 l0_1.length c0_1), .int .i64 (wrap64 (t581 + 1))] 25 (0, 0))) ∧ Aside0 (Below w.heap.size w wc))
              case first =>
               have H := HC54.out
               clear HC54
               by_cases c72 : t585 = 0
               ·rw [if_pos c72] at H
                have c72b0 : (t585 == 0) = true := beq_iff_eq.mpr c72
                have c72b1 : (t585 != 0) = false := bne_eq_false_iff_eq.mpr c72
                clear c72
                (first | rw [c72b0] | (simp only [i64_w, i32_w]; rw [c72b0]) | skip)
                replace H := Option.bind_eq_some_iff.mp H
                obtain ⟨t586, A730, H⟩ := H
                replace H : (macadamlaw04_GangNone.j2 kj19 (!t586) l0_0 l0_1 (wrap64 (t581 + 1))) = some r := H
                have A73 := Aside0.mk A730
                clear A730
                have H' := Aside0.mk H
                clear H
                obtain ⟨Ao74, co74, eo74⟩ := Kd.V_slice HO584.out
                subst eo74
                go_wp2_with (first | (go_at_call 33; (with_reducible refine (macadamlaw04_same.calls kj19 _ _ t550 _ _ t582 t586 _ ?side1 ?side2 ?side3 ?side4 A73.out).mono ?_); (case side1 => repeat (first | exact (Kd.V_reads' HO_5.out).2.2 | (with_reducible refine Kd.C_alloc ?_ _) | (with_reducible refine Kd.C_drewN ?_ _) | (with_reducible refine Kd.C_drew ?_))); (case side2 => exact (Kd.V_reads' HO_5.out).2.1); (case side3 => repeat (first | exact (Kd.V_reads' HO584.out).2.2 | (with_reducible refine Kd.C_alloc ?_ _) | (with_reducible refine Kd.C_drewN ?_ _) | (with_reducible refine Kd.C_drew ?_))); (case side4 => exact (Kd.V_reads' HO584.out).2.1); rintro e w' ⟨rfl, ⟨nd, rfl⟩⟩))
                go_meet
                case rel => exact ⟨_, (!t586), (by first | rfl | (simp; done) | (simp [*]; done)), H', ⟨by have := HJ3.out; have := HJ19.out; first | omega | exact Nat.le_refl _⟩, ⟨bm BK549⟩, ⟨bm BK580⟩, ⟨bw2 HB GE549 GE580⟩⟩
               ·rw [if_neg c72] at H
                have c72b0 : (t585 == 0) = false := beq_eq_false_iff_ne.mpr c72
                have c72b1 : (t585 != 0) = true := bne_iff_ne.mpr c72
                (first | rw [c72b0] | (simp only [i64_w, i32_w]; rw [c72b0]) | skip)
                have H' := Aside0.mk H
                clear H
                go_wp2
                go_meet
                case rel => exact ⟨_, (true), (by first | rfl | (simp; done) | (simp [*]; done)), H', ⟨by have := HJ3.out; have := HJ19.out; first | omega | exact Nat.le_refl _⟩, ⟨bm BK549⟩, ⟨bm BK580⟩, ⟨bw2 HB GE549 GE580⟩⟩
              case rest =>
               clear HC54
               try clear c1
               try clear p2
               try clear c3
               try clear c4
               try clear c5
               try clear q5
               try clear c6
               try clear p6
               try clear c7
               try clear c31
               try clear c33
               try clear c37
               try clear c39
               try clear c39b0
               try clear c39b1
               try clear c39b2
               try clear c48
               try clear c52
               try clear q57
               try clear c58
               try clear q58
               try clear p64
               try clear c69
               try clear c72
               try clear c72b0
               try clear c72b1
               try clear hcz67_0
               try clear hcz67_1
               try clear hcz67_2
               try clear hcz70_0
               try clear hcz70_1
               try clear hcz70_2
               try clear hfz67_0
               try clear hfz67_1
               try clear hfz67_2
               try clear hfz70_0
               try clear hfz70_1
               try clear hfz70_2
               try clear q058
               try clear q57
               try clear q58
               obtain ⟨kq, x83_53, rfl, HA, HJ53, BK549, BK580, HB⟩ := hcut
               cases kq with
               | zero => exact absurd HA.out (by simp [macadamlaw04_GangNone.j2])
               | succ kj53 =>
                have H := HA.out
                clear HA
                simp only [macadamlaw04_GangNone.j2] at H
                by_cases c75 : x83_53 = true
                ·subst c75
                 have H1 : (some false) = some r := by rw [if_pos rfl] at H; exact H
                 clear H
                 have H := H1
                 clear H1
                 obtain rfl := Option.some.inj H
                 go_wp2
                 go_ret
                 exact ⟨by first | rfl | (simp [errW_none, errW_some] <;> rfl) | (simp only [← hji34]; first | rfl | (simp [errW_none, errW_some] <;> rfl)) | (simp [*, errW_none, errW_some] <;> rfl), bw2 HB GE549 GE580⟩
                ·replace c75 := Bool.eq_false_iff.mpr c75
                 subst c75
                 have H1 : (if (wrap64 (t581 + 1)) = 1 then ((macadamlaw04_shovelled.f).bind fun t587 => (some t587)) else ((gang_Plan.f l0_0 l0_1 (wrap64 ((wrap64 (t581 + 1)) - 1))).bind fun bt588 => (if bt588.2 = 4 then ((macadamlaw04_shovelled.f).bind fun t592 => (some t592)) else (some false)))) = some r := by rw [if_neg (show ¬ (false = true) by decide)] at H; exact H
                 clear H
                 have H := H1
                 clear H1
                 by_cases c76 : (wrap64 (t581 + 1)) = 1
                 ·rw [if_pos c76] at H
                  have c76b0 : ((wrap64 (t581 + 1)) == 1) = true := beq_iff_eq.mpr c76
                  have c76b1 : ((wrap64 (t581 + 1)) != 1) = false := bne_eq_false_iff_eq.mpr c76
                  clear c76
                  replace H := Option.bind_eq_some_iff.mp H
                  obtain ⟨t587, A770, H⟩ := H
                  replace H : (some t587) = some r := H
                  have A77 := Aside0.mk A770
                  clear A770
                  obtain rfl := Option.some.inj H
                  have hnb78 := NB580_549.out
                  have hnc78 := NB549_580.out
                  obtain ⟨hcz79_0, hcz79_1, hcz79_2, hfz79_0, hfz79_1, hfz79_2⟩ := b3 BK580
                  go_wp2_with (first | ((with_reducible refine gate_callee (f := 24) rfl ?_); refine gL (some 87) Tryd.func24 #[] ?_; (with_reducible refine (macadamlaw04_shovelled.calls  t587 _ ?side1 A77.out).mono ?_); (case side1 => exact gv_below HG.out (bw2 HB GE549 GE580)); rintro e w80 ⟨rfl, hb⟩; refine ⟨_, rfl, ?_⟩; have n0_ := Aside0.mk (blk_below (bm BK549) hb); have n1_ := Aside0.mk (blk_below (bm BK580) hb); have n2_ := Aside0.mk (below_step (bw2 HB GE549 GE580) hb); clear BK549; clear BK580; clear HB; have BK549 := n0_; have BK580 := n1_; have HB := n2_; clear n0_ n1_ n2_; (try clear hb); (try clear hb2); (try clear hk); (try clear hi)))
                  go_ret
                  exact ⟨by first | rfl | (simp [errW_none, errW_some] <;> rfl) | (simp only [← hji34]; first | rfl | (simp [errW_none, errW_some] <;> rfl)) | (simp [*, errW_none, errW_some] <;> rfl), bw2 HB GE549 GE580⟩
                 ·rw [if_neg c76] at H
                  have c76b0 : ((wrap64 (t581 + 1)) == 1) = false := beq_eq_false_iff_ne.mpr c76
                  have c76b1 : ((wrap64 (t581 + 1)) != 1) = true := bne_iff_ne.mpr c76
                  replace H := Option.bind_eq_some_iff.mp H
                  obtain ⟨⟨t588, t591⟩, A810, H⟩ := H
                  replace H : (if t591 = 4 then ((macadamlaw04_shovelled.f).bind fun t592 => (some t592)) else (some false)) = some r := H
                  have A81 := Aside0.mk A810
                  clear A810
                  by_cases c82 : t591 = 4
                  ·rw [if_pos c82] at H
                   have c82b0 : (t591 == 4) = true := beq_iff_eq.mpr c82
                   have c82b1 : (t591 != 4) = false := bne_eq_false_iff_eq.mpr c82
                   clear c82
                   replace H := Option.bind_eq_some_iff.mp H
                   obtain ⟨t592, A830, H⟩ := H
                   replace H : (some t592) = some r := H
                   have A83 := Aside0.mk A830
                   clear A830
                   obtain rfl := Option.some.inj H
                   have hnb84 := NB580_549.out
                   have hnc84 := NB549_580.out
                   obtain ⟨hcz85_0, hcz85_1, hcz85_2, hfz85_0, hfz85_1, hfz85_2⟩ := b3 BK580
                   go_wp2_with (first | ((with_reducible refine gate_callee (f := 31) rfl ?_); refine gL (some 94) Tryd.func31 #[.agg #[.slice A0_0 l0_0.length c0_0, .slice A0_1 l0_1.length c0_1, .int .i64 (wrap64 ((wrap64 (t581 + 1)) - 1))]] ?_; (with_reducible refine (gang_Plan.calls _ _ l0_0 _ _ l0_1 (wrap64 ((wrap64 (t581 + 1)) - 1)) t588 t591 _ ?side1 ?side2 ?side3 ?side4 ?side5 A81.out).mono ?_); (case side1 => exact Kd.C_below HR0_0.out (bw2 HB GE549 GE580)); (case side2 => exact HC0_0.out); (case side3 => exact Kd.C_below HR0_1.out (bw2 HB GE549 GE580)); (case side4 => exact HC0_1.out); (case side5 => exact gv_below HG.out (bw2 HB GE549 GE580)); rintro e w86 ⟨v589, rfl, ho0, hb⟩; refine ⟨_, rfl, ?_⟩; have n0_ := Aside0.mk (Kd.V_lower (Kd.V_mono (ok' := fun k_ => k_ ≠ gb549 ∧ k_ ≠ gb580) ho0 (fun k_ hk_ => ⟨(Kd.freshB (g := gb549) (o := .cells #[.slice A0_0 l0_0.length c0_0, .slice A0_1 l0_1.length c0_1, .int .i64 a0_2] 25 (0, 0)) (by (with_reducible repeat (first | refine blk_drewN ?_ _ | refine blk_drew ?_ | refine blk_alloc ?_ _)); refine blk_far ?_ NB549_580.out _; (with_reducible repeat (first | refine blk_drewN ?_ _ | refine blk_drew ?_ | refine blk_alloc ?_ _)); exact BK549.out) k_ hk_), (Kd.freshB (g := gb580) (o := .cells #[.slice A0_0 l0_0.length c0_0, .slice A0_1 l0_1.length c0_1, .int .i64 (wrap64 ((wrap64 (t581 + 1)) - 1))] 25 (0, 0)) (by (with_reducible repeat (first | refine blk_drewN ?_ _ | refine blk_drew ?_ | refine blk_alloc ?_ _)); refine blk_put (cs := #[.slice A0_0 l0_0.length c0_0, .slice A0_1 l0_1.length c0_1, .int .i64 (wrap64 (t581 + 1))]) ?_ 2 _ rfl; (with_reducible repeat (first | refine blk_drewN ?_ _ | refine blk_drew ?_ | refine blk_alloc ?_ _)); exact BK580.out) k_ hk_)⟩)) (below_size (bw2 HB GE549 GE580))); have n1_ := Aside0.mk (blk_below (g := gb549) (o := .cells #[.slice A0_0 l0_0.length c0_0, .slice A0_1 l0_1.length c0_1, .int .i64 a0_2] 25 (0, 0)) (by (with_reducible repeat (first | refine blk_drewN ?_ _ | refine blk_drew ?_ | refine blk_alloc ?_ _)); refine blk_far ?_ NB549_580.out _; (with_reducible repeat (first | refine blk_drewN ?_ _ | refine blk_drew ?_ | refine blk_alloc ?_ _)); exact BK549.out) hb); have n2_ := Aside0.mk (blk_below (g := gb580) (o := .cells #[.slice A0_0 l0_0.length c0_0, .slice A0_1 l0_1.length c0_1, .int .i64 (wrap64 ((wrap64 (t581 + 1)) - 1))] 25 (0, 0)) (by (with_reducible repeat (first | refine blk_drewN ?_ _ | refine blk_drew ?_ | refine blk_alloc ?_ _)); refine blk_put (cs := #[.slice A0_0 l0_0.length c0_0, .slice A0_1 l0_1.length c0_1, .int .i64 (wrap64 (t581 + 1))]) ?_ 2 _ rfl; (with_reducible repeat (first | refine blk_drewN ?_ _ | refine blk_drew ?_ | refine blk_alloc ?_ _)); exact BK580.out) hb); have n3_ := Aside0.mk (below_step (bw2 HB GE549 GE580) hb); clear BK549; clear BK580; clear HB; have HO590 := n0_; have BK549 := n1_; have BK580 := n2_; have HB := n3_; clear n0_ n1_ n2_ n3_; (try clear hb); (try clear hb2); (try clear hk); (try clear hi); (try clear ho0)) | (go_at_call 24; (with_reducible refine (macadamlaw04_shovelled.calls  t592 _ ?side1 A83.out).mono ?_); (case side1 => exact gv_below HG.out (bw2 HB GE549 GE580)); rintro e w87 ⟨rfl, hb⟩; have n0_ := Aside0.mk (Kd.V_below (by (with_reducible repeat (first | apply Kd.V_alloc | apply Kd.V_drewN | apply Kd.V_drew)); exact HO590.out) hb); have n1_ := Aside0.mk (blk_below (bm BK549) hb); have n2_ := Aside0.mk (blk_below (bm BK580) hb); have n3_ := Aside0.mk (below_step (bw2 HB GE549 GE580) hb); clear HO590; clear BK549; clear BK580; clear HB; have HO590 := n0_; have BK549 := n1_; have BK580 := n2_; have HB := n3_; clear n0_ n1_ n2_ n3_; (try clear hb); (try clear hb2); (try clear hk); (try clear hi)))
                   go_ret
                   exact ⟨by first | rfl | (simp [errW_none, errW_some] <;> rfl) | (simp only [← hji34]; first | rfl | (simp [errW_none, errW_some] <;> rfl)) | (simp [*, errW_none, errW_some] <;> rfl), bw2 HB GE549 GE580⟩
                  ·rw [if_neg c82] at H
                   have c82b0 : (t591 == 4) = false := beq_eq_false_iff_ne.mpr c82
                   have c82b1 : (t591 != 4) = true := bne_iff_ne.mpr c82
                   obtain rfl := Option.some.inj H
                   have hnb88 := NB580_549.out
                   have hnc88 := NB549_580.out
                   obtain ⟨hcz89_0, hcz89_1, hcz89_2, hfz89_0, hfz89_1, hfz89_2⟩ := b3 BK580
                   go_wp2_with (first | ((with_reducible refine gate_callee (f := 31) rfl ?_); refine gL (some 94) Tryd.func31 #[.agg #[.slice A0_0 l0_0.length c0_0, .slice A0_1 l0_1.length c0_1, .int .i64 (wrap64 ((wrap64 (t581 + 1)) - 1))]] ?_; (with_reducible refine (gang_Plan.calls _ _ l0_0 _ _ l0_1 (wrap64 ((wrap64 (t581 + 1)) - 1)) t588 t591 _ ?side1 ?side2 ?side3 ?side4 ?side5 A81.out).mono ?_); (case side1 => exact Kd.C_below HR0_0.out (bw2 HB GE549 GE580)); (case side2 => exact HC0_0.out); (case side3 => exact Kd.C_below HR0_1.out (bw2 HB GE549 GE580)); (case side4 => exact HC0_1.out); (case side5 => exact gv_below HG.out (bw2 HB GE549 GE580)); rintro e w90 ⟨v589, rfl, ho0, hb⟩; refine ⟨_, rfl, ?_⟩; have n0_ := Aside0.mk (Kd.V_lower (Kd.V_mono (ok' := fun k_ => k_ ≠ gb549 ∧ k_ ≠ gb580) ho0 (fun k_ hk_ => ⟨(Kd.freshB (g := gb549) (o := .cells #[.slice A0_0 l0_0.length c0_0, .slice A0_1 l0_1.length c0_1, .int .i64 a0_2] 25 (0, 0)) (by (with_reducible repeat (first | refine blk_drewN ?_ _ | refine blk_drew ?_ | refine blk_alloc ?_ _)); refine blk_far ?_ NB549_580.out _; (with_reducible repeat (first | refine blk_drewN ?_ _ | refine blk_drew ?_ | refine blk_alloc ?_ _)); exact BK549.out) k_ hk_), (Kd.freshB (g := gb580) (o := .cells #[.slice A0_0 l0_0.length c0_0, .slice A0_1 l0_1.length c0_1, .int .i64 (wrap64 ((wrap64 (t581 + 1)) - 1))] 25 (0, 0)) (by (with_reducible repeat (first | refine blk_drewN ?_ _ | refine blk_drew ?_ | refine blk_alloc ?_ _)); refine blk_put (cs := #[.slice A0_0 l0_0.length c0_0, .slice A0_1 l0_1.length c0_1, .int .i64 (wrap64 (t581 + 1))]) ?_ 2 _ rfl; (with_reducible repeat (first | refine blk_drewN ?_ _ | refine blk_drew ?_ | refine blk_alloc ?_ _)); exact BK580.out) k_ hk_)⟩)) (below_size (bw2 HB GE549 GE580))); have n1_ := Aside0.mk (blk_below (g := gb549) (o := .cells #[.slice A0_0 l0_0.length c0_0, .slice A0_1 l0_1.length c0_1, .int .i64 a0_2] 25 (0, 0)) (by (with_reducible repeat (first | refine blk_drewN ?_ _ | refine blk_drew ?_ | refine blk_alloc ?_ _)); refine blk_far ?_ NB549_580.out _; (with_reducible repeat (first | refine blk_drewN ?_ _ | refine blk_drew ?_ | refine blk_alloc ?_ _)); exact BK549.out) hb); have n2_ := Aside0.mk (blk_below (g := gb580) (o := .cells #[.slice A0_0 l0_0.length c0_0, .slice A0_1 l0_1.length c0_1, .int .i64 (wrap64 ((wrap64 (t581 + 1)) - 1))] 25 (0, 0)) (by (with_reducible repeat (first | refine blk_drewN ?_ _ | refine blk_drew ?_ | refine blk_alloc ?_ _)); refine blk_put (cs := #[.slice A0_0 l0_0.length c0_0, .slice A0_1 l0_1.length c0_1, .int .i64 (wrap64 (t581 + 1))]) ?_ 2 _ rfl; (with_reducible repeat (first | refine blk_drewN ?_ _ | refine blk_drew ?_ | refine blk_alloc ?_ _)); exact BK580.out) hb); have n3_ := Aside0.mk (below_step (bw2 HB GE549 GE580) hb); clear BK549; clear BK580; clear HB; have HO590 := n0_; have BK549 := n1_; have BK580 := n2_; have HB := n3_; clear n0_ n1_ n2_ n3_; (try clear hb); (try clear hb2); (try clear hk); (try clear hi); (try clear ho0)))
                   go_ret
                   exact ⟨by first | rfl | (simp [errW_none, errW_some] <;> rfl) | (simp only [← hji34]; first | rfl | (simp [errW_none, errW_some] <;> rfl)) | (simp [*, errW_none, errW_some] <;> rfl), bw2 HB GE549 GE580⟩
            ·rw [if_neg c37] at H
             exact absurd H (by simp)
           ·rw [if_neg c36] at H
            exact absurd H (by simp)
          ·rw [if_neg c35] at H
           exact absurd H (by simp)
         ·rw [if_neg c33] at H
          exact absurd H (by simp)
        ·rw [if_neg c32] at H
         exact absurd H (by simp)
       ·rw [if_neg c31] at H
        exact absurd H (by simp)
end Go.Proofs.YtikfghnkbgdbgaaDoor.Q
end
section
namespace Go.Proofs.YtikfghnkbgdbgaaDoor.Q
set_option linter.unusedSimpArgs false
set_option linter.unusedVariables false
open Go.RowKit Go.Proofs.YtikfghnkbgdbgaaDoorW.PrintWords Go.Proofs.YtikfghnkbgdbgaaDoorW.PrintLast Go.Proofs.YtikfghnkbgdbgaaDoorW.PrintMore
theorem last_sub {ms : List M} {gs : List G} {n : Int} {p q : List Wk} (hp : planB ms gs n p = true) (hs : q.Sublist p) (hp0 : 0 ≤ lastN p) : lastN q ≤ lastN p := by
  unfold lastN at *
  cases hl : q.getLast? with
  | none => simp only; omega
  | some y => exact last_ge hp y (hs.subset (List.mem_of_getLast? hl))
theorem gangNone_pure (ms : List M) (gs : List G) (n : Int) (ok0 : OkBook ms gs n) (a : Int) (_ok2 : (Lit.int .i64 a).wf = true) :
    ∃ k, macadamlaw04_GangNone.f k ms gs n a = some true := by
  have hm : ms.length ≤ 9223372036854775807 := ok0.1.1
  have hg : gs.length ≤ 9223372036854775807 := ok0.2.1.1
  refine Ev.rounds ?_
  unfold macadamlaw04_GangNone.f
  by_cases ok : okB ms gs n = true
  · obtain ⟨⟨hm1, hm2⟩, ⟨hg1, hg2⟩, hn1, hn2⟩ := okB_sizes ok
    rcases plan_f ok with ⟨p, hp, e⟩ | ⟨hp, e⟩
    · obtain ⟨c1, c2, c3, c4⟩ := planL_some ok hp
      have hne := full_ne ok c2
      have hl8 := plan_len ok c1
      have hl0 : 0 < p.length := List.length_pos_iff.2 hne
      refine Ev.bind (Ev.some e) (Ev.bind (sound_ev ms gs n hm hg) ?_)
      rw [ok]
      refine Ev.pos rfl (Ev.step (f := fun k => (macadamlaw04_lawful.f k ms gs n p).bind fun t556 => if t556 = true then macadamlaw04_GangNone.j1 k a p ((p.length : Int) == 0) ms gs n else macadamlaw04_GangNone.j1 k a p true ms gs n) (fun k => by simp only [macadamlaw04_GangNone.j0]; rw [if_neg (by simp)]) ?_)
      have hlaw := lawful_ev ok (p := p) (by omega)
      rw [c1] at hlaw
      refine Ev.bind hlaw (Ev.pos rfl ?_)
      obtain ⟨t, ht, t0, t1⟩ := wrap_f a (show (1 : Int) ≤ (p.length : Int) by omega) (by omega)
      have hw : wrap64 (t + 1) = t + 1 := by unfold wrap64; omega
      have hnat : (t + 1).toNat = t.toNat + 1 := by omega
      -- the plan without a work
      have hsub : (p.take t.toNat ++ p.drop (t.toNat + 1)).Sublist p := by
        have h1 : (p.take t.toNat ++ p.drop (t.toNat + 1)).Sublist (p.take t.toNat ++ p.drop t.toNat) :=
          List.Sublist.append (List.Sublist.refl _) (by rw [show t.toNat + 1 = t.toNat + 1 from rfl, ← List.drop_drop]; exact List.drop_sublist _ _)
        rwa [List.take_append_drop] at h1
      have hless := planB_sub c1 hsub
      have hll : (p.take t.toNat ++ p.drop (t.toNat + 1)).length + 1 = p.length := by
        rw [List.length_append, List.length_take, List.length_drop]; omega
      have hnf : ¬ fullB ms gs (p.take t.toNat ++ p.drop (t.toNat + 1)) := fun hf => by
        have h1 := c4 _ hless hf
        have h2 := last_sub c1 hsub c3.1
        exact h1.2 (by omega) (betterB_iff.2 (Or.inl (by omega)))
      have hln : lastN p < 4 := by omega
      have hwl : wrap64 (lastN p + 1) = lastN p + 1 := by unfold wrap64; omega
      have hagain : gang_Plan.f ms gs (lastN p + 1) = some (p, 0) := by
        unfold gang_Plan.f
        rw [if_pos (okB_n ok ⟨by omega, by omega⟩), planL_same ok hp (m := lastN p + 1) (by omega) (by omega)]
      refine Ev.step (f := fun k => (macadamlaw04_mended.f k ms gs n (p.take t.toNat ++ p.drop (t.toNat + 1))).bind fun t577 => if (t577.length : Int) = (ms.length : Int) then some false else (macadamlaw04_same.f k p p).bind fun t586 => macadamlaw04_GangNone.j2 k (!t586) ms gs (lastN p + 1)) (fun k => ?_) ?_
      · simp only [macadamlaw04_GangNone.j1]
        rw [if_neg (by simp; omega), ht]
        simp only [Option.bind_some, List.nil_append, hw, hnat, last_f p (show p.length ≤ 9223372036854775807 by omega), hwl, hagain]
        rw [if_pos t0, if_pos (show t ≤ (p.length : Int) by omega), if_pos (by simp only [List.length_nil, List.length_take]; omega), if_pos (show 0 ≤ t + 1 by omega), if_pos (show t + 1 ≤ (p.length : Int) by omega), if_pos (by rw [← List.length_append]; omega)]
        simp only [if_true]
      · refine Ev.bind (lmended_ev ok hless) (Ev.neg (fun h => hnf (by unfold fullB; omega)) (Ev.bind (same_ev p (by omega)) ?_))
        by_cases h1 : lastN p + 1 = 1
        · exact Ev.step (f := fun _ => some true) (fun k => by simp only [macadamlaw04_GangNone.j2]; rw [if_neg (by simp), if_pos h1]; rfl) (Ev.now _)
        · have hprev : gang_Plan.f ms gs (lastN p) = some ([], 4) := by
            unfold gang_Plan.f
            rw [if_pos (okB_n ok ⟨by omega, by omega⟩), planL_fewer ok hp (m := lastN p) (by omega) (by omega)]
          exact Ev.step (f := fun _ => some true) (fun k => by
            simp only [macadamlaw04_GangNone.j2]
            rw [if_neg (by simp), if_neg h1, show wrap64 (lastN p + 1 - 1) = lastN p by unfold wrap64; omega, hprev]
            rfl) (Ev.now _)
    · refine Ev.bind (Ev.some e) (Ev.bind (sound_ev ms gs n hm hg) ?_)
      rw [ok]
      exact Ev.pos rfl (Ev.step (f := fun _ => some true) (fun k => by simp only [macadamlaw04_GangNone.j0]; rfl) (Ev.now _))
  · refine Ev.bind (Ev.some (plan_bad ok)) (Ev.bind (sound_ev ms gs n hm hg) ?_)
    rw [show okB ms gs n = false by simpa using ok]
    exact Ev.neg (by simp) (Ev.step (f := fun _ => some true) (fun k => by simp only [macadamlaw04_GangNone.j0]; rfl) (Ev.now _))
end Go.Proofs.YtikfghnkbgdbgaaDoor.Q
end
section
namespace Go.Proofs.YtikfghnkbgdbgaaDoor.Q
open Go.ChangeShapes Go.WideShapes Go.ChangeAt Go.RowKit
set_option linter.unusedVariables false
set_option maxRecDepth 100000 in
theorem gangNone_lifted (os : Os) (started : os.Started) (H : Type) (enc : TypeId × Value → H) :
    ReturnsInHanded {} Tryd.checked os 10 .any (fun w args => (Rows.gangNoneSpec.pre enc Tryd.prog Tryd.f10 [] false w args ∧ laidMetH Tryd.prog laidV w) ∧ sizedMet enc Tryd.prog Tryd.f10 (OpenSpec.ofChange Rows.gangNoneSpec) false w args)
      (Rows.gangNoneSpec.post enc Tryd.prog Tryd.f10 false true false false) := by
  refine returnsInHanded_of_change_and (C := Tryd.checked) (X := fun w _ => laidMetH Tryd.prog laidV w) (fun _ _ _ hh h => h.of_heap hh) ownK started (by kernel_rfl) Tryd.func10
    (ChangeSpec.witness_shaped (enc := enc) (C := Tryd.checked) (os := os) (X := fun w _ => laidMetH Tryd.prog laidV w) false (World.doorLaid Tryd.prog 19 os) #[.agg #[.slice none 0 0, .slice none 0 0, .int .i64 0], .int .i64 0] 8 rfl (World.shaped_of_RefB (by kernel_rfl) (by kernel_rfl)) (by kernel_rfl) (by kernel_rfl) (by kernel_rfl) (door_met os _)) ?_
  intro W base args ds gs before hval0 hW _ hsz0 hL _
  have hval : ∀ (j : Nat) t v, Tryd.f10.params[j]? = some t → args[j]? = some v → Value.okWide Tryd.prog W .any base t v := hval0
  have hsz : (DataW.weightsEach Tryd.prog (Tryd.f10.params.toList ++ Rows.gangNoneSpec.plain.varTypes Tryd.prog) (ds ++ gs)).all (· ≤ reachBytes) = true := hsz0
  have hW' := hW
  obtain ⟨p, q, hA0, hV, rfl, hfz, hnd⟩ := hW
  have hA : DataW.TrodAll enc Tryd.prog W 0 (fun _ => true) true Tryd.f10.params.toList args.toList ds p := hA0
  rw [Tryd.params10] at hA hval hsz
  obtain ⟨v0, vs0, d0, ds0, p0, q0, hargs, rfl, rfl, h0, r0⟩ := trodAll_cons hA
  obtain ⟨v1, vs1, d1, ds1, p1, q1, rfl, rfl, rfl, h1, r1⟩ := trodAll_cons r0
  obtain ⟨rfl, rfl, rfl⟩ := trodAll_nil r1
  obtain rfl : args = #[v0, v1] := by cases args; simp_all
  obtain ⟨rfl, rfl⟩ := trodVars_none hV
  have lt0 : ∀ x ∈ p0, x.block < W.heap.size := by obtain ⟨m, hm⟩ := h0; exact DataW.trod_lt m _ _ _ hm
  obtain ⟨y0, K0, ok0⟩ := opens_book.arg h0
  obtain ⟨A0_0, c0_0, A0_1, c0_1, e0, hc0_0, hr0_0, hc0_1, hr0_1⟩ := k25_open K0
  obtain rfl := cells_many e0
  have lt1 : ∀ x ∈ p1, x.block < W.heap.size := by obtain ⟨m, hm⟩ := h1; exact DataW.trod_lt m _ _ _ hm
  have h1k := h1
  obtain ⟨a1, rfl, rfl, rfl, w1⟩ := open_int Tryd.underlying3 (hval 1 3 v1 rfl rfl) h1
  have hG := gv_of_laid hL
  obtain ⟨k_, h_⟩ := gangNone_pure y0.f0 y0.f1 y0.f2 ok0 a1 w1
  clear hA0 hval0 hsz0 hsz
  refine (macadamlaw04_GangNone.calls k_ A0_0 c0_0 y0.f0 A0_1 c0_1 y0.f1 y0.f2 a1 true W hr0_0 hc0_0 hr0_1 hc0_1 hG h_).mono fun e W' ⟨he, bel⟩ => ?_
  subst he
  exact ⟨_, rfl, _, _, _, [], _, [], hW', trodAll_mk1 (shut_bool Tryd.underlying4 _), (trodAll_cons_mk (Below.trod laidOut (by kernel_rfl) (of_decide_eq_true (by kernel_rfl)) h0 bel lt0) (trodAll_cons_mk (shut_int Tryd.underlying3 w1) trodAll_mk0)), rfl, bel.frame _, fun h => by cases h⟩
theorem gangNone_over : Rows.gangNoneRow.holds Tryd.pinned (OpenSpec.ofChange Rows.gangNoneSpec) :=
  OpenClaim.holds_of_wide 10 Tryd.f10 rfl rfl rfl rfl rfl rfl rfl ⟨rfl, rfl, rfl, rfl, rfl⟩ rfl rfl rfl rfl rfl (by kernel_rfl) Tryd.func10 (by kernel_rfl)
    (of_decide_eq_true (by kernel_rfl)) (by unfold Func.isWrapper; first | (rw [if_pos (by decide +kernel)]; kernel_rfl) | (rw [if_neg (by decide +kernel)]; exact ⟨rfl, rfl⟩))
    (fun os started H enc _ => gangNone_lifted os started H enc)
end Go.Proofs.YtikfghnkbgdbgaaDoor.Q
namespace Go.Proofs.YtikfghnkbgdbgaaDoor
set_option maxRecDepth 100000 in
/-- THE CARD. -/
theorem gangNone_holds : Rows.GangNoneCardSaid :=
  Claim7.holds_tied_plain_at .later [] [.data, .funcs] true (true, "88f50df5e688c53fcba80ffbc790cc1082a54a252ac4bc190e21b1a8f43ba8e5") false
    Q.gangNone_over (fun _ h => by cases h) (by kernel_rfl) (fun _ h => by cases h) gangNone_row_tie rfl ⟨rfl, rfl⟩ (by kernel_rfl) rfl
    (fun f fn hf hfn => by
      obtain rfl : f = 10 := Option.some.inj ((show Tryd.prog.funcNamed "macadam/macadamlaw04.GangNone" = some 10 by kernel_rfl).symm.trans hf) |>.symm
      obtain rfl : fn = Tryd.f10 := (Option.some.inj (Tryd.func10.symm.trans hfn)).symm
      exact ⟨by kernel_rfl, fun j t ht => by
        rw [Tryd.params10] at ht
        have hm : t ∈ [25, 3] := by simpa using Array.mem_of_getElem? ht
        have hall : ([25, 3].all fun u => !Tryd.prog.wantsStandIn u) = true := by kernel_rfl
        exact (show Tryd.prog.wantsStandIn t = false by simpa using List.all_eq_true.1 hall t hm)⟩)
    (by kernel_rfl)
end Go.Proofs.YtikfghnkbgdbgaaDoor
end
