/- It is proved that the statement GangTrue holds of the given program for every book, every list of numbers and every two numbers; there are no conditions. -/
import Derived.Test.YtikfghnkbgdbgaaDoorZGangTrue4
import Derived.Test.YtikfghnkbgdbgaaDoorTie
import Derived.Test.YtikfghnkbgdbgaaDoorCards
import Derived.SevenTiedAt
set_option linter.unusedSimpArgs false
set_option linter.unusedVariables false
section
namespace Go.Proofs.YtikfghnkbgdbgaaDoor.Q
open Go.RowKit Go.Proofs.YtikfghnkbgdbgaaDoorW.PrintWords Go.Proofs.YtikfghnkbgdbgaaDoorW.PrintLast Go.Proofs.YtikfghnkbgdbgaaDoorW.PrintMore
attribute [local go_sem] max2_int min2_int max_two min_two max_three min_three max_four min_four   -- for this text's walks alone
set_option linter.unusedVariables false
set_option linter.unusedSimpArgs false
attribute [local go_sem high] eqA40
mutual
def macadamlaw04_GangTrue.j0 : Nat → List (S59) → List Int → Int → Int → Bool → List (S66) → List (S63) → Int → Int → Int → Option (Bool)
 | 0, _, _, _, _, _, _, _, _, _, _ => none
 | k + 1, x7, x8, x10, x11, x58, x470000, x470001, x470002, x471000, x471001 => if x58 = true then (some false) else (macadamlaw04_GangTrue.l0 k x7 x8 x10 x11 0 x470000 x470001 x470002 x471000 x471001)
def macadamlaw04_GangTrue.l0 : Nat → List (S59) → List Int → Int → Int → Int → List (S66) → List (S63) → Int → Int → Int → Option (Bool)
 | 0, _, _, _, _, _, _, _, _, _, _ => none
 | k + 1, x7, x8, x10, x11, x12, x470000, x470001, x470002, x471000, x471001 => if x12 < (x470000.length : Int) then ((gang_Done.f x470000 x470001 x470002 x7 x12).bind fun bt490 => (macadamlaw04_GangTrue.l1 k x7 x8 x10 x11 x12 bt490.2.2 0 0 0 0 x470000 x470001 x470002 x471000 x471001 bt490.1 bt490.2.1)) else (if x11 = 0 then ((macadamref00_Amid.f x10 0 (wrap64 ((x470000.length : Int) - 1))).bind fun t506 => (if t506 = true then ((macadamref00_Place.f k x8 x10).bind fun t507 => (if t507 < 0 then ((macadamlaw04_shovelled.f).bind fun t508 => (some t508)) else (some false))) else (some false))) else (if (x8.length : Int) = (x470000.length : Int) then (if x10 = 0 then ((macadamlaw04_shovelled.f).bind fun t509 => (some t509)) else (some false)) else (some false)))
def macadamlaw04_GangTrue.l1 : Nat → List (S59) → List Int → Int → Int → Int → Int → Int → Int → Int → Int → List (S66) → List (S63) → Int → Int → Int → Int → Int → Option (Bool)
 | 0, _, _, _, _, _, _, _, _, _, _, _, _, _, _, _, _, _ => none
 | k + 1, x7, x8, x10, x11, x12, x14, x15, x16, x17, x18, x470000, x470001, x470002, x471000, x471001, x494000, x494001 => if x18 < (x7.length : Int) then (if 0 ≤ x18 then (if ((rd_T59 x7 x18).f2) = x12 then (if 0 ≤ ((rd_T59 x7 x18).f1) then (if ((rd_T59 x7 x18).f1) < (x470001.length : Int) then ((macadamref00_From.f ((rd_T63 x470001 ((rd_T59 x7 x18).f1)).f2.f0) ((rd_T63 x470001 ((rd_T59 x7 x18).f1)).f2.f1) (wrap64 (x471000 + ((rd_T59 x7 x18).f1)))).bind fun t499 => (macadamlaw04_GangTrue.l1 k x7 x8 x10 x11 x12 x14 (wrap64 (x15 + t499)) (wrap64 (x16 + ((rd_T63 x470001 ((rd_T59 x7 x18).f1)).f2.f0))) (wrap64 (x17 + ((rd_T63 x470001 ((rd_T59 x7 x18).f1)).f2.f1))) (wrap64 (x18 + 1)) x470000 x470001 x470002 x471000 x471001 x494000 x494001)) else (none)) else (none)) else (macadamlaw04_GangTrue.l1 k x7 x8 x10 x11 x12 x14 x15 x16 x17 (wrap64 (x18 + 1)) x470000 x470001 x470002 x471000 x471001 x494000 x494001)) else (none)) else (if 0 ≤ x12 then (if x12 < (x470000.length : Int) then ((macadamref00_From.f ((rd_T66 x470000 x12).f0.f0) ((rd_T66 x470000 x12).f0.f1) (wrap64 (x471001 + x12))).bind fun t501 => ((macadamref00_Place.f k x8 x12).bind fun t502 => (if x14 = 0 then ((macadamref00_Reach.f x16 x17).bind fun bt503 => (if (!(x494000 == bt503.1) || (!(x494001 == bt503.2))) = true then (some false) else ((macadamref00_Holds.f x494000 x494001 x15).bind fun t505 => (if t505 = true then (if t502 ≥ 0 then (if x15 < t501 then (some false) else (if x11 = 0 then (if x12 < x10 then (macadamlaw04_GangTrue.l0 k x7 x8 x10 x11 (wrap64 (x12 + 1)) x470000 x470001 x470002 x471000 x471001) else (macadamlaw04_GangTrue.l0 k x7 x8 x10 x11 (wrap64 (x12 + 1)) x470000 x470001 x470002 x471000 x471001)) else (macadamlaw04_GangTrue.l0 k x7 x8 x10 x11 (wrap64 (x12 + 1)) x470000 x470001 x470002 x471000 x471001))) else (if x11 = 0 then (if x12 < x10 then (some false) else (macadamlaw04_GangTrue.l0 k x7 x8 x10 x11 (wrap64 (x12 + 1)) x470000 x470001 x470002 x471000 x471001)) else (macadamlaw04_GangTrue.l0 k x7 x8 x10 x11 (wrap64 (x12 + 1)) x470000 x470001 x470002 x471000 x471001))) else (some false))))) else (some false)))) else (none)) else (none))
end
def macadamlaw04_GangTrue.f (k : Nat) (l0_0 : List (S66)) (l0_1 : List (S63)) (a0_2 : Int) (l1 : List Int) (a2_0 : Int) (a2_1 : Int) : Option (Bool) := (macadamlaw04_sound.f k l0_0 l0_1 a0_2).bind fun t471 => (if t471 = true then ((macadamlaw04_drawn.f k l0_0 l0_1 a0_2 l1).bind fun t473 => ((gang_Mended.f l0_0 l0_1 a0_2 t473).bind fun bt476 => ((gang_Open.f l0_0 l0_1 a0_2 t473).bind fun bt480 => (if bt476.2 = 0 then (if bt480.2 = 0 then ((macadamlaw04_mended.f k l0_0 l0_1 a0_2 t473).bind fun t482 => ((macadamref00_Like.f k bt476.1 t482).bind fun t485 => (macadamlaw04_GangTrue.j0 k t473 bt476.1 bt480.1 bt480.2 (!t485) l0_0 l0_1 a0_2 a2_0 a2_1))) else (if bt480.2 = 4 then ((macadamlaw04_mended.f k l0_0 l0_1 a0_2 t473).bind fun t486 => ((macadamref00_Like.f k bt476.1 t486).bind fun t489 => (macadamlaw04_GangTrue.j0 k t473 bt476.1 bt480.1 bt480.2 (!t489) l0_0 l0_1 a0_2 a2_0 a2_1))) else (macadamlaw04_GangTrue.j0 k t473 bt476.1 bt480.1 bt480.2 true l0_0 l0_1 a0_2 a2_0 a2_1))) else (macadamlaw04_GangTrue.j0 k t473 bt476.1 bt480.1 bt480.2 true l0_0 l0_1 a0_2 a2_0 a2_1))))) else ((macadamlaw04_shovelled.f).bind fun t472 => (some t472)))
def macadamlaw04_GangTrue.T17 : Bool × List (List Nat × List Nat) := (true, [([], []), ([0], [0]), ([], []), ([], []), ([2, 3], [2, 3]), ([4], [4]), ([5], [5]), ([1, 6], [1, 6]), ([7], [7]), ([8], [8]), ([], []), ([10, 9, 0, 1, 2, 3, 4, 5, 6, 7, 8, 9, 10], [9, 10])])
def macadamlaw04_GangTrue.B17 : List Nat := [0, 1, 0, 0, 12, 28, 60, 127, 255, 511, 0, 2047]
theorem macadamlaw04_GangTrue.tab17 : rtab .any (opsOf Tryd.f8 17) = macadamlaw04_GangTrue.T17 := by kernel_rfl
theorem macadamlaw04_GangTrue.bits17 : waitsOk macadamlaw04_GangTrue.T17.2 macadamlaw04_GangTrue.B17 = true := by kernel_rfl
def macadamlaw04_GangTrue.T18 : Bool × List (List Nat × List Nat) := (true, [([], []), ([], []), ([], []), ([2], [2]), ([], []), ([], []), ([4, 5], [4, 5]), ([6], [6]), ([7], [7]), ([3, 8], [3, 8]), ([1, 9], [1, 9]), ([0, 10], [0, 10]), ([], []), ([], []), ([13], [13]), ([12, 14], [12, 14]), ([], []), ([], []), ([17], [17]), ([16, 18], [16, 18]), ([11, 10, 0, 1, 2, 3, 4, 5, 6, 7, 8, 9, 10, 11], [0, 11]), ([15, 20, 0, 1, 2, 3, 4, 5, 6, 7, 8, 9, 10, 11, 12, 13, 14, 15, 20], [12, 15]), ([19, 21, 0, 1, 2, 3, 4, 5, 6, 7, 8, 9, 10, 11, 12, 13, 14, 15, 16, 17, 18, 19, 20, 21], [16, 19])])
def macadamlaw04_GangTrue.B18 : List Nat := [0, 0, 0, 4, 0, 0, 48, 112, 240, 508, 1022, 2047, 0, 0, 8192, 28672, 0, 0, 131072, 458752, 4095, 1114111, 4194303]
theorem macadamlaw04_GangTrue.tab18 : rtab .any (opsOf Tryd.f8 18) = macadamlaw04_GangTrue.T18 := by kernel_rfl
theorem macadamlaw04_GangTrue.bits18 : waitsOk macadamlaw04_GangTrue.T18.2 macadamlaw04_GangTrue.B18 = true := by kernel_rfl
def macadamlaw04_GangTrue.T19 : Bool × List (List Nat × List Nat) := (true, [([], []), ([0], [0]), ([], []), ([1, 2], [1, 2]), ([3], [3]), ([4], [4]), ([], []), ([6], [6]), ([], []), ([7, 8], [7, 8]), ([5, 9], [5, 9]), ([10, 10, 0, 1, 2, 3, 4, 5, 6, 7, 8, 9, 10], [10])])
def macadamlaw04_GangTrue.B19 : List Nat := [0, 1, 0, 7, 15, 31, 0, 64, 0, 448, 1023, 2047]
theorem macadamlaw04_GangTrue.tab19 : rtab .any (opsOf Tryd.f8 19) = macadamlaw04_GangTrue.T19 := by kernel_rfl
theorem macadamlaw04_GangTrue.bits19 : waitsOk macadamlaw04_GangTrue.T19.2 macadamlaw04_GangTrue.B19 = true := by kernel_rfl
def macadamlaw04_GangTrue.T21 : Bool × List (List Nat × List Nat) := (true, [([], []), ([0], [0]), ([1], [1]), ([2], [2]), ([2], [2]), ([2], [2]), ([4, 5, 2, 2], [2, 4, 5]), ([3, 6, 2], [2, 3, 6]), ([2, 7], [2, 7]), ([8, 6], [8]), ([9], [9]), ([9], [9]), ([10, 11, 9, 9], [9, 10, 11]), ([12, 9], [9, 12]), ([9, 13], [9, 13]), ([14, 12], [14]), ([15], [15]), ([16, 15, 15], [15, 16]), ([17], [17]), ([17], [17]), ([18, 19, 17], [17, 18, 19]), ([17, 20, 15], [15, 17, 20]), ([15, 21], [15, 21]), ([22, 17], [22]), ([23], [23]), ([24, 23], [23, 24]), ([25, 23, 23], [23, 25]), ([26], [26]), ([26], [26]), ([27, 28, 26], [26, 27, 28]), ([26, 29, 23], [23, 26, 29]), ([30, 26, 23], [23, 30]), ([31], [31]), ([32, 31], [31, 32]), ([31, 33, 23], [23, 31, 33]), ([23, 34], [23, 34])])
def macadamlaw04_GangTrue.B21 : List Nat := [0, 1, 3, 7, 7, 7, 55, 127, 255, 511, 1023, 1023, 4095, 8191, 16383, 32767, 65535, 131071, 262143, 262143, 1048575, 2097151, 4194303, 8388607, 16777215, 33554431, 67108863, 134217727, 134217727, 536870911, 1073741823, 2147483647, 4294967295, 8589934591, 17179869183, 34359738367]
theorem macadamlaw04_GangTrue.tab21 : rtab .any (opsOf Tryd.f8 21) = macadamlaw04_GangTrue.T21 := by kernel_rfl
theorem macadamlaw04_GangTrue.bits21 : waitsOk macadamlaw04_GangTrue.T21.2 macadamlaw04_GangTrue.B21 = true := by kernel_rfl
set_option maxHeartbeats 8000000 in
set_option maxRecDepth 100000 in
theorem macadamlaw04_GangTrue.calls (k : Nat) (A0_0 : Option Addr) (c0_0 : Nat) (l0_0 : List (S66)) (A0_1 : Option Addr) (c0_1 : Nat) (l0_1 : List (S63)) (a0_2 : Int) (A1 : Option Addr) (c1 : Nat) (l1 : List Int) (a2_0 : Int) (a2_1 : Int) (r : Bool) (w : World) (hr0_0 : Kd.C k66 w A0_0 l0_0.length l0_0) (hc0_0 : l0_0.length ≤ c0_0) (hr0_1 : Kd.C k63 w A0_1 l0_1.length l0_1) (hc0_1 : l0_1.length ≤ c0_1) (hr1 : Kd.C (Kd.int .i64) w A1 l1.length l1) (hc1 : l1.length ≤ c1) (hG : GV w) (h : macadamlaw04_GangTrue.f k l0_0 l0_1 a0_2 l1 a2_0 a2_1 = some r) :
  Calls Tryd.prog 8 #[.agg #[.slice A0_0 l0_0.length c0_0, .slice A0_1 l0_1.length c0_1, .int .i64 a0_2], .slice A1 l1.length c1, .agg #[.int .i64 a2_0, .int .i64 a2_1]] w fun e w' => e = .returned (.bool r) ∧ Below w.heap.size w w' := by
 have hu25 := Tryd.underlying25
 have hu68 := Tryd.underlying68
 have hu40 := Tryd.underlying40
 have HR0_0 := Aside0.mk hr0_0
 have HC0_0 := Aside0.mk hc0_0
 clear hr0_0 hc0_0
 have HR0_1 := Aside0.mk hr0_1
 have HC0_1 := Aside0.mk hc0_1
 clear hr0_1 hc0_1
 have HR1 := Aside0.mk hr1
 have HC1 := Aside0.mk hc1
 clear hr1 hc1
 have HB := Aside0.mk (Below.refl w.heap.size w)
 have HG := Aside0.mk hG
 clear hG
 have H : ((macadamlaw04_sound.f k l0_0 l0_1 a0_2).bind fun t471 => (if t471 = true then ((macadamlaw04_drawn.f k l0_0 l0_1 a0_2 l1).bind fun t473 => ((gang_Mended.f l0_0 l0_1 a0_2 t473).bind fun bt476 => ((gang_Open.f l0_0 l0_1 a0_2 t473).bind fun bt480 => (if bt476.2 = 0 then (if bt480.2 = 0 then ((macadamlaw04_mended.f k l0_0 l0_1 a0_2 t473).bind fun t482 => ((macadamref00_Like.f k bt476.1 t482).bind fun t485 => (macadamlaw04_GangTrue.j0 k t473 bt476.1 bt480.1 bt480.2 (!t485) l0_0 l0_1 a0_2 a2_0 a2_1))) else (if bt480.2 = 4 then ((macadamlaw04_mended.f k l0_0 l0_1 a0_2 t473).bind fun t486 => ((macadamref00_Like.f k bt476.1 t486).bind fun t489 => (macadamlaw04_GangTrue.j0 k t473 bt476.1 bt480.1 bt480.2 (!t489) l0_0 l0_1 a0_2 a2_0 a2_1))) else (macadamlaw04_GangTrue.j0 k t473 bt476.1 bt480.1 bt480.2 true l0_0 l0_1 a0_2 a2_0 a2_1))) else (macadamlaw04_GangTrue.j0 k t473 bt476.1 bt480.1 bt480.2 true l0_0 l0_1 a0_2 a2_0 a2_1))))) else ((macadamlaw04_shovelled.f).bind fun t472 => (some t472)))) = some r := h
 clear h
 replace H := Option.bind_eq_some_iff.mp H
 obtain ⟨t471, A40, H⟩ := H
 replace H : (if t471 = true then ((macadamlaw04_drawn.f k l0_0 l0_1 a0_2 l1).bind fun t473 => ((gang_Mended.f l0_0 l0_1 a0_2 t473).bind fun bt476 => ((gang_Open.f l0_0 l0_1 a0_2 t473).bind fun bt480 => (if bt476.2 = 0 then (if bt480.2 = 0 then ((macadamlaw04_mended.f k l0_0 l0_1 a0_2 t473).bind fun t482 => ((macadamref00_Like.f k bt476.1 t482).bind fun t485 => (macadamlaw04_GangTrue.j0 k t473 bt476.1 bt480.1 bt480.2 (!t485) l0_0 l0_1 a0_2 a2_0 a2_1))) else (if bt480.2 = 4 then ((macadamlaw04_mended.f k l0_0 l0_1 a0_2 t473).bind fun t486 => ((macadamref00_Like.f k bt476.1 t486).bind fun t489 => (macadamlaw04_GangTrue.j0 k t473 bt476.1 bt480.1 bt480.2 (!t489) l0_0 l0_1 a0_2 a2_0 a2_1))) else (macadamlaw04_GangTrue.j0 k t473 bt476.1 bt480.1 bt480.2 true l0_0 l0_1 a0_2 a2_0 a2_1))) else (macadamlaw04_GangTrue.j0 k t473 bt476.1 bt480.1 bt480.2 true l0_0 l0_1 a0_2 a2_0 a2_1))))) else ((macadamlaw04_shovelled.f).bind fun t472 => (some t472))) = some r := H
 have A4 := Aside0.mk A40
 clear A40
 by_cases c5 : t471 = true
 ·as_aux_lemma =>
  subst c5
  have H1 : ((macadamlaw04_drawn.f k l0_0 l0_1 a0_2 l1).bind fun t473 => ((gang_Mended.f l0_0 l0_1 a0_2 t473).bind fun bt476 => ((gang_Open.f l0_0 l0_1 a0_2 t473).bind fun bt480 => (if bt476.2 = 0 then (if bt480.2 = 0 then ((macadamlaw04_mended.f k l0_0 l0_1 a0_2 t473).bind fun t482 => ((macadamref00_Like.f k bt476.1 t482).bind fun t485 => (macadamlaw04_GangTrue.j0 k t473 bt476.1 bt480.1 bt480.2 (!t485) l0_0 l0_1 a0_2 a2_0 a2_1))) else (if bt480.2 = 4 then ((macadamlaw04_mended.f k l0_0 l0_1 a0_2 t473).bind fun t486 => ((macadamref00_Like.f k bt476.1 t486).bind fun t489 => (macadamlaw04_GangTrue.j0 k t473 bt476.1 bt480.1 bt480.2 (!t489) l0_0 l0_1 a0_2 a2_0 a2_1))) else (macadamlaw04_GangTrue.j0 k t473 bt476.1 bt480.1 bt480.2 true l0_0 l0_1 a0_2 a2_0 a2_1))) else (macadamlaw04_GangTrue.j0 k t473 bt476.1 bt480.1 bt480.2 true l0_0 l0_1 a0_2 a2_0 a2_1))))) = some r := by rw [if_pos rfl] at H; exact H
  clear H
  have H := H1
  clear H1
  replace H := Option.bind_eq_some_iff.mp H
  obtain ⟨t473, A60, H⟩ := H
  replace H : ((gang_Mended.f l0_0 l0_1 a0_2 t473).bind fun bt476 => ((gang_Open.f l0_0 l0_1 a0_2 t473).bind fun bt480 => (if bt476.2 = 0 then (if bt480.2 = 0 then ((macadamlaw04_mended.f k l0_0 l0_1 a0_2 t473).bind fun t482 => ((macadamref00_Like.f k bt476.1 t482).bind fun t485 => (macadamlaw04_GangTrue.j0 k t473 bt476.1 bt480.1 bt480.2 (!t485) l0_0 l0_1 a0_2 a2_0 a2_1))) else (if bt480.2 = 4 then ((macadamlaw04_mended.f k l0_0 l0_1 a0_2 t473).bind fun t486 => ((macadamref00_Like.f k bt476.1 t486).bind fun t489 => (macadamlaw04_GangTrue.j0 k t473 bt476.1 bt480.1 bt480.2 (!t489) l0_0 l0_1 a0_2 a2_0 a2_1))) else (macadamlaw04_GangTrue.j0 k t473 bt476.1 bt480.1 bt480.2 true l0_0 l0_1 a0_2 a2_0 a2_1))) else (macadamlaw04_GangTrue.j0 k t473 bt476.1 bt480.1 bt480.2 true l0_0 l0_1 a0_2 a2_0 a2_1)))) = some r := H
  have A6 := Aside0.mk A60
  clear A60
  replace H := Option.bind_eq_some_iff.mp H
  obtain ⟨⟨t476, t479⟩, A70, H⟩ := H
  replace H : ((gang_Open.f l0_0 l0_1 a0_2 t473).bind fun bt480 => (if t479 = 0 then (if bt480.2 = 0 then ((macadamlaw04_mended.f k l0_0 l0_1 a0_2 t473).bind fun t482 => ((macadamref00_Like.f k t476 t482).bind fun t485 => (macadamlaw04_GangTrue.j0 k t473 t476 bt480.1 bt480.2 (!t485) l0_0 l0_1 a0_2 a2_0 a2_1))) else (if bt480.2 = 4 then ((macadamlaw04_mended.f k l0_0 l0_1 a0_2 t473).bind fun t486 => ((macadamref00_Like.f k t476 t486).bind fun t489 => (macadamlaw04_GangTrue.j0 k t473 t476 bt480.1 bt480.2 (!t489) l0_0 l0_1 a0_2 a2_0 a2_1))) else (macadamlaw04_GangTrue.j0 k t473 t476 bt480.1 bt480.2 true l0_0 l0_1 a0_2 a2_0 a2_1))) else (macadamlaw04_GangTrue.j0 k t473 t476 bt480.1 bt480.2 true l0_0 l0_1 a0_2 a2_0 a2_1))) = some r := H
  have A7 := Aside0.mk A70
  clear A70
  replace H := Option.bind_eq_some_iff.mp H
  obtain ⟨⟨t480, t481⟩, A80, H⟩ := H
  replace H : (if t479 = 0 then (if t481 = 0 then ((macadamlaw04_mended.f k l0_0 l0_1 a0_2 t473).bind fun t482 => ((macadamref00_Like.f k t476 t482).bind fun t485 => (macadamlaw04_GangTrue.j0 k t473 t476 t480 t481 (!t485) l0_0 l0_1 a0_2 a2_0 a2_1))) else (if t481 = 4 then ((macadamlaw04_mended.f k l0_0 l0_1 a0_2 t473).bind fun t486 => ((macadamref00_Like.f k t476 t486).bind fun t489 => (macadamlaw04_GangTrue.j0 k t473 t476 t480 t481 (!t489) l0_0 l0_1 a0_2 a2_0 a2_1))) else (macadamlaw04_GangTrue.j0 k t473 t476 t480 t481 true l0_0 l0_1 a0_2 a2_0 a2_1))) else (macadamlaw04_GangTrue.j0 k t473 t476 t480 t481 true l0_0 l0_1 a0_2 a2_0 a2_1)) = some r := H
  have A8 := Aside0.mk A80
  clear A80
  have HC9 := Aside0.mk H
  clear H
  go_enter Tryd.func8, Tryd.ntmps8
  go_upto_region 6 with (first | ((with_reducible refine gate_dst (N := 3) rfl ?_); refine bx 3 #[.slice A0_0 l0_0.length c0_0, .slice A0_1 l0_1.length c0_1, .int .i64 a0_2] 25 ?_; intro gb469 hg w10 hbox hb; have n0_ := Aside0.mk (below_step (bw HB) hb); have n1_ := Aside0.mk (hbox); have n2_ := Aside0.mk (bz (bw HB) hg); have n3_ := Aside0.mk (bz (bw HB) hg); clear HB; have HB := n0_; have BK469 := n1_; have GW469 := n2_; have GE469 := n3_; clear n0_ n1_ n2_ n3_; clear hb hbox hg) | ((with_reducible refine gate_dst (N := 5) rfl ?_); refine bx 5 #[.int .i64 a2_0, .int .i64 a2_1] 68 ?_; intro gb470 hg w11 hbox hb; have n0_ := Aside0.mk (blk_below (bm BK469) hb); have n1_ := Aside0.mk (below_step (bw1 HB GE469) hb); have n2_ := Aside0.mk (hbox); have n3_ := Aside0.mk (bz (bw1 HB GE469) hg); have n4_ := Aside0.mk (bz (bw1 HB GE469) hg); have n5_ := Aside0.mk (bl (bm BK469) hg); have n6_ := Aside0.mk (bg (bm BK469) hg); clear BK469; clear HB; have BK469 := n0_; have HB := n1_; have BK470 := n2_; have GW470 := n3_; have GE470 := n4_; have NB469_470 := n5_; have NB470_469 := n6_; clear n0_ n1_ n2_ n3_ n4_ n5_ n6_; clear hb hbox hg; have hnb12 := NB469_470.out; have hnc12 := NB470_469.out; obtain ⟨hcz13_0, hcz13_1, hcz13_2, hfz13_0, hfz13_1, hfz13_2⟩ := b3 BK469) | ((with_reducible refine gate_callee (f := 38) rfl ?_); refine gL (some 23) Tryd.func38 #[.agg #[.slice A0_0 l0_0.length c0_0, .slice A0_1 l0_1.length c0_1, .int .i64 a0_2]] ?_; (with_reducible refine (macadamlaw04_sound.calls k _ _ l0_0 _ _ l0_1 a0_2 true _ ?side1 ?side2 ?side3 ?side4 A4.out).mono ?_); (case side1 => repeat (first | exact (Kd.C_below HR0_0.out HB.out) | (with_reducible refine Kd.C_alloc ?_ _) | (with_reducible refine Kd.C_drewN ?_ _) | (with_reducible refine Kd.C_drew ?_))); (case side2 => exact HC0_0.out); (case side3 => repeat (first | exact (Kd.C_below HR0_1.out HB.out) | (with_reducible refine Kd.C_alloc ?_ _) | (with_reducible refine Kd.C_drewN ?_ _) | (with_reducible refine Kd.C_drew ?_))); (case side4 => exact HC0_1.out); rintro e w14 ⟨rfl, hb⟩; refine ⟨_, rfl, ?_⟩; have n0_ := Aside0.mk (blk_below (bm BK469) hb); have n1_ := Aside0.mk (blk_below (bm BK470) hb); have n2_ := Aside0.mk (below_step (bw2 HB GE469 GE470) hb); clear BK469; clear BK470; clear HB; have BK469 := n0_; have BK470 := n1_; have HB := n2_; clear n0_ n1_ n2_; (try clear hb); (try clear hb2); (try clear hk); (try clear hi); obtain ⟨hcz15_0, hcz15_1, hcz15_2, hfz15_0, hfz15_1, hfz15_2⟩ := b3 BK469) | ((with_reducible refine gate_callee (f := 47) rfl ?_); refine gL (some 28) Tryd.func47 #[.agg #[.slice A0_0 l0_0.length c0_0, .slice A0_1 l0_1.length c0_1, .int .i64 a0_2], .slice A1 l1.length c1] ?_; (with_reducible refine (macadamlaw04_drawn.calls k _ _ l0_0 _ _ l0_1 a0_2 _ _ l1 t473 _ ?side1 ?side2 ?side3 ?side4 ?side5 ?side6 A6.out).mono ?_); (case side1 => repeat (first | exact (Kd.C_below HR0_0.out HB.out) | (with_reducible refine Kd.C_alloc ?_ _) | (with_reducible refine Kd.C_drewN ?_ _) | (with_reducible refine Kd.C_drew ?_))); (case side2 => exact HC0_0.out); (case side3 => repeat (first | exact (Kd.C_below HR0_1.out HB.out) | (with_reducible refine Kd.C_alloc ?_ _) | (with_reducible refine Kd.C_drewN ?_ _) | (with_reducible refine Kd.C_drew ?_))); (case side4 => exact HC0_1.out); (case side5 => repeat (first | exact (Kd.C_below HR1.out HB.out) | (with_reducible refine Kd.C_alloc ?_ _) | (with_reducible refine Kd.C_drewN ?_ _) | (with_reducible refine Kd.C_drew ?_))); (case side6 => exact HC1.out); rintro e w16 ⟨v474, rfl, ho0, hb⟩; refine ⟨_, rfl, ?_⟩; have n0_ := Aside0.mk (Kd.R_lower ho0 (below_size (bw2 HB GE469 GE470))); have n1_ := Aside0.mk (blk_below (bm BK469) hb); have n2_ := Aside0.mk (blk_below (bm BK470) hb); have n3_ := Aside0.mk (below_step (bw2 HB GE469 GE470) hb); clear BK469; clear BK470; clear HB; have HO475 := n0_; have BK469 := n1_; have BK470 := n2_; have HB := n3_; clear n0_ n1_ n2_ n3_; (try clear hb); (try clear hb2); (try clear hk); (try clear hi); (try clear ho0); obtain ⟨hcz17_0, hcz17_1, hcz17_2, hfz17_0, hfz17_1, hfz17_2⟩ := b3 BK469; obtain ⟨Ao18, co18, eo18⟩ := Kd.R_slice HO475.out; subst eo18) | ((with_reducible refine gate_callee (f := 27) rfl ?_); refine gL (some 32) Tryd.func27 #[.agg #[.slice A0_0 l0_0.length c0_0, .slice A0_1 l0_1.length c0_1, .int .i64 a0_2], .slice Ao18 t473.length co18] ?_; (with_reducible refine (gang_Mended.calls _ _ l0_0 _ _ l0_1 a0_2 _ _ t473 t476 t479 _ ?side1 ?side2 ?side3 ?side4 ?side5 ?side6 ?side7 A7.out).mono ?_); (case side1 => repeat (first | exact (Kd.C_below HR0_0.out HB.out) | (with_reducible refine Kd.C_alloc ?_ _) | (with_reducible refine Kd.C_drewN ?_ _) | (with_reducible refine Kd.C_drew ?_))); (case side2 => exact HC0_0.out); (case side3 => repeat (first | exact (Kd.C_below HR0_1.out HB.out) | (with_reducible refine Kd.C_alloc ?_ _) | (with_reducible refine Kd.C_drewN ?_ _) | (with_reducible refine Kd.C_drew ?_))); (case side4 => exact HC0_1.out); (case side5 => repeat (first | exact (Kd.R_reads' HO475.out).2.2 | (with_reducible refine Kd.C_alloc ?_ _) | (with_reducible refine Kd.C_drewN ?_ _) | (with_reducible refine Kd.C_drew ?_))); (case side6 => exact (Kd.R_reads' HO475.out).2.1); (case side7 => exact gv_below HG.out (bw2 HB GE469 GE470)); rintro e w19 ⟨v477, rfl, ho0, hb⟩; refine ⟨_, rfl, ?_⟩; have n0_ := Aside0.mk (Kd.R_below (by (with_reducible repeat (first | apply Kd.R_alloc | apply Kd.R_drewN | apply Kd.R_drew)); exact HO475.out) hb); have n1_ := Aside0.mk (Kd.V_lower (Kd.V_mono (ok' := fun k_ => some k_ ≠ (.slice Ao18 t473.length co18 : Value).ownBlock ∧ k_ ≠ gb469 ∧ k_ ≠ gb470) ho0 (fun k_ hk_ => ⟨(Kd.fresh' (Kd.R_lt (by (with_reducible repeat (first | apply Kd.R_alloc | apply Kd.R_drewN | apply Kd.R_drew)); exact HO475.out)) k_ hk_), (Kd.freshB (g := gb469) (o := .cells #[.slice A0_0 l0_0.length c0_0, .slice A0_1 l0_1.length c0_1, .int .i64 a0_2] 25 (0, 0)) (bm BK469) k_ hk_), (Kd.freshB (g := gb470) (o := .cells #[.int .i64 a2_0, .int .i64 a2_1] 68 (0, 0)) (bm BK470) k_ hk_)⟩)) (below_size (bw2 HB GE469 GE470))); have n2_ := Aside0.mk (blk_below (bm BK469) hb); have n3_ := Aside0.mk (blk_below (bm BK470) hb); have n4_ := Aside0.mk (below_step (bw2 HB GE469 GE470) hb); clear HO475; clear BK469; clear BK470; clear HB; have HO475 := n0_; have HO478 := n1_; have BK469 := n2_; have BK470 := n3_; have HB := n4_; clear n0_ n1_ n2_ n3_ n4_; (try clear hb); (try clear hb2); (try clear hk); (try clear hi); (try clear ho0); obtain ⟨hcz20_0, hcz20_1, hcz20_2, hfz20_0, hfz20_1, hfz20_2⟩ := b3 BK469) | ((with_reducible refine gate_callee (f := 29) rfl ?_); refine gL (some 38) Tryd.func29 #[.agg #[.slice A0_0 l0_0.length c0_0, .slice A0_1 l0_1.length c0_1, .int .i64 a0_2], .slice Ao18 t473.length co18] ?_; (with_reducible refine (gang_Open.calls _ _ l0_0 _ _ l0_1 a0_2 _ _ t473 t480 t481 _ ?side1 ?side2 ?side3 ?side4 ?side5 ?side6 ?side7 A8.out).mono ?_); (case side1 => repeat (first | exact (Kd.C_below HR0_0.out HB.out) | (with_reducible refine Kd.C_alloc ?_ _) | (with_reducible refine Kd.C_drewN ?_ _) | (with_reducible refine Kd.C_drew ?_))); (case side2 => exact HC0_0.out); (case side3 => repeat (first | exact (Kd.C_below HR0_1.out HB.out) | (with_reducible refine Kd.C_alloc ?_ _) | (with_reducible refine Kd.C_drewN ?_ _) | (with_reducible refine Kd.C_drew ?_))); (case side4 => exact HC0_1.out); (case side5 => repeat (first | exact (Kd.R_reads' HO475.out).2.2 | (with_reducible refine Kd.C_alloc ?_ _) | (with_reducible refine Kd.C_drewN ?_ _) | (with_reducible refine Kd.C_drew ?_))); (case side6 => exact (Kd.R_reads' HO475.out).2.1); (case side7 => exact gv_below HG.out (bw2 HB GE469 GE470)); rintro e w21 ⟨rfl, hb⟩; refine ⟨_, rfl, ?_⟩; have n0_ := Aside0.mk (Kd.R_below (by (with_reducible repeat (first | apply Kd.R_alloc | apply Kd.R_drewN | apply Kd.R_drew)); exact HO475.out) hb); have n1_ := Aside0.mk (Kd.V_below (by (with_reducible repeat (first | apply Kd.V_alloc | apply Kd.V_drewN | apply Kd.V_drew)); exact HO478.out) hb); have n2_ := Aside0.mk (blk_below (bm BK469) hb); have n3_ := Aside0.mk (blk_below (bm BK470) hb); have n4_ := Aside0.mk (below_step (bw2 HB GE469 GE470) hb); clear HO475; clear HO478; clear BK469; clear BK470; clear HB; have HO475 := n0_; have HO478 := n1_; have BK469 := n2_; have BK470 := n3_; have HB := n4_; clear n0_ n1_ n2_ n3_ n4_; (try clear hb); (try clear hb2); (try clear hk); (try clear hi)))
  (try simp only [Act.put, List.setIfInBounds_toArray, List.set_cons_zero, List.set_cons_succ])
  go_cut [58] (fun v58 wc => ∃ (kq : Nat) (x58_8 : Bool), v58 = .bool x58_8 ∧ Aside0 (macadamlaw04_GangTrue.j0 kq t473 t476 t480 t481 x58_8 l0_0 l0_1 a0_2 a2_0 a2_1 = some r) ∧ Aside0 (kq ≤ k) ∧ Aside0 (Kd.R k59 59 wc w.heap.size (fun _ => True) (.slice Ao18 t473.length co18) t473) ∧ Aside0 (Kd.V (Kd.int .i64) 3 wc w.heap.size (fun k_ => some k_ ≠ ((.slice Ao18 t473.length co18) : Value).ownBlock ∧ k_ ≠ gb469 ∧ k_ ≠ gb470) v477 t476) ∧ Aside0 (wc.heap[gb469]? = some (.cells #[(.slice A0_0 l0_0.length c0_0), (.slice A0_1 l0_1.length c0_1), .int .i64 a0_2] 25 (0, 0))) ∧ Aside0 (wc.heap[gb470]? = some (.cells #[.int .i64 a2_0, .int .i64 a2_1] 68 (0, 0))) ∧ Aside0 (Below w.heap.size w wc))
  case first =>
   have H := HC9.out
   clear HC9
   by_cases c22 : t479 = 0
   ·as_aux_lemma =>
    rw [if_pos c22] at H
    have c22b0 : (t479 == 0) = true := beq_iff_eq.mpr c22
    have c22b1 : (t479 != 0) = false := bne_eq_false_iff_eq.mpr c22
    clear c22
    (first | rw [c22b0] | (simp only [i64_w, i32_w]; rw [c22b0]) | skip)
    by_cases c23 : t481 = 0
    ·as_aux_lemma =>
     rw [if_pos c23] at H
     have c23b0 : (t481 == 0) = true := beq_iff_eq.mpr c23
     have c23b1 : (t481 != 0) = false := bne_eq_false_iff_eq.mpr c23
     clear c23
     replace H := Option.bind_eq_some_iff.mp H
     obtain ⟨t482, A240, H⟩ := H
     replace H : ((macadamref00_Like.f k t476 t482).bind fun t485 => (macadamlaw04_GangTrue.j0 k t473 t476 t480 t481 (!t485) l0_0 l0_1 a0_2 a2_0 a2_1)) = some r := H
     have A24 := Aside0.mk A240
     clear A240
     replace H := Option.bind_eq_some_iff.mp H
     obtain ⟨t485, A250, H⟩ := H
     replace H : (macadamlaw04_GangTrue.j0 k t473 t476 t480 t481 (!t485) l0_0 l0_1 a0_2 a2_0 a2_1) = some r := H
     have A25 := Aside0.mk A250
     clear A250
     have H' := Aside0.mk H
     clear H
     have hnb26 := NB469_470.out
     have hnc26 := NB470_469.out
     obtain ⟨hcz27_0, hcz27_1, hcz27_2, hfz27_0, hfz27_1, hfz27_2⟩ := b3 BK469
     go_wp2_with (first | (go_at_call 48; (with_reducible refine (macadamlaw04_mended.calls k _ _ l0_0 _ _ l0_1 a0_2 _ _ t473 t482 _ ?side1 ?side2 ?side3 ?side4 ?side5 ?side6 A24.out).mono ?_); (case side1 => repeat (first | exact (Kd.C_below HR0_0.out HB.out) | (with_reducible refine Kd.C_alloc ?_ _) | (with_reducible refine Kd.C_drewN ?_ _) | (with_reducible refine Kd.C_drew ?_))); (case side2 => exact HC0_0.out); (case side3 => repeat (first | exact (Kd.C_below HR0_1.out HB.out) | (with_reducible refine Kd.C_alloc ?_ _) | (with_reducible refine Kd.C_drewN ?_ _) | (with_reducible refine Kd.C_drew ?_))); (case side4 => exact HC0_1.out); (case side5 => repeat (first | exact (Kd.R_reads' HO475.out).2.2 | (with_reducible refine Kd.C_alloc ?_ _) | (with_reducible refine Kd.C_drewN ?_ _) | (with_reducible refine Kd.C_drew ?_))); (case side6 => exact (Kd.R_reads' HO475.out).2.1); rintro e w28 ⟨v483, rfl, ho0, hb⟩; have n0_ := Aside0.mk (Kd.R_below (by (with_reducible repeat (first | apply Kd.R_alloc | apply Kd.R_drewN | apply Kd.R_drew)); exact HO475.out) hb); have n1_ := Aside0.mk (Kd.V_elder' (by (with_reducible repeat (first | apply Kd.V_alloc | apply Kd.V_drewN | apply Kd.V_drew)); exact HO478.out) (Kd.R_base ho0) hb); have n2_ := Aside0.mk (Kd.R_lower ho0 (below_size (bw2 HB GE469 GE470))); have n3_ := Aside0.mk (blk_below (bm BK469) hb); have n4_ := Aside0.mk (blk_below (bm BK470) hb); have n5_ := Aside0.mk (below_step (bw2 HB GE469 GE470) hb); clear HO475; clear HO478; clear BK469; clear BK470; clear HB; have HO475 := n0_; have HO478 := n1_; have HO484 := n2_; have BK469 := n3_; have BK470 := n4_; have HB := n5_; clear n0_ n1_ n2_ n3_ n4_ n5_; (try clear hb); (try clear hb2); (try clear hk); (try clear hi); (try clear ho0); obtain ⟨Ao29, co29, eo29⟩ := Kd.V_slice HO478.out; subst eo29; obtain ⟨Ao30, co30, eo30⟩ := Kd.R_slice HO484.out; subst eo30) | (go_at_call 17; (with_reducible refine (macadamref00_Like.calls k _ _ t476 _ _ t482 t485 _ ?side1 ?side2 ?side3 ?side4 A25.out).mono ?_); (case side1 => repeat (first | exact (Kd.V_reads' HO478.out).2.2 | (with_reducible refine Kd.C_alloc ?_ _) | (with_reducible refine Kd.C_drewN ?_ _) | (with_reducible refine Kd.C_drew ?_))); (case side2 => exact (Kd.V_reads' HO478.out).2.1); (case side3 => repeat (first | exact (Kd.R_reads' HO484.out).2.2 | (with_reducible refine Kd.C_alloc ?_ _) | (with_reducible refine Kd.C_drewN ?_ _) | (with_reducible refine Kd.C_drew ?_))); (case side4 => exact (Kd.R_reads' HO484.out).2.1); rintro e w' ⟨rfl, ⟨nd, rfl⟩⟩))
     go_meet
     case rel => exact ⟨_, (!t485), (by first | rfl | (simp; done) | (simp [*]; done)), H', ⟨by first | omega | exact Nat.le_refl _⟩, ⟨by (with_reducible repeat (first | apply Kd.R_alloc | apply Kd.R_drewN | apply Kd.R_drew)); exact HO475.out⟩, ⟨by (with_reducible repeat (first | apply Kd.V_alloc | apply Kd.V_drewN | apply Kd.V_drew)); exact Kd.V_mono HO478.out (fun _ hk => ⟨hk.1.1, ⟨hk.1.2.1, hk.1.2.2⟩⟩)⟩, ⟨bm BK469⟩, ⟨bm BK470⟩, ⟨bw2 HB GE469 GE470⟩⟩
    ·as_aux_lemma =>
     rw [if_neg c23] at H
     have c23b0 : (t481 == 0) = false := beq_eq_false_iff_ne.mpr c23
     have c23b1 : (t481 != 0) = true := bne_iff_ne.mpr c23
     by_cases c31 : t481 = 4
     ·as_aux_lemma =>
      rw [if_pos c31] at H
      have c31b0 : (t481 == 4) = true := beq_iff_eq.mpr c31
      have c31b1 : (t481 != 4) = false := bne_eq_false_iff_eq.mpr c31
      clear c31
      replace H := Option.bind_eq_some_iff.mp H
      obtain ⟨t486, A320, H⟩ := H
      replace H : ((macadamref00_Like.f k t476 t486).bind fun t489 => (macadamlaw04_GangTrue.j0 k t473 t476 t480 t481 (!t489) l0_0 l0_1 a0_2 a2_0 a2_1)) = some r := H
      have A32 := Aside0.mk A320
      clear A320
      replace H := Option.bind_eq_some_iff.mp H
      obtain ⟨t489, A330, H⟩ := H
      replace H : (macadamlaw04_GangTrue.j0 k t473 t476 t480 t481 (!t489) l0_0 l0_1 a0_2 a2_0 a2_1) = some r := H
      have A33 := Aside0.mk A330
      clear A330
      have H' := Aside0.mk H
      clear H
      have hnb34 := NB469_470.out
      have hnc34 := NB470_469.out
      obtain ⟨hcz35_0, hcz35_1, hcz35_2, hfz35_0, hfz35_1, hfz35_2⟩ := b3 BK469
      go_wp2_with (first | (go_at_call 48; (with_reducible refine (macadamlaw04_mended.calls k _ _ l0_0 _ _ l0_1 a0_2 _ _ t473 t486 _ ?side1 ?side2 ?side3 ?side4 ?side5 ?side6 A32.out).mono ?_); (case side1 => repeat (first | exact (Kd.C_below HR0_0.out HB.out) | (with_reducible refine Kd.C_alloc ?_ _) | (with_reducible refine Kd.C_drewN ?_ _) | (with_reducible refine Kd.C_drew ?_))); (case side2 => exact HC0_0.out); (case side3 => repeat (first | exact (Kd.C_below HR0_1.out HB.out) | (with_reducible refine Kd.C_alloc ?_ _) | (with_reducible refine Kd.C_drewN ?_ _) | (with_reducible refine Kd.C_drew ?_))); (case side4 => exact HC0_1.out); (case side5 => repeat (first | exact (Kd.R_reads' HO475.out).2.2 | (with_reducible refine Kd.C_alloc ?_ _) | (with_reducible refine Kd.C_drewN ?_ _) | (with_reducible refine Kd.C_drew ?_))); (case side6 => exact (Kd.R_reads' HO475.out).2.1); rintro e w36 ⟨v487, rfl, ho0, hb⟩; have n0_ := Aside0.mk (Kd.R_below (by (with_reducible repeat (first | apply Kd.R_alloc | apply Kd.R_drewN | apply Kd.R_drew)); exact HO475.out) hb); have n1_ := Aside0.mk (Kd.V_elder' (by (with_reducible repeat (first | apply Kd.V_alloc | apply Kd.V_drewN | apply Kd.V_drew)); exact HO478.out) (Kd.R_base ho0) hb); have n2_ := Aside0.mk (Kd.R_lower ho0 (below_size (bw2 HB GE469 GE470))); have n3_ := Aside0.mk (blk_below (bm BK469) hb); have n4_ := Aside0.mk (blk_below (bm BK470) hb); have n5_ := Aside0.mk (below_step (bw2 HB GE469 GE470) hb); clear HO475; clear HO478; clear BK469; clear BK470; clear HB; have HO475 := n0_; have HO478 := n1_; have HO488 := n2_; have BK469 := n3_; have BK470 := n4_; have HB := n5_; clear n0_ n1_ n2_ n3_ n4_ n5_; (try clear hb); (try clear hb2); (try clear hk); (try clear hi); (try clear ho0); obtain ⟨Ao37, co37, eo37⟩ := Kd.V_slice HO478.out; subst eo37; obtain ⟨Ao38, co38, eo38⟩ := Kd.R_slice HO488.out; subst eo38) | (go_at_call 17; (with_reducible refine (macadamref00_Like.calls k _ _ t476 _ _ t486 t489 _ ?side1 ?side2 ?side3 ?side4 A33.out).mono ?_); (case side1 => repeat (first | exact (Kd.V_reads' HO478.out).2.2 | (with_reducible refine Kd.C_alloc ?_ _) | (with_reducible refine Kd.C_drewN ?_ _) | (with_reducible refine Kd.C_drew ?_))); (case side2 => exact (Kd.V_reads' HO478.out).2.1); (case side3 => repeat (first | exact (Kd.R_reads' HO488.out).2.2 | (with_reducible refine Kd.C_alloc ?_ _) | (with_reducible refine Kd.C_drewN ?_ _) | (with_reducible refine Kd.C_drew ?_))); (case side4 => exact (Kd.R_reads' HO488.out).2.1); rintro e w' ⟨rfl, ⟨nd, rfl⟩⟩))
      go_meet
      case rel => exact ⟨_, (!t489), (by first | rfl | (simp; done) | (simp [*]; done)), H', ⟨by first | omega | exact Nat.le_refl _⟩, ⟨by (with_reducible repeat (first | apply Kd.R_alloc | apply Kd.R_drewN | apply Kd.R_drew)); exact HO475.out⟩, ⟨by (with_reducible repeat (first | apply Kd.V_alloc | apply Kd.V_drewN | apply Kd.V_drew)); exact Kd.V_mono HO478.out (fun _ hk => ⟨hk.1.1, ⟨hk.1.2.1, hk.1.2.2⟩⟩)⟩, ⟨bm BK469⟩, ⟨bm BK470⟩, ⟨bw2 HB GE469 GE470⟩⟩
     ·as_aux_lemma =>
      rw [if_neg c31] at H
      have c31b0 : (t481 == 4) = false := beq_eq_false_iff_ne.mpr c31
      have c31b1 : (t481 != 4) = true := bne_iff_ne.mpr c31
      have H' := Aside0.mk H
      clear H
      go_wp2
      go_meet
      case rel => exact ⟨_, (true), (by first | rfl | (simp; done) | (simp [*]; done)), H', ⟨by first | omega | exact Nat.le_refl _⟩, ⟨by (with_reducible repeat (first | apply Kd.R_alloc | apply Kd.R_drewN | apply Kd.R_drew)); exact HO475.out⟩, ⟨by (with_reducible repeat (first | apply Kd.V_alloc | apply Kd.V_drewN | apply Kd.V_drew)); exact HO478.out⟩, ⟨bm BK469⟩, ⟨bm BK470⟩, ⟨bw2 HB GE469 GE470⟩⟩
   ·as_aux_lemma =>
    rw [if_neg c22] at H
    have c22b0 : (t479 == 0) = false := beq_eq_false_iff_ne.mpr c22
    have c22b1 : (t479 != 0) = true := bne_iff_ne.mpr c22
    (first | rw [c22b0] | (simp only [i64_w, i32_w]; rw [c22b0]) | skip)
    have H' := Aside0.mk H
    clear H
    go_wp2
    go_meet
    case rel => exact ⟨_, (true), (by first | rfl | (simp; done) | (simp [*]; done)), H', ⟨by first | omega | exact Nat.le_refl _⟩, ⟨by (with_reducible repeat (first | apply Kd.R_alloc | apply Kd.R_drewN | apply Kd.R_drew)); exact HO475.out⟩, ⟨by (with_reducible repeat (first | apply Kd.V_alloc | apply Kd.V_drewN | apply Kd.V_drew)); exact HO478.out⟩, ⟨bm BK469⟩, ⟨bm BK470⟩, ⟨bw2 HB GE469 GE470⟩⟩
  case rest =>
   clear HC9
   try clear c1
   try clear c2
   try clear p2
   try clear c3
   try clear c4
   try clear c5
   try clear c8
   try clear c12
   try clear c22
   try clear c22b0
   try clear c22b1
   try clear c23
   try clear c23b0
   try clear c23b1
   try clear c26
   try clear c27
   try clear c29
   try clear c31
   try clear c31b0
   try clear c31b1
   try clear c34
   try clear c38
   try clear hcz13_0
   try clear hcz13_1
   try clear hcz13_2
   try clear hcz15_0
   try clear hcz15_1
   try clear hcz15_2
   try clear hcz17_0
   try clear hcz17_1
   try clear hcz17_2
   try clear hcz20_0
   try clear hcz20_1
   try clear hcz20_2
   try clear hcz27_0
   try clear hcz27_1
   try clear hcz27_2
   try clear hcz35_0
   try clear hcz35_1
   try clear hcz35_2
   try clear hfz13_0
   try clear hfz13_1
   try clear hfz13_2
   try clear hfz15_0
   try clear hfz15_1
   try clear hfz15_2
   try clear hfz17_0
   try clear hfz17_1
   try clear hfz17_2
   try clear hfz20_0
   try clear hfz20_1
   try clear hfz20_2
   try clear hfz27_0
   try clear hfz27_1
   try clear hfz27_2
   try clear hfz35_0
   try clear hfz35_1
   try clear hfz35_2
   obtain ⟨kq, x58_8, rfl, HA, HJ8, HO_7, HO_8, BK469, BK470, HB⟩ := hcut
   cases kq with
   | zero => exact absurd HA.out (by simp [macadamlaw04_GangTrue.j0])
   | succ kj8 =>
    have H := HA.out
    clear HA
    simp only [macadamlaw04_GangTrue.j0] at H
    by_cases c39 : x58_8 = true
    ·as_aux_lemma =>
     subst c39
     have H1 : (some false) = some r := by rw [if_pos rfl] at H; exact H
     clear H
     have H := H1
     clear H1
     obtain rfl := Option.some.inj H
     go_wp2
     go_ret
     exact ⟨by first | rfl | (simp [errW_none, errW_some] <;> rfl) | (simp [*, errW_none, errW_some] <;> rfl), bw2 HB GE469 GE470⟩
    ·as_aux_lemma =>
     replace c39 := Bool.eq_false_iff.mpr c39
     subst c39
     have H1 : (macadamlaw04_GangTrue.l0 kj8 t473 t476 t480 t481 0 l0_0 l0_1 a0_2 a2_0 a2_1) = some r := by rw [if_neg (show ¬ (false = true) by decide)] at H; exact H
     clear H
     have H := H1
     clear H1
     have H' := Aside0.mk H
     clear H
     go_wp2
     go_loopg [12] kj8 (fun kq v12 w' => ∃ (x12_2 : Int), v12 = .int .i64 x12_2 ∧ Aside0 (macadamlaw04_GangTrue.l0 kq t473 t476 t480 t481 x12_2 l0_0 l0_1 a0_2 a2_0 a2_1 = some r) ∧ Aside0 (kq ≤ kj8) ∧ Aside0 (Kd.R k59 59 w' w.heap.size (fun _ => True) (.slice Ao18 t473.length co18) t473) ∧ Aside0 (Kd.V (Kd.int .i64) 3 w' w.heap.size (fun k_ => some k_ ≠ ((.slice Ao18 t473.length co18) : Value).ownBlock ∧ k_ ≠ gb469 ∧ k_ ≠ gb470) v477 t476) ∧ Aside0 (w'.heap[gb469]? = some (.cells #[(.slice A0_0 l0_0.length c0_0), (.slice A0_1 l0_1.length c0_1), .int .i64 a0_2] 25 (0, 0))) ∧ Aside0 (w'.heap[gb470]? = some (.cells #[.int .i64 a2_0, .int .i64 a2_1] 68 (0, 0))) ∧ Aside0 (Below w.heap.size w w'))
     case atStart => exact ⟨(0), (by first | rfl | (simp; done) | (simp [*]; done)), H', ⟨Nat.le_refl _⟩, ⟨by (with_reducible repeat (first | apply Kd.R_alloc | apply Kd.R_drewN | apply Kd.R_drew)); exact HO_7.out⟩, ⟨by (with_reducible repeat (first | apply Kd.V_alloc | apply Kd.V_drewN | apply Kd.V_drew)); exact HO_8.out⟩, ⟨bm BK469⟩, ⟨bm BK470⟩, ⟨bw2 HB GE469 GE470⟩⟩
     case round =>
      clear H'
      try clear c1
      try clear c2
      try clear p2
      try clear c3
      try clear c4
      try clear c5
      try clear c8
      try clear c12
      try clear c22
      try clear c22b0
      try clear c22b1
      try clear c23
      try clear c23b0
      try clear c23b1
      try clear c26
      try clear c27
      try clear c29
      try clear c31
      try clear c31b0
      try clear c31b1
      try clear c34
      try clear c38
      try clear c39
      try clear hcz13_0
      try clear hcz13_1
      try clear hcz13_2
      try clear hcz15_0
      try clear hcz15_1
      try clear hcz15_2
      try clear hcz17_0
      try clear hcz17_1
      try clear hcz17_2
      try clear hcz20_0
      try clear hcz20_1
      try clear hcz20_2
      try clear hcz27_0
      try clear hcz27_1
      try clear hcz27_2
      try clear hcz35_0
      try clear hcz35_1
      try clear hcz35_2
      try clear hfz13_0
      try clear hfz13_1
      try clear hfz13_2
      try clear hfz15_0
      try clear hfz15_1
      try clear hfz15_2
      try clear hfz17_0
      try clear hfz17_1
      try clear hfz17_2
      try clear hfz20_0
      try clear hfz20_1
      try clear hfz20_2
      try clear hfz27_0
      try clear hfz27_1
      try clear hfz27_2
      try clear hfz35_0
      try clear hfz35_1
      try clear hfz35_2
      try clear p2
      obtain ⟨x12_2, rfl, HA, HK2, HO_7, HO_8, BK469, BK470, HB⟩ := hrel
      cases gk with
      | zero => exact absurd HA.out (by simp [macadamlaw04_GangTrue.l0])
      | succ k2 =>
       have H := HA.out
       clear HA
       simp only [macadamlaw04_GangTrue.l0] at H
       by_cases c40 : x12_2 < (l0_0.length : Int)
       ·as_aux_lemma =>
        rw [if_pos c40] at H
        have c40b0 : decide (x12_2 < (l0_0.length : Int)) = true := decide_eq_true c40
        clear c40
        replace H := Option.bind_eq_some_iff.mp H
        obtain ⟨⟨t490, t491, t492⟩, A410, H⟩ := H
        replace H : (macadamlaw04_GangTrue.l1 k2 t473 t476 t480 t481 x12_2 t492 0 0 0 0 l0_0 l0_1 a0_2 a2_0 a2_1 t490 t491) = some r := H
        have A41 := Aside0.mk A410
        clear A410
        have H' := Aside0.mk H
        clear H
        have hnb42 := NB469_470.out
        have hnc42 := NB470_469.out
        obtain ⟨hcz43_0, hcz43_1, hcz43_2, hfz43_0, hfz43_1, hfz43_2⟩ := b3 BK469
        go_wp2_with (first | ((with_reducible refine gate_callee (f := 25) rfl ?_); refine gL (some 70) Tryd.func25 #[.agg #[.slice A0_0 l0_0.length c0_0, .slice A0_1 l0_1.length c0_1, .int .i64 a0_2], .slice Ao18 t473.length co18, .int .i64 x12_2] ?_; (with_reducible refine (gang_Done.calls _ _ l0_0 _ _ l0_1 a0_2 _ _ t473 x12_2 t490 t491 t492 _ ?side1 ?side2 ?side3 ?side4 ?side5 ?side6 ?side7 A41.out).mono ?_); (case side1 => repeat (first | exact (Kd.C_below HR0_0.out HB.out) | (with_reducible refine Kd.C_alloc ?_ _) | (with_reducible refine Kd.C_drewN ?_ _) | (with_reducible refine Kd.C_drew ?_))); (case side2 => exact HC0_0.out); (case side3 => repeat (first | exact (Kd.C_below HR0_1.out HB.out) | (with_reducible refine Kd.C_alloc ?_ _) | (with_reducible refine Kd.C_drewN ?_ _) | (with_reducible refine Kd.C_drew ?_))); (case side4 => exact HC0_1.out); (case side5 => repeat (first | exact (Kd.R_reads' HO_7.out).2.2 | (with_reducible refine Kd.C_alloc ?_ _) | (with_reducible refine Kd.C_drewN ?_ _) | (with_reducible refine Kd.C_drew ?_))); (case side6 => exact (Kd.R_reads' HO_7.out).2.1); (case side7 => exact gv_below HG.out (bw2 HB GE469 GE470)); rintro e w44 ⟨rfl, hb⟩; refine ⟨_, rfl, ?_⟩; have n0_ := Aside0.mk (Kd.R_below (by (with_reducible repeat (first | apply Kd.R_alloc | apply Kd.R_drewN | apply Kd.R_drew)); exact HO_7.out) hb); have n1_ := Aside0.mk (Kd.V_below (by (with_reducible repeat (first | apply Kd.V_alloc | apply Kd.V_drewN | apply Kd.V_drew)); exact HO_8.out) hb); have n2_ := Aside0.mk (blk_below (bm BK469) hb); have n3_ := Aside0.mk (blk_below (bm BK470) hb); have n4_ := Aside0.mk (below_step (bw2 HB GE469 GE470) hb); clear HO_7; clear HO_8; clear BK469; clear BK470; clear HB; have HO_7 := n0_; have HO_8 := n1_; have BK469 := n2_; have BK470 := n3_; have HB := n4_; clear n0_ n1_ n2_ n3_ n4_; (try clear hb); (try clear hb2); (try clear hk); (try clear hi)) | ((with_reducible refine gate_dst (N := 13) rfl ?_); refine bx 13 #[.int .i64 0, .int .i64 0] 40 ?_; intro gb493 hg w45 hbox hb; have n0_ := Aside0.mk (Kd.R_below (by (with_reducible repeat (first | apply Kd.R_alloc | apply Kd.R_drewN | apply Kd.R_drew)); exact HO_7.out) hb); have n1_ := Aside0.mk (Kd.V_below (Kd.V_elderB (by (with_reducible repeat (first | apply Kd.V_alloc | apply Kd.V_drewN | apply Kd.V_drew)); exact HO_8.out) gb493 (Nat.le_of_eq hg.symm)) hb); have n2_ := Aside0.mk (blk_below (bm BK469) hb); have n3_ := Aside0.mk (blk_below (bm BK470) hb); have n4_ := Aside0.mk (below_step (bw2 HB GE469 GE470) hb); have n5_ := Aside0.mk (hbox); have n6_ := Aside0.mk (bz (bw2 HB GE469 GE470) hg); have n7_ := Aside0.mk (bz (bw2 HB GE469 GE470) hg); have n8_ := Aside0.mk (bl (bm BK469) hg); have n9_ := Aside0.mk (bg (bm BK469) hg); have n10_ := Aside0.mk (bl (bm BK470) hg); have n11_ := Aside0.mk (bg (bm BK470) hg); clear HO_7; clear HO_8; clear BK469; clear BK470; clear HB; have HO_7 := n0_; have HO_8 := n1_; have BK469 := n2_; have BK470 := n3_; have HB := n4_; have BK493 := n5_; have GW493 := n6_; have GE493 := n7_; have NB469_493 := n8_; have NB493_469 := n9_; have NB470_493 := n10_; have NB493_470 := n11_; clear n0_ n1_ n2_ n3_ n4_ n5_ n6_ n7_ n8_ n9_ n10_ n11_; clear hb hbox hg; have hnb46 := NB493_469.out; have hnc46 := NB469_493.out; have hnb47 := NB493_470.out; have hnc47 := NB470_493.out; obtain ⟨hcz48_0, hcz48_1, hfz48_0, hfz48_1⟩ := b2 BK493))
        go_loopg [15, 16, 17, 18] k2 (fun kq v15 v16 v17 v18 w' => ∃ (x15_3 : Int) (x16_3 : Int) (x17_3 : Int) (x18_3 : Int), v15 = .int .i64 x15_3 ∧ v16 = .int .i64 x16_3 ∧ v17 = .int .i64 x17_3 ∧ v18 = .int .i64 x18_3 ∧ Aside0 (macadamlaw04_GangTrue.l1 kq t473 t476 t480 t481 x12_2 t492 x15_3 x16_3 x17_3 x18_3 l0_0 l0_1 a0_2 a2_0 a2_1 t490 t491 = some r) ∧ Aside0 (kq ≤ k2) ∧ Aside0 (Kd.R k59 59 w' w.heap.size (fun _ => True) (.slice Ao18 t473.length co18) t473) ∧ Aside0 (Kd.V (Kd.int .i64) 3 w' w.heap.size (fun k_ => some k_ ≠ ((.slice Ao18 t473.length co18) : Value).ownBlock ∧ k_ ≠ gb469 ∧ k_ ≠ gb470 ∧ k_ ≠ gb493) v477 t476) ∧ Aside0 (w'.heap[gb469]? = some (.cells #[(.slice A0_0 l0_0.length c0_0), (.slice A0_1 l0_1.length c0_1), .int .i64 a0_2] 25 (0, 0))) ∧ Aside0 (w'.heap[gb470]? = some (.cells #[.int .i64 a2_0, .int .i64 a2_1] 68 (0, 0))) ∧ Aside0 (w'.heap[gb493]? = some (.cells #[.int .i64 t490, .int .i64 t491] 40 (0, 0))) ∧ Aside0 (Below w.heap.size w w'))
        case atStart => exact ⟨(0), (0), (0), (0), (by first | rfl | (simp; done) | (simp [*]; done)), (by first | rfl | (simp; done) | (simp [*]; done)), (by first | rfl | (simp; done) | (simp [*]; done)), (by first | rfl | (simp; done) | (simp [*]; done)), H', ⟨Nat.le_refl _⟩, ⟨by (with_reducible repeat (first | apply Kd.R_alloc | apply Kd.R_drewN | apply Kd.R_drew)); exact Kd.R_mono (Kd.R_far (p := ⟨gb493, 1, none⟩) (Kd.R_far (p := ⟨gb493, 0, none⟩) (Kd.R_types HO_7.out BK493.out (by decide)) (fun _ hk => hk.2) (.int .i64 t490)) (fun _ hk => hk.2) (.int .i64 t491)) (fun _ hk => trivial)⟩, ⟨by (with_reducible repeat (first | apply Kd.V_alloc | apply Kd.V_drewN | apply Kd.V_drew)); exact Kd.V_mono (Kd.V_far (p := ⟨gb493, 1, none⟩) (Kd.V_far (p := ⟨gb493, 0, none⟩) (Kd.V_mono HO_8.out (fun k_ hk => (⟨hk, hk.2⟩ : _ ∧ k_ ≠ gb493))) (fun _ hk => hk.2) (.int .i64 t490)) (fun _ hk => hk.2) (.int .i64 t491)) (fun _ hk => ⟨hk.1.1.1, ⟨hk.1.1.2.1, ⟨hk.1.1.2.2, hk.1.2⟩⟩⟩)⟩, ⟨by (with_reducible repeat (first | refine blk_drewN ?_ _ | refine blk_drew ?_ | refine blk_alloc ?_ _)); refine blk_far ?_ NB469_493.out _; (with_reducible repeat (first | refine blk_drewN ?_ _ | refine blk_drew ?_ | refine blk_alloc ?_ _)); refine blk_far ?_ NB469_493.out _; (with_reducible repeat (first | refine blk_drewN ?_ _ | refine blk_drew ?_ | refine blk_alloc ?_ _)); exact BK469.out⟩, ⟨by (with_reducible repeat (first | refine blk_drewN ?_ _ | refine blk_drew ?_ | refine blk_alloc ?_ _)); refine blk_far ?_ NB470_493.out _; (with_reducible repeat (first | refine blk_drewN ?_ _ | refine blk_drew ?_ | refine blk_alloc ?_ _)); refine blk_far ?_ NB470_493.out _; (with_reducible repeat (first | refine blk_drewN ?_ _ | refine blk_drew ?_ | refine blk_alloc ?_ _)); exact BK470.out⟩, ⟨by (with_reducible repeat (first | refine blk_drewN ?_ _ | refine blk_drew ?_ | refine blk_alloc ?_ _)); refine blk_put (cs := #[.int .i64 t490, .int .i64 0]) ?_ 1 _ rfl; (with_reducible repeat (first | refine blk_drewN ?_ _ | refine blk_drew ?_ | refine blk_alloc ?_ _)); refine blk_put (cs := #[.int .i64 0, .int .i64 0]) ?_ 0 _ rfl; (with_reducible repeat (first | refine blk_drewN ?_ _ | refine blk_drew ?_ | refine blk_alloc ?_ _)); exact BK493.out⟩, ⟨bw3 HB GE469 GE470 GE493⟩⟩
        case round =>
         clear H'
         try clear c1
         try clear c2
         try clear p2
         try clear c3
         try clear c4
         try clear c5
         try clear c8
         try clear c12
         try clear c22
         try clear c22b0
         try clear c22b1
         try clear c23
         try clear c23b0
         try clear c23b1
         try clear c25
         try clear c26
         try clear c27
         try clear c29
         try clear c31
         try clear c31b0
         try clear c31b1
         try clear c34
         try clear c38
         try clear c39
         try clear c40
         try clear c40b0
         try clear c42
         try clear c46
         try clear c47
         try clear hcz13_0
         try clear hcz13_1
         try clear hcz13_2
         try clear hcz15_0
         try clear hcz15_1
         try clear hcz15_2
         try clear hcz17_0
         try clear hcz17_1
         try clear hcz17_2
         try clear hcz20_0
         try clear hcz20_1
         try clear hcz20_2
         try clear hcz27_0
         try clear hcz27_1
         try clear hcz27_2
         try clear hcz35_0
         try clear hcz35_1
         try clear hcz35_2
         try clear hcz43_0
         try clear hcz43_1
         try clear hcz43_2
         try clear hcz48_0
         try clear hcz48_1
         try clear hfz13_0
         try clear hfz13_1
         try clear hfz13_2
         try clear hfz15_0
         try clear hfz15_1
         try clear hfz15_2
         try clear hfz17_0
         try clear hfz17_1
         try clear hfz17_2
         try clear hfz20_0
         try clear hfz20_1
         try clear hfz20_2
         try clear hfz27_0
         try clear hfz27_1
         try clear hfz27_2
         try clear hfz35_0
         try clear hfz35_1
         try clear hfz35_2
         try clear hfz43_0
         try clear hfz43_1
         try clear hfz43_2
         try clear hfz48_0
         try clear hfz48_1
         try clear p2
         obtain ⟨x15_3, x16_3, x17_3, x18_3, rfl, rfl, rfl, rfl, HA, HK3, HO_7, HO_8, BK469, BK470, BK493, HB⟩ := hrel
         cases gk with
         | zero => exact absurd HA.out (by simp [macadamlaw04_GangTrue.l1])
         | succ k3 =>
          have H := HA.out
          clear HA
          simp only [macadamlaw04_GangTrue.l1] at H
          by_cases c49 : x18_3 < (t473.length : Int)
          ·as_aux_lemma =>
           rw [if_pos c49] at H
           have c49b0 : decide (x18_3 < (t473.length : Int)) = true := decide_eq_true c49
           clear c49
           by_cases c50 : 0 ≤ x18_3
           ·as_aux_lemma =>
            rw [if_pos c50] at H
            have c50b0 : decide (0 ≤ x18_3) = true := decide_eq_true c50
            clear c50
            by_cases c51 : ((rd_T59 t473 x18_3).f2) = x12_2
            ·as_aux_lemma =>
             rw [if_pos c51] at H
             have c51b0 : (((rd_T59 t473 x18_3).f2) == x12_2) = true := beq_iff_eq.mpr c51
             have c51b1 : (((rd_T59 t473 x18_3).f2) != x12_2) = false := bne_eq_false_iff_eq.mpr c51
             clear c51
             by_cases c52 : 0 ≤ ((rd_T59 t473 x18_3).f1)
             ·as_aux_lemma =>
              rw [if_pos c52] at H
              have c52b0 : decide (0 ≤ ((rd_T59 t473 x18_3).f1)) = true := decide_eq_true c52
              clear c52
              by_cases c53 : ((rd_T59 t473 x18_3).f1) < (l0_1.length : Int)
              ·as_aux_lemma =>
               rw [if_pos c53] at H
               have c53b0 : decide (((rd_T59 t473 x18_3).f1) < (l0_1.length : Int)) = true := decide_eq_true c53
               clear c53
               replace H := Option.bind_eq_some_iff.mp H
               obtain ⟨t499, A540, H⟩ := H
               replace H : (macadamlaw04_GangTrue.l1 k3 t473 t476 t480 t481 x12_2 t492 (wrap64 (x15_3 + t499)) (wrap64 (x16_3 + ((rd_T63 l0_1 ((rd_T59 t473 x18_3).f1)).f2.f0))) (wrap64 (x17_3 + ((rd_T63 l0_1 ((rd_T59 t473 x18_3).f1)).f2.f1))) (wrap64 (x18_3 + 1)) l0_0 l0_1 a0_2 a2_0 a2_1 t490 t491) = some r := H
               have A54 := Aside0.mk A540
               clear A540
               have H' := Aside0.mk H
               clear H
               have p494 : 0 ≤ (x18_3 : Int) := of_decide_eq_true (by first | (with_reducible assumption) | assumption)
               have q494 : x18_3 < (t473.length : Int) := of_decide_eq_true (by first | (with_reducible assumption) | assumption)
               obtain ⟨ad494, e494, hx494_0, hx494_1, hx494_2⟩ := at_T59 (Kd.R_reads' HO_7.out).2.2 x18_3 p494 q494
               cases e494
               replace p494 := eq_true p494
               replace q494 := eq_true q494
               try go_wp2
               have n0_ := Aside0.mk (Kd.R_drew HO_7.out)
               have n1_ := Aside0.mk (Kd.V_drew HO_8.out)
               have n2_ := Aside0.mk (blk_drew BK469.out)
               have n3_ := Aside0.mk (blk_drew BK470.out)
               have n4_ := Aside0.mk (blk_drew BK493.out)
               have n5_ := Aside0.mk (below_drew1 HB.out)
               clear HO_7
               clear HO_8
               clear BK469
               clear BK470
               clear BK493
               clear HB
               have HO_7 := n0_
               have HO_8 := n1_
               have BK469 := n2_
               have BK470 := n3_
               have BK493 := n4_
               have HB := n5_
               clear n0_ n1_ n2_ n3_ n4_ n5_
               have p495 : 0 ≤ (x18_3 : Int) := of_decide_eq_true (by first | (with_reducible assumption) | assumption)
               have q495 : x18_3 < (t473.length : Int) := of_decide_eq_true (by first | (with_reducible assumption) | assumption)
               obtain ⟨ad495, e495, hx495_0, hx495_1, hx495_2⟩ := at_T59 (Kd.R_reads' HO_7.out).2.2 x18_3 p495 q495
               obtain rfl : ad494 = ad495 := (by injection e495)
               replace p495 := eq_true p495
               replace q495 := eq_true q495
               have p496 : 0 ≤ (((rd_T59 t473 x18_3).f1) : Int) := of_decide_eq_true (by first | (with_reducible assumption) | assumption)
               have q496 : ((rd_T59 t473 x18_3).f1) < (l0_1.length : Int) := of_decide_eq_true (by first | (with_reducible assumption) | assumption)
               obtain ⟨ad496, e496, hx496_0, hx496_1, hx496_2, hx496_3⟩ := at_T63 HR0_1.out ((rd_T59 t473 x18_3).f1) p496 q496
               have hw496_3 := hx496_3
               have hw496_2 := hx496_2
               have hw496_1 := hx496_1
               have hw496_0 := hx496_0
               cases e496
               replace hx496_0 := cB HB hx496_0
               replace hx496_1 := cB HB hx496_1
               replace hx496_2 := cB HB hx496_2
               replace hx496_3 := cB HB hx496_3
               replace p496 := eq_true p496
               replace q496 := eq_true q496
               refine start_ (n := 12) (S := fun w' => w'.cell? ⟨gb469, 0, none⟩ = some (.slice A0_0 l0_0.length c0_0) ∧ w'.cell? ⟨gb469, 1, none⟩ = some (.slice (some ad496) l0_1.length c0_1) ∧ w'.cell? ⟨gb469, 2, none⟩ = some (.int .i64 a0_2) ∧ w'.cell? (ad494.add ((x18_3).toNat * 3)) = some (.int .i64 ((rd_T59 t473 x18_3).f0)) ∧ w'.cell? ⟨(ad494.add ((x18_3).toNat * 3)).block, (ad494.add ((x18_3).toNat * 3)).off + 1, none⟩ = some (.int .i64 ((rd_T59 t473 x18_3).f1)) ∧ w'.cell? ⟨(ad494.add ((x18_3).toNat * 3)).block, (ad494.add ((x18_3).toNat * 3)).off + 2, none⟩ = some (.int .i64 ((rd_T59 t473 x18_3).f2)) ∧ w'.cell? (ad496.add ((((rd_T59 t473 x18_3).f1)).toNat * 4)) = some (.int .i64 ((rd_T63 l0_1 ((rd_T59 t473 x18_3).f1)).f0)) ∧ w'.cell? ⟨(ad496.add ((((rd_T59 t473 x18_3).f1)).toNat * 4)).block, (ad496.add ((((rd_T59 t473 x18_3).f1)).toNat * 4)).off + 1, none⟩ = some (.int .i64 ((rd_T63 l0_1 ((rd_T59 t473 x18_3).f1)).f1)) ∧ w'.cell? ⟨(ad496.add ((((rd_T59 t473 x18_3).f1)).toNat * 4)).block, (ad496.add ((((rd_T59 t473 x18_3).f1)).toNat * 4)).off + 2, none⟩ = some (.int .i64 ((rd_T63 l0_1 ((rd_T59 t473 x18_3).f1)).f2.f0)) ∧ w'.cell? ⟨(ad496.add ((((rd_T59 t473 x18_3).f1)).toNat * 4)).block, (ad496.add ((((rd_T59 t473 x18_3).f1)).toNat * 4)).off + 3, none⟩ = some (.int .i64 ((rd_T63 l0_1 ((rd_T59 t473 x18_3).f1)).f2.f1))) (ds := []) (bs 12 0) (by kernel_rfl) rfl rfl ⟨(blk_cell BK469.out 0).trans rfl, (blk_cell BK469.out 1).trans rfl, (blk_cell BK469.out 2).trans rfl, hx495_0, hx495_1, hx495_2, (cB HB hw496_0 :), (cB HB hw496_1 :), (cB HB hw496_2 :), (cB HB hw496_3 :)⟩ (fun hHeld => ?_); refine with_tabW macadamlaw04_GangTrue.tab17 macadamlaw04_GangTrue.bits17 (fun HT_ HW_ => ?_)
               generalize wr.drew = w55 at HO_7 HO_8 BK469 BK470 BK493 HB hx495_0 hx495_1 hx495_2 hx496_0 hx496_1 hx496_2 hx496_3 hHeld ⊢
               refine pu HT_ 0 (some 86) (bs 12 1) ?_
               refine pu HT_ 2 (some 88) (bs 12 5) ?_
               refine pu HT_ 3 (some 89) (bs 12 13) ?_
               refine pu HT_ 4 (some 90) (bs 12 29) ?_
               refine pu HT_ 5 (some 91) (bs 12 61) ?_
               refine tk10 HT_ HW_ hHeld 1 (some 87) (bs 12 63) ?_
               refine tk10 HT_ HW_ hHeld 6 (some 92) (bs 12 127) ?_
               refine pu HT_ 7 (some 93) (bs 12 255) ?_
               refine pu HT_ 8 (some 94) (bs 12 511) ?_
               refine tk10 HT_ HW_ hHeld 9 (some 95) (bs 12 1023) ?_
               refine on HT_ 10 (some 19) (bs 12 2047) (fun K hK => ?_)
               refine box_step ?hg (N := 19) ?hd (cs := #[.int .i64 0, .int .i64 0]) (t := 40) ?hr ?_; (case hd => rfl); (case hg => rfl); (case hr => first | (go_simp; done) | (go_simp; rfl))
               intro gb497 hg w56 hbox hb
               have HS3_ := (hb.cell (World.block_lt_of_cell? _ _ (hHeld.2.2.2.1))).trans (hHeld.2.2.2.1)
               have HS4_ := (hb.cell (World.block_lt_of_cell? _ _ (hHeld.2.2.2.2.1))).trans (hHeld.2.2.2.2.1)
               have HS5_ := (hb.cell (World.block_lt_of_cell? _ _ (hHeld.2.2.2.2.2.1))).trans (hHeld.2.2.2.2.2.1)
               have n0_ := Aside0.mk (Kd.R_below (by (with_reducible repeat (first | apply Kd.R_alloc | apply Kd.R_drewN | apply Kd.R_drew)); exact HO_7.out) hb)
               have n1_ := Aside0.mk (Kd.V_below (Kd.V_elderB (by (with_reducible repeat (first | apply Kd.V_alloc | apply Kd.V_drewN | apply Kd.V_drew)); exact HO_8.out) gb497 (Nat.le_of_eq hg.symm)) hb)
               have n2_ := Aside0.mk (blk_below (bm BK469) hb)
               have n3_ := Aside0.mk (blk_below (bm BK470) hb)
               have n4_ := Aside0.mk (blk_below (bm BK493) hb)
               have n5_ := Aside0.mk (below_step (bw3 HB GE469 GE470 GE493) hb)
               have n6_ := Aside0.mk (hbox)
               have n7_ := Aside0.mk (bz (bw3 HB GE469 GE470 GE493) hg)
               have n8_ := Aside0.mk (bz (bw3 HB GE469 GE470 GE493) hg)
               have n9_ := Aside0.mk (bl (bm BK469) hg)
               have n10_ := Aside0.mk (bg (bm BK469) hg)
               have n11_ := Aside0.mk (bl (bm BK470) hg)
               have n12_ := Aside0.mk (bg (bm BK470) hg)
               have n13_ := Aside0.mk (bl (bm BK493) hg)
               have n14_ := Aside0.mk (bg (bm BK493) hg)
               clear HO_7
               clear HO_8
               clear BK469
               clear BK470
               clear BK493
               clear HB
               have HO_7 := n0_
               have HO_8 := n1_
               have BK469 := n2_
               have BK470 := n3_
               have BK493 := n4_
               have HB := n5_
               have BK497 := n6_
               have GW497 := n7_
               have GE497 := n8_
               have NB469_497 := n9_
               have NB497_469 := n10_
               have NB470_497 := n11_
               have NB497_470 := n12_
               have NB493_497 := n13_
               have NB497_493 := n14_
               clear n0_ n1_ n2_ n3_ n4_ n5_ n6_ n7_ n8_ n9_ n10_ n11_ n12_ n13_ n14_
               clear hb hbox hg
               refine hK.out _ _ ⟨(blk_cell BK469.out 0).trans rfl, (blk_cell BK469.out 1).trans rfl, (blk_cell BK469.out 2).trans rfl, HS3_, HS4_, HS5_, (cB HB hw496_0 :), (cB HB hw496_1 :), (cB HB hw496_2 :), (cB HB hw496_3 :)⟩ (fun hHeld => ?_)
               clear hK K
               refine nm 19 ?_
               refine on HT_ 11 none (bs 12 4095) (fun K hK => ?_)
               have hs57 : w56.cell? ⟨gb497, 0, none⟩ = some (.int .i64 0) := (blk_cell BK497.out 0).trans rfl
               have hfs57 := blk_frozen BK497.out 0
               have hns57_0 := NB469_497.out
               have hns57_1 := NB470_497.out
               have hns57_2 := NB493_497.out
               have hms57_0 := NB497_469.out
               have hms57_1 := NB497_470.out
               have hms57_2 := NB497_493.out
               have hs58 : w56.cell? ⟨gb497, 1, none⟩ = some (.int .i64 0) := (blk_cell BK497.out 1).trans rfl
               have hfs58 := blk_frozen BK497.out 1
               have hns58_0 := NB469_497.out
               have hns58_1 := NB470_497.out
               have hns58_2 := NB493_497.out
               have hms58_0 := NB497_469.out
               have hms58_1 := NB497_470.out
               have hms58_2 := NB497_493.out
               refine skip_ (w1 := ?_) (by rfl) rfl ?_ ?_
               rotate_left
               ·go_simp
                rfl
               refine hK.out _ _ ⟨((cell_far (p := ⟨gb497, _, none⟩) NB469_497.out _).trans (((cell_far (p := ⟨gb497, _, none⟩) NB469_497.out _).trans (hHeld.1)))), ((cell_far (p := ⟨gb497, _, none⟩) NB469_497.out _).trans (((cell_far (p := ⟨gb497, _, none⟩) NB469_497.out _).trans (hHeld.2.1)))), ((cell_far (p := ⟨gb497, _, none⟩) NB469_497.out _).trans (((cell_far (p := ⟨gb497, _, none⟩) NB469_497.out _).trans (hHeld.2.2.1)))), ((cell_far (p := ⟨gb497, _, none⟩) (by first | exact Kd.own_blk (Kd.R_ne HO_7.out BK497.out (by decide)) | (rw [add_block]; exact Kd.own_blk (Kd.R_ne HO_7.out BK497.out (by decide))) | (show (Addr.add _ _).block ≠ _; rw [add_block]; exact Kd.own_blk (Kd.R_ne HO_7.out BK497.out (by decide))) | (dsimp only; exact Kd.own_blk (Kd.R_ne HO_7.out BK497.out (by decide)))) _).trans (((cell_far (p := ⟨gb497, _, none⟩) (by first | exact Kd.own_blk (Kd.R_ne HO_7.out BK497.out (by decide)) | (rw [add_block]; exact Kd.own_blk (Kd.R_ne HO_7.out BK497.out (by decide))) | (show (Addr.add _ _).block ≠ _; rw [add_block]; exact Kd.own_blk (Kd.R_ne HO_7.out BK497.out (by decide))) | (dsimp only; exact Kd.own_blk (Kd.R_ne HO_7.out BK497.out (by decide)))) _).trans (hHeld.2.2.2.1)))), ((cell_far (p := ⟨gb497, _, none⟩) (by first | exact Kd.own_blk (Kd.R_ne HO_7.out BK497.out (by decide)) | (rw [add_block]; exact Kd.own_blk (Kd.R_ne HO_7.out BK497.out (by decide))) | (show (Addr.add _ _).block ≠ _; rw [add_block]; exact Kd.own_blk (Kd.R_ne HO_7.out BK497.out (by decide))) | (dsimp only; exact Kd.own_blk (Kd.R_ne HO_7.out BK497.out (by decide)))) _).trans (((cell_far (p := ⟨gb497, _, none⟩) (by first | exact Kd.own_blk (Kd.R_ne HO_7.out BK497.out (by decide)) | (rw [add_block]; exact Kd.own_blk (Kd.R_ne HO_7.out BK497.out (by decide))) | (show (Addr.add _ _).block ≠ _; rw [add_block]; exact Kd.own_blk (Kd.R_ne HO_7.out BK497.out (by decide))) | (dsimp only; exact Kd.own_blk (Kd.R_ne HO_7.out BK497.out (by decide)))) _).trans (hHeld.2.2.2.2.1)))), ((cell_far (p := ⟨gb497, _, none⟩) (by first | exact Kd.own_blk (Kd.R_ne HO_7.out BK497.out (by decide)) | (rw [add_block]; exact Kd.own_blk (Kd.R_ne HO_7.out BK497.out (by decide))) | (show (Addr.add _ _).block ≠ _; rw [add_block]; exact Kd.own_blk (Kd.R_ne HO_7.out BK497.out (by decide))) | (dsimp only; exact Kd.own_blk (Kd.R_ne HO_7.out BK497.out (by decide)))) _).trans (((cell_far (p := ⟨gb497, _, none⟩) (by first | exact Kd.own_blk (Kd.R_ne HO_7.out BK497.out (by decide)) | (rw [add_block]; exact Kd.own_blk (Kd.R_ne HO_7.out BK497.out (by decide))) | (show (Addr.add _ _).block ≠ _; rw [add_block]; exact Kd.own_blk (Kd.R_ne HO_7.out BK497.out (by decide))) | (dsimp only; exact Kd.own_blk (Kd.R_ne HO_7.out BK497.out (by decide)))) _).trans (hHeld.2.2.2.2.2.1)))), ((cell_far (p := ⟨gb497, _, none⟩) (by first | exact Nat.ne_of_lt (Nat.lt_of_lt_of_le (by have := World.block_lt_of_cell? _ _ hw496_0; first | rwa [add_block] at this | exact this) GW497.out) | (rw [add_block]; exact Nat.ne_of_lt (Nat.lt_of_lt_of_le (by have := World.block_lt_of_cell? _ _ hw496_0; first | rwa [add_block] at this | exact this) GW497.out)) | (show (Addr.add _ _).block ≠ _; rw [add_block]; exact Nat.ne_of_lt (Nat.lt_of_lt_of_le (by have := World.block_lt_of_cell? _ _ hw496_0; first | rwa [add_block] at this | exact this) GW497.out)) | (dsimp only; exact Nat.ne_of_lt (Nat.lt_of_lt_of_le (by have := World.block_lt_of_cell? _ _ hw496_0; first | rwa [add_block] at this | exact this) GW497.out))) _).trans (((cell_far (p := ⟨gb497, _, none⟩) (by first | exact Nat.ne_of_lt (Nat.lt_of_lt_of_le (by have := World.block_lt_of_cell? _ _ hw496_0; first | rwa [add_block] at this | exact this) GW497.out) | (rw [add_block]; exact Nat.ne_of_lt (Nat.lt_of_lt_of_le (by have := World.block_lt_of_cell? _ _ hw496_0; first | rwa [add_block] at this | exact this) GW497.out)) | (show (Addr.add _ _).block ≠ _; rw [add_block]; exact Nat.ne_of_lt (Nat.lt_of_lt_of_le (by have := World.block_lt_of_cell? _ _ hw496_0; first | rwa [add_block] at this | exact this) GW497.out)) | (dsimp only; exact Nat.ne_of_lt (Nat.lt_of_lt_of_le (by have := World.block_lt_of_cell? _ _ hw496_0; first | rwa [add_block] at this | exact this) GW497.out))) _).trans (hHeld.2.2.2.2.2.2.1)))), ((cell_far (p := ⟨gb497, _, none⟩) (by first | exact Nat.ne_of_lt (Nat.lt_of_lt_of_le (by have := World.block_lt_of_cell? _ _ hw496_1; first | rwa [add_block] at this | exact this) GW497.out) | (rw [add_block]; exact Nat.ne_of_lt (Nat.lt_of_lt_of_le (by have := World.block_lt_of_cell? _ _ hw496_1; first | rwa [add_block] at this | exact this) GW497.out)) | (show (Addr.add _ _).block ≠ _; rw [add_block]; exact Nat.ne_of_lt (Nat.lt_of_lt_of_le (by have := World.block_lt_of_cell? _ _ hw496_1; first | rwa [add_block] at this | exact this) GW497.out)) | (dsimp only; exact Nat.ne_of_lt (Nat.lt_of_lt_of_le (by have := World.block_lt_of_cell? _ _ hw496_1; first | rwa [add_block] at this | exact this) GW497.out))) _).trans (((cell_far (p := ⟨gb497, _, none⟩) (by first | exact Nat.ne_of_lt (Nat.lt_of_lt_of_le (by have := World.block_lt_of_cell? _ _ hw496_1; first | rwa [add_block] at this | exact this) GW497.out) | (rw [add_block]; exact Nat.ne_of_lt (Nat.lt_of_lt_of_le (by have := World.block_lt_of_cell? _ _ hw496_1; first | rwa [add_block] at this | exact this) GW497.out)) | (show (Addr.add _ _).block ≠ _; rw [add_block]; exact Nat.ne_of_lt (Nat.lt_of_lt_of_le (by have := World.block_lt_of_cell? _ _ hw496_1; first | rwa [add_block] at this | exact this) GW497.out)) | (dsimp only; exact Nat.ne_of_lt (Nat.lt_of_lt_of_le (by have := World.block_lt_of_cell? _ _ hw496_1; first | rwa [add_block] at this | exact this) GW497.out))) _).trans (hHeld.2.2.2.2.2.2.2.1)))), ((cell_far (p := ⟨gb497, _, none⟩) (by first | exact Nat.ne_of_lt (Nat.lt_of_lt_of_le (by have := World.block_lt_of_cell? _ _ hw496_2; first | rwa [add_block] at this | exact this) GW497.out) | (rw [add_block]; exact Nat.ne_of_lt (Nat.lt_of_lt_of_le (by have := World.block_lt_of_cell? _ _ hw496_2; first | rwa [add_block] at this | exact this) GW497.out)) | (show (Addr.add _ _).block ≠ _; rw [add_block]; exact Nat.ne_of_lt (Nat.lt_of_lt_of_le (by have := World.block_lt_of_cell? _ _ hw496_2; first | rwa [add_block] at this | exact this) GW497.out)) | (dsimp only; exact Nat.ne_of_lt (Nat.lt_of_lt_of_le (by have := World.block_lt_of_cell? _ _ hw496_2; first | rwa [add_block] at this | exact this) GW497.out))) _).trans (((cell_far (p := ⟨gb497, _, none⟩) (by first | exact Nat.ne_of_lt (Nat.lt_of_lt_of_le (by have := World.block_lt_of_cell? _ _ hw496_2; first | rwa [add_block] at this | exact this) GW497.out) | (rw [add_block]; exact Nat.ne_of_lt (Nat.lt_of_lt_of_le (by have := World.block_lt_of_cell? _ _ hw496_2; first | rwa [add_block] at this | exact this) GW497.out)) | (show (Addr.add _ _).block ≠ _; rw [add_block]; exact Nat.ne_of_lt (Nat.lt_of_lt_of_le (by have := World.block_lt_of_cell? _ _ hw496_2; first | rwa [add_block] at this | exact this) GW497.out)) | (dsimp only; exact Nat.ne_of_lt (Nat.lt_of_lt_of_le (by have := World.block_lt_of_cell? _ _ hw496_2; first | rwa [add_block] at this | exact this) GW497.out))) _).trans (hHeld.2.2.2.2.2.2.2.2.1)))), ((cell_far (p := ⟨gb497, _, none⟩) (by first | exact Nat.ne_of_lt (Nat.lt_of_lt_of_le (by have := World.block_lt_of_cell? _ _ hw496_3; first | rwa [add_block] at this | exact this) GW497.out) | (rw [add_block]; exact Nat.ne_of_lt (Nat.lt_of_lt_of_le (by have := World.block_lt_of_cell? _ _ hw496_3; first | rwa [add_block] at this | exact this) GW497.out)) | (show (Addr.add _ _).block ≠ _; rw [add_block]; exact Nat.ne_of_lt (Nat.lt_of_lt_of_le (by have := World.block_lt_of_cell? _ _ hw496_3; first | rwa [add_block] at this | exact this) GW497.out)) | (dsimp only; exact Nat.ne_of_lt (Nat.lt_of_lt_of_le (by have := World.block_lt_of_cell? _ _ hw496_3; first | rwa [add_block] at this | exact this) GW497.out))) _).trans (((cell_far (p := ⟨gb497, _, none⟩) (by first | exact Nat.ne_of_lt (Nat.lt_of_lt_of_le (by have := World.block_lt_of_cell? _ _ hw496_3; first | rwa [add_block] at this | exact this) GW497.out) | (rw [add_block]; exact Nat.ne_of_lt (Nat.lt_of_lt_of_le (by have := World.block_lt_of_cell? _ _ hw496_3; first | rwa [add_block] at this | exact this) GW497.out)) | (show (Addr.add _ _).block ≠ _; rw [add_block]; exact Nat.ne_of_lt (Nat.lt_of_lt_of_le (by have := World.block_lt_of_cell? _ _ hw496_3; first | rwa [add_block] at this | exact this) GW497.out)) | (dsimp only; exact Nat.ne_of_lt (Nat.lt_of_lt_of_le (by have := World.block_lt_of_cell? _ _ hw496_3; first | rwa [add_block] at this | exact this) GW497.out))) _).trans (hHeld.2.2.2.2.2.2.2.2.2))))⟩ (fun hHeld => ?_)
               clear hK K
               refine done_ (done_of HT_.out (by kernel_rfl)) ?_
               try go_wp2
               have n0_ : Aside0 (Kd.R k59 59 ((w56.setCell ⟨gb497, 0, none⟩ (.int .i64 ((rd_T63 l0_1 ((rd_T59 t473 x18_3).f1)).f2.f0))).setCell ⟨gb497, 1, none⟩ (.int .i64 ((rd_T63 l0_1 ((rd_T59 t473 x18_3).f1)).f2.f1))) w.heap.size (fun _ => True) (.slice (some ad494) t473.length co18) t473) := ⟨by (with_reducible repeat (first | apply Kd.R_alloc | apply Kd.R_drewN | apply Kd.R_drew)); exact Kd.R_mono (Kd.R_far (p := ⟨gb497, 1, none⟩) (Kd.R_far (p := ⟨gb497, 0, none⟩) (Kd.R_types HO_7.out BK497.out (by decide)) (fun _ hk => hk.2) (.int .i64 ((rd_T63 l0_1 ((rd_T59 t473 x18_3).f1)).f2.f0))) (fun _ hk => hk.2) (.int .i64 ((rd_T63 l0_1 ((rd_T59 t473 x18_3).f1)).f2.f1))) (fun _ hk => trivial)⟩
               have n1_ : Aside0 (Kd.V (Kd.int .i64) 3 ((w56.setCell ⟨gb497, 0, none⟩ (.int .i64 ((rd_T63 l0_1 ((rd_T59 t473 x18_3).f1)).f2.f0))).setCell ⟨gb497, 1, none⟩ (.int .i64 ((rd_T63 l0_1 ((rd_T59 t473 x18_3).f1)).f2.f1))) w.heap.size (fun k_ => some k_ ≠ (.slice (some ad494) t473.length co18 : Value).ownBlock ∧ k_ ≠ gb469 ∧ k_ ≠ gb470 ∧ k_ ≠ gb493 ∧ k_ ≠ gb497) v477 t476) := ⟨by (with_reducible repeat (first | apply Kd.V_alloc | apply Kd.V_drewN | apply Kd.V_drew)); exact Kd.V_mono (Kd.V_far (p := ⟨gb497, 1, none⟩) (Kd.V_far (p := ⟨gb497, 0, none⟩) (Kd.V_mono HO_8.out (fun k_ hk => (⟨hk, hk.2⟩ : _ ∧ k_ ≠ gb497))) (fun _ hk => hk.2) (.int .i64 ((rd_T63 l0_1 ((rd_T59 t473 x18_3).f1)).f2.f0))) (fun _ hk => hk.2) (.int .i64 ((rd_T63 l0_1 ((rd_T59 t473 x18_3).f1)).f2.f1))) (fun _ hk => ⟨hk.1.1.1, ⟨hk.1.1.2.1, ⟨hk.1.1.2.2.1, ⟨hk.1.1.2.2.2, hk.1.2⟩⟩⟩⟩)⟩
               have n2_ : Aside0 (((w56.setCell ⟨gb497, 0, none⟩ (.int .i64 ((rd_T63 l0_1 ((rd_T59 t473 x18_3).f1)).f2.f0))).setCell ⟨gb497, 1, none⟩ (.int .i64 ((rd_T63 l0_1 ((rd_T59 t473 x18_3).f1)).f2.f1))).heap[gb469]? = some (.cells #[.slice A0_0 l0_0.length c0_0, .slice (some ad496) l0_1.length c0_1, .int .i64 a0_2] 25 (0, 0))) := ⟨by (with_reducible repeat (first | refine blk_drewN ?_ _ | refine blk_drew ?_ | refine blk_alloc ?_ _)); refine blk_far ?_ NB469_497.out _; (with_reducible repeat (first | refine blk_drewN ?_ _ | refine blk_drew ?_ | refine blk_alloc ?_ _)); refine blk_far ?_ NB469_497.out _; (with_reducible repeat (first | refine blk_drewN ?_ _ | refine blk_drew ?_ | refine blk_alloc ?_ _)); exact BK469.out⟩
               have n3_ : Aside0 (((w56.setCell ⟨gb497, 0, none⟩ (.int .i64 ((rd_T63 l0_1 ((rd_T59 t473 x18_3).f1)).f2.f0))).setCell ⟨gb497, 1, none⟩ (.int .i64 ((rd_T63 l0_1 ((rd_T59 t473 x18_3).f1)).f2.f1))).heap[gb470]? = some (.cells #[.int .i64 a2_0, .int .i64 a2_1] 68 (0, 0))) := ⟨by (with_reducible repeat (first | refine blk_drewN ?_ _ | refine blk_drew ?_ | refine blk_alloc ?_ _)); refine blk_far ?_ NB470_497.out _; (with_reducible repeat (first | refine blk_drewN ?_ _ | refine blk_drew ?_ | refine blk_alloc ?_ _)); refine blk_far ?_ NB470_497.out _; (with_reducible repeat (first | refine blk_drewN ?_ _ | refine blk_drew ?_ | refine blk_alloc ?_ _)); exact BK470.out⟩
               have n4_ : Aside0 (((w56.setCell ⟨gb497, 0, none⟩ (.int .i64 ((rd_T63 l0_1 ((rd_T59 t473 x18_3).f1)).f2.f0))).setCell ⟨gb497, 1, none⟩ (.int .i64 ((rd_T63 l0_1 ((rd_T59 t473 x18_3).f1)).f2.f1))).heap[gb493]? = some (.cells #[.int .i64 t490, .int .i64 t491] 40 (0, 0))) := ⟨by (with_reducible repeat (first | refine blk_drewN ?_ _ | refine blk_drew ?_ | refine blk_alloc ?_ _)); refine blk_far ?_ NB493_497.out _; (with_reducible repeat (first | refine blk_drewN ?_ _ | refine blk_drew ?_ | refine blk_alloc ?_ _)); refine blk_far ?_ NB493_497.out _; (with_reducible repeat (first | refine blk_drewN ?_ _ | refine blk_drew ?_ | refine blk_alloc ?_ _)); exact BK493.out⟩
               have n5_ : Aside0 (((w56.setCell ⟨gb497, 0, none⟩ (.int .i64 ((rd_T63 l0_1 ((rd_T59 t473 x18_3).f1)).f2.f0))).setCell ⟨gb497, 1, none⟩ (.int .i64 ((rd_T63 l0_1 ((rd_T59 t473 x18_3).f1)).f2.f1))).heap[gb497]? = some (.cells #[.int .i64 ((rd_T63 l0_1 ((rd_T59 t473 x18_3).f1)).f2.f0), .int .i64 ((rd_T63 l0_1 ((rd_T59 t473 x18_3).f1)).f2.f1)] 40 (0, 0))) := ⟨by (with_reducible repeat (first | refine blk_drewN ?_ _ | refine blk_drew ?_ | refine blk_alloc ?_ _)); refine blk_put (cs := #[.int .i64 ((rd_T63 l0_1 ((rd_T59 t473 x18_3).f1)).f2.f0), .int .i64 0]) ?_ 1 _ rfl; (with_reducible repeat (first | refine blk_drewN ?_ _ | refine blk_drew ?_ | refine blk_alloc ?_ _)); refine blk_put (cs := #[.int .i64 0, .int .i64 0]) ?_ 0 _ rfl; (with_reducible repeat (first | refine blk_drewN ?_ _ | refine blk_drew ?_ | refine blk_alloc ?_ _)); exact BK497.out⟩
               have n6_ : Aside0 (Below w.heap.size w ((w56.setCell ⟨gb497, 0, none⟩ (.int .i64 ((rd_T63 l0_1 ((rd_T59 t473 x18_3).f1)).f2.f0))).setCell ⟨gb497, 1, none⟩ (.int .i64 ((rd_T63 l0_1 ((rd_T59 t473 x18_3).f1)).f2.f1)))) := ⟨by repeat (first | (with_reducible first | exact HB.out | apply below_alloc | apply pw_below_drewN | apply below_drew1 | refine below_set ?_ GE469.out | refine below_set ?_ GE470.out | refine below_set ?_ GE493.out | refine below_set ?_ GE497.out) | exact HB.out)⟩
               (try clear HO_7)
               (try clear HO_8)
               (try clear BK469)
               (try clear BK470)
               (try clear BK493)
               (try clear BK497)
               (try clear HB)
               generalize ((w56.setCell ⟨gb497, 0, none⟩ (.int .i64 ((rd_T63 l0_1 ((rd_T59 t473 x18_3).f1)).f2.f0))).setCell ⟨gb497, 1, none⟩ (.int .i64 ((rd_T63 l0_1 ((rd_T59 t473 x18_3).f1)).f2.f1))) = w59 at n0_ n1_ n2_ n3_ n4_ n5_ n6_ ⊢
               have HO_7 := n0_
               have HO_8 := n1_
               have BK469 := n2_
               have BK470 := n3_
               have BK493 := n4_
               have BK497 := n5_
               have HB := n6_
               clear n0_ n1_ n2_ n3_ n4_ n5_ n6_
               have n0_ := Aside0.mk (Kd.R_drew HO_7.out)
               have n1_ := Aside0.mk (Kd.V_drew HO_8.out)
               have n2_ := Aside0.mk (blk_drew BK469.out)
               have n3_ := Aside0.mk (blk_drew BK470.out)
               have n4_ := Aside0.mk (blk_drew BK493.out)
               have n5_ := Aside0.mk (blk_drew BK497.out)
               have n6_ := Aside0.mk (below_drew1 HB.out)
               clear HO_7
               clear HO_8
               clear BK469
               clear BK470
               clear BK493
               clear BK497
               clear HB
               have HO_7 := n0_
               have HO_8 := n1_
               have BK469 := n2_
               have BK470 := n3_
               have BK493 := n4_
               have BK497 := n5_
               have HB := n6_
               clear n0_ n1_ n2_ n3_ n4_ n5_ n6_
               have p498 : 0 ≤ (x18_3 : Int) := of_decide_eq_true (by first | (with_reducible assumption) | assumption)
               have q498 : x18_3 < (t473.length : Int) := of_decide_eq_true (by first | (with_reducible assumption) | assumption)
               obtain ⟨ad498, e498, hx498_0, hx498_1, hx498_2⟩ := at_T59 (Kd.R_reads' HO_7.out).2.2 x18_3 p498 q498
               obtain rfl : ad494 = ad498 := (by injection e498)
               replace p498 := eq_true p498
               replace q498 := eq_true q498
               refine start_ (n := 23) (S := fun w' => w'.cell? ⟨gb497, 0, none⟩ = some (.int .i64 ((rd_T63 l0_1 ((rd_T59 t473 x18_3).f1)).f2.f0)) ∧ w'.cell? ⟨gb497, 1, none⟩ = some (.int .i64 ((rd_T63 l0_1 ((rd_T59 t473 x18_3).f1)).f2.f1)) ∧ w'.cell? ⟨gb470, 0, none⟩ = some (.int .i64 a2_0) ∧ w'.cell? ⟨gb470, 1, none⟩ = some (.int .i64 a2_1) ∧ w'.cell? (ad494.add ((x18_3).toNat * 3)) = some (.int .i64 ((rd_T59 t473 x18_3).f0)) ∧ w'.cell? ⟨(ad494.add ((x18_3).toNat * 3)).block, (ad494.add ((x18_3).toNat * 3)).off + 1, none⟩ = some (.int .i64 ((rd_T59 t473 x18_3).f1)) ∧ w'.cell? ⟨(ad494.add ((x18_3).toNat * 3)).block, (ad494.add ((x18_3).toNat * 3)).off + 2, none⟩ = some (.int .i64 ((rd_T59 t473 x18_3).f2))) (ds := []) (bs 23 0) (by kernel_rfl) rfl rfl ⟨(blk_cell BK497.out 0).trans rfl, (blk_cell BK497.out 1).trans rfl, (blk_cell BK470.out 0).trans rfl, (blk_cell BK470.out 1).trans rfl, hx498_0, hx498_1, hx498_2⟩ (fun hHeld => ?_); refine with_tabW macadamlaw04_GangTrue.tab18 macadamlaw04_GangTrue.bits18 (fun HT_ HW_ => ?_)
               generalize w59.drew = w60 at HO_7 HO_8 BK469 BK470 BK493 BK497 HB hx498_0 hx498_1 hx498_2 hHeld ⊢
               refine pu HT_ 0 (some 96) (bs 23 1) ?_
               refine pu HT_ 2 (some 98) (bs 23 5) ?_
               refine pu HT_ 4 (some 100) (bs 23 21) ?_
               refine pu HT_ 5 (some 101) (bs 23 53) ?_
               refine pu HT_ 6 (some 102) (bs 23 117) ?_
               refine pu HT_ 7 (some 103) (bs 23 245) ?_
               refine pu HT_ 12 (some 108) (bs 23 4341) ?_
               refine pu HT_ 13 (some 109) (bs 23 12533) ?_
               refine pu HT_ 16 (some 112) (bs 23 78069) ?_
               refine pu HT_ 17 (some 113) (bs 23 209141) ?_
               refine tk7 HT_ HW_ hHeld 1 (some 97) (bs 23 209143) ?_
               refine tk7 HT_ HW_ hHeld 3 (some 99) (bs 23 209151) ?_
               refine tk7 HT_ HW_ hHeld 8 (some 104) (bs 23 209407) ?_
               refine pu HT_ 9 (some 105) (bs 23 209919) ?_
               refine tk7 HT_ HW_ hHeld 14 (some 110) (bs 23 226303) ?_
               refine pu HT_ 15 (some 111) (bs 23 259071) ?_
               refine tk7 HT_ HW_ hHeld 18 (some 114) (bs 23 521215) ?_
               refine pu HT_ 19 (some 115) (bs 23 1045503) ?_
               refine on HT_ 10 (some 106) (bs 23 1046527) (fun K hK => ?_)
               refine goes_ Tryd.func49 (by kernel_rfl) rfl #[.agg #[.int .i64 ((rd_T63 l0_1 ((rd_T59 t473 x18_3).f1)).f2.f0), .int .i64 ((rd_T63 l0_1 ((rd_T59 t473 x18_3).f1)).f2.f1)], .int .i64 (wrap64 (a2_0 + ((rd_T59 t473 x18_3).f1)))] (by rfl) rfl rfl (by (try simp only [List.map_toArray, List.map_cons, List.map_nil]); first | done | rfl | (simp only [List.length_drop, List.length_take]; rfl)) ?_
               with_reducible refine (macadamref00_From.calls ((rd_T63 l0_1 ((rd_T59 t473 x18_3).f1)).f2.f0) ((rd_T63 l0_1 ((rd_T59 t473 x18_3).f1)).f2.f1) (wrap64 (a2_0 + ((rd_T59 t473 x18_3).f1))) t499 _ A54.out).mono ?_
               rintro e w61 ⟨rfl, hb⟩
               have HS4_ := (hb.cell (World.block_lt_of_cell? _ _ (hHeld.2.2.2.2.1))).trans (hHeld.2.2.2.2.1)
               have HS5_ := (hb.cell (World.block_lt_of_cell? _ _ (hHeld.2.2.2.2.2.1))).trans (hHeld.2.2.2.2.2.1)
               have HS6_ := (hb.cell (World.block_lt_of_cell? _ _ (hHeld.2.2.2.2.2.2))).trans (hHeld.2.2.2.2.2.2)
               refine ⟨_, rfl, ?_⟩
               have n0_ := Aside0.mk (Kd.R_below (by (with_reducible repeat (first | apply Kd.R_alloc | apply Kd.R_drewN | apply Kd.R_drew)); exact HO_7.out) hb)
               have n1_ := Aside0.mk (Kd.V_below (by (with_reducible repeat (first | apply Kd.V_alloc | apply Kd.V_drewN | apply Kd.V_drew)); exact HO_8.out) hb)
               have n2_ := Aside0.mk (blk_below (bm BK469) hb)
               have n3_ := Aside0.mk (blk_below (bm BK470) hb)
               have n4_ := Aside0.mk (blk_below (bm BK493) hb)
               have n5_ := Aside0.mk (blk_below (bm BK497) hb)
               have n6_ := Aside0.mk (below_step (by repeat (first | (with_reducible first | exact HB.out | apply below_alloc | apply pw_below_drewN | apply below_drew1 | refine below_set ?_ GE469.out | refine below_set ?_ GE470.out | refine below_set ?_ GE493.out | refine below_set ?_ GE497.out) | exact HB.out)) hb)
               clear HO_7
               clear HO_8
               clear BK469
               clear BK470
               clear BK493
               clear BK497
               clear HB
               have HO_7 := n0_
               have HO_8 := n1_
               have BK469 := n2_
               have BK470 := n3_
               have BK493 := n4_
               have BK497 := n5_
               have HB := n6_
               clear n0_ n1_ n2_ n3_ n4_ n5_ n6_
               (try clear hb)
               (try clear hb2)
               (try clear hk)
               (try clear hi)
               refine hK.out _ _ ⟨(blk_cell BK497.out 0).trans rfl, (blk_cell BK497.out 1).trans rfl, (blk_cell BK470.out 0).trans rfl, (blk_cell BK470.out 1).trans rfl, HS4_, HS5_, HS6_⟩ (fun hHeld => ?_)
               clear hK K
               refine nm 106 ?_
               refine pu HT_ 11 (some 107) (bs 23 1048575) ?_
               refine pu HT_ 20 (some 15) (bs 23 2097151) ?_
               refine pu HT_ 21 (some 16) (bs 23 4194303) ?_
               refine pu HT_ 22 (some 17) (bs 23 8388607) ?_
               refine done_ (done_of HT_.out (by kernel_rfl)) ?_
               try go_wp2
               go_roundg k3
               case measure => have := HJ8.out; have := HK2.out; have := HK3.out; omega
               case rel => exact ⟨(wrap64 (x15_3 + t499)), (wrap64 (x16_3 + ((rd_T63 l0_1 ((rd_T59 t473 x18_3).f1)).f2.f0))), (wrap64 (x17_3 + ((rd_T63 l0_1 ((rd_T59 t473 x18_3).f1)).f2.f1))), (wrap64 (x18_3 + 1)), (by first | rfl | (simp; done) | (simp [*]; done)), (by first | rfl | (simp; done) | (simp [*]; done)), (by first | rfl | (simp; done) | (simp [*]; done)), (by first | rfl | (simp; done) | (simp [*]; done)), H', ⟨by have := HJ8.out; have := HK2.out; have := HK3.out; omega⟩, ⟨by (with_reducible repeat (first | apply Kd.R_alloc | apply Kd.R_drewN | apply Kd.R_drew)); exact HO_7.out⟩, ⟨by (with_reducible repeat (first | apply Kd.V_alloc | apply Kd.V_drewN | apply Kd.V_drew)); exact Kd.V_mono HO_8.out (fun _ hk => ⟨hk.1, ⟨hk.2.1, ⟨hk.2.2.1, hk.2.2.2.1⟩⟩⟩)⟩, ⟨bm BK469⟩, ⟨bm BK470⟩, ⟨bm BK493⟩, ⟨by repeat (first | (with_reducible first | exact HB.out | apply below_alloc | apply pw_below_drewN | apply below_drew1 | refine below_set ?_ GE469.out | refine below_set ?_ GE470.out | refine below_set ?_ GE493.out | refine below_set ?_ GE497.out) | exact HB.out)⟩⟩
              ·as_aux_lemma =>
               rw [if_neg c53] at H
               exact absurd H (by simp)
             ·as_aux_lemma =>
              rw [if_neg c52] at H
              exact absurd H (by simp)
            ·as_aux_lemma =>
             rw [if_neg c51] at H
             have c51b0 : (((rd_T59 t473 x18_3).f2) == x12_2) = false := beq_eq_false_iff_ne.mpr c51
             have c51b1 : (((rd_T59 t473 x18_3).f2) != x12_2) = true := bne_iff_ne.mpr c51
             have H' := Aside0.mk H
             clear H
             have p494 : 0 ≤ (x18_3 : Int) := of_decide_eq_true (by first | (with_reducible assumption) | assumption)
             have q494 : x18_3 < (t473.length : Int) := of_decide_eq_true (by first | (with_reducible assumption) | assumption)
             obtain ⟨ad494, e494, hx494_0, hx494_1, hx494_2⟩ := at_T59 (Kd.R_reads' HO_7.out).2.2 x18_3 p494 q494
             cases e494
             replace p494 := eq_true p494
             replace q494 := eq_true q494
             go_wp2
             go_roundg k3
             case measure => have := HJ8.out; have := HK2.out; have := HK3.out; omega
             case rel => exact ⟨(x15_3), (x16_3), (x17_3), (wrap64 (x18_3 + 1)), (by first | rfl | (simp; done) | (simp [*]; done)), (by first | rfl | (simp; done) | (simp [*]; done)), (by first | rfl | (simp; done) | (simp [*]; done)), (by first | rfl | (simp; done) | (simp [*]; done)), H', ⟨by have := HJ8.out; have := HK2.out; have := HK3.out; omega⟩, ⟨by (with_reducible repeat (first | apply Kd.R_alloc | apply Kd.R_drewN | apply Kd.R_drew)); exact HO_7.out⟩, ⟨by (with_reducible repeat (first | apply Kd.V_alloc | apply Kd.V_drewN | apply Kd.V_drew)); exact HO_8.out⟩, ⟨bm BK469⟩, ⟨bm BK470⟩, ⟨bm BK493⟩, ⟨bw3 HB GE469 GE470 GE493⟩⟩
           ·as_aux_lemma =>
            rw [if_neg c50] at H
            exact absurd H (by simp)
          ·as_aux_lemma =>
           rw [if_neg c49] at H
           have c49b0 : decide (x18_3 < (t473.length : Int)) = false := decide_eq_false c49
           clear c49
           by_cases c62 : 0 ≤ x12_2
           ·as_aux_lemma =>
            rw [if_pos c62] at H
            have c62b0 : decide (0 ≤ x12_2) = true := decide_eq_true c62
            clear c62
            by_cases c63 : x12_2 < (l0_0.length : Int)
            ·as_aux_lemma =>
             rw [if_pos c63] at H
             have c63b0 : decide (x12_2 < (l0_0.length : Int)) = true := decide_eq_true c63
             clear c63
             replace H := Option.bind_eq_some_iff.mp H
             obtain ⟨t501, A640, H⟩ := H
             replace H : ((macadamref00_Place.f k3 t476 x12_2).bind fun t502 => (if t492 = 0 then ((macadamref00_Reach.f x16_3 x17_3).bind fun bt503 => (if (!(t490 == bt503.1) || (!(t491 == bt503.2))) = true then (some false) else ((macadamref00_Holds.f t490 t491 x15_3).bind fun t505 => (if t505 = true then (if t502 ≥ 0 then (if x15_3 < t501 then (some false) else (if t481 = 0 then (if x12_2 < t480 then (macadamlaw04_GangTrue.l0 k3 t473 t476 t480 t481 (wrap64 (x12_2 + 1)) l0_0 l0_1 a0_2 a2_0 a2_1) else (macadamlaw04_GangTrue.l0 k3 t473 t476 t480 t481 (wrap64 (x12_2 + 1)) l0_0 l0_1 a0_2 a2_0 a2_1)) else (macadamlaw04_GangTrue.l0 k3 t473 t476 t480 t481 (wrap64 (x12_2 + 1)) l0_0 l0_1 a0_2 a2_0 a2_1))) else (if t481 = 0 then (if x12_2 < t480 then (some false) else (macadamlaw04_GangTrue.l0 k3 t473 t476 t480 t481 (wrap64 (x12_2 + 1)) l0_0 l0_1 a0_2 a2_0 a2_1)) else (macadamlaw04_GangTrue.l0 k3 t473 t476 t480 t481 (wrap64 (x12_2 + 1)) l0_0 l0_1 a0_2 a2_0 a2_1))) else (some false))))) else (some false))) = some r := H
             have A64 := Aside0.mk A640
             clear A640
             replace H := Option.bind_eq_some_iff.mp H
             obtain ⟨t502, A650, H⟩ := H
             replace H : (if t492 = 0 then ((macadamref00_Reach.f x16_3 x17_3).bind fun bt503 => (if (!(t490 == bt503.1) || (!(t491 == bt503.2))) = true then (some false) else ((macadamref00_Holds.f t490 t491 x15_3).bind fun t505 => (if t505 = true then (if t502 ≥ 0 then (if x15_3 < t501 then (some false) else (if t481 = 0 then (if x12_2 < t480 then (macadamlaw04_GangTrue.l0 k3 t473 t476 t480 t481 (wrap64 (x12_2 + 1)) l0_0 l0_1 a0_2 a2_0 a2_1) else (macadamlaw04_GangTrue.l0 k3 t473 t476 t480 t481 (wrap64 (x12_2 + 1)) l0_0 l0_1 a0_2 a2_0 a2_1)) else (macadamlaw04_GangTrue.l0 k3 t473 t476 t480 t481 (wrap64 (x12_2 + 1)) l0_0 l0_1 a0_2 a2_0 a2_1))) else (if t481 = 0 then (if x12_2 < t480 then (some false) else (macadamlaw04_GangTrue.l0 k3 t473 t476 t480 t481 (wrap64 (x12_2 + 1)) l0_0 l0_1 a0_2 a2_0 a2_1)) else (macadamlaw04_GangTrue.l0 k3 t473 t476 t480 t481 (wrap64 (x12_2 + 1)) l0_0 l0_1 a0_2 a2_0 a2_1))) else (some false))))) else (some false)) = some r := H
             have A65 := Aside0.mk A650
             clear A650
             by_cases c66 : t492 = 0
             ·as_aux_lemma =>
              rw [if_pos c66] at H
              have c66b0 : (t492 == 0) = true := beq_iff_eq.mpr c66
              have c66b1 : (t492 != 0) = false := bne_eq_false_iff_eq.mpr c66
              clear c66
              replace H := Option.bind_eq_some_iff.mp H
              obtain ⟨⟨t503, t504⟩, A670, H⟩ := H
              replace H : (if (!(t490 == t503) || (!(t491 == t504))) = true then (some false) else ((macadamref00_Holds.f t490 t491 x15_3).bind fun t505 => (if t505 = true then (if t502 ≥ 0 then (if x15_3 < t501 then (some false) else (if t481 = 0 then (if x12_2 < t480 then (macadamlaw04_GangTrue.l0 k3 t473 t476 t480 t481 (wrap64 (x12_2 + 1)) l0_0 l0_1 a0_2 a2_0 a2_1) else (macadamlaw04_GangTrue.l0 k3 t473 t476 t480 t481 (wrap64 (x12_2 + 1)) l0_0 l0_1 a0_2 a2_0 a2_1)) else (macadamlaw04_GangTrue.l0 k3 t473 t476 t480 t481 (wrap64 (x12_2 + 1)) l0_0 l0_1 a0_2 a2_0 a2_1))) else (if t481 = 0 then (if x12_2 < t480 then (some false) else (macadamlaw04_GangTrue.l0 k3 t473 t476 t480 t481 (wrap64 (x12_2 + 1)) l0_0 l0_1 a0_2 a2_0 a2_1)) else (macadamlaw04_GangTrue.l0 k3 t473 t476 t480 t481 (wrap64 (x12_2 + 1)) l0_0 l0_1 a0_2 a2_0 a2_1))) else (some false)))) = some r := H
              have A67 := Aside0.mk A670
              clear A670
              by_cases c68 : (!(t490 == t503) || (!(t491 == t504))) = true
              ·as_aux_lemma =>
               rw [if_pos c68] at H
               have c68b0 : (!(t490 == t503) || (!(t491 == t504))) = true := c68
               clear c68
               obtain rfl := Option.some.inj H
               try go_wp2
               have n0_ := Aside0.mk (Kd.R_drew HO_7.out)
               have n1_ := Aside0.mk (Kd.V_drew HO_8.out)
               have n2_ := Aside0.mk (blk_drew BK469.out)
               have n3_ := Aside0.mk (blk_drew BK470.out)
               have n4_ := Aside0.mk (blk_drew BK493.out)
               have n5_ := Aside0.mk (below_drew1 HB.out)
               clear HO_7
               clear HO_8
               clear BK469
               clear BK470
               clear BK493
               clear HB
               have HO_7 := n0_
               have HO_8 := n1_
               have BK469 := n2_
               have BK470 := n3_
               have BK493 := n4_
               have HB := n5_
               clear n0_ n1_ n2_ n3_ n4_ n5_
               have p500 : 0 ≤ (x12_2 : Int) := of_decide_eq_true (by first | (with_reducible assumption) | assumption)
               have q500 : x12_2 < (l0_0.length : Int) := of_decide_eq_true (by first | (with_reducible assumption) | assumption)
               obtain ⟨ad500, e500, hx500_0, hx500_1, hx500_2⟩ := at_T66 HR0_0.out x12_2 p500 q500
               have hw500_2 := hx500_2
               have hw500_1 := hx500_1
               have hw500_0 := hx500_0
               cases e500
               replace hx500_0 := cB HB hx500_0
               replace hx500_1 := cB HB hx500_1
               replace hx500_2 := cB HB hx500_2
               replace p500 := eq_true p500
               replace q500 := eq_true q500
               refine start_ (n := 12) (S := fun w' => w'.cell? ⟨gb469, 0, none⟩ = some (.slice (some ad500) l0_0.length c0_0) ∧ w'.cell? ⟨gb469, 1, none⟩ = some (.slice A0_1 l0_1.length c0_1) ∧ w'.cell? ⟨gb469, 2, none⟩ = some (.int .i64 a0_2) ∧ w'.cell? ⟨gb470, 0, none⟩ = some (.int .i64 a2_0) ∧ w'.cell? ⟨gb470, 1, none⟩ = some (.int .i64 a2_1) ∧ w'.cell? (ad500.add ((x12_2).toNat * 3)) = some (.int .i64 ((rd_T66 l0_0 x12_2).f0.f0)) ∧ w'.cell? ⟨(ad500.add ((x12_2).toNat * 3)).block, (ad500.add ((x12_2).toNat * 3)).off + 1, none⟩ = some (.int .i64 ((rd_T66 l0_0 x12_2).f0.f1)) ∧ w'.cell? ⟨(ad500.add ((x12_2).toNat * 3)).block, (ad500.add ((x12_2).toNat * 3)).off + 2, none⟩ = some (.int .i64 ((rd_T66 l0_0 x12_2).f1))) (ds := []) (bs 12 0) (by kernel_rfl) rfl rfl ⟨(blk_cell BK469.out 0).trans rfl, (blk_cell BK469.out 1).trans rfl, (blk_cell BK469.out 2).trans rfl, (blk_cell BK470.out 0).trans rfl, (blk_cell BK470.out 1).trans rfl, (cB HB hw500_0 :), (cB HB hw500_1 :), (cB HB hw500_2 :)⟩ (fun hHeld => ?_); refine with_tabW macadamlaw04_GangTrue.tab19 macadamlaw04_GangTrue.bits19 (fun HT_ HW_ => ?_)
               generalize wr.drew = w69 at HO_7 HO_8 BK469 BK470 BK493 HB hx500_0 hx500_1 hx500_2 hHeld ⊢
               refine pu HT_ 0 (some 116) (bs 12 1) ?_
               refine pu HT_ 2 (some 118) (bs 12 5) ?_
               refine pu HT_ 6 (some 122) (bs 12 69) ?_
               refine pu HT_ 8 (some 124) (bs 12 325) ?_
               refine tk8 HT_ HW_ hHeld 1 (some 117) (bs 12 327) ?_
               refine pu HT_ 3 (some 119) (bs 12 335) ?_
               refine pu HT_ 4 (some 120) (bs 12 351) ?_
               refine tk8 HT_ HW_ hHeld 5 (some 121) (bs 12 383) ?_
               refine tk8 HT_ HW_ hHeld 7 (some 123) (bs 12 511) ?_
               refine pu HT_ 9 (some 125) (bs 12 1023) ?_
               refine on HT_ 10 (some 126) (bs 12 2047) (fun K hK => ?_)
               refine goes_ Tryd.func49 (by kernel_rfl) rfl #[.agg #[.int .i64 ((rd_T66 l0_0 x12_2).f0.f0), .int .i64 ((rd_T66 l0_0 x12_2).f0.f1)], .int .i64 (wrap64 (a2_1 + x12_2))] (by rfl) rfl rfl (by (try simp only [List.map_toArray, List.map_cons, List.map_nil]); first | done | rfl | (simp only [List.length_drop, List.length_take]; rfl)) ?_
               with_reducible refine (macadamref00_From.calls ((rd_T66 l0_0 x12_2).f0.f0) ((rd_T66 l0_0 x12_2).f0.f1) (wrap64 (a2_1 + x12_2)) t501 _ A64.out).mono ?_
               rintro e w70 ⟨rfl, hb⟩
               refine ⟨_, rfl, ?_⟩
               have n0_ := Aside0.mk (Kd.R_below (by (with_reducible repeat (first | apply Kd.R_alloc | apply Kd.R_drewN | apply Kd.R_drew)); exact HO_7.out) hb)
               have n1_ := Aside0.mk (Kd.V_below (by (with_reducible repeat (first | apply Kd.V_alloc | apply Kd.V_drewN | apply Kd.V_drew)); exact HO_8.out) hb)
               have n2_ := Aside0.mk (blk_below (bm BK469) hb)
               have n3_ := Aside0.mk (blk_below (bm BK470) hb)
               have n4_ := Aside0.mk (blk_below (bm BK493) hb)
               have n5_ := Aside0.mk (below_step (bw3 HB GE469 GE470 GE493) hb)
               clear HO_7
               clear HO_8
               clear BK469
               clear BK470
               clear BK493
               clear HB
               have HO_7 := n0_
               have HO_8 := n1_
               have BK469 := n2_
               have BK470 := n3_
               have BK493 := n4_
               have HB := n5_
               clear n0_ n1_ n2_ n3_ n4_ n5_
               (try clear hb)
               (try clear hb2)
               (try clear hk)
               (try clear hi)
               refine hK.out _ _ ⟨(blk_cell BK469.out 0).trans rfl, (blk_cell BK469.out 1).trans rfl, (blk_cell BK469.out 2).trans rfl, (blk_cell BK470.out 0).trans rfl, (blk_cell BK470.out 1).trans rfl, (cB HB hw500_0 :), (cB HB hw500_1 :), (cB HB hw500_2 :)⟩ (fun hHeld => ?_)
               clear hK K
               refine nm 126 ?_
               refine pu HT_ 11 (some 20) (bs 12 4095) ?_
               refine done_ (done_of HT_.out (by kernel_rfl)) ?_
               obtain ⟨Ao71, co71, eo71⟩ := Kd.V_slice HO_8.out
               subst eo71
               try go_wp2_with (first | ((with_reducible refine gate_callee (f := 43) rfl ?_); refine gL (some 129) Tryd.func43 #[.slice Ao71 t476.length co71, .int .i64 x12_2] ?_; (with_reducible refine (macadamref00_Place.calls k3 _ _ t476 x12_2 t502 _ ?side1 ?side2 A65.out).mono ?_); (case side1 => repeat (first | exact (Kd.V_reads' HO_8.out).2.2 | (with_reducible refine Kd.C_alloc ?_ _) | (with_reducible refine Kd.C_drewN ?_ _) | (with_reducible refine Kd.C_drew ?_))); (case side2 => exact (Kd.V_reads' HO_8.out).2.1); rintro e w' ⟨rfl, ⟨nd, rfl⟩⟩; refine ⟨_, rfl, ?_⟩))
               (try (rw [drewN_self w70]; generalize hq_ : World.drewN w70 _ = w70; have n0_ : Aside0 (Kd.R k59 59 w70 w.heap.size (fun _ => True) (.slice Ao18 t473.length co18) t473) := ⟨by rw [← hq_]; exact (by (with_reducible repeat (first | apply Kd.R_alloc | apply Kd.R_drewN | apply Kd.R_drew)); exact HO_7.out)⟩; have n1_ : Aside0 (Kd.V (Kd.int .i64) 3 w70 w.heap.size (fun k_ => some k_ ≠ (.slice Ao18 t473.length co18 : Value).ownBlock ∧ k_ ≠ gb469 ∧ k_ ≠ gb470 ∧ k_ ≠ gb493) (.slice Ao71 t476.length co71) t476) := ⟨by rw [← hq_]; exact (by (with_reducible repeat (first | apply Kd.V_alloc | apply Kd.V_drewN | apply Kd.V_drew)); exact HO_8.out)⟩; have n2_ : Aside0 (w70.heap[gb469]? = some (.cells #[.slice (some ad500) l0_0.length c0_0, .slice A0_1 l0_1.length c0_1, .int .i64 a0_2] 25 (0, 0))) := ⟨by rw [← hq_]; exact (bm BK469)⟩; have n3_ : Aside0 (w70.heap[gb470]? = some (.cells #[.int .i64 a2_0, .int .i64 a2_1] 68 (0, 0))) := ⟨by rw [← hq_]; exact (bm BK470)⟩; have n4_ : Aside0 (w70.heap[gb493]? = some (.cells #[.int .i64 t490, .int .i64 t491] 40 (0, 0))) := ⟨by rw [← hq_]; exact (bm BK493)⟩; have n5_ : Aside0 (Below w.heap.size w w70) := ⟨by rw [← hq_]; exact (bw3 HB GE469 GE470 GE493)⟩; clear HO_7 HO_8 BK469 BK470 BK493 HB hq_; have HO_7 := n0_; have HO_8 := n1_; have BK469 := n2_; have BK470 := n3_; have BK493 := n4_; have HB := n5_; clear n0_ n1_ n2_ n3_ n4_ n5_))
               have n0_ := Aside0.mk (Kd.R_drew HO_7.out)
               have n1_ := Aside0.mk (Kd.V_drew HO_8.out)
               have n2_ := Aside0.mk (blk_drew BK469.out)
               have n3_ := Aside0.mk (blk_drew BK470.out)
               have n4_ := Aside0.mk (blk_drew BK493.out)
               have n5_ := Aside0.mk (below_drew1 HB.out)
               clear HO_7
               clear HO_8
               clear BK469
               clear BK470
               clear BK493
               clear HB
               have HO_7 := n0_
               have HO_8 := n1_
               have BK469 := n2_
               have BK470 := n3_
               have BK493 := n4_
               have HB := n5_
               clear n0_ n1_ n2_ n3_ n4_ n5_
               refine start_ (n := 36) (S := fun w' => w'.cell? ⟨gb493, 0, none⟩ = some (.int .i64 t490) ∧ w'.cell? ⟨gb493, 1, none⟩ = some (.int .i64 t491)) (ds := []) (bs 36 0) (by kernel_rfl) rfl rfl ⟨(blk_cell BK493.out 0).trans rfl, (blk_cell BK493.out 1).trans rfl⟩ (fun hHeld => ?_); refine with_tabW macadamlaw04_GangTrue.tab21 macadamlaw04_GangTrue.bits21 (fun HT_ HW_ => ?_)
               generalize w70.drew = w72 at HO_7 HO_8 BK469 BK470 BK493 HB hHeld ⊢
               refine pu HT_ 0 (some 131) (bs 36 1) ?_
               refine pu HT_ 1 (some 132) (bs 36 3) ?_
               refine pu HT_ 2 (some 133) (bs 36 7) ?_
               refine pu HT_ 4 (some 135) (bs 36 23) ?_
               refine pu HT_ 5 (some 136) (bs 36 55) ?_
               refine tk2 HT_ HW_ hHeld 3 (some 134) (bs 36 63) ?_
               refine on HT_ 6 (some 137) (bs 36 127) (fun K hK => ?_)
               refine goes_ Tryd.func50 (by kernel_rfl) rfl #[.int .i64 x16_3, .int .i64 x17_3] (by rfl) rfl rfl (by (try simp only [List.map_toArray, List.map_cons, List.map_nil]); first | done | rfl | (simp only [List.length_drop, List.length_take]; rfl)) ?_
               with_reducible refine (macadamref00_Reach.calls x16_3 x17_3 t503 t504 _ A67.out).mono ?_
               rintro e w73 ⟨rfl, hb⟩
               refine ⟨_, rfl, ?_⟩
               have n0_ := Aside0.mk (Kd.R_below (by (with_reducible repeat (first | apply Kd.R_alloc | apply Kd.R_drewN | apply Kd.R_drew)); exact HO_7.out) hb)
               have n1_ := Aside0.mk (Kd.V_below (by (with_reducible repeat (first | apply Kd.V_alloc | apply Kd.V_drewN | apply Kd.V_drew)); exact HO_8.out) hb)
               have n2_ := Aside0.mk (blk_below (bm BK469) hb)
               have n3_ := Aside0.mk (blk_below (bm BK470) hb)
               have n4_ := Aside0.mk (blk_below (bm BK493) hb)
               have n5_ := Aside0.mk (below_step (bw3 HB GE469 GE470 GE493) hb)
               clear HO_7
               clear HO_8
               clear BK469
               clear BK470
               clear BK493
               clear HB
               have HO_7 := n0_
               have HO_8 := n1_
               have BK469 := n2_
               have BK470 := n3_
               have BK493 := n4_
               have HB := n5_
               clear n0_ n1_ n2_ n3_ n4_ n5_
               (try clear hb)
               (try clear hb2)
               (try clear hk)
               (try clear hi)
               refine hK.out _ _ ⟨(blk_cell BK493.out 0).trans rfl, (blk_cell BK493.out 1).trans rfl⟩ (fun hHeld => ?_)
               clear hK K
               refine nm 137 ?_
               refine pu HT_ 7 (some 138) (bs 36 255) ?_
               refine pu HT_ 8 (some 139) (bs 36 511) ?_
               refine pu HT_ 9 (some 140) (bs 36 1023) ?_
               refine pn HT_ 10 (some 141) (bs 36 2047) ?_
               refine pn HT_ 11 (some 142) (bs 36 4095) ?_
               refine pn HT_ 12 (some 143) (bs 36 8191) ?_
               refine pn HT_ 13 (some 144) (bs 36 16383) ?_
               refine pu HT_ 14 (some 145) (bs 36 32767) ?_
               refine pu HT_ 15 (some 146) (bs 36 65535) ?_
               refine pn HT_ 16 (some 147) (bs 36 131071) ?_
               refine pn HT_ 17 (some 148) (bs 36 262143) ?_
               refine pn HT_ 18 (some 149) (bs 36 524287) ?_
               refine pn HT_ 19 (some 150) (bs 36 1048575) ?_
               refine pn HT_ 20 (some 151) (bs 36 2097151) ?_
               refine pn HT_ 21 (some 152) (bs 36 4194303) ?_
               refine pu HT_ 22 (some 153) (bs 36 8388607) ?_
               refine pu HT_ 23 (some 154) (bs 36 16777215) ?_
               refine pn HT_ 24 (some 155) (bs 36 33554431) ?_
               refine pn HT_ 25 (some 156) (bs 36 67108863) ?_
               refine pn HT_ 26 (some 157) (bs 36 134217727) ?_
               refine pn HT_ 27 (some 158) (bs 36 268435455) ?_
               refine pn HT_ 28 (some 159) (bs 36 536870911) ?_
               refine pn HT_ 29 (some 160) (bs 36 1073741823) ?_
               refine pn HT_ 30 (some 161) (bs 36 2147483647) ?_
               refine pn HT_ 31 (some 162) (bs 36 4294967295) ?_
               refine pn HT_ 32 (some 163) (bs 36 8589934591) ?_
               refine pn HT_ 33 (some 164) (bs 36 17179869183) ?_
               refine pn HT_ 34 (some 165) (bs 36 34359738367) ?_
               refine pu HT_ 35 (some 166) (bs 36 68719476735) ?_
               refine done_ (done_of HT_.out (by kernel_rfl)) ?_
               try go_wp2
               go_ret
               exact ⟨by first | rfl | (simp [errW_none, errW_some] <;> rfl) | (simp [*, errW_none, errW_some] <;> rfl), bw3 HB GE469 GE470 GE493⟩
              ·as_aux_lemma =>
               rw [if_neg c68] at H
               have c68b0 : (!(t490 == t503) || (!(t491 == t504))) = false := by simpa using c68
               clear c68
               replace H := Option.bind_eq_some_iff.mp H
               obtain ⟨t505, A740, H⟩ := H
               replace H : (if t505 = true then (if t502 ≥ 0 then (if x15_3 < t501 then (some false) else (if t481 = 0 then (if x12_2 < t480 then (macadamlaw04_GangTrue.l0 k3 t473 t476 t480 t481 (wrap64 (x12_2 + 1)) l0_0 l0_1 a0_2 a2_0 a2_1) else (macadamlaw04_GangTrue.l0 k3 t473 t476 t480 t481 (wrap64 (x12_2 + 1)) l0_0 l0_1 a0_2 a2_0 a2_1)) else (macadamlaw04_GangTrue.l0 k3 t473 t476 t480 t481 (wrap64 (x12_2 + 1)) l0_0 l0_1 a0_2 a2_0 a2_1))) else (if t481 = 0 then (if x12_2 < t480 then (some false) else (macadamlaw04_GangTrue.l0 k3 t473 t476 t480 t481 (wrap64 (x12_2 + 1)) l0_0 l0_1 a0_2 a2_0 a2_1)) else (macadamlaw04_GangTrue.l0 k3 t473 t476 t480 t481 (wrap64 (x12_2 + 1)) l0_0 l0_1 a0_2 a2_0 a2_1))) else (some false)) = some r := H
               have A74 := Aside0.mk A740
               clear A740
               by_cases c75 : t505 = true
               ·as_aux_lemma =>
                subst c75
                have H1 : (if t502 ≥ 0 then (if x15_3 < t501 then (some false) else (if t481 = 0 then (if x12_2 < t480 then (macadamlaw04_GangTrue.l0 k3 t473 t476 t480 t481 (wrap64 (x12_2 + 1)) l0_0 l0_1 a0_2 a2_0 a2_1) else (macadamlaw04_GangTrue.l0 k3 t473 t476 t480 t481 (wrap64 (x12_2 + 1)) l0_0 l0_1 a0_2 a2_0 a2_1)) else (macadamlaw04_GangTrue.l0 k3 t473 t476 t480 t481 (wrap64 (x12_2 + 1)) l0_0 l0_1 a0_2 a2_0 a2_1))) else (if t481 = 0 then (if x12_2 < t480 then (some false) else (macadamlaw04_GangTrue.l0 k3 t473 t476 t480 t481 (wrap64 (x12_2 + 1)) l0_0 l0_1 a0_2 a2_0 a2_1)) else (macadamlaw04_GangTrue.l0 k3 t473 t476 t480 t481 (wrap64 (x12_2 + 1)) l0_0 l0_1 a0_2 a2_0 a2_1))) = some r := by rw [if_pos rfl] at H; exact H
                clear H
                have H := H1
                clear H1
                by_cases c76 : t502 ≥ 0
                ·as_aux_lemma =>
                 rw [if_pos c76] at H
                 have c76b0 : decide (0 ≤ t502) = true := decide_eq_true c76
                 clear c76
                 by_cases c77 : x15_3 < t501
                 ·as_aux_lemma =>
                  rw [if_pos c77] at H
                  have c77b0 : decide (x15_3 < t501) = true := decide_eq_true c77
                  clear c77
                  obtain rfl := Option.some.inj H
                  try go_wp2
                  have n0_ := Aside0.mk (Kd.R_drew HO_7.out)
                  have n1_ := Aside0.mk (Kd.V_drew HO_8.out)
                  have n2_ := Aside0.mk (blk_drew BK469.out)
                  have n3_ := Aside0.mk (blk_drew BK470.out)
                  have n4_ := Aside0.mk (blk_drew BK493.out)
                  have n5_ := Aside0.mk (below_drew1 HB.out)
                  clear HO_7
                  clear HO_8
                  clear BK469
                  clear BK470
                  clear BK493
                  clear HB
                  have HO_7 := n0_
                  have HO_8 := n1_
                  have BK469 := n2_
                  have BK470 := n3_
                  have BK493 := n4_
                  have HB := n5_
                  clear n0_ n1_ n2_ n3_ n4_ n5_
                  have p500 : 0 ≤ (x12_2 : Int) := of_decide_eq_true (by first | (with_reducible assumption) | assumption)
                  have q500 : x12_2 < (l0_0.length : Int) := of_decide_eq_true (by first | (with_reducible assumption) | assumption)
                  obtain ⟨ad500, e500, hx500_0, hx500_1, hx500_2⟩ := at_T66 HR0_0.out x12_2 p500 q500
                  have hw500_2 := hx500_2
                  have hw500_1 := hx500_1
                  have hw500_0 := hx500_0
                  cases e500
                  replace hx500_0 := cB HB hx500_0
                  replace hx500_1 := cB HB hx500_1
                  replace hx500_2 := cB HB hx500_2
                  replace p500 := eq_true p500
                  replace q500 := eq_true q500
                  refine start_ (n := 12) (S := fun w' => w'.cell? ⟨gb469, 0, none⟩ = some (.slice (some ad500) l0_0.length c0_0) ∧ w'.cell? ⟨gb469, 1, none⟩ = some (.slice A0_1 l0_1.length c0_1) ∧ w'.cell? ⟨gb469, 2, none⟩ = some (.int .i64 a0_2) ∧ w'.cell? ⟨gb470, 0, none⟩ = some (.int .i64 a2_0) ∧ w'.cell? ⟨gb470, 1, none⟩ = some (.int .i64 a2_1) ∧ w'.cell? (ad500.add ((x12_2).toNat * 3)) = some (.int .i64 ((rd_T66 l0_0 x12_2).f0.f0)) ∧ w'.cell? ⟨(ad500.add ((x12_2).toNat * 3)).block, (ad500.add ((x12_2).toNat * 3)).off + 1, none⟩ = some (.int .i64 ((rd_T66 l0_0 x12_2).f0.f1)) ∧ w'.cell? ⟨(ad500.add ((x12_2).toNat * 3)).block, (ad500.add ((x12_2).toNat * 3)).off + 2, none⟩ = some (.int .i64 ((rd_T66 l0_0 x12_2).f1))) (ds := []) (bs 12 0) (by kernel_rfl) rfl rfl ⟨(blk_cell BK469.out 0).trans rfl, (blk_cell BK469.out 1).trans rfl, (blk_cell BK469.out 2).trans rfl, (blk_cell BK470.out 0).trans rfl, (blk_cell BK470.out 1).trans rfl, (cB HB hw500_0 :), (cB HB hw500_1 :), (cB HB hw500_2 :)⟩ (fun hHeld => ?_); refine with_tabW macadamlaw04_GangTrue.tab19 macadamlaw04_GangTrue.bits19 (fun HT_ HW_ => ?_)
                  generalize wr.drew = w78 at HO_7 HO_8 BK469 BK470 BK493 HB hx500_0 hx500_1 hx500_2 hHeld ⊢
                  refine pu HT_ 0 (some 116) (bs 12 1) ?_
                  refine pu HT_ 2 (some 118) (bs 12 5) ?_
                  refine pu HT_ 6 (some 122) (bs 12 69) ?_
                  refine pu HT_ 8 (some 124) (bs 12 325) ?_
                  refine tk8 HT_ HW_ hHeld 1 (some 117) (bs 12 327) ?_
                  refine pu HT_ 3 (some 119) (bs 12 335) ?_
                  refine pu HT_ 4 (some 120) (bs 12 351) ?_
                  refine tk8 HT_ HW_ hHeld 5 (some 121) (bs 12 383) ?_
                  refine tk8 HT_ HW_ hHeld 7 (some 123) (bs 12 511) ?_
                  refine pu HT_ 9 (some 125) (bs 12 1023) ?_
                  refine on HT_ 10 (some 126) (bs 12 2047) (fun K hK => ?_)
                  refine goes_ Tryd.func49 (by kernel_rfl) rfl #[.agg #[.int .i64 ((rd_T66 l0_0 x12_2).f0.f0), .int .i64 ((rd_T66 l0_0 x12_2).f0.f1)], .int .i64 (wrap64 (a2_1 + x12_2))] (by rfl) rfl rfl (by (try simp only [List.map_toArray, List.map_cons, List.map_nil]); first | done | rfl | (simp only [List.length_drop, List.length_take]; rfl)) ?_
                  with_reducible refine (macadamref00_From.calls ((rd_T66 l0_0 x12_2).f0.f0) ((rd_T66 l0_0 x12_2).f0.f1) (wrap64 (a2_1 + x12_2)) t501 _ A64.out).mono ?_
                  rintro e w79 ⟨rfl, hb⟩
                  refine ⟨_, rfl, ?_⟩
                  have n0_ := Aside0.mk (Kd.R_below (by (with_reducible repeat (first | apply Kd.R_alloc | apply Kd.R_drewN | apply Kd.R_drew)); exact HO_7.out) hb)
                  have n1_ := Aside0.mk (Kd.V_below (by (with_reducible repeat (first | apply Kd.V_alloc | apply Kd.V_drewN | apply Kd.V_drew)); exact HO_8.out) hb)
                  have n2_ := Aside0.mk (blk_below (bm BK469) hb)
                  have n3_ := Aside0.mk (blk_below (bm BK470) hb)
                  have n4_ := Aside0.mk (blk_below (bm BK493) hb)
                  have n5_ := Aside0.mk (below_step (bw3 HB GE469 GE470 GE493) hb)
                  clear HO_7
                  clear HO_8
                  clear BK469
                  clear BK470
                  clear BK493
                  clear HB
                  have HO_7 := n0_
                  have HO_8 := n1_
                  have BK469 := n2_
                  have BK470 := n3_
                  have BK493 := n4_
                  have HB := n5_
                  clear n0_ n1_ n2_ n3_ n4_ n5_
                  (try clear hb)
                  (try clear hb2)
                  (try clear hk)
                  (try clear hi)
                  refine hK.out _ _ ⟨(blk_cell BK469.out 0).trans rfl, (blk_cell BK469.out 1).trans rfl, (blk_cell BK469.out 2).trans rfl, (blk_cell BK470.out 0).trans rfl, (blk_cell BK470.out 1).trans rfl, (cB HB hw500_0 :), (cB HB hw500_1 :), (cB HB hw500_2 :)⟩ (fun hHeld => ?_)
                  clear hK K
                  refine nm 126 ?_
                  refine pu HT_ 11 (some 20) (bs 12 4095) ?_
                  refine done_ (done_of HT_.out (by kernel_rfl)) ?_
                  obtain ⟨Ao80, co80, eo80⟩ := Kd.V_slice HO_8.out
                  subst eo80
                  try go_wp2_with (first | ((with_reducible refine gate_callee (f := 43) rfl ?_); refine gL (some 129) Tryd.func43 #[.slice Ao80 t476.length co80, .int .i64 x12_2] ?_; (with_reducible refine (macadamref00_Place.calls k3 _ _ t476 x12_2 t502 _ ?side1 ?side2 A65.out).mono ?_); (case side1 => repeat (first | exact (Kd.V_reads' HO_8.out).2.2 | (with_reducible refine Kd.C_alloc ?_ _) | (with_reducible refine Kd.C_drewN ?_ _) | (with_reducible refine Kd.C_drew ?_))); (case side2 => exact (Kd.V_reads' HO_8.out).2.1); rintro e w' ⟨rfl, ⟨nd, rfl⟩⟩; refine ⟨_, rfl, ?_⟩))
                  (try (rw [drewN_self w79]; generalize hq_ : World.drewN w79 _ = w79; have n0_ : Aside0 (Kd.R k59 59 w79 w.heap.size (fun _ => True) (.slice Ao18 t473.length co18) t473) := ⟨by rw [← hq_]; exact (by (with_reducible repeat (first | apply Kd.R_alloc | apply Kd.R_drewN | apply Kd.R_drew)); exact HO_7.out)⟩; have n1_ : Aside0 (Kd.V (Kd.int .i64) 3 w79 w.heap.size (fun k_ => some k_ ≠ (.slice Ao18 t473.length co18 : Value).ownBlock ∧ k_ ≠ gb469 ∧ k_ ≠ gb470 ∧ k_ ≠ gb493) (.slice Ao80 t476.length co80) t476) := ⟨by rw [← hq_]; exact (by (with_reducible repeat (first | apply Kd.V_alloc | apply Kd.V_drewN | apply Kd.V_drew)); exact HO_8.out)⟩; have n2_ : Aside0 (w79.heap[gb469]? = some (.cells #[.slice (some ad500) l0_0.length c0_0, .slice A0_1 l0_1.length c0_1, .int .i64 a0_2] 25 (0, 0))) := ⟨by rw [← hq_]; exact (bm BK469)⟩; have n3_ : Aside0 (w79.heap[gb470]? = some (.cells #[.int .i64 a2_0, .int .i64 a2_1] 68 (0, 0))) := ⟨by rw [← hq_]; exact (bm BK470)⟩; have n4_ : Aside0 (w79.heap[gb493]? = some (.cells #[.int .i64 t490, .int .i64 t491] 40 (0, 0))) := ⟨by rw [← hq_]; exact (bm BK493)⟩; have n5_ : Aside0 (Below w.heap.size w w79) := ⟨by rw [← hq_]; exact (bw3 HB GE469 GE470 GE493)⟩; clear HO_7 HO_8 BK469 BK470 BK493 HB hq_; have HO_7 := n0_; have HO_8 := n1_; have BK469 := n2_; have BK470 := n3_; have BK493 := n4_; have HB := n5_; clear n0_ n1_ n2_ n3_ n4_ n5_))
                  have n0_ := Aside0.mk (Kd.R_drew HO_7.out)
                  have n1_ := Aside0.mk (Kd.V_drew HO_8.out)
                  have n2_ := Aside0.mk (blk_drew BK469.out)
                  have n3_ := Aside0.mk (blk_drew BK470.out)
                  have n4_ := Aside0.mk (blk_drew BK493.out)
                  have n5_ := Aside0.mk (below_drew1 HB.out)
                  clear HO_7
                  clear HO_8
                  clear BK469
                  clear BK470
                  clear BK493
                  clear HB
                  have HO_7 := n0_
                  have HO_8 := n1_
                  have BK469 := n2_
                  have BK470 := n3_
                  have BK493 := n4_
                  have HB := n5_
                  clear n0_ n1_ n2_ n3_ n4_ n5_
                  refine start_ (n := 36) (S := fun w' => w'.cell? ⟨gb493, 0, none⟩ = some (.int .i64 t490) ∧ w'.cell? ⟨gb493, 1, none⟩ = some (.int .i64 t491)) (ds := []) (bs 36 0) (by kernel_rfl) rfl rfl ⟨(blk_cell BK493.out 0).trans rfl, (blk_cell BK493.out 1).trans rfl⟩ (fun hHeld => ?_); refine with_tabW macadamlaw04_GangTrue.tab21 macadamlaw04_GangTrue.bits21 (fun HT_ HW_ => ?_)
                  generalize w79.drew = w81 at HO_7 HO_8 BK469 BK470 BK493 HB hHeld ⊢
                  refine pu HT_ 0 (some 131) (bs 36 1) ?_
                  refine pu HT_ 1 (some 132) (bs 36 3) ?_
                  refine pu HT_ 2 (some 133) (bs 36 7) ?_
                  refine pu HT_ 4 (some 135) (bs 36 23) ?_
                  refine pu HT_ 5 (some 136) (bs 36 55) ?_
                  refine tk2 HT_ HW_ hHeld 3 (some 134) (bs 36 63) ?_
                  refine on HT_ 6 (some 137) (bs 36 127) (fun K hK => ?_)
                  refine goes_ Tryd.func50 (by kernel_rfl) rfl #[.int .i64 x16_3, .int .i64 x17_3] (by rfl) rfl rfl (by (try simp only [List.map_toArray, List.map_cons, List.map_nil]); first | done | rfl | (simp only [List.length_drop, List.length_take]; rfl)) ?_
                  with_reducible refine (macadamref00_Reach.calls x16_3 x17_3 t503 t504 _ A67.out).mono ?_
                  rintro e w82 ⟨rfl, hb⟩
                  refine ⟨_, rfl, ?_⟩
                  have n0_ := Aside0.mk (Kd.R_below (by (with_reducible repeat (first | apply Kd.R_alloc | apply Kd.R_drewN | apply Kd.R_drew)); exact HO_7.out) hb)
                  have n1_ := Aside0.mk (Kd.V_below (by (with_reducible repeat (first | apply Kd.V_alloc | apply Kd.V_drewN | apply Kd.V_drew)); exact HO_8.out) hb)
                  have n2_ := Aside0.mk (blk_below (bm BK469) hb)
                  have n3_ := Aside0.mk (blk_below (bm BK470) hb)
                  have n4_ := Aside0.mk (blk_below (bm BK493) hb)
                  have n5_ := Aside0.mk (below_step (bw3 HB GE469 GE470 GE493) hb)
                  clear HO_7
                  clear HO_8
                  clear BK469
                  clear BK470
                  clear BK493
                  clear HB
                  have HO_7 := n0_
                  have HO_8 := n1_
                  have BK469 := n2_
                  have BK470 := n3_
                  have BK493 := n4_
                  have HB := n5_
                  clear n0_ n1_ n2_ n3_ n4_ n5_
                  (try clear hb)
                  (try clear hb2)
                  (try clear hk)
                  (try clear hi)
                  refine hK.out _ _ ⟨(blk_cell BK493.out 0).trans rfl, (blk_cell BK493.out 1).trans rfl⟩ (fun hHeld => ?_)
                  clear hK K
                  refine nm 137 ?_
                  refine pu HT_ 7 (some 138) (bs 36 255) ?_
                  refine pu HT_ 8 (some 139) (bs 36 511) ?_
                  refine pu HT_ 9 (some 140) (bs 36 1023) ?_
                  refine pu HT_ 11 (some 142) (bs 36 3071) ?_
                  refine tk2 HT_ HW_ hHeld 10 (some 141) (bs 36 4095) ?_
                  refine on HT_ 12 (some 143) (bs 36 8191) (fun K hK => ?_)
                  refine goes_ Tryd.func51 (by kernel_rfl) rfl #[.agg #[.int .i64 t490, .int .i64 t491], .int .i64 x15_3] (by rfl) rfl rfl (by (try simp only [List.map_toArray, List.map_cons, List.map_nil]); first | done | rfl | (simp only [List.length_drop, List.length_take]; rfl)) ?_
                  with_reducible refine (macadamref00_Holds.calls t490 t491 x15_3 true _ A74.out).mono ?_
                  rintro e w83 ⟨rfl, hb⟩
                  refine ⟨_, rfl, ?_⟩
                  have n0_ := Aside0.mk (Kd.R_below (by (with_reducible repeat (first | apply Kd.R_alloc | apply Kd.R_drewN | apply Kd.R_drew)); exact HO_7.out) hb)
                  have n1_ := Aside0.mk (Kd.V_below (by (with_reducible repeat (first | apply Kd.V_alloc | apply Kd.V_drewN | apply Kd.V_drew)); exact HO_8.out) hb)
                  have n2_ := Aside0.mk (blk_below (bm BK469) hb)
                  have n3_ := Aside0.mk (blk_below (bm BK470) hb)
                  have n4_ := Aside0.mk (blk_below (bm BK493) hb)
                  have n5_ := Aside0.mk (below_step (bw3 HB GE469 GE470 GE493) hb)
                  clear HO_7
                  clear HO_8
                  clear BK469
                  clear BK470
                  clear BK493
                  clear HB
                  have HO_7 := n0_
                  have HO_8 := n1_
                  have BK469 := n2_
                  have BK470 := n3_
                  have BK493 := n4_
                  have HB := n5_
                  clear n0_ n1_ n2_ n3_ n4_ n5_
                  (try clear hb)
                  (try clear hb2)
                  (try clear hk)
                  (try clear hi)
                  refine hK.out _ _ ⟨(blk_cell BK493.out 0).trans rfl, (blk_cell BK493.out 1).trans rfl⟩ (fun hHeld => ?_)
                  clear hK K
                  refine nm 143 ?_
                  refine pu HT_ 13 (some 144) (bs 36 16383) ?_
                  refine pu HT_ 14 (some 145) (bs 36 32767) ?_
                  refine pu HT_ 15 (some 146) (bs 36 65535) ?_
                  refine pu HT_ 16 (some 147) (bs 36 131071) ?_
                  refine pu HT_ 17 (some 148) (bs 36 262143) ?_
                  refine pu HT_ 18 (some 149) (bs 36 524287) ?_
                  refine pu HT_ 19 (some 150) (bs 36 1048575) ?_
                  refine pu HT_ 20 (some 151) (bs 36 2097151) ?_
                  refine pu HT_ 21 (some 152) (bs 36 4194303) ?_
                  refine pu HT_ 22 (some 153) (bs 36 8388607) ?_
                  refine pu HT_ 23 (some 154) (bs 36 16777215) ?_
                  refine pn HT_ 24 (some 155) (bs 36 33554431) ?_
                  refine pn HT_ 25 (some 156) (bs 36 67108863) ?_
                  refine pn HT_ 26 (some 157) (bs 36 134217727) ?_
                  refine pn HT_ 27 (some 158) (bs 36 268435455) ?_
                  refine pn HT_ 28 (some 159) (bs 36 536870911) ?_
                  refine pn HT_ 29 (some 160) (bs 36 1073741823) ?_
                  refine pn HT_ 30 (some 161) (bs 36 2147483647) ?_
                  refine pn HT_ 31 (some 162) (bs 36 4294967295) ?_
                  refine pn HT_ 32 (some 163) (bs 36 8589934591) ?_
                  refine pn HT_ 33 (some 164) (bs 36 17179869183) ?_
                  refine pn HT_ 34 (some 165) (bs 36 34359738367) ?_
                  refine pu HT_ 35 (some 166) (bs 36 68719476735) ?_
                  refine done_ (done_of HT_.out (by kernel_rfl)) ?_
                  try go_wp2
                  go_ret
                  exact ⟨by first | rfl | (simp [errW_none, errW_some] <;> rfl) | (simp [*, errW_none, errW_some] <;> rfl), bw3 HB GE469 GE470 GE493⟩
                 ·as_aux_lemma =>
                  rw [if_neg c77] at H
                  have c77b0 : decide (x15_3 < t501) = false := decide_eq_false c77
                  clear c77
                  by_cases c84 : t481 = 0
                  ·as_aux_lemma =>
                   rw [if_pos c84] at H
                   have c84b0 : (t481 == 0) = true := beq_iff_eq.mpr c84
                   have c84b1 : (t481 != 0) = false := bne_eq_false_iff_eq.mpr c84
                   clear c84
                   by_cases c85 : x12_2 < t480
                   ·as_aux_lemma =>
                    rw [if_pos c85] at H
                    have c85b0 : decide (x12_2 < t480) = true := decide_eq_true c85
                    clear c85
                    have H' := Aside0.mk H
                    clear H
                    try go_wp2
                    have n0_ := Aside0.mk (Kd.R_drew HO_7.out)
                    have n1_ := Aside0.mk (Kd.V_drew HO_8.out)
                    have n2_ := Aside0.mk (blk_drew BK469.out)
                    have n3_ := Aside0.mk (blk_drew BK470.out)
                    have n4_ := Aside0.mk (blk_drew BK493.out)
                    have n5_ := Aside0.mk (below_drew1 HB.out)
                    clear HO_7
                    clear HO_8
                    clear BK469
                    clear BK470
                    clear BK493
                    clear HB
                    have HO_7 := n0_
                    have HO_8 := n1_
                    have BK469 := n2_
                    have BK470 := n3_
                    have BK493 := n4_
                    have HB := n5_
                    clear n0_ n1_ n2_ n3_ n4_ n5_
                    have p500 : 0 ≤ (x12_2 : Int) := of_decide_eq_true (by first | (with_reducible assumption) | assumption)
                    have q500 : x12_2 < (l0_0.length : Int) := of_decide_eq_true (by first | (with_reducible assumption) | assumption)
                    obtain ⟨ad500, e500, hx500_0, hx500_1, hx500_2⟩ := at_T66 HR0_0.out x12_2 p500 q500
                    have hw500_2 := hx500_2
                    have hw500_1 := hx500_1
                    have hw500_0 := hx500_0
                    cases e500
                    replace hx500_0 := cB HB hx500_0
                    replace hx500_1 := cB HB hx500_1
                    replace hx500_2 := cB HB hx500_2
                    replace p500 := eq_true p500
                    replace q500 := eq_true q500
                    refine start_ (n := 12) (S := fun w' => w'.cell? ⟨gb469, 0, none⟩ = some (.slice (some ad500) l0_0.length c0_0) ∧ w'.cell? ⟨gb469, 1, none⟩ = some (.slice A0_1 l0_1.length c0_1) ∧ w'.cell? ⟨gb469, 2, none⟩ = some (.int .i64 a0_2) ∧ w'.cell? ⟨gb470, 0, none⟩ = some (.int .i64 a2_0) ∧ w'.cell? ⟨gb470, 1, none⟩ = some (.int .i64 a2_1) ∧ w'.cell? (ad500.add ((x12_2).toNat * 3)) = some (.int .i64 ((rd_T66 l0_0 x12_2).f0.f0)) ∧ w'.cell? ⟨(ad500.add ((x12_2).toNat * 3)).block, (ad500.add ((x12_2).toNat * 3)).off + 1, none⟩ = some (.int .i64 ((rd_T66 l0_0 x12_2).f0.f1)) ∧ w'.cell? ⟨(ad500.add ((x12_2).toNat * 3)).block, (ad500.add ((x12_2).toNat * 3)).off + 2, none⟩ = some (.int .i64 ((rd_T66 l0_0 x12_2).f1))) (ds := []) (bs 12 0) (by kernel_rfl) rfl rfl ⟨(blk_cell BK469.out 0).trans rfl, (blk_cell BK469.out 1).trans rfl, (blk_cell BK469.out 2).trans rfl, (blk_cell BK470.out 0).trans rfl, (blk_cell BK470.out 1).trans rfl, (cB HB hw500_0 :), (cB HB hw500_1 :), (cB HB hw500_2 :)⟩ (fun hHeld => ?_); refine with_tabW macadamlaw04_GangTrue.tab19 macadamlaw04_GangTrue.bits19 (fun HT_ HW_ => ?_)
                    generalize wr.drew = w86 at HO_7 HO_8 BK469 BK470 BK493 HB hx500_0 hx500_1 hx500_2 hHeld ⊢
                    refine pu HT_ 0 (some 116) (bs 12 1) ?_
                    refine pu HT_ 2 (some 118) (bs 12 5) ?_
                    refine pu HT_ 6 (some 122) (bs 12 69) ?_
                    refine pu HT_ 8 (some 124) (bs 12 325) ?_
                    refine tk8 HT_ HW_ hHeld 1 (some 117) (bs 12 327) ?_
                    refine pu HT_ 3 (some 119) (bs 12 335) ?_
                    refine pu HT_ 4 (some 120) (bs 12 351) ?_
                    refine tk8 HT_ HW_ hHeld 5 (some 121) (bs 12 383) ?_
                    refine tk8 HT_ HW_ hHeld 7 (some 123) (bs 12 511) ?_
                    refine pu HT_ 9 (some 125) (bs 12 1023) ?_
                    refine on HT_ 10 (some 126) (bs 12 2047) (fun K hK => ?_)
                    refine goes_ Tryd.func49 (by kernel_rfl) rfl #[.agg #[.int .i64 ((rd_T66 l0_0 x12_2).f0.f0), .int .i64 ((rd_T66 l0_0 x12_2).f0.f1)], .int .i64 (wrap64 (a2_1 + x12_2))] (by rfl) rfl rfl (by (try simp only [List.map_toArray, List.map_cons, List.map_nil]); first | done | rfl | (simp only [List.length_drop, List.length_take]; rfl)) ?_
                    with_reducible refine (macadamref00_From.calls ((rd_T66 l0_0 x12_2).f0.f0) ((rd_T66 l0_0 x12_2).f0.f1) (wrap64 (a2_1 + x12_2)) t501 _ A64.out).mono ?_
                    rintro e w87 ⟨rfl, hb⟩
                    refine ⟨_, rfl, ?_⟩
                    have n0_ := Aside0.mk (Kd.R_below (by (with_reducible repeat (first | apply Kd.R_alloc | apply Kd.R_drewN | apply Kd.R_drew)); exact HO_7.out) hb)
                    have n1_ := Aside0.mk (Kd.V_below (by (with_reducible repeat (first | apply Kd.V_alloc | apply Kd.V_drewN | apply Kd.V_drew)); exact HO_8.out) hb)
                    have n2_ := Aside0.mk (blk_below (bm BK469) hb)
                    have n3_ := Aside0.mk (blk_below (bm BK470) hb)
                    have n4_ := Aside0.mk (blk_below (bm BK493) hb)
                    have n5_ := Aside0.mk (below_step (bw3 HB GE469 GE470 GE493) hb)
                    clear HO_7
                    clear HO_8
                    clear BK469
                    clear BK470
                    clear BK493
                    clear HB
                    have HO_7 := n0_
                    have HO_8 := n1_
                    have BK469 := n2_
                    have BK470 := n3_
                    have BK493 := n4_
                    have HB := n5_
                    clear n0_ n1_ n2_ n3_ n4_ n5_
                    (try clear hb)
                    (try clear hb2)
                    (try clear hk)
                    (try clear hi)
                    refine hK.out _ _ ⟨(blk_cell BK469.out 0).trans rfl, (blk_cell BK469.out 1).trans rfl, (blk_cell BK469.out 2).trans rfl, (blk_cell BK470.out 0).trans rfl, (blk_cell BK470.out 1).trans rfl, (cB HB hw500_0 :), (cB HB hw500_1 :), (cB HB hw500_2 :)⟩ (fun hHeld => ?_)
                    clear hK K
                    refine nm 126 ?_
                    refine pu HT_ 11 (some 20) (bs 12 4095) ?_
                    refine done_ (done_of HT_.out (by kernel_rfl)) ?_
                    obtain ⟨Ao88, co88, eo88⟩ := Kd.V_slice HO_8.out
                    subst eo88
                    try go_wp2_with (first | ((with_reducible refine gate_callee (f := 43) rfl ?_); refine gL (some 129) Tryd.func43 #[.slice Ao88 t476.length co88, .int .i64 x12_2] ?_; (with_reducible refine (macadamref00_Place.calls k3 _ _ t476 x12_2 t502 _ ?side1 ?side2 A65.out).mono ?_); (case side1 => repeat (first | exact (Kd.V_reads' HO_8.out).2.2 | (with_reducible refine Kd.C_alloc ?_ _) | (with_reducible refine Kd.C_drewN ?_ _) | (with_reducible refine Kd.C_drew ?_))); (case side2 => exact (Kd.V_reads' HO_8.out).2.1); rintro e w' ⟨rfl, ⟨nd, rfl⟩⟩; refine ⟨_, rfl, ?_⟩))
                    (try (rw [drewN_self w87]; generalize hq_ : World.drewN w87 _ = w87; have n0_ : Aside0 (Kd.R k59 59 w87 w.heap.size (fun _ => True) (.slice Ao18 t473.length co18) t473) := ⟨by rw [← hq_]; exact (by (with_reducible repeat (first | apply Kd.R_alloc | apply Kd.R_drewN | apply Kd.R_drew)); exact HO_7.out)⟩; have n1_ : Aside0 (Kd.V (Kd.int .i64) 3 w87 w.heap.size (fun k_ => some k_ ≠ (.slice Ao18 t473.length co18 : Value).ownBlock ∧ k_ ≠ gb469 ∧ k_ ≠ gb470 ∧ k_ ≠ gb493) (.slice Ao88 t476.length co88) t476) := ⟨by rw [← hq_]; exact (by (with_reducible repeat (first | apply Kd.V_alloc | apply Kd.V_drewN | apply Kd.V_drew)); exact HO_8.out)⟩; have n2_ : Aside0 (w87.heap[gb469]? = some (.cells #[.slice (some ad500) l0_0.length c0_0, .slice A0_1 l0_1.length c0_1, .int .i64 a0_2] 25 (0, 0))) := ⟨by rw [← hq_]; exact (bm BK469)⟩; have n3_ : Aside0 (w87.heap[gb470]? = some (.cells #[.int .i64 a2_0, .int .i64 a2_1] 68 (0, 0))) := ⟨by rw [← hq_]; exact (bm BK470)⟩; have n4_ : Aside0 (w87.heap[gb493]? = some (.cells #[.int .i64 t490, .int .i64 t491] 40 (0, 0))) := ⟨by rw [← hq_]; exact (bm BK493)⟩; have n5_ : Aside0 (Below w.heap.size w w87) := ⟨by rw [← hq_]; exact (bw3 HB GE469 GE470 GE493)⟩; clear HO_7 HO_8 BK469 BK470 BK493 HB hq_; have HO_7 := n0_; have HO_8 := n1_; have BK469 := n2_; have BK470 := n3_; have BK493 := n4_; have HB := n5_; clear n0_ n1_ n2_ n3_ n4_ n5_))
                    have n0_ := Aside0.mk (Kd.R_drew HO_7.out)
                    have n1_ := Aside0.mk (Kd.V_drew HO_8.out)
                    have n2_ := Aside0.mk (blk_drew BK469.out)
                    have n3_ := Aside0.mk (blk_drew BK470.out)
                    have n4_ := Aside0.mk (blk_drew BK493.out)
                    have n5_ := Aside0.mk (below_drew1 HB.out)
                    clear HO_7
                    clear HO_8
                    clear BK469
                    clear BK470
                    clear BK493
                    clear HB
                    have HO_7 := n0_
                    have HO_8 := n1_
                    have BK469 := n2_
                    have BK470 := n3_
                    have BK493 := n4_
                    have HB := n5_
                    clear n0_ n1_ n2_ n3_ n4_ n5_
                    refine start_ (n := 36) (S := fun w' => w'.cell? ⟨gb493, 0, none⟩ = some (.int .i64 t490) ∧ w'.cell? ⟨gb493, 1, none⟩ = some (.int .i64 t491)) (ds := []) (bs 36 0) (by kernel_rfl) rfl rfl ⟨(blk_cell BK493.out 0).trans rfl, (blk_cell BK493.out 1).trans rfl⟩ (fun hHeld => ?_); refine with_tabW macadamlaw04_GangTrue.tab21 macadamlaw04_GangTrue.bits21 (fun HT_ HW_ => ?_)
                    generalize w87.drew = w89 at HO_7 HO_8 BK469 BK470 BK493 HB hHeld ⊢
                    refine pu HT_ 0 (some 131) (bs 36 1) ?_
                    refine pu HT_ 1 (some 132) (bs 36 3) ?_
                    refine pu HT_ 2 (some 133) (bs 36 7) ?_
                    refine pu HT_ 4 (some 135) (bs 36 23) ?_
                    refine pu HT_ 5 (some 136) (bs 36 55) ?_
                    refine tk2 HT_ HW_ hHeld 3 (some 134) (bs 36 63) ?_
                    refine on HT_ 6 (some 137) (bs 36 127) (fun K hK => ?_)
                    refine goes_ Tryd.func50 (by kernel_rfl) rfl #[.int .i64 x16_3, .int .i64 x17_3] (by rfl) rfl rfl (by (try simp only [List.map_toArray, List.map_cons, List.map_nil]); first | done | rfl | (simp only [List.length_drop, List.length_take]; rfl)) ?_
                    with_reducible refine (macadamref00_Reach.calls x16_3 x17_3 t503 t504 _ A67.out).mono ?_
                    rintro e w90 ⟨rfl, hb⟩
                    refine ⟨_, rfl, ?_⟩
                    have n0_ := Aside0.mk (Kd.R_below (by (with_reducible repeat (first | apply Kd.R_alloc | apply Kd.R_drewN | apply Kd.R_drew)); exact HO_7.out) hb)
                    have n1_ := Aside0.mk (Kd.V_below (by (with_reducible repeat (first | apply Kd.V_alloc | apply Kd.V_drewN | apply Kd.V_drew)); exact HO_8.out) hb)
                    have n2_ := Aside0.mk (blk_below (bm BK469) hb)
                    have n3_ := Aside0.mk (blk_below (bm BK470) hb)
                    have n4_ := Aside0.mk (blk_below (bm BK493) hb)
                    have n5_ := Aside0.mk (below_step (bw3 HB GE469 GE470 GE493) hb)
                    clear HO_7
                    clear HO_8
                    clear BK469
                    clear BK470
                    clear BK493
                    clear HB
                    have HO_7 := n0_
                    have HO_8 := n1_
                    have BK469 := n2_
                    have BK470 := n3_
                    have BK493 := n4_
                    have HB := n5_
                    clear n0_ n1_ n2_ n3_ n4_ n5_
                    (try clear hb)
                    (try clear hb2)
                    (try clear hk)
                    (try clear hi)
                    refine hK.out _ _ ⟨(blk_cell BK493.out 0).trans rfl, (blk_cell BK493.out 1).trans rfl⟩ (fun hHeld => ?_)
                    clear hK K
                    refine nm 137 ?_
                    refine pu HT_ 7 (some 138) (bs 36 255) ?_
                    refine pu HT_ 8 (some 139) (bs 36 511) ?_
                    refine pu HT_ 9 (some 140) (bs 36 1023) ?_
                    refine pu HT_ 11 (some 142) (bs 36 3071) ?_
                    refine tk2 HT_ HW_ hHeld 10 (some 141) (bs 36 4095) ?_
                    refine on HT_ 12 (some 143) (bs 36 8191) (fun K hK => ?_)
                    refine goes_ Tryd.func51 (by kernel_rfl) rfl #[.agg #[.int .i64 t490, .int .i64 t491], .int .i64 x15_3] (by rfl) rfl rfl (by (try simp only [List.map_toArray, List.map_cons, List.map_nil]); first | done | rfl | (simp only [List.length_drop, List.length_take]; rfl)) ?_
                    with_reducible refine (macadamref00_Holds.calls t490 t491 x15_3 true _ A74.out).mono ?_
                    rintro e w91 ⟨rfl, hb⟩
                    refine ⟨_, rfl, ?_⟩
                    have n0_ := Aside0.mk (Kd.R_below (by (with_reducible repeat (first | apply Kd.R_alloc | apply Kd.R_drewN | apply Kd.R_drew)); exact HO_7.out) hb)
                    have n1_ := Aside0.mk (Kd.V_below (by (with_reducible repeat (first | apply Kd.V_alloc | apply Kd.V_drewN | apply Kd.V_drew)); exact HO_8.out) hb)
                    have n2_ := Aside0.mk (blk_below (bm BK469) hb)
                    have n3_ := Aside0.mk (blk_below (bm BK470) hb)
                    have n4_ := Aside0.mk (blk_below (bm BK493) hb)
                    have n5_ := Aside0.mk (below_step (bw3 HB GE469 GE470 GE493) hb)
                    clear HO_7
                    clear HO_8
                    clear BK469
                    clear BK470
                    clear BK493
                    clear HB
                    have HO_7 := n0_
                    have HO_8 := n1_
                    have BK469 := n2_
                    have BK470 := n3_
                    have BK493 := n4_
                    have HB := n5_
                    clear n0_ n1_ n2_ n3_ n4_ n5_
                    (try clear hb)
                    (try clear hb2)
                    (try clear hk)
                    (try clear hi)
                    refine hK.out _ _ ⟨(blk_cell BK493.out 0).trans rfl, (blk_cell BK493.out 1).trans rfl⟩ (fun hHeld => ?_)
                    clear hK K
                    refine nm 143 ?_
                    refine pu HT_ 13 (some 144) (bs 36 16383) ?_
                    refine pu HT_ 14 (some 145) (bs 36 32767) ?_
                    refine pu HT_ 15 (some 146) (bs 36 65535) ?_
                    refine pu HT_ 16 (some 147) (bs 36 131071) ?_
                    refine pu HT_ 17 (some 148) (bs 36 262143) ?_
                    refine pu HT_ 18 (some 149) (bs 36 524287) ?_
                    refine pu HT_ 19 (some 150) (bs 36 1048575) ?_
                    refine pu HT_ 20 (some 151) (bs 36 2097151) ?_
                    refine pu HT_ 21 (some 152) (bs 36 4194303) ?_
                    refine pu HT_ 22 (some 153) (bs 36 8388607) ?_
                    refine pu HT_ 23 (some 154) (bs 36 16777215) ?_
                    refine pu HT_ 24 (some 155) (bs 36 33554431) ?_
                    refine pu HT_ 25 (some 156) (bs 36 67108863) ?_
                    refine pu HT_ 26 (some 157) (bs 36 134217727) ?_
                    refine pu HT_ 27 (some 158) (bs 36 268435455) ?_
                    refine pu HT_ 28 (some 159) (bs 36 536870911) ?_
                    refine pu HT_ 29 (some 160) (bs 36 1073741823) ?_
                    refine pu HT_ 30 (some 161) (bs 36 2147483647) ?_
                    refine pu HT_ 31 (some 162) (bs 36 4294967295) ?_
                    refine pu HT_ 32 (some 163) (bs 36 8589934591) ?_
                    refine pu HT_ 33 (some 164) (bs 36 17179869183) ?_
                    refine pu HT_ 34 (some 165) (bs 36 34359738367) ?_
                    refine pu HT_ 35 (some 166) (bs 36 68719476735) ?_
                    refine done_ (done_of HT_.out (by kernel_rfl)) ?_
                    try go_wp2
                    go_roundg k3
                    case measure => have := HJ8.out; have := HK2.out; have := HK3.out; omega
                    case rel => exact ⟨(wrap64 (x12_2 + 1)), (by first | rfl | (simp; done) | (simp [*]; done)), H', ⟨by have := HJ8.out; have := HK2.out; have := HK3.out; omega⟩, ⟨by (with_reducible repeat (first | apply Kd.R_alloc | apply Kd.R_drewN | apply Kd.R_drew)); exact HO_7.out⟩, ⟨by (with_reducible repeat (first | apply Kd.V_alloc | apply Kd.V_drewN | apply Kd.V_drew)); exact Kd.V_mono HO_8.out (fun _ hk => ⟨hk.1, ⟨hk.2.1, hk.2.2.1⟩⟩)⟩, ⟨bm BK469⟩, ⟨bm BK470⟩, ⟨bw3 HB GE469 GE470 GE493⟩⟩
                   ·as_aux_lemma =>
                    rw [if_neg c85] at H
                    have c85b0 : decide (x12_2 < t480) = false := decide_eq_false c85
                    clear c85
                    have H' := Aside0.mk H
                    clear H
                    try go_wp2
                    have n0_ := Aside0.mk (Kd.R_drew HO_7.out)
                    have n1_ := Aside0.mk (Kd.V_drew HO_8.out)
                    have n2_ := Aside0.mk (blk_drew BK469.out)
                    have n3_ := Aside0.mk (blk_drew BK470.out)
                    have n4_ := Aside0.mk (blk_drew BK493.out)
                    have n5_ := Aside0.mk (below_drew1 HB.out)
                    clear HO_7
                    clear HO_8
                    clear BK469
                    clear BK470
                    clear BK493
                    clear HB
                    have HO_7 := n0_
                    have HO_8 := n1_
                    have BK469 := n2_
                    have BK470 := n3_
                    have BK493 := n4_
                    have HB := n5_
                    clear n0_ n1_ n2_ n3_ n4_ n5_
                    have p500 : 0 ≤ (x12_2 : Int) := of_decide_eq_true (by first | (with_reducible assumption) | assumption)
                    have q500 : x12_2 < (l0_0.length : Int) := of_decide_eq_true (by first | (with_reducible assumption) | assumption)
                    obtain ⟨ad500, e500, hx500_0, hx500_1, hx500_2⟩ := at_T66 HR0_0.out x12_2 p500 q500
                    have hw500_2 := hx500_2
                    have hw500_1 := hx500_1
                    have hw500_0 := hx500_0
                    cases e500
                    replace hx500_0 := cB HB hx500_0
                    replace hx500_1 := cB HB hx500_1
                    replace hx500_2 := cB HB hx500_2
                    replace p500 := eq_true p500
                    replace q500 := eq_true q500
                    refine start_ (n := 12) (S := fun w' => w'.cell? ⟨gb469, 0, none⟩ = some (.slice (some ad500) l0_0.length c0_0) ∧ w'.cell? ⟨gb469, 1, none⟩ = some (.slice A0_1 l0_1.length c0_1) ∧ w'.cell? ⟨gb469, 2, none⟩ = some (.int .i64 a0_2) ∧ w'.cell? ⟨gb470, 0, none⟩ = some (.int .i64 a2_0) ∧ w'.cell? ⟨gb470, 1, none⟩ = some (.int .i64 a2_1) ∧ w'.cell? (ad500.add ((x12_2).toNat * 3)) = some (.int .i64 ((rd_T66 l0_0 x12_2).f0.f0)) ∧ w'.cell? ⟨(ad500.add ((x12_2).toNat * 3)).block, (ad500.add ((x12_2).toNat * 3)).off + 1, none⟩ = some (.int .i64 ((rd_T66 l0_0 x12_2).f0.f1)) ∧ w'.cell? ⟨(ad500.add ((x12_2).toNat * 3)).block, (ad500.add ((x12_2).toNat * 3)).off + 2, none⟩ = some (.int .i64 ((rd_T66 l0_0 x12_2).f1))) (ds := []) (bs 12 0) (by kernel_rfl) rfl rfl ⟨(blk_cell BK469.out 0).trans rfl, (blk_cell BK469.out 1).trans rfl, (blk_cell BK469.out 2).trans rfl, (blk_cell BK470.out 0).trans rfl, (blk_cell BK470.out 1).trans rfl, (cB HB hw500_0 :), (cB HB hw500_1 :), (cB HB hw500_2 :)⟩ (fun hHeld => ?_); refine with_tabW macadamlaw04_GangTrue.tab19 macadamlaw04_GangTrue.bits19 (fun HT_ HW_ => ?_)
                    generalize wr.drew = w92 at HO_7 HO_8 BK469 BK470 BK493 HB hx500_0 hx500_1 hx500_2 hHeld ⊢
                    refine pu HT_ 0 (some 116) (bs 12 1) ?_
                    refine pu HT_ 2 (some 118) (bs 12 5) ?_
                    refine pu HT_ 6 (some 122) (bs 12 69) ?_
                    refine pu HT_ 8 (some 124) (bs 12 325) ?_
                    refine tk8 HT_ HW_ hHeld 1 (some 117) (bs 12 327) ?_
                    refine pu HT_ 3 (some 119) (bs 12 335) ?_
                    refine pu HT_ 4 (some 120) (bs 12 351) ?_
                    refine tk8 HT_ HW_ hHeld 5 (some 121) (bs 12 383) ?_
                    refine tk8 HT_ HW_ hHeld 7 (some 123) (bs 12 511) ?_
                    refine pu HT_ 9 (some 125) (bs 12 1023) ?_
                    refine on HT_ 10 (some 126) (bs 12 2047) (fun K hK => ?_)
                    refine goes_ Tryd.func49 (by kernel_rfl) rfl #[.agg #[.int .i64 ((rd_T66 l0_0 x12_2).f0.f0), .int .i64 ((rd_T66 l0_0 x12_2).f0.f1)], .int .i64 (wrap64 (a2_1 + x12_2))] (by rfl) rfl rfl (by (try simp only [List.map_toArray, List.map_cons, List.map_nil]); first | done | rfl | (simp only [List.length_drop, List.length_take]; rfl)) ?_
                    with_reducible refine (macadamref00_From.calls ((rd_T66 l0_0 x12_2).f0.f0) ((rd_T66 l0_0 x12_2).f0.f1) (wrap64 (a2_1 + x12_2)) t501 _ A64.out).mono ?_
                    rintro e w93 ⟨rfl, hb⟩
                    refine ⟨_, rfl, ?_⟩
                    have n0_ := Aside0.mk (Kd.R_below (by (with_reducible repeat (first | apply Kd.R_alloc | apply Kd.R_drewN | apply Kd.R_drew)); exact HO_7.out) hb)
                    have n1_ := Aside0.mk (Kd.V_below (by (with_reducible repeat (first | apply Kd.V_alloc | apply Kd.V_drewN | apply Kd.V_drew)); exact HO_8.out) hb)
                    have n2_ := Aside0.mk (blk_below (bm BK469) hb)
                    have n3_ := Aside0.mk (blk_below (bm BK470) hb)
                    have n4_ := Aside0.mk (blk_below (bm BK493) hb)
                    have n5_ := Aside0.mk (below_step (bw3 HB GE469 GE470 GE493) hb)
                    clear HO_7
                    clear HO_8
                    clear BK469
                    clear BK470
                    clear BK493
                    clear HB
                    have HO_7 := n0_
                    have HO_8 := n1_
                    have BK469 := n2_
                    have BK470 := n3_
                    have BK493 := n4_
                    have HB := n5_
                    clear n0_ n1_ n2_ n3_ n4_ n5_
                    (try clear hb)
                    (try clear hb2)
                    (try clear hk)
                    (try clear hi)
                    refine hK.out _ _ ⟨(blk_cell BK469.out 0).trans rfl, (blk_cell BK469.out 1).trans rfl, (blk_cell BK469.out 2).trans rfl, (blk_cell BK470.out 0).trans rfl, (blk_cell BK470.out 1).trans rfl, (cB HB hw500_0 :), (cB HB hw500_1 :), (cB HB hw500_2 :)⟩ (fun hHeld => ?_)
                    clear hK K
                    refine nm 126 ?_
                    refine pu HT_ 11 (some 20) (bs 12 4095) ?_
                    refine done_ (done_of HT_.out (by kernel_rfl)) ?_
                    obtain ⟨Ao94, co94, eo94⟩ := Kd.V_slice HO_8.out
                    subst eo94
                    try go_wp2_with (first | ((with_reducible refine gate_callee (f := 43) rfl ?_); refine gL (some 129) Tryd.func43 #[.slice Ao94 t476.length co94, .int .i64 x12_2] ?_; (with_reducible refine (macadamref00_Place.calls k3 _ _ t476 x12_2 t502 _ ?side1 ?side2 A65.out).mono ?_); (case side1 => repeat (first | exact (Kd.V_reads' HO_8.out).2.2 | (with_reducible refine Kd.C_alloc ?_ _) | (with_reducible refine Kd.C_drewN ?_ _) | (with_reducible refine Kd.C_drew ?_))); (case side2 => exact (Kd.V_reads' HO_8.out).2.1); rintro e w' ⟨rfl, ⟨nd, rfl⟩⟩; refine ⟨_, rfl, ?_⟩))
                    (try (rw [drewN_self w93]; generalize hq_ : World.drewN w93 _ = w93; have n0_ : Aside0 (Kd.R k59 59 w93 w.heap.size (fun _ => True) (.slice Ao18 t473.length co18) t473) := ⟨by rw [← hq_]; exact (by (with_reducible repeat (first | apply Kd.R_alloc | apply Kd.R_drewN | apply Kd.R_drew)); exact HO_7.out)⟩; have n1_ : Aside0 (Kd.V (Kd.int .i64) 3 w93 w.heap.size (fun k_ => some k_ ≠ (.slice Ao18 t473.length co18 : Value).ownBlock ∧ k_ ≠ gb469 ∧ k_ ≠ gb470 ∧ k_ ≠ gb493) (.slice Ao94 t476.length co94) t476) := ⟨by rw [← hq_]; exact (by (with_reducible repeat (first | apply Kd.V_alloc | apply Kd.V_drewN | apply Kd.V_drew)); exact HO_8.out)⟩; have n2_ : Aside0 (w93.heap[gb469]? = some (.cells #[.slice (some ad500) l0_0.length c0_0, .slice A0_1 l0_1.length c0_1, .int .i64 a0_2] 25 (0, 0))) := ⟨by rw [← hq_]; exact (bm BK469)⟩; have n3_ : Aside0 (w93.heap[gb470]? = some (.cells #[.int .i64 a2_0, .int .i64 a2_1] 68 (0, 0))) := ⟨by rw [← hq_]; exact (bm BK470)⟩; have n4_ : Aside0 (w93.heap[gb493]? = some (.cells #[.int .i64 t490, .int .i64 t491] 40 (0, 0))) := ⟨by rw [← hq_]; exact (bm BK493)⟩; have n5_ : Aside0 (Below w.heap.size w w93) := ⟨by rw [← hq_]; exact (bw3 HB GE469 GE470 GE493)⟩; clear HO_7 HO_8 BK469 BK470 BK493 HB hq_; have HO_7 := n0_; have HO_8 := n1_; have BK469 := n2_; have BK470 := n3_; have BK493 := n4_; have HB := n5_; clear n0_ n1_ n2_ n3_ n4_ n5_))
                    have n0_ := Aside0.mk (Kd.R_drew HO_7.out)
                    have n1_ := Aside0.mk (Kd.V_drew HO_8.out)
                    have n2_ := Aside0.mk (blk_drew BK469.out)
                    have n3_ := Aside0.mk (blk_drew BK470.out)
                    have n4_ := Aside0.mk (blk_drew BK493.out)
                    have n5_ := Aside0.mk (below_drew1 HB.out)
                    clear HO_7
                    clear HO_8
                    clear BK469
                    clear BK470
                    clear BK493
                    clear HB
                    have HO_7 := n0_
                    have HO_8 := n1_
                    have BK469 := n2_
                    have BK470 := n3_
                    have BK493 := n4_
                    have HB := n5_
                    clear n0_ n1_ n2_ n3_ n4_ n5_
                    refine start_ (n := 36) (S := fun w' => w'.cell? ⟨gb493, 0, none⟩ = some (.int .i64 t490) ∧ w'.cell? ⟨gb493, 1, none⟩ = some (.int .i64 t491)) (ds := []) (bs 36 0) (by kernel_rfl) rfl rfl ⟨(blk_cell BK493.out 0).trans rfl, (blk_cell BK493.out 1).trans rfl⟩ (fun hHeld => ?_); refine with_tabW macadamlaw04_GangTrue.tab21 macadamlaw04_GangTrue.bits21 (fun HT_ HW_ => ?_)
                    generalize w93.drew = w95 at HO_7 HO_8 BK469 BK470 BK493 HB hHeld ⊢
                    refine pu HT_ 0 (some 131) (bs 36 1) ?_
                    refine pu HT_ 1 (some 132) (bs 36 3) ?_
                    refine pu HT_ 2 (some 133) (bs 36 7) ?_
                    refine pu HT_ 4 (some 135) (bs 36 23) ?_
                    refine pu HT_ 5 (some 136) (bs 36 55) ?_
                    refine tk2 HT_ HW_ hHeld 3 (some 134) (bs 36 63) ?_
                    refine on HT_ 6 (some 137) (bs 36 127) (fun K hK => ?_)
                    refine goes_ Tryd.func50 (by kernel_rfl) rfl #[.int .i64 x16_3, .int .i64 x17_3] (by rfl) rfl rfl (by (try simp only [List.map_toArray, List.map_cons, List.map_nil]); first | done | rfl | (simp only [List.length_drop, List.length_take]; rfl)) ?_
                    with_reducible refine (macadamref00_Reach.calls x16_3 x17_3 t503 t504 _ A67.out).mono ?_
                    rintro e w96 ⟨rfl, hb⟩
                    refine ⟨_, rfl, ?_⟩
                    have n0_ := Aside0.mk (Kd.R_below (by (with_reducible repeat (first | apply Kd.R_alloc | apply Kd.R_drewN | apply Kd.R_drew)); exact HO_7.out) hb)
                    have n1_ := Aside0.mk (Kd.V_below (by (with_reducible repeat (first | apply Kd.V_alloc | apply Kd.V_drewN | apply Kd.V_drew)); exact HO_8.out) hb)
                    have n2_ := Aside0.mk (blk_below (bm BK469) hb)
                    have n3_ := Aside0.mk (blk_below (bm BK470) hb)
                    have n4_ := Aside0.mk (blk_below (bm BK493) hb)
                    have n5_ := Aside0.mk (below_step (bw3 HB GE469 GE470 GE493) hb)
                    clear HO_7
                    clear HO_8
                    clear BK469
                    clear BK470
                    clear BK493
                    clear HB
                    have HO_7 := n0_
                    have HO_8 := n1_
                    have BK469 := n2_
                    have BK470 := n3_
                    have BK493 := n4_
                    have HB := n5_
                    clear n0_ n1_ n2_ n3_ n4_ n5_
                    (try clear hb)
                    (try clear hb2)
                    (try clear hk)
                    (try clear hi)
                    refine hK.out _ _ ⟨(blk_cell BK493.out 0).trans rfl, (blk_cell BK493.out 1).trans rfl⟩ (fun hHeld => ?_)
                    clear hK K
                    refine nm 137 ?_
                    refine pu HT_ 7 (some 138) (bs 36 255) ?_
                    refine pu HT_ 8 (some 139) (bs 36 511) ?_
                    refine pu HT_ 9 (some 140) (bs 36 1023) ?_
                    refine pu HT_ 11 (some 142) (bs 36 3071) ?_
                    refine tk2 HT_ HW_ hHeld 10 (some 141) (bs 36 4095) ?_
                    refine on HT_ 12 (some 143) (bs 36 8191) (fun K hK => ?_)
                    refine goes_ Tryd.func51 (by kernel_rfl) rfl #[.agg #[.int .i64 t490, .int .i64 t491], .int .i64 x15_3] (by rfl) rfl rfl (by (try simp only [List.map_toArray, List.map_cons, List.map_nil]); first | done | rfl | (simp only [List.length_drop, List.length_take]; rfl)) ?_
                    with_reducible refine (macadamref00_Holds.calls t490 t491 x15_3 true _ A74.out).mono ?_
                    rintro e w97 ⟨rfl, hb⟩
                    refine ⟨_, rfl, ?_⟩
                    have n0_ := Aside0.mk (Kd.R_below (by (with_reducible repeat (first | apply Kd.R_alloc | apply Kd.R_drewN | apply Kd.R_drew)); exact HO_7.out) hb)
                    have n1_ := Aside0.mk (Kd.V_below (by (with_reducible repeat (first | apply Kd.V_alloc | apply Kd.V_drewN | apply Kd.V_drew)); exact HO_8.out) hb)
                    have n2_ := Aside0.mk (blk_below (bm BK469) hb)
                    have n3_ := Aside0.mk (blk_below (bm BK470) hb)
                    have n4_ := Aside0.mk (blk_below (bm BK493) hb)
                    have n5_ := Aside0.mk (below_step (bw3 HB GE469 GE470 GE493) hb)
                    clear HO_7
                    clear HO_8
                    clear BK469
                    clear BK470
                    clear BK493
                    clear HB
                    have HO_7 := n0_
                    have HO_8 := n1_
                    have BK469 := n2_
                    have BK470 := n3_
                    have BK493 := n4_
                    have HB := n5_
                    clear n0_ n1_ n2_ n3_ n4_ n5_
                    (try clear hb)
                    (try clear hb2)
                    (try clear hk)
                    (try clear hi)
                    refine hK.out _ _ ⟨(blk_cell BK493.out 0).trans rfl, (blk_cell BK493.out 1).trans rfl⟩ (fun hHeld => ?_)
                    clear hK K
                    refine nm 143 ?_
                    refine pu HT_ 13 (some 144) (bs 36 16383) ?_
                    refine pu HT_ 14 (some 145) (bs 36 32767) ?_
                    refine pu HT_ 15 (some 146) (bs 36 65535) ?_
                    refine pu HT_ 16 (some 147) (bs 36 131071) ?_
                    refine pu HT_ 17 (some 148) (bs 36 262143) ?_
                    refine pu HT_ 18 (some 149) (bs 36 524287) ?_
                    refine pu HT_ 19 (some 150) (bs 36 1048575) ?_
                    refine pu HT_ 20 (some 151) (bs 36 2097151) ?_
                    refine pu HT_ 21 (some 152) (bs 36 4194303) ?_
                    refine pu HT_ 22 (some 153) (bs 36 8388607) ?_
                    refine pu HT_ 23 (some 154) (bs 36 16777215) ?_
                    refine pu HT_ 24 (some 155) (bs 36 33554431) ?_
                    refine pu HT_ 25 (some 156) (bs 36 67108863) ?_
                    refine pu HT_ 26 (some 157) (bs 36 134217727) ?_
                    refine pu HT_ 27 (some 158) (bs 36 268435455) ?_
                    refine pu HT_ 28 (some 159) (bs 36 536870911) ?_
                    refine pu HT_ 29 (some 160) (bs 36 1073741823) ?_
                    refine pu HT_ 30 (some 161) (bs 36 2147483647) ?_
                    refine pu HT_ 31 (some 162) (bs 36 4294967295) ?_
                    refine pn HT_ 32 (some 163) (bs 36 8589934591) ?_
                    refine pn HT_ 33 (some 164) (bs 36 17179869183) ?_
                    refine pu HT_ 34 (some 165) (bs 36 34359738367) ?_
                    refine pu HT_ 35 (some 166) (bs 36 68719476735) ?_
                    refine done_ (done_of HT_.out (by kernel_rfl)) ?_
                    try go_wp2
                    go_roundg k3
                    case measure => have := HJ8.out; have := HK2.out; have := HK3.out; omega
                    case rel => exact ⟨(wrap64 (x12_2 + 1)), (by first | rfl | (simp; done) | (simp [*]; done)), H', ⟨by have := HJ8.out; have := HK2.out; have := HK3.out; omega⟩, ⟨by (with_reducible repeat (first | apply Kd.R_alloc | apply Kd.R_drewN | apply Kd.R_drew)); exact HO_7.out⟩, ⟨by (with_reducible repeat (first | apply Kd.V_alloc | apply Kd.V_drewN | apply Kd.V_drew)); exact Kd.V_mono HO_8.out (fun _ hk => ⟨hk.1, ⟨hk.2.1, hk.2.2.1⟩⟩)⟩, ⟨bm BK469⟩, ⟨bm BK470⟩, ⟨bw3 HB GE469 GE470 GE493⟩⟩
                  ·as_aux_lemma =>
                   rw [if_neg c84] at H
                   have c84b0 : (t481 == 0) = false := beq_eq_false_iff_ne.mpr c84
                   have c84b1 : (t481 != 0) = true := bne_iff_ne.mpr c84
                   have H' := Aside0.mk H
                   clear H
                   try go_wp2
                   have n0_ := Aside0.mk (Kd.R_drew HO_7.out)
                   have n1_ := Aside0.mk (Kd.V_drew HO_8.out)
                   have n2_ := Aside0.mk (blk_drew BK469.out)
                   have n3_ := Aside0.mk (blk_drew BK470.out)
                   have n4_ := Aside0.mk (blk_drew BK493.out)
                   have n5_ := Aside0.mk (below_drew1 HB.out)
                   clear HO_7
                   clear HO_8
                   clear BK469
                   clear BK470
                   clear BK493
                   clear HB
                   have HO_7 := n0_
                   have HO_8 := n1_
                   have BK469 := n2_
                   have BK470 := n3_
                   have BK493 := n4_
                   have HB := n5_
                   clear n0_ n1_ n2_ n3_ n4_ n5_
                   have p500 : 0 ≤ (x12_2 : Int) := of_decide_eq_true (by first | (with_reducible assumption) | assumption)
                   have q500 : x12_2 < (l0_0.length : Int) := of_decide_eq_true (by first | (with_reducible assumption) | assumption)
                   obtain ⟨ad500, e500, hx500_0, hx500_1, hx500_2⟩ := at_T66 HR0_0.out x12_2 p500 q500
                   have hw500_2 := hx500_2
                   have hw500_1 := hx500_1
                   have hw500_0 := hx500_0
                   cases e500
                   replace hx500_0 := cB HB hx500_0
                   replace hx500_1 := cB HB hx500_1
                   replace hx500_2 := cB HB hx500_2
                   replace p500 := eq_true p500
                   replace q500 := eq_true q500
                   refine start_ (n := 12) (S := fun w' => w'.cell? ⟨gb469, 0, none⟩ = some (.slice (some ad500) l0_0.length c0_0) ∧ w'.cell? ⟨gb469, 1, none⟩ = some (.slice A0_1 l0_1.length c0_1) ∧ w'.cell? ⟨gb469, 2, none⟩ = some (.int .i64 a0_2) ∧ w'.cell? ⟨gb470, 0, none⟩ = some (.int .i64 a2_0) ∧ w'.cell? ⟨gb470, 1, none⟩ = some (.int .i64 a2_1) ∧ w'.cell? (ad500.add ((x12_2).toNat * 3)) = some (.int .i64 ((rd_T66 l0_0 x12_2).f0.f0)) ∧ w'.cell? ⟨(ad500.add ((x12_2).toNat * 3)).block, (ad500.add ((x12_2).toNat * 3)).off + 1, none⟩ = some (.int .i64 ((rd_T66 l0_0 x12_2).f0.f1)) ∧ w'.cell? ⟨(ad500.add ((x12_2).toNat * 3)).block, (ad500.add ((x12_2).toNat * 3)).off + 2, none⟩ = some (.int .i64 ((rd_T66 l0_0 x12_2).f1))) (ds := []) (bs 12 0) (by kernel_rfl) rfl rfl ⟨(blk_cell BK469.out 0).trans rfl, (blk_cell BK469.out 1).trans rfl, (blk_cell BK469.out 2).trans rfl, (blk_cell BK470.out 0).trans rfl, (blk_cell BK470.out 1).trans rfl, (cB HB hw500_0 :), (cB HB hw500_1 :), (cB HB hw500_2 :)⟩ (fun hHeld => ?_); refine with_tabW macadamlaw04_GangTrue.tab19 macadamlaw04_GangTrue.bits19 (fun HT_ HW_ => ?_)
                   generalize wr.drew = w98 at HO_7 HO_8 BK469 BK470 BK493 HB hx500_0 hx500_1 hx500_2 hHeld ⊢
                   refine pu HT_ 0 (some 116) (bs 12 1) ?_
                   refine pu HT_ 2 (some 118) (bs 12 5) ?_
                   refine pu HT_ 6 (some 122) (bs 12 69) ?_
                   refine pu HT_ 8 (some 124) (bs 12 325) ?_
                   refine tk8 HT_ HW_ hHeld 1 (some 117) (bs 12 327) ?_
                   refine pu HT_ 3 (some 119) (bs 12 335) ?_
                   refine pu HT_ 4 (some 120) (bs 12 351) ?_
                   refine tk8 HT_ HW_ hHeld 5 (some 121) (bs 12 383) ?_
                   refine tk8 HT_ HW_ hHeld 7 (some 123) (bs 12 511) ?_
                   refine pu HT_ 9 (some 125) (bs 12 1023) ?_
                   refine on HT_ 10 (some 126) (bs 12 2047) (fun K hK => ?_)
                   refine goes_ Tryd.func49 (by kernel_rfl) rfl #[.agg #[.int .i64 ((rd_T66 l0_0 x12_2).f0.f0), .int .i64 ((rd_T66 l0_0 x12_2).f0.f1)], .int .i64 (wrap64 (a2_1 + x12_2))] (by rfl) rfl rfl (by (try simp only [List.map_toArray, List.map_cons, List.map_nil]); first | done | rfl | (simp only [List.length_drop, List.length_take]; rfl)) ?_
                   with_reducible refine (macadamref00_From.calls ((rd_T66 l0_0 x12_2).f0.f0) ((rd_T66 l0_0 x12_2).f0.f1) (wrap64 (a2_1 + x12_2)) t501 _ A64.out).mono ?_
                   rintro e w99 ⟨rfl, hb⟩
                   refine ⟨_, rfl, ?_⟩
                   have n0_ := Aside0.mk (Kd.R_below (by (with_reducible repeat (first | apply Kd.R_alloc | apply Kd.R_drewN | apply Kd.R_drew)); exact HO_7.out) hb)
                   have n1_ := Aside0.mk (Kd.V_below (by (with_reducible repeat (first | apply Kd.V_alloc | apply Kd.V_drewN | apply Kd.V_drew)); exact HO_8.out) hb)
                   have n2_ := Aside0.mk (blk_below (bm BK469) hb)
                   have n3_ := Aside0.mk (blk_below (bm BK470) hb)
                   have n4_ := Aside0.mk (blk_below (bm BK493) hb)
                   have n5_ := Aside0.mk (below_step (bw3 HB GE469 GE470 GE493) hb)
                   clear HO_7
                   clear HO_8
                   clear BK469
                   clear BK470
                   clear BK493
                   clear HB
                   have HO_7 := n0_
                   have HO_8 := n1_
                   have BK469 := n2_
                   have BK470 := n3_
                   have BK493 := n4_
                   have HB := n5_
                   clear n0_ n1_ n2_ n3_ n4_ n5_
                   (try clear hb)
                   (try clear hb2)
                   (try clear hk)
                   (try clear hi)
                   refine hK.out _ _ ⟨(blk_cell BK469.out 0).trans rfl, (blk_cell BK469.out 1).trans rfl, (blk_cell BK469.out 2).trans rfl, (blk_cell BK470.out 0).trans rfl, (blk_cell BK470.out 1).trans rfl, (cB HB hw500_0 :), (cB HB hw500_1 :), (cB HB hw500_2 :)⟩ (fun hHeld => ?_)
                   clear hK K
                   refine nm 126 ?_
                   refine pu HT_ 11 (some 20) (bs 12 4095) ?_
                   refine done_ (done_of HT_.out (by kernel_rfl)) ?_
                   obtain ⟨Ao100, co100, eo100⟩ := Kd.V_slice HO_8.out
                   subst eo100
                   try go_wp2_with (first | ((with_reducible refine gate_callee (f := 43) rfl ?_); refine gL (some 129) Tryd.func43 #[.slice Ao100 t476.length co100, .int .i64 x12_2] ?_; (with_reducible refine (macadamref00_Place.calls k3 _ _ t476 x12_2 t502 _ ?side1 ?side2 A65.out).mono ?_); (case side1 => repeat (first | exact (Kd.V_reads' HO_8.out).2.2 | (with_reducible refine Kd.C_alloc ?_ _) | (with_reducible refine Kd.C_drewN ?_ _) | (with_reducible refine Kd.C_drew ?_))); (case side2 => exact (Kd.V_reads' HO_8.out).2.1); rintro e w' ⟨rfl, ⟨nd, rfl⟩⟩; refine ⟨_, rfl, ?_⟩))
                   (try (rw [drewN_self w99]; generalize hq_ : World.drewN w99 _ = w99; have n0_ : Aside0 (Kd.R k59 59 w99 w.heap.size (fun _ => True) (.slice Ao18 t473.length co18) t473) := ⟨by rw [← hq_]; exact (by (with_reducible repeat (first | apply Kd.R_alloc | apply Kd.R_drewN | apply Kd.R_drew)); exact HO_7.out)⟩; have n1_ : Aside0 (Kd.V (Kd.int .i64) 3 w99 w.heap.size (fun k_ => some k_ ≠ (.slice Ao18 t473.length co18 : Value).ownBlock ∧ k_ ≠ gb469 ∧ k_ ≠ gb470 ∧ k_ ≠ gb493) (.slice Ao100 t476.length co100) t476) := ⟨by rw [← hq_]; exact (by (with_reducible repeat (first | apply Kd.V_alloc | apply Kd.V_drewN | apply Kd.V_drew)); exact HO_8.out)⟩; have n2_ : Aside0 (w99.heap[gb469]? = some (.cells #[.slice (some ad500) l0_0.length c0_0, .slice A0_1 l0_1.length c0_1, .int .i64 a0_2] 25 (0, 0))) := ⟨by rw [← hq_]; exact (bm BK469)⟩; have n3_ : Aside0 (w99.heap[gb470]? = some (.cells #[.int .i64 a2_0, .int .i64 a2_1] 68 (0, 0))) := ⟨by rw [← hq_]; exact (bm BK470)⟩; have n4_ : Aside0 (w99.heap[gb493]? = some (.cells #[.int .i64 t490, .int .i64 t491] 40 (0, 0))) := ⟨by rw [← hq_]; exact (bm BK493)⟩; have n5_ : Aside0 (Below w.heap.size w w99) := ⟨by rw [← hq_]; exact (bw3 HB GE469 GE470 GE493)⟩; clear HO_7 HO_8 BK469 BK470 BK493 HB hq_; have HO_7 := n0_; have HO_8 := n1_; have BK469 := n2_; have BK470 := n3_; have BK493 := n4_; have HB := n5_; clear n0_ n1_ n2_ n3_ n4_ n5_))
                   have n0_ := Aside0.mk (Kd.R_drew HO_7.out)
                   have n1_ := Aside0.mk (Kd.V_drew HO_8.out)
                   have n2_ := Aside0.mk (blk_drew BK469.out)
                   have n3_ := Aside0.mk (blk_drew BK470.out)
                   have n4_ := Aside0.mk (blk_drew BK493.out)
                   have n5_ := Aside0.mk (below_drew1 HB.out)
                   clear HO_7
                   clear HO_8
                   clear BK469
                   clear BK470
                   clear BK493
                   clear HB
                   have HO_7 := n0_
                   have HO_8 := n1_
                   have BK469 := n2_
                   have BK470 := n3_
                   have BK493 := n4_
                   have HB := n5_
                   clear n0_ n1_ n2_ n3_ n4_ n5_
                   refine start_ (n := 36) (S := fun w' => w'.cell? ⟨gb493, 0, none⟩ = some (.int .i64 t490) ∧ w'.cell? ⟨gb493, 1, none⟩ = some (.int .i64 t491)) (ds := []) (bs 36 0) (by kernel_rfl) rfl rfl ⟨(blk_cell BK493.out 0).trans rfl, (blk_cell BK493.out 1).trans rfl⟩ (fun hHeld => ?_); refine with_tabW macadamlaw04_GangTrue.tab21 macadamlaw04_GangTrue.bits21 (fun HT_ HW_ => ?_)
                   generalize w99.drew = w101 at HO_7 HO_8 BK469 BK470 BK493 HB hHeld ⊢
                   refine pu HT_ 0 (some 131) (bs 36 1) ?_
                   refine pu HT_ 1 (some 132) (bs 36 3) ?_
                   refine pu HT_ 2 (some 133) (bs 36 7) ?_
                   refine pu HT_ 4 (some 135) (bs 36 23) ?_
                   refine pu HT_ 5 (some 136) (bs 36 55) ?_
                   refine tk2 HT_ HW_ hHeld 3 (some 134) (bs 36 63) ?_
                   refine on HT_ 6 (some 137) (bs 36 127) (fun K hK => ?_)
                   refine goes_ Tryd.func50 (by kernel_rfl) rfl #[.int .i64 x16_3, .int .i64 x17_3] (by rfl) rfl rfl (by (try simp only [List.map_toArray, List.map_cons, List.map_nil]); first | done | rfl | (simp only [List.length_drop, List.length_take]; rfl)) ?_
                   with_reducible refine (macadamref00_Reach.calls x16_3 x17_3 t503 t504 _ A67.out).mono ?_
                   rintro e w102 ⟨rfl, hb⟩
                   refine ⟨_, rfl, ?_⟩
                   have n0_ := Aside0.mk (Kd.R_below (by (with_reducible repeat (first | apply Kd.R_alloc | apply Kd.R_drewN | apply Kd.R_drew)); exact HO_7.out) hb)
                   have n1_ := Aside0.mk (Kd.V_below (by (with_reducible repeat (first | apply Kd.V_alloc | apply Kd.V_drewN | apply Kd.V_drew)); exact HO_8.out) hb)
                   have n2_ := Aside0.mk (blk_below (bm BK469) hb)
                   have n3_ := Aside0.mk (blk_below (bm BK470) hb)
                   have n4_ := Aside0.mk (blk_below (bm BK493) hb)
                   have n5_ := Aside0.mk (below_step (bw3 HB GE469 GE470 GE493) hb)
                   clear HO_7
                   clear HO_8
                   clear BK469
                   clear BK470
                   clear BK493
                   clear HB
                   have HO_7 := n0_
                   have HO_8 := n1_
                   have BK469 := n2_
                   have BK470 := n3_
                   have BK493 := n4_
                   have HB := n5_
                   clear n0_ n1_ n2_ n3_ n4_ n5_
                   (try clear hb)
                   (try clear hb2)
                   (try clear hk)
                   (try clear hi)
                   refine hK.out _ _ ⟨(blk_cell BK493.out 0).trans rfl, (blk_cell BK493.out 1).trans rfl⟩ (fun hHeld => ?_)
                   clear hK K
                   refine nm 137 ?_
                   refine pu HT_ 7 (some 138) (bs 36 255) ?_
                   refine pu HT_ 8 (some 139) (bs 36 511) ?_
                   refine pu HT_ 9 (some 140) (bs 36 1023) ?_
                   refine pu HT_ 11 (some 142) (bs 36 3071) ?_
                   refine tk2 HT_ HW_ hHeld 10 (some 141) (bs 36 4095) ?_
                   refine on HT_ 12 (some 143) (bs 36 8191) (fun K hK => ?_)
                   refine goes_ Tryd.func51 (by kernel_rfl) rfl #[.agg #[.int .i64 t490, .int .i64 t491], .int .i64 x15_3] (by rfl) rfl rfl (by (try simp only [List.map_toArray, List.map_cons, List.map_nil]); first | done | rfl | (simp only [List.length_drop, List.length_take]; rfl)) ?_
                   with_reducible refine (macadamref00_Holds.calls t490 t491 x15_3 true _ A74.out).mono ?_
                   rintro e w103 ⟨rfl, hb⟩
                   refine ⟨_, rfl, ?_⟩
                   have n0_ := Aside0.mk (Kd.R_below (by (with_reducible repeat (first | apply Kd.R_alloc | apply Kd.R_drewN | apply Kd.R_drew)); exact HO_7.out) hb)
                   have n1_ := Aside0.mk (Kd.V_below (by (with_reducible repeat (first | apply Kd.V_alloc | apply Kd.V_drewN | apply Kd.V_drew)); exact HO_8.out) hb)
                   have n2_ := Aside0.mk (blk_below (bm BK469) hb)
                   have n3_ := Aside0.mk (blk_below (bm BK470) hb)
                   have n4_ := Aside0.mk (blk_below (bm BK493) hb)
                   have n5_ := Aside0.mk (below_step (bw3 HB GE469 GE470 GE493) hb)
                   clear HO_7
                   clear HO_8
                   clear BK469
                   clear BK470
                   clear BK493
                   clear HB
                   have HO_7 := n0_
                   have HO_8 := n1_
                   have BK469 := n2_
                   have BK470 := n3_
                   have BK493 := n4_
                   have HB := n5_
                   clear n0_ n1_ n2_ n3_ n4_ n5_
                   (try clear hb)
                   (try clear hb2)
                   (try clear hk)
                   (try clear hi)
                   refine hK.out _ _ ⟨(blk_cell BK493.out 0).trans rfl, (blk_cell BK493.out 1).trans rfl⟩ (fun hHeld => ?_)
                   clear hK K
                   refine nm 143 ?_
                   refine pu HT_ 13 (some 144) (bs 36 16383) ?_
                   refine pu HT_ 14 (some 145) (bs 36 32767) ?_
                   refine pu HT_ 15 (some 146) (bs 36 65535) ?_
                   refine pu HT_ 16 (some 147) (bs 36 131071) ?_
                   refine pu HT_ 17 (some 148) (bs 36 262143) ?_
                   refine pu HT_ 18 (some 149) (bs 36 524287) ?_
                   refine pu HT_ 19 (some 150) (bs 36 1048575) ?_
                   refine pu HT_ 20 (some 151) (bs 36 2097151) ?_
                   refine pu HT_ 21 (some 152) (bs 36 4194303) ?_
                   refine pu HT_ 22 (some 153) (bs 36 8388607) ?_
                   refine pu HT_ 23 (some 154) (bs 36 16777215) ?_
                   refine pu HT_ 24 (some 155) (bs 36 33554431) ?_
                   refine pu HT_ 25 (some 156) (bs 36 67108863) ?_
                   refine pu HT_ 26 (some 157) (bs 36 134217727) ?_
                   refine pn HT_ 27 (some 158) (bs 36 268435455) ?_
                   refine pn HT_ 28 (some 159) (bs 36 536870911) ?_
                   refine pn HT_ 29 (some 160) (bs 36 1073741823) ?_
                   refine pu HT_ 30 (some 161) (bs 36 2147483647) ?_
                   refine pu HT_ 31 (some 162) (bs 36 4294967295) ?_
                   refine pn HT_ 32 (some 163) (bs 36 8589934591) ?_
                   refine pn HT_ 33 (some 164) (bs 36 17179869183) ?_
                   refine pu HT_ 34 (some 165) (bs 36 34359738367) ?_
                   refine pu HT_ 35 (some 166) (bs 36 68719476735) ?_
                   refine done_ (done_of HT_.out (by kernel_rfl)) ?_
                   try go_wp2
                   go_roundg k3
                   case measure => have := HJ8.out; have := HK2.out; have := HK3.out; omega
                   case rel => exact ⟨(wrap64 (x12_2 + 1)), (by first | rfl | (simp; done) | (simp [*]; done)), H', ⟨by have := HJ8.out; have := HK2.out; have := HK3.out; omega⟩, ⟨by (with_reducible repeat (first | apply Kd.R_alloc | apply Kd.R_drewN | apply Kd.R_drew)); exact HO_7.out⟩, ⟨by (with_reducible repeat (first | apply Kd.V_alloc | apply Kd.V_drewN | apply Kd.V_drew)); exact Kd.V_mono HO_8.out (fun _ hk => ⟨hk.1, ⟨hk.2.1, hk.2.2.1⟩⟩)⟩, ⟨bm BK469⟩, ⟨bm BK470⟩, ⟨bw3 HB GE469 GE470 GE493⟩⟩
                ·as_aux_lemma =>
                 rw [if_neg c76] at H
                 have c76b0 : decide (0 ≤ t502) = false := decide_eq_false c76
                 clear c76
                 by_cases c104 : t481 = 0
                 ·as_aux_lemma =>
                  rw [if_pos c104] at H
                  have c104b0 : (t481 == 0) = true := beq_iff_eq.mpr c104
                  have c104b1 : (t481 != 0) = false := bne_eq_false_iff_eq.mpr c104
                  clear c104
                  by_cases c105 : x12_2 < t480
                  ·as_aux_lemma =>
                   rw [if_pos c105] at H
                   have c105b0 : decide (x12_2 < t480) = true := decide_eq_true c105
                   clear c105
                   obtain rfl := Option.some.inj H
                   try go_wp2
                   have n0_ := Aside0.mk (Kd.R_drew HO_7.out)
                   have n1_ := Aside0.mk (Kd.V_drew HO_8.out)
                   have n2_ := Aside0.mk (blk_drew BK469.out)
                   have n3_ := Aside0.mk (blk_drew BK470.out)
                   have n4_ := Aside0.mk (blk_drew BK493.out)
                   have n5_ := Aside0.mk (below_drew1 HB.out)
                   clear HO_7
                   clear HO_8
                   clear BK469
                   clear BK470
                   clear BK493
                   clear HB
                   have HO_7 := n0_
                   have HO_8 := n1_
                   have BK469 := n2_
                   have BK470 := n3_
                   have BK493 := n4_
                   have HB := n5_
                   clear n0_ n1_ n2_ n3_ n4_ n5_
                   have p500 : 0 ≤ (x12_2 : Int) := of_decide_eq_true (by first | (with_reducible assumption) | assumption)
                   have q500 : x12_2 < (l0_0.length : Int) := of_decide_eq_true (by first | (with_reducible assumption) | assumption)
                   obtain ⟨ad500, e500, hx500_0, hx500_1, hx500_2⟩ := at_T66 HR0_0.out x12_2 p500 q500
                   have hw500_2 := hx500_2
                   have hw500_1 := hx500_1
                   have hw500_0 := hx500_0
                   cases e500
                   replace hx500_0 := cB HB hx500_0
                   replace hx500_1 := cB HB hx500_1
                   replace hx500_2 := cB HB hx500_2
                   replace p500 := eq_true p500
                   replace q500 := eq_true q500
                   refine start_ (n := 12) (S := fun w' => w'.cell? ⟨gb469, 0, none⟩ = some (.slice (some ad500) l0_0.length c0_0) ∧ w'.cell? ⟨gb469, 1, none⟩ = some (.slice A0_1 l0_1.length c0_1) ∧ w'.cell? ⟨gb469, 2, none⟩ = some (.int .i64 a0_2) ∧ w'.cell? ⟨gb470, 0, none⟩ = some (.int .i64 a2_0) ∧ w'.cell? ⟨gb470, 1, none⟩ = some (.int .i64 a2_1) ∧ w'.cell? (ad500.add ((x12_2).toNat * 3)) = some (.int .i64 ((rd_T66 l0_0 x12_2).f0.f0)) ∧ w'.cell? ⟨(ad500.add ((x12_2).toNat * 3)).block, (ad500.add ((x12_2).toNat * 3)).off + 1, none⟩ = some (.int .i64 ((rd_T66 l0_0 x12_2).f0.f1)) ∧ w'.cell? ⟨(ad500.add ((x12_2).toNat * 3)).block, (ad500.add ((x12_2).toNat * 3)).off + 2, none⟩ = some (.int .i64 ((rd_T66 l0_0 x12_2).f1))) (ds := []) (bs 12 0) (by kernel_rfl) rfl rfl ⟨(blk_cell BK469.out 0).trans rfl, (blk_cell BK469.out 1).trans rfl, (blk_cell BK469.out 2).trans rfl, (blk_cell BK470.out 0).trans rfl, (blk_cell BK470.out 1).trans rfl, (cB HB hw500_0 :), (cB HB hw500_1 :), (cB HB hw500_2 :)⟩ (fun hHeld => ?_); refine with_tabW macadamlaw04_GangTrue.tab19 macadamlaw04_GangTrue.bits19 (fun HT_ HW_ => ?_)
                   generalize wr.drew = w106 at HO_7 HO_8 BK469 BK470 BK493 HB hx500_0 hx500_1 hx500_2 hHeld ⊢
                   refine pu HT_ 0 (some 116) (bs 12 1) ?_
                   refine pu HT_ 2 (some 118) (bs 12 5) ?_
                   refine pu HT_ 6 (some 122) (bs 12 69) ?_
                   refine pu HT_ 8 (some 124) (bs 12 325) ?_
                   refine tk8 HT_ HW_ hHeld 1 (some 117) (bs 12 327) ?_
                   refine pu HT_ 3 (some 119) (bs 12 335) ?_
                   refine pu HT_ 4 (some 120) (bs 12 351) ?_
                   refine tk8 HT_ HW_ hHeld 5 (some 121) (bs 12 383) ?_
                   refine tk8 HT_ HW_ hHeld 7 (some 123) (bs 12 511) ?_
                   refine pu HT_ 9 (some 125) (bs 12 1023) ?_
                   refine on HT_ 10 (some 126) (bs 12 2047) (fun K hK => ?_)
                   refine goes_ Tryd.func49 (by kernel_rfl) rfl #[.agg #[.int .i64 ((rd_T66 l0_0 x12_2).f0.f0), .int .i64 ((rd_T66 l0_0 x12_2).f0.f1)], .int .i64 (wrap64 (a2_1 + x12_2))] (by rfl) rfl rfl (by (try simp only [List.map_toArray, List.map_cons, List.map_nil]); first | done | rfl | (simp only [List.length_drop, List.length_take]; rfl)) ?_
                   with_reducible refine (macadamref00_From.calls ((rd_T66 l0_0 x12_2).f0.f0) ((rd_T66 l0_0 x12_2).f0.f1) (wrap64 (a2_1 + x12_2)) t501 _ A64.out).mono ?_
                   rintro e w107 ⟨rfl, hb⟩
                   refine ⟨_, rfl, ?_⟩
                   have n0_ := Aside0.mk (Kd.R_below (by (with_reducible repeat (first | apply Kd.R_alloc | apply Kd.R_drewN | apply Kd.R_drew)); exact HO_7.out) hb)
                   have n1_ := Aside0.mk (Kd.V_below (by (with_reducible repeat (first | apply Kd.V_alloc | apply Kd.V_drewN | apply Kd.V_drew)); exact HO_8.out) hb)
                   have n2_ := Aside0.mk (blk_below (bm BK469) hb)
                   have n3_ := Aside0.mk (blk_below (bm BK470) hb)
                   have n4_ := Aside0.mk (blk_below (bm BK493) hb)
                   have n5_ := Aside0.mk (below_step (bw3 HB GE469 GE470 GE493) hb)
                   clear HO_7
                   clear HO_8
                   clear BK469
                   clear BK470
                   clear BK493
                   clear HB
                   have HO_7 := n0_
                   have HO_8 := n1_
                   have BK469 := n2_
                   have BK470 := n3_
                   have BK493 := n4_
                   have HB := n5_
                   clear n0_ n1_ n2_ n3_ n4_ n5_
                   (try clear hb)
                   (try clear hb2)
                   (try clear hk)
                   (try clear hi)
                   refine hK.out _ _ ⟨(blk_cell BK469.out 0).trans rfl, (blk_cell BK469.out 1).trans rfl, (blk_cell BK469.out 2).trans rfl, (blk_cell BK470.out 0).trans rfl, (blk_cell BK470.out 1).trans rfl, (cB HB hw500_0 :), (cB HB hw500_1 :), (cB HB hw500_2 :)⟩ (fun hHeld => ?_)
                   clear hK K
                   refine nm 126 ?_
                   refine pu HT_ 11 (some 20) (bs 12 4095) ?_
                   refine done_ (done_of HT_.out (by kernel_rfl)) ?_
                   obtain ⟨Ao108, co108, eo108⟩ := Kd.V_slice HO_8.out
                   subst eo108
                   try go_wp2_with (first | ((with_reducible refine gate_callee (f := 43) rfl ?_); refine gL (some 129) Tryd.func43 #[.slice Ao108 t476.length co108, .int .i64 x12_2] ?_; (with_reducible refine (macadamref00_Place.calls k3 _ _ t476 x12_2 t502 _ ?side1 ?side2 A65.out).mono ?_); (case side1 => repeat (first | exact (Kd.V_reads' HO_8.out).2.2 | (with_reducible refine Kd.C_alloc ?_ _) | (with_reducible refine Kd.C_drewN ?_ _) | (with_reducible refine Kd.C_drew ?_))); (case side2 => exact (Kd.V_reads' HO_8.out).2.1); rintro e w' ⟨rfl, ⟨nd, rfl⟩⟩; refine ⟨_, rfl, ?_⟩))
                   (try (rw [drewN_self w107]; generalize hq_ : World.drewN w107 _ = w107; have n0_ : Aside0 (Kd.R k59 59 w107 w.heap.size (fun _ => True) (.slice Ao18 t473.length co18) t473) := ⟨by rw [← hq_]; exact (by (with_reducible repeat (first | apply Kd.R_alloc | apply Kd.R_drewN | apply Kd.R_drew)); exact HO_7.out)⟩; have n1_ : Aside0 (Kd.V (Kd.int .i64) 3 w107 w.heap.size (fun k_ => some k_ ≠ (.slice Ao18 t473.length co18 : Value).ownBlock ∧ k_ ≠ gb469 ∧ k_ ≠ gb470 ∧ k_ ≠ gb493) (.slice Ao108 t476.length co108) t476) := ⟨by rw [← hq_]; exact (by (with_reducible repeat (first | apply Kd.V_alloc | apply Kd.V_drewN | apply Kd.V_drew)); exact HO_8.out)⟩; have n2_ : Aside0 (w107.heap[gb469]? = some (.cells #[.slice (some ad500) l0_0.length c0_0, .slice A0_1 l0_1.length c0_1, .int .i64 a0_2] 25 (0, 0))) := ⟨by rw [← hq_]; exact (bm BK469)⟩; have n3_ : Aside0 (w107.heap[gb470]? = some (.cells #[.int .i64 a2_0, .int .i64 a2_1] 68 (0, 0))) := ⟨by rw [← hq_]; exact (bm BK470)⟩; have n4_ : Aside0 (w107.heap[gb493]? = some (.cells #[.int .i64 t490, .int .i64 t491] 40 (0, 0))) := ⟨by rw [← hq_]; exact (bm BK493)⟩; have n5_ : Aside0 (Below w.heap.size w w107) := ⟨by rw [← hq_]; exact (bw3 HB GE469 GE470 GE493)⟩; clear HO_7 HO_8 BK469 BK470 BK493 HB hq_; have HO_7 := n0_; have HO_8 := n1_; have BK469 := n2_; have BK470 := n3_; have BK493 := n4_; have HB := n5_; clear n0_ n1_ n2_ n3_ n4_ n5_))
                   have n0_ := Aside0.mk (Kd.R_drew HO_7.out)
                   have n1_ := Aside0.mk (Kd.V_drew HO_8.out)
                   have n2_ := Aside0.mk (blk_drew BK469.out)
                   have n3_ := Aside0.mk (blk_drew BK470.out)
                   have n4_ := Aside0.mk (blk_drew BK493.out)
                   have n5_ := Aside0.mk (below_drew1 HB.out)
                   clear HO_7
                   clear HO_8
                   clear BK469
                   clear BK470
                   clear BK493
                   clear HB
                   have HO_7 := n0_
                   have HO_8 := n1_
                   have BK469 := n2_
                   have BK470 := n3_
                   have BK493 := n4_
                   have HB := n5_
                   clear n0_ n1_ n2_ n3_ n4_ n5_
                   refine start_ (n := 36) (S := fun w' => w'.cell? ⟨gb493, 0, none⟩ = some (.int .i64 t490) ∧ w'.cell? ⟨gb493, 1, none⟩ = some (.int .i64 t491)) (ds := []) (bs 36 0) (by kernel_rfl) rfl rfl ⟨(blk_cell BK493.out 0).trans rfl, (blk_cell BK493.out 1).trans rfl⟩ (fun hHeld => ?_); refine with_tabW macadamlaw04_GangTrue.tab21 macadamlaw04_GangTrue.bits21 (fun HT_ HW_ => ?_)
                   generalize w107.drew = w109 at HO_7 HO_8 BK469 BK470 BK493 HB hHeld ⊢
                   refine pu HT_ 0 (some 131) (bs 36 1) ?_
                   refine pu HT_ 1 (some 132) (bs 36 3) ?_
                   refine pu HT_ 2 (some 133) (bs 36 7) ?_
                   refine pu HT_ 4 (some 135) (bs 36 23) ?_
                   refine pu HT_ 5 (some 136) (bs 36 55) ?_
                   refine tk2 HT_ HW_ hHeld 3 (some 134) (bs 36 63) ?_
                   refine on HT_ 6 (some 137) (bs 36 127) (fun K hK => ?_)
                   refine goes_ Tryd.func50 (by kernel_rfl) rfl #[.int .i64 x16_3, .int .i64 x17_3] (by rfl) rfl rfl (by (try simp only [List.map_toArray, List.map_cons, List.map_nil]); first | done | rfl | (simp only [List.length_drop, List.length_take]; rfl)) ?_
                   with_reducible refine (macadamref00_Reach.calls x16_3 x17_3 t503 t504 _ A67.out).mono ?_
                   rintro e w110 ⟨rfl, hb⟩
                   refine ⟨_, rfl, ?_⟩
                   have n0_ := Aside0.mk (Kd.R_below (by (with_reducible repeat (first | apply Kd.R_alloc | apply Kd.R_drewN | apply Kd.R_drew)); exact HO_7.out) hb)
                   have n1_ := Aside0.mk (Kd.V_below (by (with_reducible repeat (first | apply Kd.V_alloc | apply Kd.V_drewN | apply Kd.V_drew)); exact HO_8.out) hb)
                   have n2_ := Aside0.mk (blk_below (bm BK469) hb)
                   have n3_ := Aside0.mk (blk_below (bm BK470) hb)
                   have n4_ := Aside0.mk (blk_below (bm BK493) hb)
                   have n5_ := Aside0.mk (below_step (bw3 HB GE469 GE470 GE493) hb)
                   clear HO_7
                   clear HO_8
                   clear BK469
                   clear BK470
                   clear BK493
                   clear HB
                   have HO_7 := n0_
                   have HO_8 := n1_
                   have BK469 := n2_
                   have BK470 := n3_
                   have BK493 := n4_
                   have HB := n5_
                   clear n0_ n1_ n2_ n3_ n4_ n5_
                   (try clear hb)
                   (try clear hb2)
                   (try clear hk)
                   (try clear hi)
                   refine hK.out _ _ ⟨(blk_cell BK493.out 0).trans rfl, (blk_cell BK493.out 1).trans rfl⟩ (fun hHeld => ?_)
                   clear hK K
                   refine nm 137 ?_
                   refine pu HT_ 7 (some 138) (bs 36 255) ?_
                   refine pu HT_ 8 (some 139) (bs 36 511) ?_
                   refine pu HT_ 9 (some 140) (bs 36 1023) ?_
                   refine pu HT_ 11 (some 142) (bs 36 3071) ?_
                   refine tk2 HT_ HW_ hHeld 10 (some 141) (bs 36 4095) ?_
                   refine on HT_ 12 (some 143) (bs 36 8191) (fun K hK => ?_)
                   refine goes_ Tryd.func51 (by kernel_rfl) rfl #[.agg #[.int .i64 t490, .int .i64 t491], .int .i64 x15_3] (by rfl) rfl rfl (by (try simp only [List.map_toArray, List.map_cons, List.map_nil]); first | done | rfl | (simp only [List.length_drop, List.length_take]; rfl)) ?_
                   with_reducible refine (macadamref00_Holds.calls t490 t491 x15_3 true _ A74.out).mono ?_
                   rintro e w111 ⟨rfl, hb⟩
                   refine ⟨_, rfl, ?_⟩
                   have n0_ := Aside0.mk (Kd.R_below (by (with_reducible repeat (first | apply Kd.R_alloc | apply Kd.R_drewN | apply Kd.R_drew)); exact HO_7.out) hb)
                   have n1_ := Aside0.mk (Kd.V_below (by (with_reducible repeat (first | apply Kd.V_alloc | apply Kd.V_drewN | apply Kd.V_drew)); exact HO_8.out) hb)
                   have n2_ := Aside0.mk (blk_below (bm BK469) hb)
                   have n3_ := Aside0.mk (blk_below (bm BK470) hb)
                   have n4_ := Aside0.mk (blk_below (bm BK493) hb)
                   have n5_ := Aside0.mk (below_step (bw3 HB GE469 GE470 GE493) hb)
                   clear HO_7
                   clear HO_8
                   clear BK469
                   clear BK470
                   clear BK493
                   clear HB
                   have HO_7 := n0_
                   have HO_8 := n1_
                   have BK469 := n2_
                   have BK470 := n3_
                   have BK493 := n4_
                   have HB := n5_
                   clear n0_ n1_ n2_ n3_ n4_ n5_
                   (try clear hb)
                   (try clear hb2)
                   (try clear hk)
                   (try clear hi)
                   refine hK.out _ _ ⟨(blk_cell BK493.out 0).trans rfl, (blk_cell BK493.out 1).trans rfl⟩ (fun hHeld => ?_)
                   clear hK K
                   refine nm 143 ?_
                   refine pu HT_ 13 (some 144) (bs 36 16383) ?_
                   refine pu HT_ 14 (some 145) (bs 36 32767) ?_
                   refine pu HT_ 15 (some 146) (bs 36 65535) ?_
                   refine pu HT_ 16 (some 147) (bs 36 131071) ?_
                   refine pu HT_ 17 (some 148) (bs 36 262143) ?_
                   refine pn HT_ 18 (some 149) (bs 36 524287) ?_
                   refine pn HT_ 19 (some 150) (bs 36 1048575) ?_
                   refine pn HT_ 20 (some 151) (bs 36 2097151) ?_
                   refine pu HT_ 21 (some 152) (bs 36 4194303) ?_
                   refine pu HT_ 22 (some 153) (bs 36 8388607) ?_
                   refine pu HT_ 23 (some 154) (bs 36 16777215) ?_
                   refine pu HT_ 24 (some 155) (bs 36 33554431) ?_
                   refine pu HT_ 25 (some 156) (bs 36 67108863) ?_
                   refine pu HT_ 26 (some 157) (bs 36 134217727) ?_
                   refine pu HT_ 27 (some 158) (bs 36 268435455) ?_
                   refine pu HT_ 28 (some 159) (bs 36 536870911) ?_
                   refine pu HT_ 29 (some 160) (bs 36 1073741823) ?_
                   refine pu HT_ 30 (some 161) (bs 36 2147483647) ?_
                   refine pu HT_ 31 (some 162) (bs 36 4294967295) ?_
                   refine pu HT_ 32 (some 163) (bs 36 8589934591) ?_
                   refine pu HT_ 33 (some 164) (bs 36 17179869183) ?_
                   refine pu HT_ 34 (some 165) (bs 36 34359738367) ?_
                   refine pu HT_ 35 (some 166) (bs 36 68719476735) ?_
                   refine done_ (done_of HT_.out (by kernel_rfl)) ?_
                   try go_wp2
                   go_ret
                   exact ⟨by first | rfl | (simp [errW_none, errW_some] <;> rfl) | (simp [*, errW_none, errW_some] <;> rfl), bw3 HB GE469 GE470 GE493⟩
                  ·as_aux_lemma =>
                   rw [if_neg c105] at H
                   have c105b0 : decide (x12_2 < t480) = false := decide_eq_false c105
                   clear c105
                   have H' := Aside0.mk H
                   clear H
                   try go_wp2
                   have n0_ := Aside0.mk (Kd.R_drew HO_7.out)
                   have n1_ := Aside0.mk (Kd.V_drew HO_8.out)
                   have n2_ := Aside0.mk (blk_drew BK469.out)
                   have n3_ := Aside0.mk (blk_drew BK470.out)
                   have n4_ := Aside0.mk (blk_drew BK493.out)
                   have n5_ := Aside0.mk (below_drew1 HB.out)
                   clear HO_7
                   clear HO_8
                   clear BK469
                   clear BK470
                   clear BK493
                   clear HB
                   have HO_7 := n0_
                   have HO_8 := n1_
                   have BK469 := n2_
                   have BK470 := n3_
                   have BK493 := n4_
                   have HB := n5_
                   clear n0_ n1_ n2_ n3_ n4_ n5_
                   have p500 : 0 ≤ (x12_2 : Int) := of_decide_eq_true (by first | (with_reducible assumption) | assumption)
                   have q500 : x12_2 < (l0_0.length : Int) := of_decide_eq_true (by first | (with_reducible assumption) | assumption)
                   obtain ⟨ad500, e500, hx500_0, hx500_1, hx500_2⟩ := at_T66 HR0_0.out x12_2 p500 q500
                   have hw500_2 := hx500_2
                   have hw500_1 := hx500_1
                   have hw500_0 := hx500_0
                   cases e500
                   replace hx500_0 := cB HB hx500_0
                   replace hx500_1 := cB HB hx500_1
                   replace hx500_2 := cB HB hx500_2
                   replace p500 := eq_true p500
                   replace q500 := eq_true q500
                   refine start_ (n := 12) (S := fun w' => w'.cell? ⟨gb469, 0, none⟩ = some (.slice (some ad500) l0_0.length c0_0) ∧ w'.cell? ⟨gb469, 1, none⟩ = some (.slice A0_1 l0_1.length c0_1) ∧ w'.cell? ⟨gb469, 2, none⟩ = some (.int .i64 a0_2) ∧ w'.cell? ⟨gb470, 0, none⟩ = some (.int .i64 a2_0) ∧ w'.cell? ⟨gb470, 1, none⟩ = some (.int .i64 a2_1) ∧ w'.cell? (ad500.add ((x12_2).toNat * 3)) = some (.int .i64 ((rd_T66 l0_0 x12_2).f0.f0)) ∧ w'.cell? ⟨(ad500.add ((x12_2).toNat * 3)).block, (ad500.add ((x12_2).toNat * 3)).off + 1, none⟩ = some (.int .i64 ((rd_T66 l0_0 x12_2).f0.f1)) ∧ w'.cell? ⟨(ad500.add ((x12_2).toNat * 3)).block, (ad500.add ((x12_2).toNat * 3)).off + 2, none⟩ = some (.int .i64 ((rd_T66 l0_0 x12_2).f1))) (ds := []) (bs 12 0) (by kernel_rfl) rfl rfl ⟨(blk_cell BK469.out 0).trans rfl, (blk_cell BK469.out 1).trans rfl, (blk_cell BK469.out 2).trans rfl, (blk_cell BK470.out 0).trans rfl, (blk_cell BK470.out 1).trans rfl, (cB HB hw500_0 :), (cB HB hw500_1 :), (cB HB hw500_2 :)⟩ (fun hHeld => ?_); refine with_tabW macadamlaw04_GangTrue.tab19 macadamlaw04_GangTrue.bits19 (fun HT_ HW_ => ?_)
                   generalize wr.drew = w112 at HO_7 HO_8 BK469 BK470 BK493 HB hx500_0 hx500_1 hx500_2 hHeld ⊢
                   refine pu HT_ 0 (some 116) (bs 12 1) ?_
                   refine pu HT_ 2 (some 118) (bs 12 5) ?_
                   refine pu HT_ 6 (some 122) (bs 12 69) ?_
                   refine pu HT_ 8 (some 124) (bs 12 325) ?_
                   refine tk8 HT_ HW_ hHeld 1 (some 117) (bs 12 327) ?_
                   refine pu HT_ 3 (some 119) (bs 12 335) ?_
                   refine pu HT_ 4 (some 120) (bs 12 351) ?_
                   refine tk8 HT_ HW_ hHeld 5 (some 121) (bs 12 383) ?_
                   refine tk8 HT_ HW_ hHeld 7 (some 123) (bs 12 511) ?_
                   refine pu HT_ 9 (some 125) (bs 12 1023) ?_
                   refine on HT_ 10 (some 126) (bs 12 2047) (fun K hK => ?_)
                   refine goes_ Tryd.func49 (by kernel_rfl) rfl #[.agg #[.int .i64 ((rd_T66 l0_0 x12_2).f0.f0), .int .i64 ((rd_T66 l0_0 x12_2).f0.f1)], .int .i64 (wrap64 (a2_1 + x12_2))] (by rfl) rfl rfl (by (try simp only [List.map_toArray, List.map_cons, List.map_nil]); first | done | rfl | (simp only [List.length_drop, List.length_take]; rfl)) ?_
                   with_reducible refine (macadamref00_From.calls ((rd_T66 l0_0 x12_2).f0.f0) ((rd_T66 l0_0 x12_2).f0.f1) (wrap64 (a2_1 + x12_2)) t501 _ A64.out).mono ?_
                   rintro e w113 ⟨rfl, hb⟩
                   refine ⟨_, rfl, ?_⟩
                   have n0_ := Aside0.mk (Kd.R_below (by (with_reducible repeat (first | apply Kd.R_alloc | apply Kd.R_drewN | apply Kd.R_drew)); exact HO_7.out) hb)
                   have n1_ := Aside0.mk (Kd.V_below (by (with_reducible repeat (first | apply Kd.V_alloc | apply Kd.V_drewN | apply Kd.V_drew)); exact HO_8.out) hb)
                   have n2_ := Aside0.mk (blk_below (bm BK469) hb)
                   have n3_ := Aside0.mk (blk_below (bm BK470) hb)
                   have n4_ := Aside0.mk (blk_below (bm BK493) hb)
                   have n5_ := Aside0.mk (below_step (bw3 HB GE469 GE470 GE493) hb)
                   clear HO_7
                   clear HO_8
                   clear BK469
                   clear BK470
                   clear BK493
                   clear HB
                   have HO_7 := n0_
                   have HO_8 := n1_
                   have BK469 := n2_
                   have BK470 := n3_
                   have BK493 := n4_
                   have HB := n5_
                   clear n0_ n1_ n2_ n3_ n4_ n5_
                   (try clear hb)
                   (try clear hb2)
                   (try clear hk)
                   (try clear hi)
                   refine hK.out _ _ ⟨(blk_cell BK469.out 0).trans rfl, (blk_cell BK469.out 1).trans rfl, (blk_cell BK469.out 2).trans rfl, (blk_cell BK470.out 0).trans rfl, (blk_cell BK470.out 1).trans rfl, (cB HB hw500_0 :), (cB HB hw500_1 :), (cB HB hw500_2 :)⟩ (fun hHeld => ?_)
                   clear hK K
                   refine nm 126 ?_
                   refine pu HT_ 11 (some 20) (bs 12 4095) ?_
                   refine done_ (done_of HT_.out (by kernel_rfl)) ?_
                   obtain ⟨Ao114, co114, eo114⟩ := Kd.V_slice HO_8.out
                   subst eo114
                   try go_wp2_with (first | ((with_reducible refine gate_callee (f := 43) rfl ?_); refine gL (some 129) Tryd.func43 #[.slice Ao114 t476.length co114, .int .i64 x12_2] ?_; (with_reducible refine (macadamref00_Place.calls k3 _ _ t476 x12_2 t502 _ ?side1 ?side2 A65.out).mono ?_); (case side1 => repeat (first | exact (Kd.V_reads' HO_8.out).2.2 | (with_reducible refine Kd.C_alloc ?_ _) | (with_reducible refine Kd.C_drewN ?_ _) | (with_reducible refine Kd.C_drew ?_))); (case side2 => exact (Kd.V_reads' HO_8.out).2.1); rintro e w' ⟨rfl, ⟨nd, rfl⟩⟩; refine ⟨_, rfl, ?_⟩))
                   (try (rw [drewN_self w113]; generalize hq_ : World.drewN w113 _ = w113; have n0_ : Aside0 (Kd.R k59 59 w113 w.heap.size (fun _ => True) (.slice Ao18 t473.length co18) t473) := ⟨by rw [← hq_]; exact (by (with_reducible repeat (first | apply Kd.R_alloc | apply Kd.R_drewN | apply Kd.R_drew)); exact HO_7.out)⟩; have n1_ : Aside0 (Kd.V (Kd.int .i64) 3 w113 w.heap.size (fun k_ => some k_ ≠ (.slice Ao18 t473.length co18 : Value).ownBlock ∧ k_ ≠ gb469 ∧ k_ ≠ gb470 ∧ k_ ≠ gb493) (.slice Ao114 t476.length co114) t476) := ⟨by rw [← hq_]; exact (by (with_reducible repeat (first | apply Kd.V_alloc | apply Kd.V_drewN | apply Kd.V_drew)); exact HO_8.out)⟩; have n2_ : Aside0 (w113.heap[gb469]? = some (.cells #[.slice (some ad500) l0_0.length c0_0, .slice A0_1 l0_1.length c0_1, .int .i64 a0_2] 25 (0, 0))) := ⟨by rw [← hq_]; exact (bm BK469)⟩; have n3_ : Aside0 (w113.heap[gb470]? = some (.cells #[.int .i64 a2_0, .int .i64 a2_1] 68 (0, 0))) := ⟨by rw [← hq_]; exact (bm BK470)⟩; have n4_ : Aside0 (w113.heap[gb493]? = some (.cells #[.int .i64 t490, .int .i64 t491] 40 (0, 0))) := ⟨by rw [← hq_]; exact (bm BK493)⟩; have n5_ : Aside0 (Below w.heap.size w w113) := ⟨by rw [← hq_]; exact (bw3 HB GE469 GE470 GE493)⟩; clear HO_7 HO_8 BK469 BK470 BK493 HB hq_; have HO_7 := n0_; have HO_8 := n1_; have BK469 := n2_; have BK470 := n3_; have BK493 := n4_; have HB := n5_; clear n0_ n1_ n2_ n3_ n4_ n5_))
                   have n0_ := Aside0.mk (Kd.R_drew HO_7.out)
                   have n1_ := Aside0.mk (Kd.V_drew HO_8.out)
                   have n2_ := Aside0.mk (blk_drew BK469.out)
                   have n3_ := Aside0.mk (blk_drew BK470.out)
                   have n4_ := Aside0.mk (blk_drew BK493.out)
                   have n5_ := Aside0.mk (below_drew1 HB.out)
                   clear HO_7
                   clear HO_8
                   clear BK469
                   clear BK470
                   clear BK493
                   clear HB
                   have HO_7 := n0_
                   have HO_8 := n1_
                   have BK469 := n2_
                   have BK470 := n3_
                   have BK493 := n4_
                   have HB := n5_
                   clear n0_ n1_ n2_ n3_ n4_ n5_
                   refine start_ (n := 36) (S := fun w' => w'.cell? ⟨gb493, 0, none⟩ = some (.int .i64 t490) ∧ w'.cell? ⟨gb493, 1, none⟩ = some (.int .i64 t491)) (ds := []) (bs 36 0) (by kernel_rfl) rfl rfl ⟨(blk_cell BK493.out 0).trans rfl, (blk_cell BK493.out 1).trans rfl⟩ (fun hHeld => ?_); refine with_tabW macadamlaw04_GangTrue.tab21 macadamlaw04_GangTrue.bits21 (fun HT_ HW_ => ?_)
                   generalize w113.drew = w115 at HO_7 HO_8 BK469 BK470 BK493 HB hHeld ⊢
                   refine pu HT_ 0 (some 131) (bs 36 1) ?_
                   refine pu HT_ 1 (some 132) (bs 36 3) ?_
                   refine pu HT_ 2 (some 133) (bs 36 7) ?_
                   refine pu HT_ 4 (some 135) (bs 36 23) ?_
                   refine pu HT_ 5 (some 136) (bs 36 55) ?_
                   refine tk2 HT_ HW_ hHeld 3 (some 134) (bs 36 63) ?_
                   refine on HT_ 6 (some 137) (bs 36 127) (fun K hK => ?_)
                   refine goes_ Tryd.func50 (by kernel_rfl) rfl #[.int .i64 x16_3, .int .i64 x17_3] (by rfl) rfl rfl (by (try simp only [List.map_toArray, List.map_cons, List.map_nil]); first | done | rfl | (simp only [List.length_drop, List.length_take]; rfl)) ?_
                   with_reducible refine (macadamref00_Reach.calls x16_3 x17_3 t503 t504 _ A67.out).mono ?_
                   rintro e w116 ⟨rfl, hb⟩
                   refine ⟨_, rfl, ?_⟩
                   have n0_ := Aside0.mk (Kd.R_below (by (with_reducible repeat (first | apply Kd.R_alloc | apply Kd.R_drewN | apply Kd.R_drew)); exact HO_7.out) hb)
                   have n1_ := Aside0.mk (Kd.V_below (by (with_reducible repeat (first | apply Kd.V_alloc | apply Kd.V_drewN | apply Kd.V_drew)); exact HO_8.out) hb)
                   have n2_ := Aside0.mk (blk_below (bm BK469) hb)
                   have n3_ := Aside0.mk (blk_below (bm BK470) hb)
                   have n4_ := Aside0.mk (blk_below (bm BK493) hb)
                   have n5_ := Aside0.mk (below_step (bw3 HB GE469 GE470 GE493) hb)
                   clear HO_7
                   clear HO_8
                   clear BK469
                   clear BK470
                   clear BK493
                   clear HB
                   have HO_7 := n0_
                   have HO_8 := n1_
                   have BK469 := n2_
                   have BK470 := n3_
                   have BK493 := n4_
                   have HB := n5_
                   clear n0_ n1_ n2_ n3_ n4_ n5_
                   (try clear hb)
                   (try clear hb2)
                   (try clear hk)
                   (try clear hi)
                   refine hK.out _ _ ⟨(blk_cell BK493.out 0).trans rfl, (blk_cell BK493.out 1).trans rfl⟩ (fun hHeld => ?_)
                   clear hK K
                   refine nm 137 ?_
                   refine pu HT_ 7 (some 138) (bs 36 255) ?_
                   refine pu HT_ 8 (some 139) (bs 36 511) ?_
                   refine pu HT_ 9 (some 140) (bs 36 1023) ?_
                   refine pu HT_ 11 (some 142) (bs 36 3071) ?_
                   refine tk2 HT_ HW_ hHeld 10 (some 141) (bs 36 4095) ?_
                   refine on HT_ 12 (some 143) (bs 36 8191) (fun K hK => ?_)
                   refine goes_ Tryd.func51 (by kernel_rfl) rfl #[.agg #[.int .i64 t490, .int .i64 t491], .int .i64 x15_3] (by rfl) rfl rfl (by (try simp only [List.map_toArray, List.map_cons, List.map_nil]); first | done | rfl | (simp only [List.length_drop, List.length_take]; rfl)) ?_
                   with_reducible refine (macadamref00_Holds.calls t490 t491 x15_3 true _ A74.out).mono ?_
                   rintro e w117 ⟨rfl, hb⟩
                   refine ⟨_, rfl, ?_⟩
                   have n0_ := Aside0.mk (Kd.R_below (by (with_reducible repeat (first | apply Kd.R_alloc | apply Kd.R_drewN | apply Kd.R_drew)); exact HO_7.out) hb)
                   have n1_ := Aside0.mk (Kd.V_below (by (with_reducible repeat (first | apply Kd.V_alloc | apply Kd.V_drewN | apply Kd.V_drew)); exact HO_8.out) hb)
                   have n2_ := Aside0.mk (blk_below (bm BK469) hb)
                   have n3_ := Aside0.mk (blk_below (bm BK470) hb)
                   have n4_ := Aside0.mk (blk_below (bm BK493) hb)
                   have n5_ := Aside0.mk (below_step (bw3 HB GE469 GE470 GE493) hb)
                   clear HO_7
                   clear HO_8
                   clear BK469
                   clear BK470
                   clear BK493
                   clear HB
                   have HO_7 := n0_
                   have HO_8 := n1_
                   have BK469 := n2_
                   have BK470 := n3_
                   have BK493 := n4_
                   have HB := n5_
                   clear n0_ n1_ n2_ n3_ n4_ n5_
                   (try clear hb)
                   (try clear hb2)
                   (try clear hk)
                   (try clear hi)
                   refine hK.out _ _ ⟨(blk_cell BK493.out 0).trans rfl, (blk_cell BK493.out 1).trans rfl⟩ (fun hHeld => ?_)
                   clear hK K
                   refine nm 143 ?_
                   refine pu HT_ 13 (some 144) (bs 36 16383) ?_
                   refine pu HT_ 14 (some 145) (bs 36 32767) ?_
                   refine pu HT_ 15 (some 146) (bs 36 65535) ?_
                   refine pu HT_ 16 (some 147) (bs 36 131071) ?_
                   refine pu HT_ 17 (some 148) (bs 36 262143) ?_
                   refine pn HT_ 18 (some 149) (bs 36 524287) ?_
                   refine pn HT_ 19 (some 150) (bs 36 1048575) ?_
                   refine pn HT_ 20 (some 151) (bs 36 2097151) ?_
                   refine pu HT_ 21 (some 152) (bs 36 4194303) ?_
                   refine pu HT_ 22 (some 153) (bs 36 8388607) ?_
                   refine pu HT_ 23 (some 154) (bs 36 16777215) ?_
                   refine pu HT_ 24 (some 155) (bs 36 33554431) ?_
                   refine pu HT_ 25 (some 156) (bs 36 67108863) ?_
                   refine pu HT_ 26 (some 157) (bs 36 134217727) ?_
                   refine pu HT_ 27 (some 158) (bs 36 268435455) ?_
                   refine pu HT_ 28 (some 159) (bs 36 536870911) ?_
                   refine pu HT_ 29 (some 160) (bs 36 1073741823) ?_
                   refine pu HT_ 30 (some 161) (bs 36 2147483647) ?_
                   refine pu HT_ 31 (some 162) (bs 36 4294967295) ?_
                   refine pn HT_ 32 (some 163) (bs 36 8589934591) ?_
                   refine pn HT_ 33 (some 164) (bs 36 17179869183) ?_
                   refine pu HT_ 34 (some 165) (bs 36 34359738367) ?_
                   refine pu HT_ 35 (some 166) (bs 36 68719476735) ?_
                   refine done_ (done_of HT_.out (by kernel_rfl)) ?_
                   try go_wp2
                   go_roundg k3
                   case measure => have := HJ8.out; have := HK2.out; have := HK3.out; omega
                   case rel => exact ⟨(wrap64 (x12_2 + 1)), (by first | rfl | (simp; done) | (simp [*]; done)), H', ⟨by have := HJ8.out; have := HK2.out; have := HK3.out; omega⟩, ⟨by (with_reducible repeat (first | apply Kd.R_alloc | apply Kd.R_drewN | apply Kd.R_drew)); exact HO_7.out⟩, ⟨by (with_reducible repeat (first | apply Kd.V_alloc | apply Kd.V_drewN | apply Kd.V_drew)); exact Kd.V_mono HO_8.out (fun _ hk => ⟨hk.1, ⟨hk.2.1, hk.2.2.1⟩⟩)⟩, ⟨bm BK469⟩, ⟨bm BK470⟩, ⟨bw3 HB GE469 GE470 GE493⟩⟩
                 ·as_aux_lemma =>
                  rw [if_neg c104] at H
                  have c104b0 : (t481 == 0) = false := beq_eq_false_iff_ne.mpr c104
                  have c104b1 : (t481 != 0) = true := bne_iff_ne.mpr c104
                  have H' := Aside0.mk H
                  clear H
                  try go_wp2
                  have n0_ := Aside0.mk (Kd.R_drew HO_7.out)
                  have n1_ := Aside0.mk (Kd.V_drew HO_8.out)
                  have n2_ := Aside0.mk (blk_drew BK469.out)
                  have n3_ := Aside0.mk (blk_drew BK470.out)
                  have n4_ := Aside0.mk (blk_drew BK493.out)
                  have n5_ := Aside0.mk (below_drew1 HB.out)
                  clear HO_7
                  clear HO_8
                  clear BK469
                  clear BK470
                  clear BK493
                  clear HB
                  have HO_7 := n0_
                  have HO_8 := n1_
                  have BK469 := n2_
                  have BK470 := n3_
                  have BK493 := n4_
                  have HB := n5_
                  clear n0_ n1_ n2_ n3_ n4_ n5_
                  have p500 : 0 ≤ (x12_2 : Int) := of_decide_eq_true (by first | (with_reducible assumption) | assumption)
                  have q500 : x12_2 < (l0_0.length : Int) := of_decide_eq_true (by first | (with_reducible assumption) | assumption)
                  obtain ⟨ad500, e500, hx500_0, hx500_1, hx500_2⟩ := at_T66 HR0_0.out x12_2 p500 q500
                  have hw500_2 := hx500_2
                  have hw500_1 := hx500_1
                  have hw500_0 := hx500_0
                  cases e500
                  replace hx500_0 := cB HB hx500_0
                  replace hx500_1 := cB HB hx500_1
                  replace hx500_2 := cB HB hx500_2
                  replace p500 := eq_true p500
                  replace q500 := eq_true q500
                  refine start_ (n := 12) (S := fun w' => w'.cell? ⟨gb469, 0, none⟩ = some (.slice (some ad500) l0_0.length c0_0) ∧ w'.cell? ⟨gb469, 1, none⟩ = some (.slice A0_1 l0_1.length c0_1) ∧ w'.cell? ⟨gb469, 2, none⟩ = some (.int .i64 a0_2) ∧ w'.cell? ⟨gb470, 0, none⟩ = some (.int .i64 a2_0) ∧ w'.cell? ⟨gb470, 1, none⟩ = some (.int .i64 a2_1) ∧ w'.cell? (ad500.add ((x12_2).toNat * 3)) = some (.int .i64 ((rd_T66 l0_0 x12_2).f0.f0)) ∧ w'.cell? ⟨(ad500.add ((x12_2).toNat * 3)).block, (ad500.add ((x12_2).toNat * 3)).off + 1, none⟩ = some (.int .i64 ((rd_T66 l0_0 x12_2).f0.f1)) ∧ w'.cell? ⟨(ad500.add ((x12_2).toNat * 3)).block, (ad500.add ((x12_2).toNat * 3)).off + 2, none⟩ = some (.int .i64 ((rd_T66 l0_0 x12_2).f1))) (ds := []) (bs 12 0) (by kernel_rfl) rfl rfl ⟨(blk_cell BK469.out 0).trans rfl, (blk_cell BK469.out 1).trans rfl, (blk_cell BK469.out 2).trans rfl, (blk_cell BK470.out 0).trans rfl, (blk_cell BK470.out 1).trans rfl, (cB HB hw500_0 :), (cB HB hw500_1 :), (cB HB hw500_2 :)⟩ (fun hHeld => ?_); refine with_tabW macadamlaw04_GangTrue.tab19 macadamlaw04_GangTrue.bits19 (fun HT_ HW_ => ?_)
                  generalize wr.drew = w118 at HO_7 HO_8 BK469 BK470 BK493 HB hx500_0 hx500_1 hx500_2 hHeld ⊢
                  refine pu HT_ 0 (some 116) (bs 12 1) ?_
                  refine pu HT_ 2 (some 118) (bs 12 5) ?_
                  refine pu HT_ 6 (some 122) (bs 12 69) ?_
                  refine pu HT_ 8 (some 124) (bs 12 325) ?_
                  refine tk8 HT_ HW_ hHeld 1 (some 117) (bs 12 327) ?_
                  refine pu HT_ 3 (some 119) (bs 12 335) ?_
                  refine pu HT_ 4 (some 120) (bs 12 351) ?_
                  refine tk8 HT_ HW_ hHeld 5 (some 121) (bs 12 383) ?_
                  refine tk8 HT_ HW_ hHeld 7 (some 123) (bs 12 511) ?_
                  refine pu HT_ 9 (some 125) (bs 12 1023) ?_
                  refine on HT_ 10 (some 126) (bs 12 2047) (fun K hK => ?_)
                  refine goes_ Tryd.func49 (by kernel_rfl) rfl #[.agg #[.int .i64 ((rd_T66 l0_0 x12_2).f0.f0), .int .i64 ((rd_T66 l0_0 x12_2).f0.f1)], .int .i64 (wrap64 (a2_1 + x12_2))] (by rfl) rfl rfl (by (try simp only [List.map_toArray, List.map_cons, List.map_nil]); first | done | rfl | (simp only [List.length_drop, List.length_take]; rfl)) ?_
                  with_reducible refine (macadamref00_From.calls ((rd_T66 l0_0 x12_2).f0.f0) ((rd_T66 l0_0 x12_2).f0.f1) (wrap64 (a2_1 + x12_2)) t501 _ A64.out).mono ?_
                  rintro e w119 ⟨rfl, hb⟩
                  refine ⟨_, rfl, ?_⟩
                  have n0_ := Aside0.mk (Kd.R_below (by (with_reducible repeat (first | apply Kd.R_alloc | apply Kd.R_drewN | apply Kd.R_drew)); exact HO_7.out) hb)
                  have n1_ := Aside0.mk (Kd.V_below (by (with_reducible repeat (first | apply Kd.V_alloc | apply Kd.V_drewN | apply Kd.V_drew)); exact HO_8.out) hb)
                  have n2_ := Aside0.mk (blk_below (bm BK469) hb)
                  have n3_ := Aside0.mk (blk_below (bm BK470) hb)
                  have n4_ := Aside0.mk (blk_below (bm BK493) hb)
                  have n5_ := Aside0.mk (below_step (bw3 HB GE469 GE470 GE493) hb)
                  clear HO_7
                  clear HO_8
                  clear BK469
                  clear BK470
                  clear BK493
                  clear HB
                  have HO_7 := n0_
                  have HO_8 := n1_
                  have BK469 := n2_
                  have BK470 := n3_
                  have BK493 := n4_
                  have HB := n5_
                  clear n0_ n1_ n2_ n3_ n4_ n5_
                  (try clear hb)
                  (try clear hb2)
                  (try clear hk)
                  (try clear hi)
                  refine hK.out _ _ ⟨(blk_cell BK469.out 0).trans rfl, (blk_cell BK469.out 1).trans rfl, (blk_cell BK469.out 2).trans rfl, (blk_cell BK470.out 0).trans rfl, (blk_cell BK470.out 1).trans rfl, (cB HB hw500_0 :), (cB HB hw500_1 :), (cB HB hw500_2 :)⟩ (fun hHeld => ?_)
                  clear hK K
                  refine nm 126 ?_
                  refine pu HT_ 11 (some 20) (bs 12 4095) ?_
                  refine done_ (done_of HT_.out (by kernel_rfl)) ?_
                  obtain ⟨Ao120, co120, eo120⟩ := Kd.V_slice HO_8.out
                  subst eo120
                  try go_wp2_with (first | ((with_reducible refine gate_callee (f := 43) rfl ?_); refine gL (some 129) Tryd.func43 #[.slice Ao120 t476.length co120, .int .i64 x12_2] ?_; (with_reducible refine (macadamref00_Place.calls k3 _ _ t476 x12_2 t502 _ ?side1 ?side2 A65.out).mono ?_); (case side1 => repeat (first | exact (Kd.V_reads' HO_8.out).2.2 | (with_reducible refine Kd.C_alloc ?_ _) | (with_reducible refine Kd.C_drewN ?_ _) | (with_reducible refine Kd.C_drew ?_))); (case side2 => exact (Kd.V_reads' HO_8.out).2.1); rintro e w' ⟨rfl, ⟨nd, rfl⟩⟩; refine ⟨_, rfl, ?_⟩))
                  (try (rw [drewN_self w119]; generalize hq_ : World.drewN w119 _ = w119; have n0_ : Aside0 (Kd.R k59 59 w119 w.heap.size (fun _ => True) (.slice Ao18 t473.length co18) t473) := ⟨by rw [← hq_]; exact (by (with_reducible repeat (first | apply Kd.R_alloc | apply Kd.R_drewN | apply Kd.R_drew)); exact HO_7.out)⟩; have n1_ : Aside0 (Kd.V (Kd.int .i64) 3 w119 w.heap.size (fun k_ => some k_ ≠ (.slice Ao18 t473.length co18 : Value).ownBlock ∧ k_ ≠ gb469 ∧ k_ ≠ gb470 ∧ k_ ≠ gb493) (.slice Ao120 t476.length co120) t476) := ⟨by rw [← hq_]; exact (by (with_reducible repeat (first | apply Kd.V_alloc | apply Kd.V_drewN | apply Kd.V_drew)); exact HO_8.out)⟩; have n2_ : Aside0 (w119.heap[gb469]? = some (.cells #[.slice (some ad500) l0_0.length c0_0, .slice A0_1 l0_1.length c0_1, .int .i64 a0_2] 25 (0, 0))) := ⟨by rw [← hq_]; exact (bm BK469)⟩; have n3_ : Aside0 (w119.heap[gb470]? = some (.cells #[.int .i64 a2_0, .int .i64 a2_1] 68 (0, 0))) := ⟨by rw [← hq_]; exact (bm BK470)⟩; have n4_ : Aside0 (w119.heap[gb493]? = some (.cells #[.int .i64 t490, .int .i64 t491] 40 (0, 0))) := ⟨by rw [← hq_]; exact (bm BK493)⟩; have n5_ : Aside0 (Below w.heap.size w w119) := ⟨by rw [← hq_]; exact (bw3 HB GE469 GE470 GE493)⟩; clear HO_7 HO_8 BK469 BK470 BK493 HB hq_; have HO_7 := n0_; have HO_8 := n1_; have BK469 := n2_; have BK470 := n3_; have BK493 := n4_; have HB := n5_; clear n0_ n1_ n2_ n3_ n4_ n5_))
                  have n0_ := Aside0.mk (Kd.R_drew HO_7.out)
                  have n1_ := Aside0.mk (Kd.V_drew HO_8.out)
                  have n2_ := Aside0.mk (blk_drew BK469.out)
                  have n3_ := Aside0.mk (blk_drew BK470.out)
                  have n4_ := Aside0.mk (blk_drew BK493.out)
                  have n5_ := Aside0.mk (below_drew1 HB.out)
                  clear HO_7
                  clear HO_8
                  clear BK469
                  clear BK470
                  clear BK493
                  clear HB
                  have HO_7 := n0_
                  have HO_8 := n1_
                  have BK469 := n2_
                  have BK470 := n3_
                  have BK493 := n4_
                  have HB := n5_
                  clear n0_ n1_ n2_ n3_ n4_ n5_
                  refine start_ (n := 36) (S := fun w' => w'.cell? ⟨gb493, 0, none⟩ = some (.int .i64 t490) ∧ w'.cell? ⟨gb493, 1, none⟩ = some (.int .i64 t491)) (ds := []) (bs 36 0) (by kernel_rfl) rfl rfl ⟨(blk_cell BK493.out 0).trans rfl, (blk_cell BK493.out 1).trans rfl⟩ (fun hHeld => ?_); refine with_tabW macadamlaw04_GangTrue.tab21 macadamlaw04_GangTrue.bits21 (fun HT_ HW_ => ?_)
                  generalize w119.drew = w121 at HO_7 HO_8 BK469 BK470 BK493 HB hHeld ⊢
                  refine pu HT_ 0 (some 131) (bs 36 1) ?_
                  refine pu HT_ 1 (some 132) (bs 36 3) ?_
                  refine pu HT_ 2 (some 133) (bs 36 7) ?_
                  refine pu HT_ 4 (some 135) (bs 36 23) ?_
                  refine pu HT_ 5 (some 136) (bs 36 55) ?_
                  refine tk2 HT_ HW_ hHeld 3 (some 134) (bs 36 63) ?_
                  refine on HT_ 6 (some 137) (bs 36 127) (fun K hK => ?_)
                  refine goes_ Tryd.func50 (by kernel_rfl) rfl #[.int .i64 x16_3, .int .i64 x17_3] (by rfl) rfl rfl (by (try simp only [List.map_toArray, List.map_cons, List.map_nil]); first | done | rfl | (simp only [List.length_drop, List.length_take]; rfl)) ?_
                  with_reducible refine (macadamref00_Reach.calls x16_3 x17_3 t503 t504 _ A67.out).mono ?_
                  rintro e w122 ⟨rfl, hb⟩
                  refine ⟨_, rfl, ?_⟩
                  have n0_ := Aside0.mk (Kd.R_below (by (with_reducible repeat (first | apply Kd.R_alloc | apply Kd.R_drewN | apply Kd.R_drew)); exact HO_7.out) hb)
                  have n1_ := Aside0.mk (Kd.V_below (by (with_reducible repeat (first | apply Kd.V_alloc | apply Kd.V_drewN | apply Kd.V_drew)); exact HO_8.out) hb)
                  have n2_ := Aside0.mk (blk_below (bm BK469) hb)
                  have n3_ := Aside0.mk (blk_below (bm BK470) hb)
                  have n4_ := Aside0.mk (blk_below (bm BK493) hb)
                  have n5_ := Aside0.mk (below_step (bw3 HB GE469 GE470 GE493) hb)
                  clear HO_7
                  clear HO_8
                  clear BK469
                  clear BK470
                  clear BK493
                  clear HB
                  have HO_7 := n0_
                  have HO_8 := n1_
                  have BK469 := n2_
                  have BK470 := n3_
                  have BK493 := n4_
                  have HB := n5_
                  clear n0_ n1_ n2_ n3_ n4_ n5_
                  (try clear hb)
                  (try clear hb2)
                  (try clear hk)
                  (try clear hi)
                  refine hK.out _ _ ⟨(blk_cell BK493.out 0).trans rfl, (blk_cell BK493.out 1).trans rfl⟩ (fun hHeld => ?_)
                  clear hK K
                  refine nm 137 ?_
                  refine pu HT_ 7 (some 138) (bs 36 255) ?_
                  refine pu HT_ 8 (some 139) (bs 36 511) ?_
                  refine pu HT_ 9 (some 140) (bs 36 1023) ?_
                  refine pu HT_ 11 (some 142) (bs 36 3071) ?_
                  refine tk2 HT_ HW_ hHeld 10 (some 141) (bs 36 4095) ?_
                  refine on HT_ 12 (some 143) (bs 36 8191) (fun K hK => ?_)
                  refine goes_ Tryd.func51 (by kernel_rfl) rfl #[.agg #[.int .i64 t490, .int .i64 t491], .int .i64 x15_3] (by rfl) rfl rfl (by (try simp only [List.map_toArray, List.map_cons, List.map_nil]); first | done | rfl | (simp only [List.length_drop, List.length_take]; rfl)) ?_
                  with_reducible refine (macadamref00_Holds.calls t490 t491 x15_3 true _ A74.out).mono ?_
                  rintro e w123 ⟨rfl, hb⟩
                  refine ⟨_, rfl, ?_⟩
                  have n0_ := Aside0.mk (Kd.R_below (by (with_reducible repeat (first | apply Kd.R_alloc | apply Kd.R_drewN | apply Kd.R_drew)); exact HO_7.out) hb)
                  have n1_ := Aside0.mk (Kd.V_below (by (with_reducible repeat (first | apply Kd.V_alloc | apply Kd.V_drewN | apply Kd.V_drew)); exact HO_8.out) hb)
                  have n2_ := Aside0.mk (blk_below (bm BK469) hb)
                  have n3_ := Aside0.mk (blk_below (bm BK470) hb)
                  have n4_ := Aside0.mk (blk_below (bm BK493) hb)
                  have n5_ := Aside0.mk (below_step (bw3 HB GE469 GE470 GE493) hb)
                  clear HO_7
                  clear HO_8
                  clear BK469
                  clear BK470
                  clear BK493
                  clear HB
                  have HO_7 := n0_
                  have HO_8 := n1_
                  have BK469 := n2_
                  have BK470 := n3_
                  have BK493 := n4_
                  have HB := n5_
                  clear n0_ n1_ n2_ n3_ n4_ n5_
                  (try clear hb)
                  (try clear hb2)
                  (try clear hk)
                  (try clear hi)
                  refine hK.out _ _ ⟨(blk_cell BK493.out 0).trans rfl, (blk_cell BK493.out 1).trans rfl⟩ (fun hHeld => ?_)
                  clear hK K
                  refine nm 143 ?_
                  refine pu HT_ 13 (some 144) (bs 36 16383) ?_
                  refine pu HT_ 14 (some 145) (bs 36 32767) ?_
                  refine pu HT_ 15 (some 146) (bs 36 65535) ?_
                  refine pu HT_ 16 (some 147) (bs 36 131071) ?_
                  refine pu HT_ 17 (some 148) (bs 36 262143) ?_
                  refine pn HT_ 18 (some 149) (bs 36 524287) ?_
                  refine pn HT_ 19 (some 150) (bs 36 1048575) ?_
                  refine pn HT_ 20 (some 151) (bs 36 2097151) ?_
                  refine pu HT_ 21 (some 152) (bs 36 4194303) ?_
                  refine pu HT_ 22 (some 153) (bs 36 8388607) ?_
                  refine pu HT_ 23 (some 154) (bs 36 16777215) ?_
                  refine pu HT_ 24 (some 155) (bs 36 33554431) ?_
                  refine pu HT_ 25 (some 156) (bs 36 67108863) ?_
                  refine pu HT_ 26 (some 157) (bs 36 134217727) ?_
                  refine pn HT_ 27 (some 158) (bs 36 268435455) ?_
                  refine pn HT_ 28 (some 159) (bs 36 536870911) ?_
                  refine pn HT_ 29 (some 160) (bs 36 1073741823) ?_
                  refine pu HT_ 30 (some 161) (bs 36 2147483647) ?_
                  refine pu HT_ 31 (some 162) (bs 36 4294967295) ?_
                  refine pn HT_ 32 (some 163) (bs 36 8589934591) ?_
                  refine pn HT_ 33 (some 164) (bs 36 17179869183) ?_
                  refine pu HT_ 34 (some 165) (bs 36 34359738367) ?_
                  refine pu HT_ 35 (some 166) (bs 36 68719476735) ?_
                  refine done_ (done_of HT_.out (by kernel_rfl)) ?_
                  try go_wp2
                  go_roundg k3
                  case measure => have := HJ8.out; have := HK2.out; have := HK3.out; omega
                  case rel => exact ⟨(wrap64 (x12_2 + 1)), (by first | rfl | (simp; done) | (simp [*]; done)), H', ⟨by have := HJ8.out; have := HK2.out; have := HK3.out; omega⟩, ⟨by (with_reducible repeat (first | apply Kd.R_alloc | apply Kd.R_drewN | apply Kd.R_drew)); exact HO_7.out⟩, ⟨by (with_reducible repeat (first | apply Kd.V_alloc | apply Kd.V_drewN | apply Kd.V_drew)); exact Kd.V_mono HO_8.out (fun _ hk => ⟨hk.1, ⟨hk.2.1, hk.2.2.1⟩⟩)⟩, ⟨bm BK469⟩, ⟨bm BK470⟩, ⟨bw3 HB GE469 GE470 GE493⟩⟩
               ·as_aux_lemma =>
                replace c75 := Bool.eq_false_iff.mpr c75
                subst c75
                have H1 : (some false) = some r := by rw [if_neg (show ¬ (false = true) by decide)] at H; exact H
                clear H
                have H := H1
                clear H1
                obtain rfl := Option.some.inj H
                try go_wp2
                have n0_ := Aside0.mk (Kd.R_drew HO_7.out)
                have n1_ := Aside0.mk (Kd.V_drew HO_8.out)
                have n2_ := Aside0.mk (blk_drew BK469.out)
                have n3_ := Aside0.mk (blk_drew BK470.out)
                have n4_ := Aside0.mk (blk_drew BK493.out)
                have n5_ := Aside0.mk (below_drew1 HB.out)
                clear HO_7
                clear HO_8
                clear BK469
                clear BK470
                clear BK493
                clear HB
                have HO_7 := n0_
                have HO_8 := n1_
                have BK469 := n2_
                have BK470 := n3_
                have BK493 := n4_
                have HB := n5_
                clear n0_ n1_ n2_ n3_ n4_ n5_
                have p500 : 0 ≤ (x12_2 : Int) := of_decide_eq_true (by first | (with_reducible assumption) | assumption)
                have q500 : x12_2 < (l0_0.length : Int) := of_decide_eq_true (by first | (with_reducible assumption) | assumption)
                obtain ⟨ad500, e500, hx500_0, hx500_1, hx500_2⟩ := at_T66 HR0_0.out x12_2 p500 q500
                have hw500_2 := hx500_2
                have hw500_1 := hx500_1
                have hw500_0 := hx500_0
                cases e500
                replace hx500_0 := cB HB hx500_0
                replace hx500_1 := cB HB hx500_1
                replace hx500_2 := cB HB hx500_2
                replace p500 := eq_true p500
                replace q500 := eq_true q500
                refine start_ (n := 12) (S := fun w' => w'.cell? ⟨gb469, 0, none⟩ = some (.slice (some ad500) l0_0.length c0_0) ∧ w'.cell? ⟨gb469, 1, none⟩ = some (.slice A0_1 l0_1.length c0_1) ∧ w'.cell? ⟨gb469, 2, none⟩ = some (.int .i64 a0_2) ∧ w'.cell? ⟨gb470, 0, none⟩ = some (.int .i64 a2_0) ∧ w'.cell? ⟨gb470, 1, none⟩ = some (.int .i64 a2_1) ∧ w'.cell? (ad500.add ((x12_2).toNat * 3)) = some (.int .i64 ((rd_T66 l0_0 x12_2).f0.f0)) ∧ w'.cell? ⟨(ad500.add ((x12_2).toNat * 3)).block, (ad500.add ((x12_2).toNat * 3)).off + 1, none⟩ = some (.int .i64 ((rd_T66 l0_0 x12_2).f0.f1)) ∧ w'.cell? ⟨(ad500.add ((x12_2).toNat * 3)).block, (ad500.add ((x12_2).toNat * 3)).off + 2, none⟩ = some (.int .i64 ((rd_T66 l0_0 x12_2).f1))) (ds := []) (bs 12 0) (by kernel_rfl) rfl rfl ⟨(blk_cell BK469.out 0).trans rfl, (blk_cell BK469.out 1).trans rfl, (blk_cell BK469.out 2).trans rfl, (blk_cell BK470.out 0).trans rfl, (blk_cell BK470.out 1).trans rfl, (cB HB hw500_0 :), (cB HB hw500_1 :), (cB HB hw500_2 :)⟩ (fun hHeld => ?_); refine with_tabW macadamlaw04_GangTrue.tab19 macadamlaw04_GangTrue.bits19 (fun HT_ HW_ => ?_)
                generalize wr.drew = w124 at HO_7 HO_8 BK469 BK470 BK493 HB hx500_0 hx500_1 hx500_2 hHeld ⊢
                refine pu HT_ 0 (some 116) (bs 12 1) ?_
                refine pu HT_ 2 (some 118) (bs 12 5) ?_
                refine pu HT_ 6 (some 122) (bs 12 69) ?_
                refine pu HT_ 8 (some 124) (bs 12 325) ?_
                refine tk8 HT_ HW_ hHeld 1 (some 117) (bs 12 327) ?_
                refine pu HT_ 3 (some 119) (bs 12 335) ?_
                refine pu HT_ 4 (some 120) (bs 12 351) ?_
                refine tk8 HT_ HW_ hHeld 5 (some 121) (bs 12 383) ?_
                refine tk8 HT_ HW_ hHeld 7 (some 123) (bs 12 511) ?_
                refine pu HT_ 9 (some 125) (bs 12 1023) ?_
                refine on HT_ 10 (some 126) (bs 12 2047) (fun K hK => ?_)
                refine goes_ Tryd.func49 (by kernel_rfl) rfl #[.agg #[.int .i64 ((rd_T66 l0_0 x12_2).f0.f0), .int .i64 ((rd_T66 l0_0 x12_2).f0.f1)], .int .i64 (wrap64 (a2_1 + x12_2))] (by rfl) rfl rfl (by (try simp only [List.map_toArray, List.map_cons, List.map_nil]); first | done | rfl | (simp only [List.length_drop, List.length_take]; rfl)) ?_
                with_reducible refine (macadamref00_From.calls ((rd_T66 l0_0 x12_2).f0.f0) ((rd_T66 l0_0 x12_2).f0.f1) (wrap64 (a2_1 + x12_2)) t501 _ A64.out).mono ?_
                rintro e w125 ⟨rfl, hb⟩
                refine ⟨_, rfl, ?_⟩
                have n0_ := Aside0.mk (Kd.R_below (by (with_reducible repeat (first | apply Kd.R_alloc | apply Kd.R_drewN | apply Kd.R_drew)); exact HO_7.out) hb)
                have n1_ := Aside0.mk (Kd.V_below (by (with_reducible repeat (first | apply Kd.V_alloc | apply Kd.V_drewN | apply Kd.V_drew)); exact HO_8.out) hb)
                have n2_ := Aside0.mk (blk_below (bm BK469) hb)
                have n3_ := Aside0.mk (blk_below (bm BK470) hb)
                have n4_ := Aside0.mk (blk_below (bm BK493) hb)
                have n5_ := Aside0.mk (below_step (bw3 HB GE469 GE470 GE493) hb)
                clear HO_7
                clear HO_8
                clear BK469
                clear BK470
                clear BK493
                clear HB
                have HO_7 := n0_
                have HO_8 := n1_
                have BK469 := n2_
                have BK470 := n3_
                have BK493 := n4_
                have HB := n5_
                clear n0_ n1_ n2_ n3_ n4_ n5_
                (try clear hb)
                (try clear hb2)
                (try clear hk)
                (try clear hi)
                refine hK.out _ _ ⟨(blk_cell BK469.out 0).trans rfl, (blk_cell BK469.out 1).trans rfl, (blk_cell BK469.out 2).trans rfl, (blk_cell BK470.out 0).trans rfl, (blk_cell BK470.out 1).trans rfl, (cB HB hw500_0 :), (cB HB hw500_1 :), (cB HB hw500_2 :)⟩ (fun hHeld => ?_)
                clear hK K
                refine nm 126 ?_
                refine pu HT_ 11 (some 20) (bs 12 4095) ?_
                refine done_ (done_of HT_.out (by kernel_rfl)) ?_
                obtain ⟨Ao126, co126, eo126⟩ := Kd.V_slice HO_8.out
                subst eo126
                try go_wp2_with (first | ((with_reducible refine gate_callee (f := 43) rfl ?_); refine gL (some 129) Tryd.func43 #[.slice Ao126 t476.length co126, .int .i64 x12_2] ?_; (with_reducible refine (macadamref00_Place.calls k3 _ _ t476 x12_2 t502 _ ?side1 ?side2 A65.out).mono ?_); (case side1 => repeat (first | exact (Kd.V_reads' HO_8.out).2.2 | (with_reducible refine Kd.C_alloc ?_ _) | (with_reducible refine Kd.C_drewN ?_ _) | (with_reducible refine Kd.C_drew ?_))); (case side2 => exact (Kd.V_reads' HO_8.out).2.1); rintro e w' ⟨rfl, ⟨nd, rfl⟩⟩; refine ⟨_, rfl, ?_⟩))
                (try (rw [drewN_self w125]; generalize hq_ : World.drewN w125 _ = w125; have n0_ : Aside0 (Kd.R k59 59 w125 w.heap.size (fun _ => True) (.slice Ao18 t473.length co18) t473) := ⟨by rw [← hq_]; exact (by (with_reducible repeat (first | apply Kd.R_alloc | apply Kd.R_drewN | apply Kd.R_drew)); exact HO_7.out)⟩; have n1_ : Aside0 (Kd.V (Kd.int .i64) 3 w125 w.heap.size (fun k_ => some k_ ≠ (.slice Ao18 t473.length co18 : Value).ownBlock ∧ k_ ≠ gb469 ∧ k_ ≠ gb470 ∧ k_ ≠ gb493) (.slice Ao126 t476.length co126) t476) := ⟨by rw [← hq_]; exact (by (with_reducible repeat (first | apply Kd.V_alloc | apply Kd.V_drewN | apply Kd.V_drew)); exact HO_8.out)⟩; have n2_ : Aside0 (w125.heap[gb469]? = some (.cells #[.slice (some ad500) l0_0.length c0_0, .slice A0_1 l0_1.length c0_1, .int .i64 a0_2] 25 (0, 0))) := ⟨by rw [← hq_]; exact (bm BK469)⟩; have n3_ : Aside0 (w125.heap[gb470]? = some (.cells #[.int .i64 a2_0, .int .i64 a2_1] 68 (0, 0))) := ⟨by rw [← hq_]; exact (bm BK470)⟩; have n4_ : Aside0 (w125.heap[gb493]? = some (.cells #[.int .i64 t490, .int .i64 t491] 40 (0, 0))) := ⟨by rw [← hq_]; exact (bm BK493)⟩; have n5_ : Aside0 (Below w.heap.size w w125) := ⟨by rw [← hq_]; exact (bw3 HB GE469 GE470 GE493)⟩; clear HO_7 HO_8 BK469 BK470 BK493 HB hq_; have HO_7 := n0_; have HO_8 := n1_; have BK469 := n2_; have BK470 := n3_; have BK493 := n4_; have HB := n5_; clear n0_ n1_ n2_ n3_ n4_ n5_))
                have n0_ := Aside0.mk (Kd.R_drew HO_7.out)
                have n1_ := Aside0.mk (Kd.V_drew HO_8.out)
                have n2_ := Aside0.mk (blk_drew BK469.out)
                have n3_ := Aside0.mk (blk_drew BK470.out)
                have n4_ := Aside0.mk (blk_drew BK493.out)
                have n5_ := Aside0.mk (below_drew1 HB.out)
                clear HO_7
                clear HO_8
                clear BK469
                clear BK470
                clear BK493
                clear HB
                have HO_7 := n0_
                have HO_8 := n1_
                have BK469 := n2_
                have BK470 := n3_
                have BK493 := n4_
                have HB := n5_
                clear n0_ n1_ n2_ n3_ n4_ n5_
                refine start_ (n := 36) (S := fun w' => w'.cell? ⟨gb493, 0, none⟩ = some (.int .i64 t490) ∧ w'.cell? ⟨gb493, 1, none⟩ = some (.int .i64 t491)) (ds := []) (bs 36 0) (by kernel_rfl) rfl rfl ⟨(blk_cell BK493.out 0).trans rfl, (blk_cell BK493.out 1).trans rfl⟩ (fun hHeld => ?_); refine with_tabW macadamlaw04_GangTrue.tab21 macadamlaw04_GangTrue.bits21 (fun HT_ HW_ => ?_)
                generalize w125.drew = w127 at HO_7 HO_8 BK469 BK470 BK493 HB hHeld ⊢
                refine pu HT_ 0 (some 131) (bs 36 1) ?_
                refine pu HT_ 1 (some 132) (bs 36 3) ?_
                refine pu HT_ 2 (some 133) (bs 36 7) ?_
                refine pu HT_ 4 (some 135) (bs 36 23) ?_
                refine pu HT_ 5 (some 136) (bs 36 55) ?_
                refine tk2 HT_ HW_ hHeld 3 (some 134) (bs 36 63) ?_
                refine on HT_ 6 (some 137) (bs 36 127) (fun K hK => ?_)
                refine goes_ Tryd.func50 (by kernel_rfl) rfl #[.int .i64 x16_3, .int .i64 x17_3] (by rfl) rfl rfl (by (try simp only [List.map_toArray, List.map_cons, List.map_nil]); first | done | rfl | (simp only [List.length_drop, List.length_take]; rfl)) ?_
                with_reducible refine (macadamref00_Reach.calls x16_3 x17_3 t503 t504 _ A67.out).mono ?_
                rintro e w128 ⟨rfl, hb⟩
                refine ⟨_, rfl, ?_⟩
                have n0_ := Aside0.mk (Kd.R_below (by (with_reducible repeat (first | apply Kd.R_alloc | apply Kd.R_drewN | apply Kd.R_drew)); exact HO_7.out) hb)
                have n1_ := Aside0.mk (Kd.V_below (by (with_reducible repeat (first | apply Kd.V_alloc | apply Kd.V_drewN | apply Kd.V_drew)); exact HO_8.out) hb)
                have n2_ := Aside0.mk (blk_below (bm BK469) hb)
                have n3_ := Aside0.mk (blk_below (bm BK470) hb)
                have n4_ := Aside0.mk (blk_below (bm BK493) hb)
                have n5_ := Aside0.mk (below_step (bw3 HB GE469 GE470 GE493) hb)
                clear HO_7
                clear HO_8
                clear BK469
                clear BK470
                clear BK493
                clear HB
                have HO_7 := n0_
                have HO_8 := n1_
                have BK469 := n2_
                have BK470 := n3_
                have BK493 := n4_
                have HB := n5_
                clear n0_ n1_ n2_ n3_ n4_ n5_
                (try clear hb)
                (try clear hb2)
                (try clear hk)
                (try clear hi)
                refine hK.out _ _ ⟨(blk_cell BK493.out 0).trans rfl, (blk_cell BK493.out 1).trans rfl⟩ (fun hHeld => ?_)
                clear hK K
                refine nm 137 ?_
                refine pu HT_ 7 (some 138) (bs 36 255) ?_
                refine pu HT_ 8 (some 139) (bs 36 511) ?_
                refine pu HT_ 9 (some 140) (bs 36 1023) ?_
                refine pu HT_ 11 (some 142) (bs 36 3071) ?_
                refine tk2 HT_ HW_ hHeld 10 (some 141) (bs 36 4095) ?_
                refine on HT_ 12 (some 143) (bs 36 8191) (fun K hK => ?_)
                refine goes_ Tryd.func51 (by kernel_rfl) rfl #[.agg #[.int .i64 t490, .int .i64 t491], .int .i64 x15_3] (by rfl) rfl rfl (by (try simp only [List.map_toArray, List.map_cons, List.map_nil]); first | done | rfl | (simp only [List.length_drop, List.length_take]; rfl)) ?_
                with_reducible refine (macadamref00_Holds.calls t490 t491 x15_3 false _ A74.out).mono ?_
                rintro e w129 ⟨rfl, hb⟩
                refine ⟨_, rfl, ?_⟩
                have n0_ := Aside0.mk (Kd.R_below (by (with_reducible repeat (first | apply Kd.R_alloc | apply Kd.R_drewN | apply Kd.R_drew)); exact HO_7.out) hb)
                have n1_ := Aside0.mk (Kd.V_below (by (with_reducible repeat (first | apply Kd.V_alloc | apply Kd.V_drewN | apply Kd.V_drew)); exact HO_8.out) hb)
                have n2_ := Aside0.mk (blk_below (bm BK469) hb)
                have n3_ := Aside0.mk (blk_below (bm BK470) hb)
                have n4_ := Aside0.mk (blk_below (bm BK493) hb)
                have n5_ := Aside0.mk (below_step (bw3 HB GE469 GE470 GE493) hb)
                clear HO_7
                clear HO_8
                clear BK469
                clear BK470
                clear BK493
                clear HB
                have HO_7 := n0_
                have HO_8 := n1_
                have BK469 := n2_
                have BK470 := n3_
                have BK493 := n4_
                have HB := n5_
                clear n0_ n1_ n2_ n3_ n4_ n5_
                (try clear hb)
                (try clear hb2)
                (try clear hk)
                (try clear hi)
                refine hK.out _ _ ⟨(blk_cell BK493.out 0).trans rfl, (blk_cell BK493.out 1).trans rfl⟩ (fun hHeld => ?_)
                clear hK K
                refine nm 143 ?_
                refine pu HT_ 13 (some 144) (bs 36 16383) ?_
                refine pu HT_ 14 (some 145) (bs 36 32767) ?_
                refine pu HT_ 15 (some 146) (bs 36 65535) ?_
                refine pn HT_ 16 (some 147) (bs 36 131071) ?_
                refine pn HT_ 17 (some 148) (bs 36 262143) ?_
                refine pn HT_ 18 (some 149) (bs 36 524287) ?_
                refine pn HT_ 19 (some 150) (bs 36 1048575) ?_
                refine pn HT_ 20 (some 151) (bs 36 2097151) ?_
                refine pn HT_ 21 (some 152) (bs 36 4194303) ?_
                refine pu HT_ 22 (some 153) (bs 36 8388607) ?_
                refine pu HT_ 23 (some 154) (bs 36 16777215) ?_
                refine pn HT_ 24 (some 155) (bs 36 33554431) ?_
                refine pn HT_ 25 (some 156) (bs 36 67108863) ?_
                refine pn HT_ 26 (some 157) (bs 36 134217727) ?_
                refine pn HT_ 27 (some 158) (bs 36 268435455) ?_
                refine pn HT_ 28 (some 159) (bs 36 536870911) ?_
                refine pn HT_ 29 (some 160) (bs 36 1073741823) ?_
                refine pn HT_ 30 (some 161) (bs 36 2147483647) ?_
                refine pn HT_ 31 (some 162) (bs 36 4294967295) ?_
                refine pn HT_ 32 (some 163) (bs 36 8589934591) ?_
                refine pn HT_ 33 (some 164) (bs 36 17179869183) ?_
                refine pn HT_ 34 (some 165) (bs 36 34359738367) ?_
                refine pu HT_ 35 (some 166) (bs 36 68719476735) ?_
                refine done_ (done_of HT_.out (by kernel_rfl)) ?_
                try go_wp2
                go_ret
                exact ⟨by first | rfl | (simp [errW_none, errW_some] <;> rfl) | (simp [*, errW_none, errW_some] <;> rfl), bw3 HB GE469 GE470 GE493⟩
             ·as_aux_lemma =>
              rw [if_neg c66] at H
              have c66b0 : (t492 == 0) = false := beq_eq_false_iff_ne.mpr c66
              have c66b1 : (t492 != 0) = true := bne_iff_ne.mpr c66
              obtain rfl := Option.some.inj H
              try go_wp2
              have n0_ := Aside0.mk (Kd.R_drew HO_7.out)
              have n1_ := Aside0.mk (Kd.V_drew HO_8.out)
              have n2_ := Aside0.mk (blk_drew BK469.out)
              have n3_ := Aside0.mk (blk_drew BK470.out)
              have n4_ := Aside0.mk (blk_drew BK493.out)
              have n5_ := Aside0.mk (below_drew1 HB.out)
              clear HO_7
              clear HO_8
              clear BK469
              clear BK470
              clear BK493
              clear HB
              have HO_7 := n0_
              have HO_8 := n1_
              have BK469 := n2_
              have BK470 := n3_
              have BK493 := n4_
              have HB := n5_
              clear n0_ n1_ n2_ n3_ n4_ n5_
              have p500 : 0 ≤ (x12_2 : Int) := of_decide_eq_true (by first | (with_reducible assumption) | assumption)
              have q500 : x12_2 < (l0_0.length : Int) := of_decide_eq_true (by first | (with_reducible assumption) | assumption)
              obtain ⟨ad500, e500, hx500_0, hx500_1, hx500_2⟩ := at_T66 HR0_0.out x12_2 p500 q500
              have hw500_2 := hx500_2
              have hw500_1 := hx500_1
              have hw500_0 := hx500_0
              cases e500
              replace hx500_0 := cB HB hx500_0
              replace hx500_1 := cB HB hx500_1
              replace hx500_2 := cB HB hx500_2
              replace p500 := eq_true p500
              replace q500 := eq_true q500
              refine start_ (n := 12) (S := fun w' => w'.cell? ⟨gb469, 0, none⟩ = some (.slice (some ad500) l0_0.length c0_0) ∧ w'.cell? ⟨gb469, 1, none⟩ = some (.slice A0_1 l0_1.length c0_1) ∧ w'.cell? ⟨gb469, 2, none⟩ = some (.int .i64 a0_2) ∧ w'.cell? ⟨gb470, 0, none⟩ = some (.int .i64 a2_0) ∧ w'.cell? ⟨gb470, 1, none⟩ = some (.int .i64 a2_1) ∧ w'.cell? (ad500.add ((x12_2).toNat * 3)) = some (.int .i64 ((rd_T66 l0_0 x12_2).f0.f0)) ∧ w'.cell? ⟨(ad500.add ((x12_2).toNat * 3)).block, (ad500.add ((x12_2).toNat * 3)).off + 1, none⟩ = some (.int .i64 ((rd_T66 l0_0 x12_2).f0.f1)) ∧ w'.cell? ⟨(ad500.add ((x12_2).toNat * 3)).block, (ad500.add ((x12_2).toNat * 3)).off + 2, none⟩ = some (.int .i64 ((rd_T66 l0_0 x12_2).f1))) (ds := []) (bs 12 0) (by kernel_rfl) rfl rfl ⟨(blk_cell BK469.out 0).trans rfl, (blk_cell BK469.out 1).trans rfl, (blk_cell BK469.out 2).trans rfl, (blk_cell BK470.out 0).trans rfl, (blk_cell BK470.out 1).trans rfl, (cB HB hw500_0 :), (cB HB hw500_1 :), (cB HB hw500_2 :)⟩ (fun hHeld => ?_); refine with_tabW macadamlaw04_GangTrue.tab19 macadamlaw04_GangTrue.bits19 (fun HT_ HW_ => ?_)
              generalize wr.drew = w130 at HO_7 HO_8 BK469 BK470 BK493 HB hx500_0 hx500_1 hx500_2 hHeld ⊢
              refine pu HT_ 0 (some 116) (bs 12 1) ?_
              refine pu HT_ 2 (some 118) (bs 12 5) ?_
              refine pu HT_ 6 (some 122) (bs 12 69) ?_
              refine pu HT_ 8 (some 124) (bs 12 325) ?_
              refine tk8 HT_ HW_ hHeld 1 (some 117) (bs 12 327) ?_
              refine pu HT_ 3 (some 119) (bs 12 335) ?_
              refine pu HT_ 4 (some 120) (bs 12 351) ?_
              refine tk8 HT_ HW_ hHeld 5 (some 121) (bs 12 383) ?_
              refine tk8 HT_ HW_ hHeld 7 (some 123) (bs 12 511) ?_
              refine pu HT_ 9 (some 125) (bs 12 1023) ?_
              refine on HT_ 10 (some 126) (bs 12 2047) (fun K hK => ?_)
              refine goes_ Tryd.func49 (by kernel_rfl) rfl #[.agg #[.int .i64 ((rd_T66 l0_0 x12_2).f0.f0), .int .i64 ((rd_T66 l0_0 x12_2).f0.f1)], .int .i64 (wrap64 (a2_1 + x12_2))] (by rfl) rfl rfl (by (try simp only [List.map_toArray, List.map_cons, List.map_nil]); first | done | rfl | (simp only [List.length_drop, List.length_take]; rfl)) ?_
              with_reducible refine (macadamref00_From.calls ((rd_T66 l0_0 x12_2).f0.f0) ((rd_T66 l0_0 x12_2).f0.f1) (wrap64 (a2_1 + x12_2)) t501 _ A64.out).mono ?_
              rintro e w131 ⟨rfl, hb⟩
              refine ⟨_, rfl, ?_⟩
              have n0_ := Aside0.mk (Kd.R_below (by (with_reducible repeat (first | apply Kd.R_alloc | apply Kd.R_drewN | apply Kd.R_drew)); exact HO_7.out) hb)
              have n1_ := Aside0.mk (Kd.V_below (by (with_reducible repeat (first | apply Kd.V_alloc | apply Kd.V_drewN | apply Kd.V_drew)); exact HO_8.out) hb)
              have n2_ := Aside0.mk (blk_below (bm BK469) hb)
              have n3_ := Aside0.mk (blk_below (bm BK470) hb)
              have n4_ := Aside0.mk (blk_below (bm BK493) hb)
              have n5_ := Aside0.mk (below_step (bw3 HB GE469 GE470 GE493) hb)
              clear HO_7
              clear HO_8
              clear BK469
              clear BK470
              clear BK493
              clear HB
              have HO_7 := n0_
              have HO_8 := n1_
              have BK469 := n2_
              have BK470 := n3_
              have BK493 := n4_
              have HB := n5_
              clear n0_ n1_ n2_ n3_ n4_ n5_
              (try clear hb)
              (try clear hb2)
              (try clear hk)
              (try clear hi)
              refine hK.out _ _ ⟨(blk_cell BK469.out 0).trans rfl, (blk_cell BK469.out 1).trans rfl, (blk_cell BK469.out 2).trans rfl, (blk_cell BK470.out 0).trans rfl, (blk_cell BK470.out 1).trans rfl, (cB HB hw500_0 :), (cB HB hw500_1 :), (cB HB hw500_2 :)⟩ (fun hHeld => ?_)
              clear hK K
              refine nm 126 ?_
              refine pu HT_ 11 (some 20) (bs 12 4095) ?_
              refine done_ (done_of HT_.out (by kernel_rfl)) ?_
              obtain ⟨Ao132, co132, eo132⟩ := Kd.V_slice HO_8.out
              subst eo132
              try go_wp2_with (first | ((with_reducible refine gate_callee (f := 43) rfl ?_); refine gL (some 129) Tryd.func43 #[.slice Ao132 t476.length co132, .int .i64 x12_2] ?_; (with_reducible refine (macadamref00_Place.calls k3 _ _ t476 x12_2 t502 _ ?side1 ?side2 A65.out).mono ?_); (case side1 => repeat (first | exact (Kd.V_reads' HO_8.out).2.2 | (with_reducible refine Kd.C_alloc ?_ _) | (with_reducible refine Kd.C_drewN ?_ _) | (with_reducible refine Kd.C_drew ?_))); (case side2 => exact (Kd.V_reads' HO_8.out).2.1); rintro e w' ⟨rfl, ⟨nd, rfl⟩⟩; refine ⟨_, rfl, ?_⟩))
              (try (rw [drewN_self w131]; generalize hq_ : World.drewN w131 _ = w131; have n0_ : Aside0 (Kd.R k59 59 w131 w.heap.size (fun _ => True) (.slice Ao18 t473.length co18) t473) := ⟨by rw [← hq_]; exact (by (with_reducible repeat (first | apply Kd.R_alloc | apply Kd.R_drewN | apply Kd.R_drew)); exact HO_7.out)⟩; have n1_ : Aside0 (Kd.V (Kd.int .i64) 3 w131 w.heap.size (fun k_ => some k_ ≠ (.slice Ao18 t473.length co18 : Value).ownBlock ∧ k_ ≠ gb469 ∧ k_ ≠ gb470 ∧ k_ ≠ gb493) (.slice Ao132 t476.length co132) t476) := ⟨by rw [← hq_]; exact (by (with_reducible repeat (first | apply Kd.V_alloc | apply Kd.V_drewN | apply Kd.V_drew)); exact HO_8.out)⟩; have n2_ : Aside0 (w131.heap[gb469]? = some (.cells #[.slice (some ad500) l0_0.length c0_0, .slice A0_1 l0_1.length c0_1, .int .i64 a0_2] 25 (0, 0))) := ⟨by rw [← hq_]; exact (bm BK469)⟩; have n3_ : Aside0 (w131.heap[gb470]? = some (.cells #[.int .i64 a2_0, .int .i64 a2_1] 68 (0, 0))) := ⟨by rw [← hq_]; exact (bm BK470)⟩; have n4_ : Aside0 (w131.heap[gb493]? = some (.cells #[.int .i64 t490, .int .i64 t491] 40 (0, 0))) := ⟨by rw [← hq_]; exact (bm BK493)⟩; have n5_ : Aside0 (Below w.heap.size w w131) := ⟨by rw [← hq_]; exact (bw3 HB GE469 GE470 GE493)⟩; clear HO_7 HO_8 BK469 BK470 BK493 HB hq_; have HO_7 := n0_; have HO_8 := n1_; have BK469 := n2_; have BK470 := n3_; have BK493 := n4_; have HB := n5_; clear n0_ n1_ n2_ n3_ n4_ n5_))
              have n0_ := Aside0.mk (Kd.R_drew HO_7.out)
              have n1_ := Aside0.mk (Kd.V_drew HO_8.out)
              have n2_ := Aside0.mk (blk_drew BK469.out)
              have n3_ := Aside0.mk (blk_drew BK470.out)
              have n4_ := Aside0.mk (blk_drew BK493.out)
              have n5_ := Aside0.mk (below_drew1 HB.out)
              clear HO_7
              clear HO_8
              clear BK469
              clear BK470
              clear BK493
              clear HB
              have HO_7 := n0_
              have HO_8 := n1_
              have BK469 := n2_
              have BK470 := n3_
              have BK493 := n4_
              have HB := n5_
              clear n0_ n1_ n2_ n3_ n4_ n5_
              refine start_ (n := 36) (S := fun w' => True) (ds := []) (bs 36 0) (by kernel_rfl) rfl rfl trivial (fun hHeld => ?_); refine with_tabW macadamlaw04_GangTrue.tab21 macadamlaw04_GangTrue.bits21 (fun HT_ HW_ => ?_)
              generalize w131.drew = w133 at HO_7 HO_8 BK469 BK470 BK493 HB hHeld ⊢
              refine pu HT_ 0 (some 131) (bs 36 1) ?_
              refine pu HT_ 1 (some 132) (bs 36 3) ?_
              refine pu HT_ 2 (some 133) (bs 36 7) ?_
              refine pn HT_ 3 (some 134) (bs 36 15) ?_
              refine pn HT_ 4 (some 135) (bs 36 31) ?_
              refine pn HT_ 5 (some 136) (bs 36 63) ?_
              refine pn HT_ 6 (some 137) (bs 36 127) ?_
              refine pn HT_ 7 (some 138) (bs 36 255) ?_
              refine pu HT_ 8 (some 139) (bs 36 511) ?_
              refine pu HT_ 9 (some 140) (bs 36 1023) ?_
              refine pn HT_ 10 (some 141) (bs 36 2047) ?_
              refine pn HT_ 11 (some 142) (bs 36 4095) ?_
              refine pn HT_ 12 (some 143) (bs 36 8191) ?_
              refine pn HT_ 13 (some 144) (bs 36 16383) ?_
              refine pu HT_ 14 (some 145) (bs 36 32767) ?_
              refine pu HT_ 15 (some 146) (bs 36 65535) ?_
              refine pn HT_ 16 (some 147) (bs 36 131071) ?_
              refine pn HT_ 17 (some 148) (bs 36 262143) ?_
              refine pn HT_ 18 (some 149) (bs 36 524287) ?_
              refine pn HT_ 19 (some 150) (bs 36 1048575) ?_
              refine pn HT_ 20 (some 151) (bs 36 2097151) ?_
              refine pn HT_ 21 (some 152) (bs 36 4194303) ?_
              refine pu HT_ 22 (some 153) (bs 36 8388607) ?_
              refine pu HT_ 23 (some 154) (bs 36 16777215) ?_
              refine pn HT_ 24 (some 155) (bs 36 33554431) ?_
              refine pn HT_ 25 (some 156) (bs 36 67108863) ?_
              refine pn HT_ 26 (some 157) (bs 36 134217727) ?_
              refine pn HT_ 27 (some 158) (bs 36 268435455) ?_
              refine pn HT_ 28 (some 159) (bs 36 536870911) ?_
              refine pn HT_ 29 (some 160) (bs 36 1073741823) ?_
              refine pn HT_ 30 (some 161) (bs 36 2147483647) ?_
              refine pn HT_ 31 (some 162) (bs 36 4294967295) ?_
              refine pn HT_ 32 (some 163) (bs 36 8589934591) ?_
              refine pn HT_ 33 (some 164) (bs 36 17179869183) ?_
              refine pn HT_ 34 (some 165) (bs 36 34359738367) ?_
              refine pu HT_ 35 (some 166) (bs 36 68719476735) ?_
              refine done_ (done_of HT_.out (by kernel_rfl)) ?_
              try go_wp2
              go_ret
              exact ⟨by first | rfl | (simp [errW_none, errW_some] <;> rfl) | (simp [*, errW_none, errW_some] <;> rfl), bw3 HB GE469 GE470 GE493⟩
            ·as_aux_lemma =>
             rw [if_neg c63] at H
             exact absurd H (by simp)
           ·as_aux_lemma =>
            rw [if_neg c62] at H
            exact absurd H (by simp)
       ·as_aux_lemma =>
        rw [if_neg c40] at H
        have c40b0 : decide (x12_2 < (l0_0.length : Int)) = false := decide_eq_false c40
        clear c40
        by_cases c134 : t481 = 0
        ·as_aux_lemma =>
         rw [if_pos c134] at H
         have c134b0 : (t481 == 0) = true := beq_iff_eq.mpr c134
         have c134b1 : (t481 != 0) = false := bne_eq_false_iff_eq.mpr c134
         clear c134
         replace H := Option.bind_eq_some_iff.mp H
         obtain ⟨t506, A1350, H⟩ := H
         replace H : (if t506 = true then ((macadamref00_Place.f k2 t476 t480).bind fun t507 => (if t507 < 0 then ((macadamlaw04_shovelled.f).bind fun t508 => (some t508)) else (some false))) else (some false)) = some r := H
         have A135 := Aside0.mk A1350
         clear A1350
         by_cases c136 : t506 = true
         ·as_aux_lemma =>
          subst c136
          have H1 : ((macadamref00_Place.f k2 t476 t480).bind fun t507 => (if t507 < 0 then ((macadamlaw04_shovelled.f).bind fun t508 => (some t508)) else (some false))) = some r := by rw [if_pos rfl] at H; exact H
          clear H
          have H := H1
          clear H1
          replace H := Option.bind_eq_some_iff.mp H
          obtain ⟨t507, A1370, H⟩ := H
          replace H : (if t507 < 0 then ((macadamlaw04_shovelled.f).bind fun t508 => (some t508)) else (some false)) = some r := H
          have A137 := Aside0.mk A1370
          clear A1370
          by_cases c138 : t507 < 0
          ·as_aux_lemma =>
           rw [if_pos c138] at H
           have c138b0 : decide (t507 < 0) = true := decide_eq_true c138
           clear c138
           replace H := Option.bind_eq_some_iff.mp H
           obtain ⟨t508, A1390, H⟩ := H
           replace H : (some t508) = some r := H
           have A139 := Aside0.mk A1390
           clear A1390
           obtain rfl := Option.some.inj H
           have hnb140 := NB469_470.out
           have hnc140 := NB470_469.out
           obtain ⟨hcz141_0, hcz141_1, hcz141_2, hfz141_0, hfz141_1, hfz141_2⟩ := b3 BK469
           go_wp2_with (first | ((with_reducible refine gate_callee (f := 45) rfl ?_); refine gL (some 187) Tryd.func45 #[.int .i64 t480, .int .i64 0, .int .i64 (wrap64 ((l0_0.length : Int) - 1))] ?_; (with_reducible refine (macadamref00_Amid.calls t480 0 (wrap64 ((l0_0.length : Int) - 1)) true _ A135.out).mono ?_); rintro e w' ⟨rfl, ⟨nd, rfl⟩⟩; refine ⟨_, rfl, ?_⟩; obtain ⟨Ao142, co142, eo142⟩ := Kd.V_slice HO_8.out; subst eo142) | (go_at_call 43; (with_reducible refine (macadamref00_Place.calls k2 _ _ t476 t480 t507 _ ?side1 ?side2 A137.out).mono ?_); (case side1 => repeat (first | exact (Kd.V_reads' HO_8.out).2.2 | (with_reducible refine Kd.C_alloc ?_ _) | (with_reducible refine Kd.C_drewN ?_ _) | (with_reducible refine Kd.C_drew ?_))); (case side2 => exact (Kd.V_reads' HO_8.out).2.1); rintro e w' ⟨rfl, ⟨nd, rfl⟩⟩) | (go_at_call 24; (with_reducible refine (macadamlaw04_shovelled.calls  t508 _ ?side1 A139.out).mono ?_); (case side1 => exact gv_below HG.out (bw2 HB GE469 GE470)); rintro e w143 ⟨rfl, hb⟩; have n0_ := Aside0.mk (Kd.R_below (by (with_reducible repeat (first | apply Kd.R_alloc | apply Kd.R_drewN | apply Kd.R_drew)); exact HO_7.out) hb); have n1_ := Aside0.mk (Kd.V_below (by (with_reducible repeat (first | apply Kd.V_alloc | apply Kd.V_drewN | apply Kd.V_drew)); exact HO_8.out) hb); have n2_ := Aside0.mk (blk_below (bm BK469) hb); have n3_ := Aside0.mk (blk_below (bm BK470) hb); have n4_ := Aside0.mk (below_step (bw2 HB GE469 GE470) hb); clear HO_7; clear HO_8; clear BK469; clear BK470; clear HB; have HO_7 := n0_; have HO_8 := n1_; have BK469 := n2_; have BK470 := n3_; have HB := n4_; clear n0_ n1_ n2_ n3_ n4_; (try clear hb); (try clear hb2); (try clear hk); (try clear hi)))
           go_ret
           exact ⟨by first | rfl | (simp [errW_none, errW_some] <;> rfl) | (simp [*, errW_none, errW_some] <;> rfl), bw2 HB GE469 GE470⟩
          ·as_aux_lemma =>
           rw [if_neg c138] at H
           have c138b0 : decide (t507 < 0) = false := decide_eq_false c138
           clear c138
           obtain rfl := Option.some.inj H
           have hnb144 := NB469_470.out
           have hnc144 := NB470_469.out
           obtain ⟨hcz145_0, hcz145_1, hcz145_2, hfz145_0, hfz145_1, hfz145_2⟩ := b3 BK469
           go_wp2_with (first | ((with_reducible refine gate_callee (f := 45) rfl ?_); refine gL (some 187) Tryd.func45 #[.int .i64 t480, .int .i64 0, .int .i64 (wrap64 ((l0_0.length : Int) - 1))] ?_; (with_reducible refine (macadamref00_Amid.calls t480 0 (wrap64 ((l0_0.length : Int) - 1)) true _ A135.out).mono ?_); rintro e w' ⟨rfl, ⟨nd, rfl⟩⟩; refine ⟨_, rfl, ?_⟩; obtain ⟨Ao146, co146, eo146⟩ := Kd.V_slice HO_8.out; subst eo146) | (go_at_call 43; (with_reducible refine (macadamref00_Place.calls k2 _ _ t476 t480 t507 _ ?side1 ?side2 A137.out).mono ?_); (case side1 => repeat (first | exact (Kd.V_reads' HO_8.out).2.2 | (with_reducible refine Kd.C_alloc ?_ _) | (with_reducible refine Kd.C_drewN ?_ _) | (with_reducible refine Kd.C_drew ?_))); (case side2 => exact (Kd.V_reads' HO_8.out).2.1); rintro e w' ⟨rfl, ⟨nd, rfl⟩⟩))
           go_ret
           exact ⟨by first | rfl | (simp [errW_none, errW_some] <;> rfl) | (simp [*, errW_none, errW_some] <;> rfl), bw2 HB GE469 GE470⟩
         ·as_aux_lemma =>
          replace c136 := Bool.eq_false_iff.mpr c136
          subst c136
          have H1 : (some false) = some r := by rw [if_neg (show ¬ (false = true) by decide)] at H; exact H
          clear H
          have H := H1
          clear H1
          obtain rfl := Option.some.inj H
          have hnb147 := NB469_470.out
          have hnc147 := NB470_469.out
          obtain ⟨hcz148_0, hcz148_1, hcz148_2, hfz148_0, hfz148_1, hfz148_2⟩ := b3 BK469
          go_wp2_with (first | ((with_reducible refine gate_callee (f := 45) rfl ?_); refine gL (some 187) Tryd.func45 #[.int .i64 t480, .int .i64 0, .int .i64 (wrap64 ((l0_0.length : Int) - 1))] ?_; (with_reducible refine (macadamref00_Amid.calls t480 0 (wrap64 ((l0_0.length : Int) - 1)) false _ A135.out).mono ?_); rintro e w' ⟨rfl, ⟨nd, rfl⟩⟩; refine ⟨_, rfl, ?_⟩))
          go_ret
          exact ⟨by first | rfl | (simp [errW_none, errW_some] <;> rfl) | (simp [*, errW_none, errW_some] <;> rfl), bw2 HB GE469 GE470⟩
        ·as_aux_lemma =>
         rw [if_neg c134] at H
         have c134b0 : (t481 == 0) = false := beq_eq_false_iff_ne.mpr c134
         have c134b1 : (t481 != 0) = true := bne_iff_ne.mpr c134
         by_cases c149 : (t476.length : Int) = (l0_0.length : Int)
         ·as_aux_lemma =>
          rw [if_pos c149] at H
          have c149b0 : ((t476.length : Int) == (l0_0.length : Int)) = true := beq_iff_eq.mpr c149
          have c149b1 : ((t476.length : Int) != (l0_0.length : Int)) = false := bne_eq_false_iff_eq.mpr c149
          have c149b2 : (t476.length == l0_0.length) = true := by first | simpa using c149 | (simp at c149 ⊢; omega)
          clear c149
          by_cases c150 : t480 = 0
          ·as_aux_lemma =>
           rw [if_pos c150] at H
           have c150b0 : (t480 == 0) = true := beq_iff_eq.mpr c150
           have c150b1 : (t480 != 0) = false := bne_eq_false_iff_eq.mpr c150
           clear c150
           replace H := Option.bind_eq_some_iff.mp H
           obtain ⟨t509, A1510, H⟩ := H
           replace H : (some t509) = some r := H
           have A151 := Aside0.mk A1510
           clear A1510
           obtain rfl := Option.some.inj H
           have hnb152 := NB469_470.out
           have hnc152 := NB470_469.out
           obtain ⟨hcz153_0, hcz153_1, hcz153_2, hfz153_0, hfz153_1, hfz153_2⟩ := b3 BK469
           obtain ⟨Ao154, co154, eo154⟩ := Kd.V_slice HO_8.out
           subst eo154
           go_wp2_with (first | (go_at_call 24; (with_reducible refine (macadamlaw04_shovelled.calls  t509 _ ?side1 A151.out).mono ?_); (case side1 => exact gv_below HG.out (bw2 HB GE469 GE470)); rintro e w155 ⟨rfl, hb⟩; have n0_ := Aside0.mk (Kd.R_below (by (with_reducible repeat (first | apply Kd.R_alloc | apply Kd.R_drewN | apply Kd.R_drew)); exact HO_7.out) hb); have n1_ := Aside0.mk (Kd.V_below (by (with_reducible repeat (first | apply Kd.V_alloc | apply Kd.V_drewN | apply Kd.V_drew)); exact HO_8.out) hb); have n2_ := Aside0.mk (blk_below (bm BK469) hb); have n3_ := Aside0.mk (blk_below (bm BK470) hb); have n4_ := Aside0.mk (below_step (bw2 HB GE469 GE470) hb); clear HO_7; clear HO_8; clear BK469; clear BK470; clear HB; have HO_7 := n0_; have HO_8 := n1_; have BK469 := n2_; have BK470 := n3_; have HB := n4_; clear n0_ n1_ n2_ n3_ n4_; (try clear hb); (try clear hb2); (try clear hk); (try clear hi)))
           go_ret
           exact ⟨by first | rfl | (simp [errW_none, errW_some] <;> rfl) | (simp [*, errW_none, errW_some] <;> rfl), bw2 HB GE469 GE470⟩
          ·as_aux_lemma =>
           rw [if_neg c150] at H
           have c150b0 : (t480 == 0) = false := beq_eq_false_iff_ne.mpr c150
           have c150b1 : (t480 != 0) = true := bne_iff_ne.mpr c150
           obtain rfl := Option.some.inj H
           have hnb156 := NB469_470.out
           have hnc156 := NB470_469.out
           obtain ⟨hcz157_0, hcz157_1, hcz157_2, hfz157_0, hfz157_1, hfz157_2⟩ := b3 BK469
           obtain ⟨Ao158, co158, eo158⟩ := Kd.V_slice HO_8.out
           subst eo158
           go_wp2
           go_ret
           exact ⟨by first | rfl | (simp [errW_none, errW_some] <;> rfl) | (simp [*, errW_none, errW_some] <;> rfl), bw2 HB GE469 GE470⟩
         ·as_aux_lemma =>
          rw [if_neg c149] at H
          have c149b0 : ((t476.length : Int) == (l0_0.length : Int)) = false := beq_eq_false_iff_ne.mpr c149
          have c149b1 : ((t476.length : Int) != (l0_0.length : Int)) = true := bne_iff_ne.mpr c149
          have c149b2 : (t476.length == l0_0.length) = false := by first | simpa using c149 | (simp at c149 ⊢; omega)
          obtain rfl := Option.some.inj H
          have hnb159 := NB469_470.out
          have hnc159 := NB470_469.out
          obtain ⟨hcz160_0, hcz160_1, hcz160_2, hfz160_0, hfz160_1, hfz160_2⟩ := b3 BK469
          obtain ⟨Ao161, co161, eo161⟩ := Kd.V_slice HO_8.out
          subst eo161
          go_wp2
          go_ret
          exact ⟨by first | rfl | (simp [errW_none, errW_some] <;> rfl) | (simp [*, errW_none, errW_some] <;> rfl), bw2 HB GE469 GE470⟩
 ·as_aux_lemma =>
  replace c5 := Bool.eq_false_iff.mpr c5
  subst c5
  have H1 : ((macadamlaw04_shovelled.f).bind fun t472 => (some t472)) = some r := by rw [if_neg (show ¬ (false = true) by decide)] at H; exact H
  clear H
  have H := H1
  clear H1
  replace H := Option.bind_eq_some_iff.mp H
  obtain ⟨t472, A1620, H⟩ := H
  replace H : (some t472) = some r := H
  have A162 := Aside0.mk A1620
  clear A1620
  obtain rfl := Option.some.inj H
  go_enter Tryd.func8, Tryd.ntmps8
  go_wp2_with (first | ((with_reducible refine gate_dst (N := 3) rfl ?_); refine bx 3 #[.slice A0_0 l0_0.length c0_0, .slice A0_1 l0_1.length c0_1, .int .i64 a0_2] 25 ?_; intro gb469 hg w163 hbox hb; have n0_ := Aside0.mk (below_step (bw HB) hb); have n1_ := Aside0.mk (hbox); have n2_ := Aside0.mk (bz (bw HB) hg); have n3_ := Aside0.mk (bz (bw HB) hg); clear HB; have HB := n0_; have BK469 := n1_; have GW469 := n2_; have GE469 := n3_; clear n0_ n1_ n2_ n3_; clear hb hbox hg) | ((with_reducible refine gate_dst (N := 5) rfl ?_); refine bx 5 #[.int .i64 a2_0, .int .i64 a2_1] 68 ?_; intro gb470 hg w164 hbox hb; have n0_ := Aside0.mk (blk_below (bm BK469) hb); have n1_ := Aside0.mk (below_step (bw1 HB GE469) hb); have n2_ := Aside0.mk (hbox); have n3_ := Aside0.mk (bz (bw1 HB GE469) hg); have n4_ := Aside0.mk (bz (bw1 HB GE469) hg); have n5_ := Aside0.mk (bl (bm BK469) hg); have n6_ := Aside0.mk (bg (bm BK469) hg); clear BK469; clear HB; have BK469 := n0_; have HB := n1_; have BK470 := n2_; have GW470 := n3_; have GE470 := n4_; have NB469_470 := n5_; have NB470_469 := n6_; clear n0_ n1_ n2_ n3_ n4_ n5_ n6_; clear hb hbox hg; have hnb165 := NB469_470.out; have hnc165 := NB470_469.out; obtain ⟨hcz166_0, hcz166_1, hcz166_2, hfz166_0, hfz166_1, hfz166_2⟩ := b3 BK469) | ((with_reducible refine gate_callee (f := 38) rfl ?_); refine gL (some 23) Tryd.func38 #[.agg #[.slice A0_0 l0_0.length c0_0, .slice A0_1 l0_1.length c0_1, .int .i64 a0_2]] ?_; (with_reducible refine (macadamlaw04_sound.calls k _ _ l0_0 _ _ l0_1 a0_2 false _ ?side1 ?side2 ?side3 ?side4 A4.out).mono ?_); (case side1 => repeat (first | exact (Kd.C_below HR0_0.out HB.out) | (with_reducible refine Kd.C_alloc ?_ _) | (with_reducible refine Kd.C_drewN ?_ _) | (with_reducible refine Kd.C_drew ?_))); (case side2 => exact HC0_0.out); (case side3 => repeat (first | exact (Kd.C_below HR0_1.out HB.out) | (with_reducible refine Kd.C_alloc ?_ _) | (with_reducible refine Kd.C_drewN ?_ _) | (with_reducible refine Kd.C_drew ?_))); (case side4 => exact HC0_1.out); rintro e w167 ⟨rfl, hb⟩; refine ⟨_, rfl, ?_⟩; have n0_ := Aside0.mk (blk_below (bm BK469) hb); have n1_ := Aside0.mk (blk_below (bm BK470) hb); have n2_ := Aside0.mk (below_step (bw2 HB GE469 GE470) hb); clear BK469; clear BK470; clear HB; have BK469 := n0_; have BK470 := n1_; have HB := n2_; clear n0_ n1_ n2_; (try clear hb); (try clear hb2); (try clear hk); (try clear hi)) | ((with_reducible refine gate_callee (f := 24) rfl ?_); refine gL (some 25) Tryd.func24 #[] ?_; (with_reducible refine (macadamlaw04_shovelled.calls  t472 _ ?side1 A162.out).mono ?_); (case side1 => exact gv_below HG.out (bw2 HB GE469 GE470)); rintro e w168 ⟨rfl, hb⟩; refine ⟨_, rfl, ?_⟩; have n0_ := Aside0.mk (blk_below (bm BK469) hb); have n1_ := Aside0.mk (blk_below (bm BK470) hb); have n2_ := Aside0.mk (below_step (bw2 HB GE469 GE470) hb); clear BK469; clear BK470; clear HB; have BK469 := n0_; have BK470 := n1_; have HB := n2_; clear n0_ n1_ n2_; (try clear hb); (try clear hb2); (try clear hk); (try clear hi)))
  go_ret
  exact ⟨by first | rfl | (simp [errW_none, errW_some] <;> rfl) | (simp [*, errW_none, errW_some] <;> rfl), bw2 HB GE469 GE470⟩
end Go.Proofs.YtikfghnkbgdbgaaDoor.Q
end
section
namespace Go.Proofs.YtikfghnkbgdbgaaDoor.Q
set_option linter.unusedSimpArgs false
set_option linter.unusedVariables false
open Go.RowKit Go.Proofs.YtikfghnkbgdbgaaDoorW.PrintWords Go.Proofs.YtikfghnkbgdbgaaDoorW.PrintLast Go.Proofs.YtikfghnkbgdbgaaDoorW.PrintMore
theorem from_f {lo hi : Int} (x : Int) (h0 : 0 ≤ lo) (h1 : lo ≤ hi) (h2 : hi ≤ 1000) : ∃ v, macadamref00_From.f lo hi x = some v ∧ lo ≤ v ∧ v ≤ hi := by
  unfold macadamref00_From.f
  rw [show wrap64 (wrap64 (hi - lo) + 1) = hi - lo + 1 by unfold wrap64; omega]
  obtain ⟨r, hr, r0, r1⟩ := wrap_f x (show (1 : Int) ≤ hi - lo + 1 by omega) (by omega)
  rw [hr]
  simp only [Option.bind_some]
  rw [show wrap64 (lo + r) = lo + r by unfold wrap64; omega]
  exact ⟨_, rfl, by omega, by omega⟩
theorem macadamlaw04_GangTrue_l1_eq (k : Nat) (x7 : List (S59)) (x8 : List Int) (x10 : Int) (x11 : Int) (x12 : Int) (x14 : Int) (x15 : Int) (x16 : Int) (x17 : Int) (x18 : Int) (x470000 : List (S66)) (x470001 : List (S63)) (x470002 : Int) (x471000 : Int) (x471001 : Int) (x494000 : Int) (x494001 : Int) : macadamlaw04_GangTrue.l1 (k + 1) x7 x8 x10 x11 x12 x14 x15 x16 x17 x18 x470000 x470001 x470002 x471000 x471001 x494000 x494001 = (if x18 < (x7.length : Int) then (if 0 ≤ x18 then (if ((rd_T59 x7 x18).f2) = x12 then (if 0 ≤ ((rd_T59 x7 x18).f1) then (if ((rd_T59 x7 x18).f1) < (x470001.length : Int) then ((macadamref00_From.f ((rd_T63 x470001 ((rd_T59 x7 x18).f1)).f2.f0) ((rd_T63 x470001 ((rd_T59 x7 x18).f1)).f2.f1) (wrap64 (x471000 + ((rd_T59 x7 x18).f1)))).bind fun t499 => (macadamlaw04_GangTrue.l1 k x7 x8 x10 x11 x12 x14 (wrap64 (x15 + t499)) (wrap64 (x16 + ((rd_T63 x470001 ((rd_T59 x7 x18).f1)).f2.f0))) (wrap64 (x17 + ((rd_T63 x470001 ((rd_T59 x7 x18).f1)).f2.f1))) (wrap64 (x18 + 1)) x470000 x470001 x470002 x471000 x471001 x494000 x494001)) else (none)) else (none)) else (macadamlaw04_GangTrue.l1 k x7 x8 x10 x11 x12 x14 x15 x16 x17 (wrap64 (x18 + 1)) x470000 x470001 x470002 x471000 x471001 x494000 x494001)) else (none)) else (if 0 ≤ x12 then (if x12 < (x470000.length : Int) then ((macadamref00_From.f ((rd_T66 x470000 x12).f0.f0) ((rd_T66 x470000 x12).f0.f1) (wrap64 (x471001 + x12))).bind fun t501 => ((macadamref00_Place.f k x8 x12).bind fun t502 => (if x14 = 0 then ((macadamref00_Reach.f x16 x17).bind fun bt503 => (if (!(x494000 == bt503.1) || (!(x494001 == bt503.2))) = true then (some false) else ((macadamref00_Holds.f x494000 x494001 x15).bind fun t505 => (if t505 = true then (if t502 ≥ 0 then (if x15 < t501 then (some false) else (if x11 = 0 then (if x12 < x10 then (macadamlaw04_GangTrue.l0 k x7 x8 x10 x11 (wrap64 (x12 + 1)) x470000 x470001 x470002 x471000 x471001) else (macadamlaw04_GangTrue.l0 k x7 x8 x10 x11 (wrap64 (x12 + 1)) x470000 x470001 x470002 x471000 x471001)) else (macadamlaw04_GangTrue.l0 k x7 x8 x10 x11 (wrap64 (x12 + 1)) x470000 x470001 x470002 x471000 x471001))) else (if x11 = 0 then (if x12 < x10 then (some false) else (macadamlaw04_GangTrue.l0 k x7 x8 x10 x11 (wrap64 (x12 + 1)) x470000 x470001 x470002 x471000 x471001)) else (macadamlaw04_GangTrue.l0 k x7 x8 x10 x11 (wrap64 (x12 + 1)) x470000 x470001 x470002 x471000 x471001))) else (some false))))) else (some false)))) else (none)) else (none))) := by rfl
theorem macadamlaw04_GangTrue_l0_eq (k : Nat) (x7 : List (S59)) (x8 : List Int) (x10 : Int) (x11 : Int) (x12 : Int) (x470000 : List (S66)) (x470001 : List (S63)) (x470002 : Int) (x471000 : Int) (x471001 : Int) : macadamlaw04_GangTrue.l0 (k + 1) x7 x8 x10 x11 x12 x470000 x470001 x470002 x471000 x471001 = (if x12 < (x470000.length : Int) then ((gang_Done.f x470000 x470001 x470002 x7 x12).bind fun bt490 => (macadamlaw04_GangTrue.l1 k x7 x8 x10 x11 x12 bt490.2.2 0 0 0 0 x470000 x470001 x470002 x471000 x471001 bt490.1 bt490.2.1)) else (if x11 = 0 then ((macadamref00_Amid.f x10 0 (wrap64 ((x470000.length : Int) - 1))).bind fun t506 => (if t506 = true then ((macadamref00_Place.f k x8 x10).bind fun t507 => (if t507 < 0 then ((macadamlaw04_shovelled.f).bind fun t508 => (some t508)) else (some false))) else (some false))) else (if (x8.length : Int) = (x470000.length : Int) then (if x10 = 0 then ((macadamlaw04_shovelled.f).bind fun t509 => (some t509)) else (some false)) else (some false)))) := by rfl
theorem sub_step {a j d : Nat} (h : a - j = d + 1) : a - (j + 1) = d := by omega
theorem sums_step {low high done g0 g1 v : Int} {j : Nat} (h1 : low ≤ done) (h2 : done ≤ high) (h3 : 0 ≤ low) (h4 : high ≤ 3 * (j : Int)) (hj : (j : Int) < 8) (hg : 1 ≤ g0 ∧ g0 ≤ g1 ∧ g1 ≤ 3 ∧ g1 - g0 ≤ 2) (v0 : g0 ≤ v) (v1 : v ≤ g1) :
    low + g0 ≤ done + v ∧ done + v ≤ high + g1 ∧ 0 ≤ low + g0 ∧ high + g1 ≤ 3 * ((j + 1 : Nat) : Int) ∧ wrap64 (done + v) = done + v ∧ wrap64 (low + g0) = low + g0 ∧ wrap64 (high + g1) = high + g1 := by
  unfold wrap64
  omega
theorem high_step {high : Int} {j : Nat} (h4 : high ≤ 3 * (j : Int)) : high ≤ 3 * ((j + 1 : Nat) : Int) := by omega
theorem true_l1 {ms : List M} {gs : List G} {n : Int} (ok : okB ms gs n = true) {p : List Wk} (hp : planB ms gs n p = true) (a b first f : Int) {i : Nat} (hi : i < ms.length)
    (hf : f = 0 → (i : Int) < first → (i : Int) ∈ mendedL ms gs p) (H : Ev (fun k => macadamlaw04_GangTrue.l0 k p (mendedL ms gs p) first f ((i + 1 : Nat) : Int) ms gs n a b) true) (d : Nat) : ∀ (j : Nat) (done low high : Int), p.length - j = d → j ≤ p.length →
    low + doneAt gs false i (p.drop j) = doneAt gs false i p → high + doneAt gs true i (p.drop j) = doneAt gs true i p → low ≤ done → done ≤ high → 0 ≤ low → high ≤ 3 * j →
    Ev (fun k => macadamlaw04_GangTrue.l1 k p (mendedL ms gs p) first f i 0 done low high j ms gs n a b (doneAt gs false i p) (doneAt gs true i p)) true := by
  obtain ⟨⟨hm1, hm2⟩, _, _⟩ := okB_sizes ok
  have hl := plan_len ok hp
  have h8 : (0 : Int) ≤ (i : Int) := Int.natCast_nonneg _
  have h7 : (i : Int) < (ms.length : Int) := Int.ofNat_lt.2 hi
  induction d with
  | zero =>
    intro j done low high hd hj e1 e2 h1 h2 h3 h4
    have h9 : ¬ ((j : Int) < (p.length : Int)) := by omega
    rw [List.drop_of_length_le (by omega)] at e1 e2
    simp only [doneAt, Int.add_zero] at e1 e2
    have hneed := (okB_mile ok _ (rd_mem (i := (i : Int)) (by omega) (by omega))).1
    obtain ⟨v, hv, v0, v1⟩ := from_f (lo := (rd_T66 ms i).f0.f0) (hi := (rd_T66 ms i).f0.f1) (wrap64 (b + i)) (by omega) (by omega) (by omega)
    have hlen : (mendedL ms gs p).length ≤ 9223372036854775807 := by have := @rmended_len ms gs p; omega
    obtain ⟨r, hr, hr2⟩ := place_ev (mendedL ms gs p) i hlen
    have hw : wrap64 ((i : Int) + 1) = ((i + 1 : Nat) : Int) := by unfold wrap64; omega
    refine Ev.step (f := fun k => (macadamref00_Place.f k (mendedL ms gs p) i).bind fun t502 => if t502 ≥ 0 then (if done < v then some false else macadamlaw04_GangTrue.l0 k p (mendedL ms gs p) first f ((i + 1 : Nat) : Int) ms gs n a b) else if f = 0 then (if (i : Int) < first then some false else macadamlaw04_GangTrue.l0 k p (mendedL ms gs p) first f ((i + 1 : Nat) : Int) ms gs n a b) else macadamlaw04_GangTrue.l0 k p (mendedL ms gs p) first f ((i + 1 : Nat) : Int) ms gs n a b) (fun k => ?_) ?_
    · rw [macadamlaw04_GangTrue_l1_eq, if_neg h9, if_pos h8, if_pos h7, hv]
      simp only [Option.bind_some]
      refine congrArg (Option.bind _) (funext fun t => ?_)
      have hh : macadamref00_Holds.f (doneAt gs false i p) (doneAt gs true i p) done = some true := by
        unfold macadamref00_Holds.f
        rw [amid_f, show within done (doneAt gs false i p) (doneAt gs true i p) = true by unfold within; simp; omega]
        rfl
      rw [if_pos trivial, e1, e2, reach_f]
      simp only [Option.bind_some]
      rw [if_neg (by simp), hh]
      simp only [Option.bind_some, if_true, hw, ite_self]
    · refine Ev.bind hr ?_
      by_cases hin : (i : Int) ∈ mendedL ms gs p
      · have hge := (mem_mendedL.1 hin).2
        refine Ev.pos (by rcases Int.lt_or_le r 0 with h | h; · exact absurd hin (hr2.1 h)
                          · exact h) (Ev.neg (by omega) H)
      · refine Ev.neg (by have := hr2.2 hin; omega) ?_
        by_cases hf0 : f = 0
        · exact Ev.pos hf0 (Ev.neg (fun h => hin (hf hf0 h)) H)
        · exact Ev.neg hf0 H
  | succ d ih =>
    intro j done low high hd hj e1 e2 h1 h2 h3 h4
    clear hf H
    have E1 := Aside0.mk e1
    have E2 := Aside0.mk e2
    clear e1 e2
    have hlt : j < p.length := by omega
    have h5 : (0 : Int) ≤ (j : Int) := Int.natCast_nonneg _
    have h6 : (j : Int) < (p.length : Int) := Int.ofNat_lt.2 hlt
    have hx : rd_T59 p (j : Int) = W3 p j := rfl
    have hw : wrap64 ((j : Int) + 1) = ((j + 1 : Nat) : Int) := by unfold wrap64; omega
    have n1 : p.length - (j + 1) = d := sub_step hd
    have n2 : j + 1 ≤ p.length := hlt
    have e1 := E1.out
    have e2 := E2.out
    rw [drop_W3 p j hlt] at e1 e2
    simp only [doneAt, Bool.false_eq_true, if_false, if_true] at e1 e2
    by_cases h : (W3 p j).f2 = (i : Int)
    · rw [if_pos h] at e1 e2
      have hc := (canB_iff.1 (((planB_iff _ _ _ _).1 hp).1 _ (W3_mem hlt))).2.2.2.1
      have hg := (okB_gang ok _ (rd_memG hc.1 hc.2)).2
      have e1' := (Int.add_assoc _ _ _).trans e1
      have e2' := (Int.add_assoc _ _ _).trans e2
      have step := fun k => macadamlaw04_GangTrue_l1_eq k p (mendedL ms gs p) first f i 0 done low high j ms gs n a b (doneAt gs false i p) (doneAt gs true i p)
      simp only [if_pos h6, if_pos h5, hx, if_pos h, if_pos hc.1, if_pos hc.2, hw] at step
      have I := fun v => ih (j + 1) (done + v) _ _ n1 n2 e1' e2'
      generalize (rd_T63 gs (W3 p j).f1).f2.f0 = g0 at hg I step
      generalize (rd_T63 gs (W3 p j).f1).f2.f1 = g1 at hg I step
      obtain ⟨v, hv, v0, v1⟩ := from_f (lo := g0) (hi := g1) (wrap64 (a + (W3 p j).f1)) (Int.le_trans (by decide) hg.1) hg.2.1 (Int.le_trans hg.2.2.1 (by decide))
      obtain ⟨u1, u2, u3, u4, w1, w2, w3⟩ := sums_step h1 h2 h3 h4 (Int.lt_of_lt_of_le h6 (Int.ofNat_le.2 hl)) hg v0 v1
      have I2 := I v u1 u2 u3 u4
      refine Ev.step (fun k => ?_) I2
      rw [step, hv]
      simp only [Option.bind_some]
      rw [w1, w2, w3]
    · rw [if_neg h, Int.zero_add] at e1 e2
      have I := ih (j + 1) done low high n1 n2 e1 e2 h1 h2 h3 (high_step h4)
      refine Ev.step (fun k => ?_) I
      rw [macadamlaw04_GangTrue_l1_eq, if_pos h6, if_pos h5, hx, if_neg h, hw]
theorem true_l0 {ms : List M} {gs : List G} {n : Int} (ok : okB ms gs n = true) {p : List Wk} (hp : planB ms gs n p = true) (a b : Int) {first f : Int}
    (hf : (f = 0 ∧ (0 ≤ first ∧ first < (ms.length : Int)) ∧ first ∉ mendedL ms gs p ∧ ∀ j, 0 ≤ j → j < first → j ∈ mendedL ms gs p) ∨ (f = 4 ∧ first = 0 ∧ (mendedL ms gs p).length = ms.length)) (d : Nat) : ∀ (i : Nat), ms.length - i = d → i ≤ ms.length → Ev (fun k => macadamlaw04_GangTrue.l0 k p (mendedL ms gs p) first f i ms gs n a b) true := by
  obtain ⟨⟨hm1, hm2⟩, _, _⟩ := okB_sizes ok
  have hlen : (mendedL ms gs p).length ≤ 9223372036854775807 := by have := @rmended_len ms gs p; omega
  induction d with
  | zero =>
    intro i hd hi
    rcases hf with ⟨f0, hb, hn, _⟩ | ⟨f4, hb, hfull⟩
    · obtain ⟨r, hr, hr2⟩ := place_ev (mendedL ms gs p) first hlen
      refine Ev.step (f := fun k => (macadamref00_Place.f k (mendedL ms gs p) first).bind fun t => if t < 0 then some true else some false) (fun k => ?_) (Ev.bind hr (Ev.pos (hr2.2 hn) (Ev.now _)))
      rw [macadamlaw04_GangTrue_l0_eq, if_neg (show ¬ ((i : Int) < (ms.length : Int)) by omega), if_pos f0, amid_f, show wrap64 ((ms.length : Int) - 1) = (ms.length : Int) - 1 by unfold wrap64; omega, show within first 0 ((ms.length : Int) - 1) = true by unfold within; simp; omega]
      rfl
    · refine Ev.step (f := fun _ => some true) (fun k => ?_) (Ev.now _)
      rw [macadamlaw04_GangTrue_l0_eq, if_neg (by omega), if_neg (by omega), if_pos (by omega), if_pos hb]
      rfl
  | succ d ih =>
    intro i hd hi
    have ea : askedE ms gs n p = 0 := by unfold askedE; rw [if_pos ok, if_pos hp]
    have ed : gang_Done.f ms gs n p i = some (doneAt gs false i p, doneAt gs true i p, 0) := by
      unfold gang_Done.f
      rw [if_pos ea, if_pos (by unfold within; simp; omega)]
    refine Ev.step (f := fun k => macadamlaw04_GangTrue.l1 k p (mendedL ms gs p) first f i 0 0 0 0 0 ms gs n a b (doneAt gs false i p) (doneAt gs true i p)) (fun k => ?_) ?_
    · simp only [macadamlaw04_GangTrue.l0]
      rw [if_pos (by omega), ed]
      rfl
    · have := true_l1 ok hp a b first f (i := i) (by omega) (fun h h2 => by
        rcases hf with ⟨_, _, _, hall⟩ | ⟨h4, _⟩
        · exact hall _ (by omega) h2
        · omega) (ih (i + 1) (by omega) (by omega)) p.length 0 0 0 0 (by omega) (by omega) (by simp) (by simp) (by omega) (by omega) (by omega) (by omega)
      exact this
theorem gangTrue_pure (ms : List M) (gs : List G) (n : Int) (ok0 : OkBook ms gs n) (bits : List Int) (ok1 : bits.length ≤ maxLen ∧ ∀ x ∈ bits, (Lit.int .i64 x).wf = true) (_z : bits.length * 8 ≤ 140737488351232) (a b : Int) (_ok2 : (Lit.int .i64 a).wf = true ∧ (Lit.int .i64 b).wf = true) :
    ∃ k, macadamlaw04_GangTrue.f k ms gs n bits a b = some true := by
  have hm : ms.length ≤ 9223372036854775807 := ok0.1.1
  have hg : gs.length ≤ 9223372036854775807 := ok0.2.1.1
  refine Ev.rounds ?_
  unfold macadamlaw04_GangTrue.f
  refine Ev.bind (sound_ev ms gs n hm hg) ?_
  by_cases ok : okB ms gs n = true
  · rw [ok]
    obtain ⟨q, hq, he⟩ := drawn_ev ok (bits := bits) ok1.1
    have ea : askedE ms gs n q = 0 := by unfold askedE; rw [if_pos ok, if_pos hq]
    have em : gang_Mended.f ms gs n q = some (mendedL ms gs q, 0) := by unfold gang_Mended.f; rw [if_pos ea]
    have hlen : (mendedL ms gs q).length ≤ 9223372036854775807 := by have := @rmended_len ms gs q; omega
    refine Ev.pos rfl (Ev.bind he (Ev.bind (Ev.some em) ?_))
    have hj : ∀ first f, (f = 0 ∧ (0 ≤ first ∧ first < (ms.length : Int)) ∧ first ∉ mendedL ms gs q ∧ ∀ j, 0 ≤ j → j < first → j ∈ mendedL ms gs q) ∨ (f = 4 ∧ first = 0 ∧ (mendedL ms gs q).length = ms.length) → Ev (fun k => macadamlaw04_GangTrue.j0 k q (mendedL ms gs q) first f (!true) ms gs n a b) true := fun first f hf =>
      Ev.step (f := fun k => macadamlaw04_GangTrue.l0 k q (mendedL ms gs q) first f 0 ms gs n a b) (fun k => by simp only [macadamlaw04_GangTrue.j0]; rw [if_neg (by simp)]) (true_l0 ok hq a b hf ms.length 0 (by omega) (by omega))
    rcases open_spec ok hq with ⟨i, e, h0, h1, h2⟩ | ⟨e, h⟩
    · exact Ev.bind (Ev.some e) (Ev.pos rfl (Ev.pos rfl (Ev.bind (lmended_ev ok hq) (Ev.bind (like_same _ hlen) (hj i 0 (Or.inl ⟨rfl, h0, h1, h2⟩))))))
    · exact Ev.bind (Ev.some e) (Ev.pos rfl (Ev.neg (by decide) (Ev.pos rfl (Ev.bind (lmended_ev ok hq) (Ev.bind (like_same _ hlen) (hj 0 4 (Or.inr ⟨rfl, rfl, h⟩)))))))
  · rw [show okB ms gs n = false by simpa using ok]
    exact Ev.neg (by simp) (Ev.some rfl)
end Go.Proofs.YtikfghnkbgdbgaaDoor.Q
end
section
namespace Go.Proofs.YtikfghnkbgdbgaaDoor.Q
open Go.ChangeShapes Go.WideShapes Go.ChangeAt Go.RowKit
set_option linter.unusedVariables false
set_option maxRecDepth 100000 in
theorem gangTrue_lifted (os : Os) (started : os.Started) (H : Type) (enc : TypeId × Value → H) :
    ReturnsInHanded {} Tryd.checked os 8 .any (fun w args => (Rows.gangTrueSpec.pre enc Tryd.prog Tryd.f8 [] false w args ∧ laidMetH Tryd.prog laidV w) ∧ sizedMet enc Tryd.prog Tryd.f8 (OpenSpec.ofChange Rows.gangTrueSpec) false w args)
      (Rows.gangTrueSpec.post enc Tryd.prog Tryd.f8 false true false false) := by
  refine returnsInHanded_of_change_and (C := Tryd.checked) (X := fun w _ => laidMetH Tryd.prog laidV w) (fun _ _ _ hh h => h.of_heap hh) ownK started (by kernel_rfl) Tryd.func8
    (ChangeSpec.witness_shaped (enc := enc) (C := Tryd.checked) (os := os) (X := fun w _ => laidMetH Tryd.prog laidV w) false (World.doorLaid Tryd.prog 19 os) #[.agg #[.slice none 0 0, .slice none 0 0, .int .i64 0], .slice none 0 0, .agg #[.int .i64 0, .int .i64 0]] 8 rfl (World.shaped_of_RefB (by kernel_rfl) (by kernel_rfl)) (by kernel_rfl) (by kernel_rfl) (by kernel_rfl) (door_met os _)) ?_
  intro W base args ds gs before hval0 hW _ hsz0 hL _
  have hval : ∀ (j : Nat) t v, Tryd.f8.params[j]? = some t → args[j]? = some v → Value.okWide Tryd.prog W .any base t v := hval0
  have hsz : (DataW.weightsEach Tryd.prog (Tryd.f8.params.toList ++ Rows.gangTrueSpec.plain.varTypes Tryd.prog) (ds ++ gs)).all (· ≤ reachBytes) = true := hsz0
  have hW' := hW
  obtain ⟨p, q, hA0, hV, rfl, hfz, hnd⟩ := hW
  have hA : DataW.TrodAll enc Tryd.prog W 0 (fun _ => true) true Tryd.f8.params.toList args.toList ds p := hA0
  rw [Tryd.params8] at hA hval hsz
  obtain ⟨v0, vs0, d0, ds0, p0, q0, hargs, rfl, rfl, h0, r0⟩ := trodAll_cons hA
  obtain ⟨v1, vs1, d1, ds1, p1, q1, rfl, rfl, rfl, h1, r1⟩ := trodAll_cons r0
  obtain ⟨v2, vs2, d2, ds2, p2, q2, rfl, rfl, rfl, h2, r2⟩ := trodAll_cons r1
  obtain ⟨rfl, rfl, rfl⟩ := trodAll_nil r2
  obtain rfl : args = #[v0, v1, v2] := by cases args; simp_all
  obtain ⟨rfl, rfl⟩ := trodVars_none hV
  have lt0 : ∀ x ∈ p0, x.block < W.heap.size := by obtain ⟨m, hm⟩ := h0; exact DataW.trod_lt m _ _ _ hm
  obtain ⟨y0, K0, ok0⟩ := opens_book.arg h0
  obtain ⟨A0_0, c0_0, A0_1, c0_1, e0, hc0_0, hr0_0, hc0_1, hr0_1⟩ := k25_open K0
  obtain rfl := cells_many e0
  have lt1 : ∀ x ∈ p1, x.block < W.heap.size := by obtain ⟨m, hm⟩ := h1; exact DataW.trod_lt m _ _ _ hm
  obtain ⟨a1, len1, cap1, rfl⟩ := okWide_slice Tryd.underlying28 (hval 1 28 v1 rfl rfl)
  have z1 : len1 * 8 ≤ 140737488351232 := sized_any hsz (j := 1) (t := 28) rfl rfl Tryd.underlying28 (by kernel_rfl) h1
  obtain ⟨y1, K1, ok1⟩ := opens_ints.arg h1
  obtain ⟨A1, c1, e1, hc1, hr1⟩ := K1
  simp only [Value.cells, List.cons.injEq, Value.slice.injEq, and_true] at e1
  obtain ⟨rfl, rfl, rfl⟩ := e1
  have lt2 : ∀ x ∈ p2, x.block < W.heap.size := by obtain ⟨m, hm⟩ := h2; exact DataW.trod_lt m _ _ _ hm
  obtain ⟨y2, K2, ok2⟩ := opens_n2.arg h2
  obtain rfl := cells_many (K_n2 K2)
  have hG := gv_of_laid hL
  obtain ⟨k_, h_⟩ := gangTrue_pure y0.f0 y0.f1 y0.f2 ok0 y1 ok1 z1 y2.1 y2.2 ok2
  clear hA0 hval0 hsz0 hsz
  refine (macadamlaw04_GangTrue.calls k_ A0_0 c0_0 y0.f0 A0_1 c0_1 y0.f1 y0.f2 _ _ y1 y2.1 y2.2 true W hr0_0 hc0_0 hr0_1 hc0_1 hr1 hc1 hG h_).mono fun e W' ⟨he, bel⟩ => ?_
  subst he
  exact ⟨_, rfl, _, _, _, [], _, [], hW', trodAll_mk1 (shut_bool Tryd.underlying4 _), (trodAll_cons_mk (Below.trod laidOut (by kernel_rfl) (of_decide_eq_true (by kernel_rfl)) h0 bel lt0) (trodAll_cons_mk (Below.trod laidOut (by kernel_rfl) (of_decide_eq_true (by kernel_rfl)) h1 bel lt1) (trodAll_cons_mk (Below.trod laidOut (by kernel_rfl) (of_decide_eq_true (by kernel_rfl)) h2 bel lt2) trodAll_mk0))), rfl, bel.frame _, fun h => by cases h⟩
theorem gangTrue_over : Rows.gangTrueRow.holds Tryd.pinned (OpenSpec.ofChange Rows.gangTrueSpec) :=
  OpenClaim.holds_of_wide 8 Tryd.f8 rfl rfl rfl rfl rfl rfl rfl ⟨rfl, rfl, rfl, rfl, rfl⟩ rfl rfl rfl rfl rfl (by kernel_rfl) Tryd.func8 (by kernel_rfl)
    (of_decide_eq_true (by kernel_rfl)) (by unfold Func.isWrapper; first | (rw [if_pos (by decide +kernel)]; kernel_rfl) | (rw [if_neg (by decide +kernel)]; exact ⟨rfl, rfl⟩))
    (fun os started H enc _ => gangTrue_lifted os started H enc)
end Go.Proofs.YtikfghnkbgdbgaaDoor.Q
namespace Go.Proofs.YtikfghnkbgdbgaaDoor
set_option maxRecDepth 100000 in
/-- THE CARD. -/
theorem gangTrue_holds : Rows.GangTrueCardSaid :=
  Claim7.holds_tied_plain_at .later [] [.data, .funcs] true (true, "88f50df5e688c53fcba80ffbc790cc1082a54a252ac4bc190e21b1a8f43ba8e5") false
    Q.gangTrue_over (fun _ h => by cases h) (by kernel_rfl) (fun _ h => by cases h) gangTrue_row_tie rfl ⟨rfl, rfl⟩ (by kernel_rfl) rfl
    (fun f fn hf hfn => by
      obtain rfl : f = 8 := Option.some.inj ((show Tryd.prog.funcNamed "macadam/macadamlaw04.GangTrue" = some 8 by kernel_rfl).symm.trans hf) |>.symm
      obtain rfl : fn = Tryd.f8 := (Option.some.inj (Tryd.func8.symm.trans hfn)).symm
      exact ⟨by kernel_rfl, fun j t ht => by
        rw [Tryd.params8] at ht
        have hm : t ∈ [25, 28, 68] := by simpa using Array.mem_of_getElem? ht
        have hall : ([25, 28, 68].all fun u => !Tryd.prog.wantsStandIn u) = true := by kernel_rfl
        exact (show Tryd.prog.wantsStandIn t = false by simpa using List.all_eq_true.1 hall t hm)⟩)
    (by kernel_rfl)
end Go.Proofs.YtikfghnkbgdbgaaDoor
end
