/- A part of the proof of the statement GangPlans: For any book the statement GangPlans holds: Plan, Most and First return what the chapter says. -/
import Derived.Test.YtikfghnkbgdbgaaDoorZGangPlans0
import Derived.MapKept
import Derived.ChangeMaps
import Derived.Maps.Own
import Derived.Carry
import Derived.ChangeAlike
import Derived.BigRegion
import Derived.RangeFuncNested
import Derived.StillTailTactics
set_option linter.unusedSimpArgs false
set_option linter.unusedVariables false
section
namespace Go.Proofs.YtikfghnkbgdbgaaDoor.Q
open Go.RowKit Go.Proofs.YtikfghnkbgdbgaaDoorW.PrintWords Go.Proofs.YtikfghnkbgdbgaaDoorW.PrintLast Go.Proofs.YtikfghnkbgdbgaaDoorW.PrintMore
attribute [local go_sem] max2_int min2_int max_two min_two max_three min_three max_four min_four   -- for this text's walks alone
set_option linter.unusedVariables false
set_option linter.unusedSimpArgs false
mutual
def macadamref04_Check.j0 : Nat → Bool → List (S66) → List (S63) → Int → Option (Int)
 | 0, _, _, _, _ => none
 | k + 1, x3, x105000, x105001, x105002 => macadamref04_Check.l0 k x3 0 x105000 x105001 x105002
def macadamref04_Check.l0 : Nat → Bool → Int → List (S66) → List (S63) → Int → Option (Int)
 | 0, _, _, _, _, _ => none
 | k + 1, x3, x4, x105000, x105001, x105002 => if x3 = true then (macadamref04_Check.j2 k x3 x4 (decide (x4 < (x105000.length : Int))) x105000 x105001 x105002) else (macadamref04_Check.j2 k x3 x4 false x105000 x105001 x105002)
def macadamref04_Check.j2 : Nat → Bool → Int → Bool → List (S66) → List (S63) → Int → Option (Int)
 | 0, _, _, _, _, _, _ => none
 | k + 1, x3, x4, x29, x105000, x105001, x105002 => if x29 = true then (if 0 ≤ x4 then (if x4 < (x105000.length : Int) then ((macadamref00_Sane.f ((rd_T66 x105000 x4).f0.f0) ((rd_T66 x105000 x4).f0.f1) 1 6 2).bind fun t109 => (if t109 = true then ((macadamref00_Amid.f ((rd_T66 x105000 x4).f1) 0 15).bind fun t111 => (macadamref04_Check.l0 k t111 (wrap64 (x4 + 1)) x105000 x105001 x105002)) else (macadamref04_Check.l0 k false (wrap64 (x4 + 1)) x105000 x105001 x105002))) else (none)) else (none)) else (macadamref04_Check.l1 k x3 0 x105000 x105001 x105002)
def macadamref04_Check.l1 : Nat → Bool → Int → List (S66) → List (S63) → Int → Option (Int)
 | 0, _, _, _, _, _ => none
 | k + 1, x3, x5, x105000, x105001, x105002 => if x3 = true then (macadamref04_Check.j4 k x3 x5 (decide (x5 < (x105001.length : Int))) x105000 x105001 x105002) else (macadamref04_Check.j4 k x3 x5 false x105000 x105001 x105002)
def macadamref04_Check.j4 : Nat → Bool → Int → Bool → List (S66) → List (S63) → Int → Option (Int)
 | 0, _, _, _, _, _, _ => none
 | k + 1, x3, x5, x55, x105000, x105001, x105002 => if x55 = true then (if 0 ≤ x5 then (if x5 < (x105001.length : Int) then ((macadamref04_isMile.f x105000 x105001 x105002 ((rd_T63 x105001 x5).f0)).bind fun t114 => (if t114 = true then ((macadamref04_isMile.f x105000 x105001 x105002 ((rd_T63 x105001 x5).f1)).bind fun t115 => (if t115 = true then (if ((rd_T63 x105001 x5).f0) ≤ ((rd_T63 x105001 x5).f1) then ((macadamref00_Sane.f ((rd_T63 x105001 x5).f2.f0) ((rd_T63 x105001 x5).f2.f1) 1 3 2).bind fun t116 => (macadamref04_Check.l1 k t116 (wrap64 (x5 + 1)) x105000 x105001 x105002)) else (macadamref04_Check.l1 k false (wrap64 (x5 + 1)) x105000 x105001 x105002)) else (macadamref04_Check.l1 k false (wrap64 (x5 + 1)) x105000 x105001 x105002))) else (macadamref04_Check.l1 k false (wrap64 (x5 + 1)) x105000 x105001 x105002))) else (none)) else (none)) else (if x3 = true then (some 0) else (some 40))
end
def macadamref04_Check.f (k : Nat) (l0_0 : List (S66)) (l0_1 : List (S63)) (a0_2 : Int) : Option (Int) := (macadamref00_Amid.f (l0_0.length : Int) 1 4).bind fun t105 => (if t105 = true then ((macadamref00_Amid.f (l0_1.length : Int) 1 2).bind fun t106 => (if t106 = true then ((macadamref00_Amid.f a0_2 1 4).bind fun t107 => (macadamref04_Check.j0 k t107 l0_0 l0_1 a0_2)) else (macadamref04_Check.j0 k false l0_0 l0_1 a0_2))) else (macadamref04_Check.j0 k false l0_0 l0_1 a0_2))
set_option maxHeartbeats 8000000 in
set_option maxRecDepth 100000 in
theorem macadamref04_Check.calls (k : Nat) (A0_0 : Option Addr) (c0_0 : Nat) (l0_0 : List (S66)) (A0_1 : Option Addr) (c0_1 : Nat) (l0_1 : List (S63)) (a0_2 : Int) (r : Int) (w : World) (hr0_0 : Kd.C k66 w A0_0 l0_0.length l0_0) (hc0_0 : l0_0.length ≤ c0_0) (hr0_1 : Kd.C k63 w A0_1 l0_1.length l0_1) (hc0_1 : l0_1.length ≤ c0_1) (h : macadamref04_Check.f k l0_0 l0_1 a0_2 = some r) :
  Calls Tryd.prog 19 #[.agg #[.slice A0_0 l0_0.length c0_0, .slice A0_1 l0_1.length c0_1, .int .i64 a0_2]] w fun e w' => e = .returned (.int .i64 r) ∧ Below w.heap.size w w' := by
 have hu25 := Tryd.underlying25
 have hu40 := Tryd.underlying40
 have hu63 := Tryd.underlying63
 have HR0_0 := Aside0.mk hr0_0
 have HC0_0 := Aside0.mk hc0_0
 clear hr0_0 hc0_0
 have HR0_1 := Aside0.mk hr0_1
 have HC0_1 := Aside0.mk hc0_1
 clear hr0_1 hc0_1
 have HB := Aside0.mk (Below.refl w.heap.size w)
 have H : ((macadamref00_Amid.f (l0_0.length : Int) 1 4).bind fun t105 => (if t105 = true then ((macadamref00_Amid.f (l0_1.length : Int) 1 2).bind fun t106 => (if t106 = true then ((macadamref00_Amid.f a0_2 1 4).bind fun t107 => (macadamref04_Check.j0 k t107 l0_0 l0_1 a0_2)) else (macadamref04_Check.j0 k false l0_0 l0_1 a0_2))) else (macadamref04_Check.j0 k false l0_0 l0_1 a0_2))) = some r := h
 clear h
 have HC2 := Aside0.mk H
 clear H
 go_enter Tryd.func19, Tryd.ntmps19
 go_upto_region 1 with (first | ((with_reducible refine gate_dst (N := 1) rfl ?_); (try (refine gate_guard (by rfl) ?_; dsimp only)); refine bx 1 #[.slice A0_0 l0_0.length c0_0, .slice A0_1 l0_1.length c0_1, .int .i64 a0_2] 25 ?_; intro gb104 hg w3 hbox hb; have n0_ := Aside0.mk (below_step (bw HB) hb); have n1_ := Aside0.mk (hbox); have n2_ := Aside0.mk (bz (bw HB) hg); have n3_ := Aside0.mk (bz (bw HB) hg); clear HB; have HB := n0_; have BK104 := n1_; have GW104 := n2_; have GE104 := n3_; clear n0_ n1_ n2_ n3_; clear hb hbox hg))
 (try simp only [Act.put, List.setIfInBounds_toArray, List.set_cons_zero, List.set_cons_succ])
 go_cut [3] (fun v3 wc => ∃ (kq : Nat) (x3_1 : Bool), v3 = .bool x3_1 ∧ Aside0 (macadamref04_Check.j0 kq x3_1 l0_0 l0_1 a0_2 = some r) ∧ Aside0 (kq ≤ k) ∧ Aside0 (wc.heap[gb104]? = some (.cells #[(.slice A0_0 l0_0.length c0_0), (.slice A0_1 l0_1.length c0_1), .int .i64 a0_2] 25 (0, 0))) ∧ Aside0 (Below w.heap.size w wc))
 case first =>
  have H := HC2.out
  clear HC2
  replace H := Option.bind_eq_some_iff.mp H
  obtain ⟨t105, A40, H⟩ := H
  replace H : (if t105 = true then ((macadamref00_Amid.f (l0_1.length : Int) 1 2).bind fun t106 => (if t106 = true then ((macadamref00_Amid.f a0_2 1 4).bind fun t107 => (macadamref04_Check.j0 k t107 l0_0 l0_1 a0_2)) else (macadamref04_Check.j0 k false l0_0 l0_1 a0_2))) else (macadamref04_Check.j0 k false l0_0 l0_1 a0_2)) = some r := H
  have A4 := Aside0.mk A40
  clear A40
  by_cases c5 : t105 = true
  ·subst c5
   have H1 : ((macadamref00_Amid.f (l0_1.length : Int) 1 2).bind fun t106 => (if t106 = true then ((macadamref00_Amid.f a0_2 1 4).bind fun t107 => (macadamref04_Check.j0 k t107 l0_0 l0_1 a0_2)) else (macadamref04_Check.j0 k false l0_0 l0_1 a0_2))) = some r := by rw [if_pos rfl] at H; exact H
   clear H
   have H := H1
   clear H1
   replace H := Option.bind_eq_some_iff.mp H
   obtain ⟨t106, A60, H⟩ := H
   replace H : (if t106 = true then ((macadamref00_Amid.f a0_2 1 4).bind fun t107 => (macadamref04_Check.j0 k t107 l0_0 l0_1 a0_2)) else (macadamref04_Check.j0 k false l0_0 l0_1 a0_2)) = some r := H
   have A6 := Aside0.mk A60
   clear A60
   by_cases c7 : t106 = true
   ·subst c7
    have H1 : ((macadamref00_Amid.f a0_2 1 4).bind fun t107 => (macadamref04_Check.j0 k t107 l0_0 l0_1 a0_2)) = some r := by rw [if_pos rfl] at H; exact H
    clear H
    have H := H1
    clear H1
    replace H := Option.bind_eq_some_iff.mp H
    obtain ⟨t107, A80, H⟩ := H
    replace H : (macadamref04_Check.j0 k t107 l0_0 l0_1 a0_2) = some r := H
    have A8 := Aside0.mk A80
    clear A80
    have H' := Aside0.mk H
    clear H
    obtain ⟨hcz9_0, hcz9_1, hcz9_2, hfz9_0, hfz9_1, hfz9_2⟩ := b3 BK104
    go_wp2_with (first | ((with_reducible refine gate_callee (f := 45) rfl ?_); refine gL (some 10) Tryd.func45 #[.int .i64 (l0_0.length : Int), .int .i64 1, .int .i64 4] ?_; (with_reducible refine (macadamref00_Amid.calls (l0_0.length : Int) 1 4 true _ A4.out).mono ?_); rintro e w' ⟨rfl, ⟨nd, rfl⟩⟩; refine ⟨_, rfl, ?_⟩) | (go_at_call 45; (with_reducible refine (macadamref00_Amid.calls (l0_1.length : Int) 1 2 true _ A6.out).mono ?_); rintro e w' ⟨rfl, ⟨nd, rfl⟩⟩) | (go_at_call 45; (with_reducible refine (macadamref00_Amid.calls a0_2 1 4 t107 _ A8.out).mono ?_); rintro e w' ⟨rfl, ⟨nd, rfl⟩⟩))
    go_meet
    case rel => exact ⟨_, (t107), (by first | rfl | (simp; done) | (simp [*]; done)), H', ⟨by first | omega | exact Nat.le_refl _⟩, ⟨bm BK104⟩, ⟨bw1 HB GE104⟩⟩
   ·replace c7 := Bool.eq_false_iff.mpr c7
    subst c7
    have H1 : (macadamref04_Check.j0 k false l0_0 l0_1 a0_2) = some r := by rw [if_neg (show ¬ (false = true) by decide)] at H; exact H
    clear H
    have H := H1
    clear H1
    have H' := Aside0.mk H
    clear H
    obtain ⟨hcz10_0, hcz10_1, hcz10_2, hfz10_0, hfz10_1, hfz10_2⟩ := b3 BK104
    go_wp2_with (first | ((with_reducible refine gate_callee (f := 45) rfl ?_); refine gL (some 10) Tryd.func45 #[.int .i64 (l0_0.length : Int), .int .i64 1, .int .i64 4] ?_; (with_reducible refine (macadamref00_Amid.calls (l0_0.length : Int) 1 4 true _ A4.out).mono ?_); rintro e w' ⟨rfl, ⟨nd, rfl⟩⟩; refine ⟨_, rfl, ?_⟩) | (go_at_call 45; (with_reducible refine (macadamref00_Amid.calls (l0_1.length : Int) 1 2 false _ A6.out).mono ?_); rintro e w' ⟨rfl, ⟨nd, rfl⟩⟩))
    go_meet
    case rel => exact ⟨_, (false), (by first | rfl | (simp; done) | (simp [*]; done)), H', ⟨by first | omega | exact Nat.le_refl _⟩, ⟨bm BK104⟩, ⟨bw1 HB GE104⟩⟩
  ·replace c5 := Bool.eq_false_iff.mpr c5
   subst c5
   have H1 : (macadamref04_Check.j0 k false l0_0 l0_1 a0_2) = some r := by rw [if_neg (show ¬ (false = true) by decide)] at H; exact H
   clear H
   have H := H1
   clear H1
   have H' := Aside0.mk H
   clear H
   obtain ⟨hcz11_0, hcz11_1, hcz11_2, hfz11_0, hfz11_1, hfz11_2⟩ := b3 BK104
   go_wp2_with (first | ((with_reducible refine gate_callee (f := 45) rfl ?_); refine gL (some 10) Tryd.func45 #[.int .i64 (l0_0.length : Int), .int .i64 1, .int .i64 4] ?_; (with_reducible refine (macadamref00_Amid.calls (l0_0.length : Int) 1 4 false _ A4.out).mono ?_); rintro e w' ⟨rfl, ⟨nd, rfl⟩⟩; refine ⟨_, rfl, ?_⟩))
   go_meet
   case rel => exact ⟨_, (false), (by first | rfl | (simp; done) | (simp [*]; done)), H', ⟨by first | omega | exact Nat.le_refl _⟩, ⟨bm BK104⟩, ⟨bw1 HB GE104⟩⟩
 case rest =>
  clear HC2
  try clear c1
  try clear p2
  try clear c4
  try clear c5
  try clear c7
  try clear hcz10_0
  try clear hcz10_1
  try clear hcz10_2
  try clear hcz11_0
  try clear hcz11_1
  try clear hcz11_2
  try clear hcz9_0
  try clear hcz9_1
  try clear hcz9_2
  try clear hfz10_0
  try clear hfz10_1
  try clear hfz10_2
  try clear hfz11_0
  try clear hfz11_1
  try clear hfz11_2
  try clear hfz9_0
  try clear hfz9_1
  try clear hfz9_2
  obtain ⟨kq, x3_1, rfl, HA, HJ1, BK104, HB⟩ := hcut
  cases kq with
  | zero => exact absurd HA.out (by simp [macadamref04_Check.j0])
  | succ kj1 =>
   have H := HA.out
   clear HA
   simp only [macadamref04_Check.j0] at H
   have H' := Aside0.mk H
   clear H
   go_wp2
   go_loopg [3, 4] kj1 (fun kq v3 v4 w' => ∃ (x3_2 : Bool) (x4_2 : Int), v3 = .bool x3_2 ∧ v4 = .int .i64 x4_2 ∧ Aside0 (macadamref04_Check.l0 kq x3_2 x4_2 l0_0 l0_1 a0_2 = some r) ∧ Aside0 (kq ≤ kj1) ∧ Aside0 (w'.heap[gb104]? = some (.cells #[(.slice A0_0 l0_0.length c0_0), (.slice A0_1 l0_1.length c0_1), .int .i64 a0_2] 25 (0, 0))) ∧ Aside0 (Below w.heap.size w w'))
   case atStart => exact ⟨(x3_1), (0), (by first | rfl | (simp; done) | (simp [*]; done)), (by first | rfl | (simp; done) | (simp [*]; done)), H', ⟨Nat.le_refl _⟩, ⟨bm BK104⟩, ⟨bw1 HB GE104⟩⟩
   case round =>
    clear H'
    try clear c1
    try clear p2
    try clear c4
    try clear c5
    try clear c7
    try clear hcz10_0
    try clear hcz10_1
    try clear hcz10_2
    try clear hcz11_0
    try clear hcz11_1
    try clear hcz11_2
    try clear hcz9_0
    try clear hcz9_1
    try clear hcz9_2
    try clear hfz10_0
    try clear hfz10_1
    try clear hfz10_2
    try clear hfz11_0
    try clear hfz11_1
    try clear hfz11_2
    try clear hfz9_0
    try clear hfz9_1
    try clear hfz9_2
    try clear p2
    obtain ⟨x3_2, x4_2, rfl, rfl, HA, HK2, BK104, HB⟩ := hrel
    cases gk with
    | zero => exact absurd HA.out (by simp [macadamref04_Check.l0])
    | succ k2 =>
     have H := HA.out
     clear HA
     simp only [macadamref04_Check.l0] at H
     have HC12 := Aside0.mk H
     clear H
     go_upto_region 3 with (fail)
     go_cut [29] (fun v29 wc => ∃ (kq : Nat) (x29_11 : Bool), v29 = .bool x29_11 ∧ Aside0 (macadamref04_Check.j2 kq x3_2 x4_2 x29_11 l0_0 l0_1 a0_2 = some r) ∧ Aside0 (kq ≤ k2) ∧ Aside0 (wc.heap[gb104]? = some (.cells #[(.slice A0_0 l0_0.length c0_0), (.slice A0_1 l0_1.length c0_1), .int .i64 a0_2] 25 (0, 0))) ∧ Aside0 (Below w.heap.size w wc))
     case first =>
      have H := HC12.out
      clear HC12
      by_cases c13 : x3_2 = true
      ·subst c13
       have H1 : (macadamref04_Check.j2 k2 true x4_2 (decide (x4_2 < (l0_0.length : Int))) l0_0 l0_1 a0_2) = some r := by rw [if_pos rfl] at H; exact H
       clear H
       have H := H1
       clear H1
       have H' := Aside0.mk H
       clear H
       obtain ⟨hcz14_0, hcz14_1, hcz14_2, hfz14_0, hfz14_1, hfz14_2⟩ := b3 BK104
       go_wp2
       go_meet
       case rel => exact ⟨_, (decide (x4_2 < (l0_0.length : Int))), (by first | rfl | (simp; done) | (simp [*]; done)), H', ⟨by have := HJ1.out; have := HK2.out; first | omega | exact Nat.le_refl _⟩, ⟨bm BK104⟩, ⟨bw1 HB GE104⟩⟩
      ·replace c13 := Bool.eq_false_iff.mpr c13
       subst c13
       have H1 : (macadamref04_Check.j2 k2 false x4_2 false l0_0 l0_1 a0_2) = some r := by rw [if_neg (show ¬ (false = true) by decide)] at H; exact H
       clear H
       have H := H1
       clear H1
       have H' := Aside0.mk H
       clear H
       go_wp2
       go_meet
       case rel => exact ⟨_, (false), (by first | rfl | (simp; done) | (simp [*]; done)), H', ⟨by have := HJ1.out; have := HK2.out; first | omega | exact Nat.le_refl _⟩, ⟨bm BK104⟩, ⟨bw1 HB GE104⟩⟩
     case rest =>
      clear HC12
      try clear c1
      try clear p2
      try clear c4
      try clear c5
      try clear c7
      try clear c13
      try clear hcz10_0
      try clear hcz10_1
      try clear hcz10_2
      try clear hcz11_0
      try clear hcz11_1
      try clear hcz11_2
      try clear hcz14_0
      try clear hcz14_1
      try clear hcz14_2
      try clear hcz9_0
      try clear hcz9_1
      try clear hcz9_2
      try clear hfz10_0
      try clear hfz10_1
      try clear hfz10_2
      try clear hfz11_0
      try clear hfz11_1
      try clear hfz11_2
      try clear hfz14_0
      try clear hfz14_1
      try clear hfz14_2
      try clear hfz9_0
      try clear hfz9_1
      try clear hfz9_2
      try clear p2
      obtain ⟨kq, x29_11, rfl, HA, HJ11, BK104, HB⟩ := hcut
      cases kq with
      | zero => exact absurd HA.out (by simp [macadamref04_Check.j2])
      | succ kj11 =>
       have H := HA.out
       clear HA
       simp only [macadamref04_Check.j2] at H
       by_cases c15 : x29_11 = true
       ·subst c15
        have H1 : (if 0 ≤ x4_2 then (if x4_2 < (l0_0.length : Int) then ((macadamref00_Sane.f ((rd_T66 l0_0 x4_2).f0.f0) ((rd_T66 l0_0 x4_2).f0.f1) 1 6 2).bind fun t109 => (if t109 = true then ((macadamref00_Amid.f ((rd_T66 l0_0 x4_2).f1) 0 15).bind fun t111 => (macadamref04_Check.l0 kj11 t111 (wrap64 (x4_2 + 1)) l0_0 l0_1 a0_2)) else (macadamref04_Check.l0 kj11 false (wrap64 (x4_2 + 1)) l0_0 l0_1 a0_2))) else (none)) else (none)) = some r := by rw [if_pos rfl] at H; exact H
        clear H
        have H := H1
        clear H1
        by_cases c16 : 0 ≤ x4_2
        ·rw [if_pos c16] at H
         have c16b0 : decide (0 ≤ x4_2) = true := decide_eq_true c16
         clear c16
         by_cases c17 : x4_2 < (l0_0.length : Int)
         ·rw [if_pos c17] at H
          have c17b0 : decide (x4_2 < (l0_0.length : Int)) = true := decide_eq_true c17
          clear c17
          replace H := Option.bind_eq_some_iff.mp H
          obtain ⟨t109, A180, H⟩ := H
          replace H : (if t109 = true then ((macadamref00_Amid.f ((rd_T66 l0_0 x4_2).f1) 0 15).bind fun t111 => (macadamref04_Check.l0 kj11 t111 (wrap64 (x4_2 + 1)) l0_0 l0_1 a0_2)) else (macadamref04_Check.l0 kj11 false (wrap64 (x4_2 + 1)) l0_0 l0_1 a0_2)) = some r := H
          have A18 := Aside0.mk A180
          clear A180
          by_cases c19 : t109 = true
          ·subst c19
           have H1 : ((macadamref00_Amid.f ((rd_T66 l0_0 x4_2).f1) 0 15).bind fun t111 => (macadamref04_Check.l0 kj11 t111 (wrap64 (x4_2 + 1)) l0_0 l0_1 a0_2)) = some r := by rw [if_pos rfl] at H; exact H
           clear H
           have H := H1
           clear H1
           replace H := Option.bind_eq_some_iff.mp H
           obtain ⟨t111, A200, H⟩ := H
           replace H : (macadamref04_Check.l0 kj11 t111 (wrap64 (x4_2 + 1)) l0_0 l0_1 a0_2) = some r := H
           have A20 := Aside0.mk A200
           clear A200
           have H' := Aside0.mk H
           clear H
           obtain ⟨hcz21_0, hcz21_1, hcz21_2, hfz21_0, hfz21_1, hfz21_2⟩ := b3 BK104
           have p108 : 0 ≤ (x4_2 : Int) := of_decide_eq_true (by first | (with_reducible assumption) | assumption)
           have q108 : x4_2 < (l0_0.length : Int) := of_decide_eq_true (by first | (with_reducible assumption) | assumption)
           obtain ⟨ad108, e108, hx108_0, hx108_1, hx108_2⟩ := at_T66 HR0_0.out x4_2 p108 q108
           cases e108
           replace hx108_0 := cB HB hx108_0
           replace hx108_1 := cB HB hx108_1
           replace hx108_2 := cB HB hx108_2
           replace p108 := eq_true p108
           replace q108 := eq_true q108
           go_wp2_with (first | ((with_reducible refine gate_callee (f := 68) rfl ?_); refine gL (some 38) Tryd.func68 #[.agg #[.int .i64 ((rd_T66 l0_0 x4_2).f0.f0), .int .i64 ((rd_T66 l0_0 x4_2).f0.f1)], .int .i64 1, .int .i64 6, .int .i64 2] ?_; (with_reducible refine (macadamref00_Sane.calls ((rd_T66 l0_0 x4_2).f0.f0) ((rd_T66 l0_0 x4_2).f0.f1) 1 6 2 true _ A18.out).mono ?_); rintro e w22 ⟨rfl, hb⟩; refine ⟨_, rfl, ?_⟩; have n0_ := Aside0.mk (blk_below (bm BK104) hb); have n1_ := Aside0.mk (below_step (bw1 HB GE104) hb); clear BK104; clear HB; have BK104 := n0_; have HB := n1_; clear n0_ n1_; (try clear hb); (try clear hb2); (try clear hk); (try clear hi); obtain ⟨hcz23_0, hcz23_1, hcz23_2, hfz23_0, hfz23_1, hfz23_2⟩ := b3 BK104; have p110 : 0 ≤ (x4_2 : Int) := of_decide_eq_true (by first | (with_reducible assumption) | assumption); have q110 : x4_2 < (l0_0.length : Int) := of_decide_eq_true (by first | (with_reducible assumption) | assumption); obtain ⟨ad110, e110, hx110_0, hx110_1, hx110_2⟩ := at_T66 HR0_0.out x4_2 p110 q110; obtain rfl : ad108 = ad110 := (by injection e110); replace hx110_0 := cB HB hx110_0; replace hx110_1 := cB HB hx110_1; replace hx110_2 := cB HB hx110_2; replace p110 := eq_true p110; replace q110 := eq_true q110) | (go_at_call 45; (with_reducible refine (macadamref00_Amid.calls ((rd_T66 l0_0 x4_2).f1) 0 15 t111 _ A20.out).mono ?_); rintro e w' ⟨rfl, ⟨nd, rfl⟩⟩))
           go_roundg kj11
           case measure => have := HJ1.out; have := HK2.out; have := HJ11.out; omega
           case rel => exact ⟨(t111), (wrap64 (x4_2 + 1)), (by first | rfl | (simp; done) | (simp [*]; done)), (by first | rfl | (simp; done) | (simp [*]; done)), H', ⟨by have := HJ1.out; have := HK2.out; have := HJ11.out; omega⟩, ⟨bm BK104⟩, ⟨bw1 HB GE104⟩⟩
          ·replace c19 := Bool.eq_false_iff.mpr c19
           subst c19
           have H1 : (macadamref04_Check.l0 kj11 false (wrap64 (x4_2 + 1)) l0_0 l0_1 a0_2) = some r := by rw [if_neg (show ¬ (false = true) by decide)] at H; exact H
           clear H
           have H := H1
           clear H1
           have H' := Aside0.mk H
           clear H
           obtain ⟨hcz24_0, hcz24_1, hcz24_2, hfz24_0, hfz24_1, hfz24_2⟩ := b3 BK104
           have p108 : 0 ≤ (x4_2 : Int) := of_decide_eq_true (by first | (with_reducible assumption) | assumption)
           have q108 : x4_2 < (l0_0.length : Int) := of_decide_eq_true (by first | (with_reducible assumption) | assumption)
           obtain ⟨ad108, e108, hx108_0, hx108_1, hx108_2⟩ := at_T66 HR0_0.out x4_2 p108 q108
           cases e108
           replace hx108_0 := cB HB hx108_0
           replace hx108_1 := cB HB hx108_1
           replace hx108_2 := cB HB hx108_2
           replace p108 := eq_true p108
           replace q108 := eq_true q108
           go_wp2_with (first | ((with_reducible refine gate_callee (f := 68) rfl ?_); refine gL (some 38) Tryd.func68 #[.agg #[.int .i64 ((rd_T66 l0_0 x4_2).f0.f0), .int .i64 ((rd_T66 l0_0 x4_2).f0.f1)], .int .i64 1, .int .i64 6, .int .i64 2] ?_; (with_reducible refine (macadamref00_Sane.calls ((rd_T66 l0_0 x4_2).f0.f0) ((rd_T66 l0_0 x4_2).f0.f1) 1 6 2 false _ A18.out).mono ?_); rintro e w25 ⟨rfl, hb⟩; refine ⟨_, rfl, ?_⟩; have n0_ := Aside0.mk (blk_below (bm BK104) hb); have n1_ := Aside0.mk (below_step (bw1 HB GE104) hb); clear BK104; clear HB; have BK104 := n0_; have HB := n1_; clear n0_ n1_; (try clear hb); (try clear hb2); (try clear hk); (try clear hi)))
           go_roundg kj11
           case measure => have := HJ1.out; have := HK2.out; have := HJ11.out; omega
           case rel => exact ⟨(false), (wrap64 (x4_2 + 1)), (by first | rfl | (simp; done) | (simp [*]; done)), (by first | rfl | (simp; done) | (simp [*]; done)), H', ⟨by have := HJ1.out; have := HK2.out; have := HJ11.out; omega⟩, ⟨bm BK104⟩, ⟨bw1 HB GE104⟩⟩
         ·rw [if_neg c17] at H
          exact absurd H (by simp)
        ·rw [if_neg c16] at H
         exact absurd H (by simp)
       ·replace c15 := Bool.eq_false_iff.mpr c15
        subst c15
        have H1 : (macadamref04_Check.l1 kj11 x3_2 0 l0_0 l0_1 a0_2) = some r := by rw [if_neg (show ¬ (false = true) by decide)] at H; exact H
        clear H
        have H := H1
        clear H1
        have H' := Aside0.mk H
        clear H
        go_wp2
        go_loopg [3, 5] kj11 (fun kq v3 v5 w' => ∃ (x3_4 : Bool) (x5_4 : Int), v3 = .bool x3_4 ∧ v5 = .int .i64 x5_4 ∧ Aside0 (macadamref04_Check.l1 kq x3_4 x5_4 l0_0 l0_1 a0_2 = some r) ∧ Aside0 (kq ≤ kj11) ∧ Aside0 (w'.heap[gb104]? = some (.cells #[(.slice A0_0 l0_0.length c0_0), (.slice A0_1 l0_1.length c0_1), .int .i64 a0_2] 25 (0, 0))) ∧ Aside0 (Below w.heap.size w w'))
        case atStart => exact ⟨(x3_2), (0), (by first | rfl | (simp; done) | (simp [*]; done)), (by first | rfl | (simp; done) | (simp [*]; done)), H', ⟨Nat.le_refl _⟩, ⟨bm BK104⟩, ⟨bw1 HB GE104⟩⟩
        case round =>
         clear H'
         try clear c1
         try clear p1
         try clear q1
         try clear hx1
         try clear p2
         try clear c4
         try clear c5
         try clear c6
         try clear p6
         try clear c7
         try clear p10
         try clear q10
         try clear hx10
         try clear p11
         try clear q11
         try clear hx11
         try clear c13
         try clear c15
         try clear c16
         try clear c16b0
         try clear c17
         try clear c17b0
         try clear c19
         try clear hcz10_0
         try clear hcz10_1
         try clear hcz10_2
         try clear hcz11_0
         try clear hcz11_1
         try clear hcz11_2
         try clear hcz14_0
         try clear hcz14_1
         try clear hcz14_2
         try clear hcz21_0
         try clear hcz21_1
         try clear hcz21_2
         try clear hcz23_0
         try clear hcz23_1
         try clear hcz23_2
         try clear hcz24_0
         try clear hcz24_1
         try clear hcz24_2
         try clear hcz9_0
         try clear hcz9_1
         try clear hcz9_2
         try clear hfz10_0
         try clear hfz10_1
         try clear hfz10_2
         try clear hfz11_0
         try clear hfz11_1
         try clear hfz11_2
         try clear hfz14_0
         try clear hfz14_1
         try clear hfz14_2
         try clear hfz21_0
         try clear hfz21_1
         try clear hfz21_2
         try clear hfz23_0
         try clear hfz23_1
         try clear hfz23_2
         try clear hfz24_0
         try clear hfz24_1
         try clear hfz24_2
         try clear hfz9_0
         try clear hfz9_1
         try clear hfz9_2
         try clear hx108_0
         try clear hx108_1
         try clear hx108_2
         try clear hx110_0
         try clear hx110_1
         try clear hx110_2
         try clear p108
         try clear p110
         try clear p2
         try clear q108
         try clear q110
         obtain ⟨x3_4, x5_4, rfl, rfl, HA, HK4, BK104, HB⟩ := hrel
         cases gk with
         | zero => exact absurd HA.out (by simp [macadamref04_Check.l1])
         | succ k4 =>
          have H := HA.out
          clear HA
          simp only [macadamref04_Check.l1] at H
          have HC26 := Aside0.mk H
          clear H
          go_upto_region 7 with (fail)
          go_cut [55] (fun v55 wc => ∃ (kq : Nat) (x55_25 : Bool), v55 = .bool x55_25 ∧ Aside0 (macadamref04_Check.j4 kq x3_4 x5_4 x55_25 l0_0 l0_1 a0_2 = some r) ∧ Aside0 (kq ≤ k4) ∧ Aside0 (wc.heap[gb104]? = some (.cells #[(.slice A0_0 l0_0.length c0_0), (.slice A0_1 l0_1.length c0_1), .int .i64 a0_2] 25 (0, 0))) ∧ Aside0 (Below w.heap.size w wc))
          case first =>
           have H := HC26.out
           clear HC26
           by_cases c27 : x3_4 = true
           ·subst c27
            have H1 : (macadamref04_Check.j4 k4 true x5_4 (decide (x5_4 < (l0_1.length : Int))) l0_0 l0_1 a0_2) = some r := by rw [if_pos rfl] at H; exact H
            clear H
            have H := H1
            clear H1
            have H' := Aside0.mk H
            clear H
            obtain ⟨hcz28_0, hcz28_1, hcz28_2, hfz28_0, hfz28_1, hfz28_2⟩ := b3 BK104
            go_wp2
            go_meet
            case rel => exact ⟨_, (decide (x5_4 < (l0_1.length : Int))), (by first | rfl | (simp; done) | (simp [*]; done)), H', ⟨by have := HJ1.out; have := HK2.out; have := HJ11.out; have := HK4.out; first | omega | exact Nat.le_refl _⟩, ⟨bm BK104⟩, ⟨bw1 HB GE104⟩⟩
           ·replace c27 := Bool.eq_false_iff.mpr c27
            subst c27
            have H1 : (macadamref04_Check.j4 k4 false x5_4 false l0_0 l0_1 a0_2) = some r := by rw [if_neg (show ¬ (false = true) by decide)] at H; exact H
            clear H
            have H := H1
            clear H1
            have H' := Aside0.mk H
            clear H
            go_wp2
            go_meet
            case rel => exact ⟨_, (false), (by first | rfl | (simp; done) | (simp [*]; done)), H', ⟨by have := HJ1.out; have := HK2.out; have := HJ11.out; have := HK4.out; first | omega | exact Nat.le_refl _⟩, ⟨bm BK104⟩, ⟨bw1 HB GE104⟩⟩
          case rest =>
           clear HC26
           try clear c1
           try clear p1
           try clear q1
           try clear hx1
           try clear c2
           try clear p2
           try clear c4
           try clear c5
           try clear c6
           try clear p6
           try clear c7
           try clear p10
           try clear q10
           try clear hx10
           try clear p11
           try clear q11
           try clear hx11
           try clear c13
           try clear c15
           try clear c16
           try clear c16b0
           try clear c17
           try clear c17b0
           try clear c19
           try clear c27
           try clear hcz10_0
           try clear hcz10_1
           try clear hcz10_2
           try clear hcz11_0
           try clear hcz11_1
           try clear hcz11_2
           try clear hcz14_0
           try clear hcz14_1
           try clear hcz14_2
           try clear hcz21_0
           try clear hcz21_1
           try clear hcz21_2
           try clear hcz23_0
           try clear hcz23_1
           try clear hcz23_2
           try clear hcz24_0
           try clear hcz24_1
           try clear hcz24_2
           try clear hcz28_0
           try clear hcz28_1
           try clear hcz28_2
           try clear hcz9_0
           try clear hcz9_1
           try clear hcz9_2
           try clear hfz10_0
           try clear hfz10_1
           try clear hfz10_2
           try clear hfz11_0
           try clear hfz11_1
           try clear hfz11_2
           try clear hfz14_0
           try clear hfz14_1
           try clear hfz14_2
           try clear hfz21_0
           try clear hfz21_1
           try clear hfz21_2
           try clear hfz23_0
           try clear hfz23_1
           try clear hfz23_2
           try clear hfz24_0
           try clear hfz24_1
           try clear hfz24_2
           try clear hfz28_0
           try clear hfz28_1
           try clear hfz28_2
           try clear hfz9_0
           try clear hfz9_1
           try clear hfz9_2
           try clear hx108_0
           try clear hx108_1
           try clear hx108_2
           try clear hx110_0
           try clear hx110_1
           try clear hx110_2
           try clear p1
           try clear p10
           try clear p108
           try clear p11
           try clear p110
           try clear p2
           try clear p6
           try clear q1
           try clear q10
           try clear q108
           try clear q11
           try clear q110
           obtain ⟨kq, x55_25, rfl, HA, HJ25, BK104, HB⟩ := hcut
           cases kq with
           | zero => exact absurd HA.out (by simp [macadamref04_Check.j4])
           | succ kj25 =>
            have H := HA.out
            clear HA
            simp only [macadamref04_Check.j4] at H
            by_cases c29 : x55_25 = true
            ·subst c29
             have H1 : (if 0 ≤ x5_4 then (if x5_4 < (l0_1.length : Int) then ((macadamref04_isMile.f l0_0 l0_1 a0_2 ((rd_T63 l0_1 x5_4).f0)).bind fun t114 => (if t114 = true then ((macadamref04_isMile.f l0_0 l0_1 a0_2 ((rd_T63 l0_1 x5_4).f1)).bind fun t115 => (if t115 = true then (if ((rd_T63 l0_1 x5_4).f0) ≤ ((rd_T63 l0_1 x5_4).f1) then ((macadamref00_Sane.f ((rd_T63 l0_1 x5_4).f2.f0) ((rd_T63 l0_1 x5_4).f2.f1) 1 3 2).bind fun t116 => (macadamref04_Check.l1 kj25 t116 (wrap64 (x5_4 + 1)) l0_0 l0_1 a0_2)) else (macadamref04_Check.l1 kj25 false (wrap64 (x5_4 + 1)) l0_0 l0_1 a0_2)) else (macadamref04_Check.l1 kj25 false (wrap64 (x5_4 + 1)) l0_0 l0_1 a0_2))) else (macadamref04_Check.l1 kj25 false (wrap64 (x5_4 + 1)) l0_0 l0_1 a0_2))) else (none)) else (none)) = some r := by rw [if_pos rfl] at H; exact H
             clear H
             have H := H1
             clear H1
             by_cases c30 : 0 ≤ x5_4
             ·rw [if_pos c30] at H
              have c30b0 : decide (0 ≤ x5_4) = true := decide_eq_true c30
              clear c30
              by_cases c31 : x5_4 < (l0_1.length : Int)
              ·rw [if_pos c31] at H
               have c31b0 : decide (x5_4 < (l0_1.length : Int)) = true := decide_eq_true c31
               clear c31
               replace H := Option.bind_eq_some_iff.mp H
               obtain ⟨t114, A320, H⟩ := H
               replace H : (if t114 = true then ((macadamref04_isMile.f l0_0 l0_1 a0_2 ((rd_T63 l0_1 x5_4).f1)).bind fun t115 => (if t115 = true then (if ((rd_T63 l0_1 x5_4).f0) ≤ ((rd_T63 l0_1 x5_4).f1) then ((macadamref00_Sane.f ((rd_T63 l0_1 x5_4).f2.f0) ((rd_T63 l0_1 x5_4).f2.f1) 1 3 2).bind fun t116 => (macadamref04_Check.l1 kj25 t116 (wrap64 (x5_4 + 1)) l0_0 l0_1 a0_2)) else (macadamref04_Check.l1 kj25 false (wrap64 (x5_4 + 1)) l0_0 l0_1 a0_2)) else (macadamref04_Check.l1 kj25 false (wrap64 (x5_4 + 1)) l0_0 l0_1 a0_2))) else (macadamref04_Check.l1 kj25 false (wrap64 (x5_4 + 1)) l0_0 l0_1 a0_2)) = some r := H
               have A32 := Aside0.mk A320
               clear A320
               by_cases c33 : t114 = true
               ·subst c33
                have H1 : ((macadamref04_isMile.f l0_0 l0_1 a0_2 ((rd_T63 l0_1 x5_4).f1)).bind fun t115 => (if t115 = true then (if ((rd_T63 l0_1 x5_4).f0) ≤ ((rd_T63 l0_1 x5_4).f1) then ((macadamref00_Sane.f ((rd_T63 l0_1 x5_4).f2.f0) ((rd_T63 l0_1 x5_4).f2.f1) 1 3 2).bind fun t116 => (macadamref04_Check.l1 kj25 t116 (wrap64 (x5_4 + 1)) l0_0 l0_1 a0_2)) else (macadamref04_Check.l1 kj25 false (wrap64 (x5_4 + 1)) l0_0 l0_1 a0_2)) else (macadamref04_Check.l1 kj25 false (wrap64 (x5_4 + 1)) l0_0 l0_1 a0_2))) = some r := by rw [if_pos rfl] at H; exact H
                clear H
                have H := H1
                clear H1
                replace H := Option.bind_eq_some_iff.mp H
                obtain ⟨t115, A340, H⟩ := H
                replace H : (if t115 = true then (if ((rd_T63 l0_1 x5_4).f0) ≤ ((rd_T63 l0_1 x5_4).f1) then ((macadamref00_Sane.f ((rd_T63 l0_1 x5_4).f2.f0) ((rd_T63 l0_1 x5_4).f2.f1) 1 3 2).bind fun t116 => (macadamref04_Check.l1 kj25 t116 (wrap64 (x5_4 + 1)) l0_0 l0_1 a0_2)) else (macadamref04_Check.l1 kj25 false (wrap64 (x5_4 + 1)) l0_0 l0_1 a0_2)) else (macadamref04_Check.l1 kj25 false (wrap64 (x5_4 + 1)) l0_0 l0_1 a0_2)) = some r := H
                have A34 := Aside0.mk A340
                clear A340
                by_cases c35 : t115 = true
                ·subst c35
                 have H1 : (if ((rd_T63 l0_1 x5_4).f0) ≤ ((rd_T63 l0_1 x5_4).f1) then ((macadamref00_Sane.f ((rd_T63 l0_1 x5_4).f2.f0) ((rd_T63 l0_1 x5_4).f2.f1) 1 3 2).bind fun t116 => (macadamref04_Check.l1 kj25 t116 (wrap64 (x5_4 + 1)) l0_0 l0_1 a0_2)) else (macadamref04_Check.l1 kj25 false (wrap64 (x5_4 + 1)) l0_0 l0_1 a0_2)) = some r := by rw [if_pos rfl] at H; exact H
                 clear H
                 have H := H1
                 clear H1
                 by_cases c36 : ((rd_T63 l0_1 x5_4).f0) ≤ ((rd_T63 l0_1 x5_4).f1)
                 ·rw [if_pos c36] at H
                  have c36b0 : decide (((rd_T63 l0_1 x5_4).f0) ≤ ((rd_T63 l0_1 x5_4).f1)) = true := decide_eq_true c36
                  clear c36
                  replace H := Option.bind_eq_some_iff.mp H
                  obtain ⟨t116, A370, H⟩ := H
                  replace H : (macadamref04_Check.l1 kj25 t116 (wrap64 (x5_4 + 1)) l0_0 l0_1 a0_2) = some r := H
                  have A37 := Aside0.mk A370
                  clear A370
                  have H' := Aside0.mk H
                  clear H
                  obtain ⟨hcz38_0, hcz38_1, hcz38_2, hfz38_0, hfz38_1, hfz38_2⟩ := b3 BK104
                  have p112 : 0 ≤ (x5_4 : Int) := of_decide_eq_true (by first | (with_reducible assumption) | assumption)
                  have q112 : x5_4 < (l0_1.length : Int) := of_decide_eq_true (by first | (with_reducible assumption) | assumption)
                  obtain ⟨ad112, e112, hx112_0, hx112_1, hx112_2, hx112_3⟩ := at_T63 HR0_1.out x5_4 p112 q112
                  cases e112
                  replace hx112_0 := cB HB hx112_0
                  replace hx112_1 := cB HB hx112_1
                  replace hx112_2 := cB HB hx112_2
                  replace hx112_3 := cB HB hx112_3
                  replace p112 := eq_true p112
                  replace q112 := eq_true q112
                  go_wp2_with (first | ((with_reducible refine gate_dst (N := 6) rfl ?_); (try (refine gate_guard (by rfl) ?_; dsimp only)); refine bx 6 #[.int .i64 0, .int .i64 0, .int .i64 0, .int .i64 0] 63 ?_; intro gb113 hg w39 hbox hb; have n0_ := Aside0.mk (blk_below (bm BK104) hb); have n1_ := Aside0.mk (below_step (bw1 HB GE104) hb); have n2_ := Aside0.mk (hbox); have n3_ := Aside0.mk (bz (bw1 HB GE104) hg); have n4_ := Aside0.mk (bz (bw1 HB GE104) hg); have n5_ := Aside0.mk (bl (bm BK104) hg); have n6_ := Aside0.mk (bg (bm BK104) hg); clear BK104; clear HB; have BK104 := n0_; have HB := n1_; have BK113 := n2_; have GW113 := n3_; have GE113 := n4_; have NB104_113 := n5_; have NB113_104 := n6_; clear n0_ n1_ n2_ n3_ n4_ n5_ n6_; clear hb hbox hg; have hnb40 := NB113_104.out; have hnc40 := NB104_113.out; obtain ⟨hcz41_0, hcz41_1, hcz41_2, hcz41_3, hfz41_0, hfz41_1, hfz41_2, hfz41_3⟩ := b4 BK113; obtain ⟨hcz42_0, hcz42_1, hcz42_2, hfz42_0, hfz42_1, hfz42_2⟩ := b3 BK104) | ((with_reducible refine gate_callee (f := 65) rfl ?_); refine gL (some 66) Tryd.func65 #[.agg #[.slice A0_0 l0_0.length c0_0, .slice (some ad112) l0_1.length c0_1, .int .i64 a0_2], .int .i64 ((rd_T63 l0_1 x5_4).f0)] ?_; (with_reducible refine (macadamref04_isMile.calls _ _ l0_0 _ _ l0_1 a0_2 ((rd_T63 l0_1 x5_4).f0) true _ ?side1 ?side2 ?side3 ?side4 A32.out).mono ?_); (case side1 => exact Kd.C_below HR0_0.out (bw2 HB GE104 GE113)); (case side2 => exact HC0_0.out); (case side3 => exact Kd.C_below HR0_1.out (bw2 HB GE104 GE113)); (case side4 => exact HC0_1.out); rintro e w43 ⟨rfl, hb⟩; refine ⟨_, rfl, ?_⟩; have n0_ := Aside0.mk (blk_below (g := gb104) (o := .cells #[.slice A0_0 l0_0.length c0_0, .slice (some ad112) l0_1.length c0_1, .int .i64 a0_2] 25 (0, 0)) (by (with_reducible repeat (first | refine blk_drewN ?_ _ | refine blk_drew ?_ | refine blk_alloc ?_ _)); refine blk_far ?_ NB104_113.out _; (with_reducible repeat (first | refine blk_drewN ?_ _ | refine blk_drew ?_ | refine blk_alloc ?_ _)); refine blk_far ?_ NB104_113.out _; (with_reducible repeat (first | refine blk_drewN ?_ _ | refine blk_drew ?_ | refine blk_alloc ?_ _)); refine blk_far ?_ NB104_113.out _; (with_reducible repeat (first | refine blk_drewN ?_ _ | refine blk_drew ?_ | refine blk_alloc ?_ _)); refine blk_far ?_ NB104_113.out _; (with_reducible repeat (first | refine blk_drewN ?_ _ | refine blk_drew ?_ | refine blk_alloc ?_ _)); exact BK104.out) hb); have n1_ := Aside0.mk (blk_below (g := gb113) (o := .cells #[.int .i64 ((rd_T63 l0_1 x5_4).f0), .int .i64 ((rd_T63 l0_1 x5_4).f1), .int .i64 ((rd_T63 l0_1 x5_4).f2.f0), .int .i64 ((rd_T63 l0_1 x5_4).f2.f1)] 63 (0, 0)) (by (with_reducible repeat (first | refine blk_drewN ?_ _ | refine blk_drew ?_ | refine blk_alloc ?_ _)); refine blk_put (cs := #[.int .i64 ((rd_T63 l0_1 x5_4).f0), .int .i64 ((rd_T63 l0_1 x5_4).f1), .int .i64 ((rd_T63 l0_1 x5_4).f2.f0), .int .i64 0]) ?_ 3 _ rfl; (with_reducible repeat (first | refine blk_drewN ?_ _ | refine blk_drew ?_ | refine blk_alloc ?_ _)); refine blk_put (cs := #[.int .i64 ((rd_T63 l0_1 x5_4).f0), .int .i64 ((rd_T63 l0_1 x5_4).f1), .int .i64 0, .int .i64 0]) ?_ 2 _ rfl; (with_reducible repeat (first | refine blk_drewN ?_ _ | refine blk_drew ?_ | refine blk_alloc ?_ _)); refine blk_put (cs := #[.int .i64 ((rd_T63 l0_1 x5_4).f0), .int .i64 0, .int .i64 0, .int .i64 0]) ?_ 1 _ rfl; (with_reducible repeat (first | refine blk_drewN ?_ _ | refine blk_drew ?_ | refine blk_alloc ?_ _)); refine blk_put (cs := #[.int .i64 0, .int .i64 0, .int .i64 0, .int .i64 0]) ?_ 0 _ rfl; (with_reducible repeat (first | refine blk_drewN ?_ _ | refine blk_drew ?_ | refine blk_alloc ?_ _)); exact BK113.out) hb); have n2_ := Aside0.mk (below_step (bw2 HB GE104 GE113) hb); clear BK104; clear BK113; clear HB; have BK104 := n0_; have BK113 := n1_; have HB := n2_; clear n0_ n1_ n2_; (try clear hb); (try clear hb2); (try clear hk); (try clear hi); obtain ⟨hcz44_0, hcz44_1, hcz44_2, hfz44_0, hfz44_1, hfz44_2⟩ := b3 BK104; obtain ⟨hcz45_0, hcz45_1, hcz45_2, hcz45_3, hfz45_0, hfz45_1, hfz45_2, hfz45_3⟩ := b4 BK113) | (go_at_call 65; (with_reducible refine (macadamref04_isMile.calls _ _ l0_0 _ _ l0_1 a0_2 ((rd_T63 l0_1 x5_4).f1) true _ ?side1 ?side2 ?side3 ?side4 A34.out).mono ?_); (case side1 => repeat (first | exact (Kd.C_below HR0_0.out HB.out) | (with_reducible refine Kd.C_alloc ?_ _) | (with_reducible refine Kd.C_drewN ?_ _) | (with_reducible refine Kd.C_drew ?_))); (case side2 => exact HC0_0.out); (case side3 => repeat (first | exact (Kd.C_below HR0_1.out HB.out) | (with_reducible refine Kd.C_alloc ?_ _) | (with_reducible refine Kd.C_drewN ?_ _) | (with_reducible refine Kd.C_drew ?_))); (case side4 => exact HC0_1.out); rintro e w46 ⟨rfl, hb⟩; have n0_ := Aside0.mk (blk_below (bm BK104) hb); have n1_ := Aside0.mk (blk_below (bm BK113) hb); have n2_ := Aside0.mk (below_step (bw2 HB GE104 GE113) hb); clear BK104; clear BK113; clear HB; have BK104 := n0_; have BK113 := n1_; have HB := n2_; clear n0_ n1_ n2_; (try clear hb); (try clear hb2); (try clear hk); (try clear hi); obtain ⟨hcz47_0, hcz47_1, hcz47_2, hcz47_3, hfz47_0, hfz47_1, hfz47_2, hfz47_3⟩ := b4 BK113) | (go_at_call 68; (with_reducible refine (macadamref00_Sane.calls ((rd_T63 l0_1 x5_4).f2.f0) ((rd_T63 l0_1 x5_4).f2.f1) 1 3 2 t116 _ A37.out).mono ?_); rintro e w48 ⟨rfl, hb⟩; have n0_ := Aside0.mk (blk_below (bm BK104) hb); have n1_ := Aside0.mk (blk_below (bm BK113) hb); have n2_ := Aside0.mk (below_step (bw2 HB GE104 GE113) hb); clear BK104; clear BK113; clear HB; have BK104 := n0_; have BK113 := n1_; have HB := n2_; clear n0_ n1_ n2_; (try clear hb); (try clear hb2); (try clear hk); (try clear hi)))
                  go_roundg kj25
                  case measure => have := HJ1.out; have := HK2.out; have := HJ11.out; have := HK4.out; have := HJ25.out; omega
                  case rel => exact ⟨(t116), (wrap64 (x5_4 + 1)), (by first | rfl | (simp; done) | (simp [*]; done)), (by first | rfl | (simp; done) | (simp [*]; done)), H', ⟨by have := HJ1.out; have := HK2.out; have := HJ11.out; have := HK4.out; have := HJ25.out; omega⟩, ⟨bm BK104⟩, ⟨bw2 HB GE104 GE113⟩⟩
                 ·rw [if_neg c36] at H
                  have c36b0 : decide (((rd_T63 l0_1 x5_4).f0) ≤ ((rd_T63 l0_1 x5_4).f1)) = false := decide_eq_false c36
                  clear c36
                  have H' := Aside0.mk H
                  clear H
                  obtain ⟨hcz49_0, hcz49_1, hcz49_2, hfz49_0, hfz49_1, hfz49_2⟩ := b3 BK104
                  have p112 : 0 ≤ (x5_4 : Int) := of_decide_eq_true (by first | (with_reducible assumption) | assumption)
                  have q112 : x5_4 < (l0_1.length : Int) := of_decide_eq_true (by first | (with_reducible assumption) | assumption)
                  obtain ⟨ad112, e112, hx112_0, hx112_1, hx112_2, hx112_3⟩ := at_T63 HR0_1.out x5_4 p112 q112
                  cases e112
                  replace hx112_0 := cB HB hx112_0
                  replace hx112_1 := cB HB hx112_1
                  replace hx112_2 := cB HB hx112_2
                  replace hx112_3 := cB HB hx112_3
                  replace p112 := eq_true p112
                  replace q112 := eq_true q112
                  go_wp2_with (first | ((with_reducible refine gate_dst (N := 6) rfl ?_); (try (refine gate_guard (by rfl) ?_; dsimp only)); refine bx 6 #[.int .i64 0, .int .i64 0, .int .i64 0, .int .i64 0] 63 ?_; intro gb113 hg w50 hbox hb; have n0_ := Aside0.mk (blk_below (bm BK104) hb); have n1_ := Aside0.mk (below_step (bw1 HB GE104) hb); have n2_ := Aside0.mk (hbox); have n3_ := Aside0.mk (bz (bw1 HB GE104) hg); have n4_ := Aside0.mk (bz (bw1 HB GE104) hg); have n5_ := Aside0.mk (bl (bm BK104) hg); have n6_ := Aside0.mk (bg (bm BK104) hg); clear BK104; clear HB; have BK104 := n0_; have HB := n1_; have BK113 := n2_; have GW113 := n3_; have GE113 := n4_; have NB104_113 := n5_; have NB113_104 := n6_; clear n0_ n1_ n2_ n3_ n4_ n5_ n6_; clear hb hbox hg; have hnb51 := NB113_104.out; have hnc51 := NB104_113.out; obtain ⟨hcz52_0, hcz52_1, hcz52_2, hcz52_3, hfz52_0, hfz52_1, hfz52_2, hfz52_3⟩ := b4 BK113; obtain ⟨hcz53_0, hcz53_1, hcz53_2, hfz53_0, hfz53_1, hfz53_2⟩ := b3 BK104) | ((with_reducible refine gate_callee (f := 65) rfl ?_); refine gL (some 66) Tryd.func65 #[.agg #[.slice A0_0 l0_0.length c0_0, .slice (some ad112) l0_1.length c0_1, .int .i64 a0_2], .int .i64 ((rd_T63 l0_1 x5_4).f0)] ?_; (with_reducible refine (macadamref04_isMile.calls _ _ l0_0 _ _ l0_1 a0_2 ((rd_T63 l0_1 x5_4).f0) true _ ?side1 ?side2 ?side3 ?side4 A32.out).mono ?_); (case side1 => exact Kd.C_below HR0_0.out (bw2 HB GE104 GE113)); (case side2 => exact HC0_0.out); (case side3 => exact Kd.C_below HR0_1.out (bw2 HB GE104 GE113)); (case side4 => exact HC0_1.out); rintro e w54 ⟨rfl, hb⟩; refine ⟨_, rfl, ?_⟩; have n0_ := Aside0.mk (blk_below (g := gb104) (o := .cells #[.slice A0_0 l0_0.length c0_0, .slice (some ad112) l0_1.length c0_1, .int .i64 a0_2] 25 (0, 0)) (by (with_reducible repeat (first | refine blk_drewN ?_ _ | refine blk_drew ?_ | refine blk_alloc ?_ _)); refine blk_far ?_ NB104_113.out _; (with_reducible repeat (first | refine blk_drewN ?_ _ | refine blk_drew ?_ | refine blk_alloc ?_ _)); refine blk_far ?_ NB104_113.out _; (with_reducible repeat (first | refine blk_drewN ?_ _ | refine blk_drew ?_ | refine blk_alloc ?_ _)); refine blk_far ?_ NB104_113.out _; (with_reducible repeat (first | refine blk_drewN ?_ _ | refine blk_drew ?_ | refine blk_alloc ?_ _)); refine blk_far ?_ NB104_113.out _; (with_reducible repeat (first | refine blk_drewN ?_ _ | refine blk_drew ?_ | refine blk_alloc ?_ _)); exact BK104.out) hb); have n1_ := Aside0.mk (blk_below (g := gb113) (o := .cells #[.int .i64 ((rd_T63 l0_1 x5_4).f0), .int .i64 ((rd_T63 l0_1 x5_4).f1), .int .i64 ((rd_T63 l0_1 x5_4).f2.f0), .int .i64 ((rd_T63 l0_1 x5_4).f2.f1)] 63 (0, 0)) (by (with_reducible repeat (first | refine blk_drewN ?_ _ | refine blk_drew ?_ | refine blk_alloc ?_ _)); refine blk_put (cs := #[.int .i64 ((rd_T63 l0_1 x5_4).f0), .int .i64 ((rd_T63 l0_1 x5_4).f1), .int .i64 ((rd_T63 l0_1 x5_4).f2.f0), .int .i64 0]) ?_ 3 _ rfl; (with_reducible repeat (first | refine blk_drewN ?_ _ | refine blk_drew ?_ | refine blk_alloc ?_ _)); refine blk_put (cs := #[.int .i64 ((rd_T63 l0_1 x5_4).f0), .int .i64 ((rd_T63 l0_1 x5_4).f1), .int .i64 0, .int .i64 0]) ?_ 2 _ rfl; (with_reducible repeat (first | refine blk_drewN ?_ _ | refine blk_drew ?_ | refine blk_alloc ?_ _)); refine blk_put (cs := #[.int .i64 ((rd_T63 l0_1 x5_4).f0), .int .i64 0, .int .i64 0, .int .i64 0]) ?_ 1 _ rfl; (with_reducible repeat (first | refine blk_drewN ?_ _ | refine blk_drew ?_ | refine blk_alloc ?_ _)); refine blk_put (cs := #[.int .i64 0, .int .i64 0, .int .i64 0, .int .i64 0]) ?_ 0 _ rfl; (with_reducible repeat (first | refine blk_drewN ?_ _ | refine blk_drew ?_ | refine blk_alloc ?_ _)); exact BK113.out) hb); have n2_ := Aside0.mk (below_step (bw2 HB GE104 GE113) hb); clear BK104; clear BK113; clear HB; have BK104 := n0_; have BK113 := n1_; have HB := n2_; clear n0_ n1_ n2_; (try clear hb); (try clear hb2); (try clear hk); (try clear hi); obtain ⟨hcz55_0, hcz55_1, hcz55_2, hfz55_0, hfz55_1, hfz55_2⟩ := b3 BK104; obtain ⟨hcz56_0, hcz56_1, hcz56_2, hcz56_3, hfz56_0, hfz56_1, hfz56_2, hfz56_3⟩ := b4 BK113) | (go_at_call 65; (with_reducible refine (macadamref04_isMile.calls _ _ l0_0 _ _ l0_1 a0_2 ((rd_T63 l0_1 x5_4).f1) true _ ?side1 ?side2 ?side3 ?side4 A34.out).mono ?_); (case side1 => repeat (first | exact (Kd.C_below HR0_0.out HB.out) | (with_reducible refine Kd.C_alloc ?_ _) | (with_reducible refine Kd.C_drewN ?_ _) | (with_reducible refine Kd.C_drew ?_))); (case side2 => exact HC0_0.out); (case side3 => repeat (first | exact (Kd.C_below HR0_1.out HB.out) | (with_reducible refine Kd.C_alloc ?_ _) | (with_reducible refine Kd.C_drewN ?_ _) | (with_reducible refine Kd.C_drew ?_))); (case side4 => exact HC0_1.out); rintro e w57 ⟨rfl, hb⟩; have n0_ := Aside0.mk (blk_below (bm BK104) hb); have n1_ := Aside0.mk (blk_below (bm BK113) hb); have n2_ := Aside0.mk (below_step (bw2 HB GE104 GE113) hb); clear BK104; clear BK113; clear HB; have BK104 := n0_; have BK113 := n1_; have HB := n2_; clear n0_ n1_ n2_; (try clear hb); (try clear hb2); (try clear hk); (try clear hi); obtain ⟨hcz58_0, hcz58_1, hcz58_2, hcz58_3, hfz58_0, hfz58_1, hfz58_2, hfz58_3⟩ := b4 BK113))
                  go_roundg kj25
                  case measure => have := HJ1.out; have := HK2.out; have := HJ11.out; have := HK4.out; have := HJ25.out; omega
                  case rel => exact ⟨(false), (wrap64 (x5_4 + 1)), (by first | rfl | (simp; done) | (simp [*]; done)), (by first | rfl | (simp; done) | (simp [*]; done)), H', ⟨by have := HJ1.out; have := HK2.out; have := HJ11.out; have := HK4.out; have := HJ25.out; omega⟩, ⟨bm BK104⟩, ⟨bw2 HB GE104 GE113⟩⟩
                ·replace c35 := Bool.eq_false_iff.mpr c35
                 subst c35
                 have H1 : (macadamref04_Check.l1 kj25 false (wrap64 (x5_4 + 1)) l0_0 l0_1 a0_2) = some r := by rw [if_neg (show ¬ (false = true) by decide)] at H; exact H
                 clear H
                 have H := H1
                 clear H1
                 have H' := Aside0.mk H
                 clear H
                 obtain ⟨hcz59_0, hcz59_1, hcz59_2, hfz59_0, hfz59_1, hfz59_2⟩ := b3 BK104
                 have p112 : 0 ≤ (x5_4 : Int) := of_decide_eq_true (by first | (with_reducible assumption) | assumption)
                 have q112 : x5_4 < (l0_1.length : Int) := of_decide_eq_true (by first | (with_reducible assumption) | assumption)
                 obtain ⟨ad112, e112, hx112_0, hx112_1, hx112_2, hx112_3⟩ := at_T63 HR0_1.out x5_4 p112 q112
                 cases e112
                 replace hx112_0 := cB HB hx112_0
                 replace hx112_1 := cB HB hx112_1
                 replace hx112_2 := cB HB hx112_2
                 replace hx112_3 := cB HB hx112_3
                 replace p112 := eq_true p112
                 replace q112 := eq_true q112
                 go_wp2_with (first | ((with_reducible refine gate_dst (N := 6) rfl ?_); (try (refine gate_guard (by rfl) ?_; dsimp only)); refine bx 6 #[.int .i64 0, .int .i64 0, .int .i64 0, .int .i64 0] 63 ?_; intro gb113 hg w60 hbox hb; have n0_ := Aside0.mk (blk_below (bm BK104) hb); have n1_ := Aside0.mk (below_step (bw1 HB GE104) hb); have n2_ := Aside0.mk (hbox); have n3_ := Aside0.mk (bz (bw1 HB GE104) hg); have n4_ := Aside0.mk (bz (bw1 HB GE104) hg); have n5_ := Aside0.mk (bl (bm BK104) hg); have n6_ := Aside0.mk (bg (bm BK104) hg); clear BK104; clear HB; have BK104 := n0_; have HB := n1_; have BK113 := n2_; have GW113 := n3_; have GE113 := n4_; have NB104_113 := n5_; have NB113_104 := n6_; clear n0_ n1_ n2_ n3_ n4_ n5_ n6_; clear hb hbox hg; have hnb61 := NB113_104.out; have hnc61 := NB104_113.out; obtain ⟨hcz62_0, hcz62_1, hcz62_2, hcz62_3, hfz62_0, hfz62_1, hfz62_2, hfz62_3⟩ := b4 BK113; obtain ⟨hcz63_0, hcz63_1, hcz63_2, hfz63_0, hfz63_1, hfz63_2⟩ := b3 BK104) | ((with_reducible refine gate_callee (f := 65) rfl ?_); refine gL (some 66) Tryd.func65 #[.agg #[.slice A0_0 l0_0.length c0_0, .slice (some ad112) l0_1.length c0_1, .int .i64 a0_2], .int .i64 ((rd_T63 l0_1 x5_4).f0)] ?_; (with_reducible refine (macadamref04_isMile.calls _ _ l0_0 _ _ l0_1 a0_2 ((rd_T63 l0_1 x5_4).f0) true _ ?side1 ?side2 ?side3 ?side4 A32.out).mono ?_); (case side1 => exact Kd.C_below HR0_0.out (bw2 HB GE104 GE113)); (case side2 => exact HC0_0.out); (case side3 => exact Kd.C_below HR0_1.out (bw2 HB GE104 GE113)); (case side4 => exact HC0_1.out); rintro e w64 ⟨rfl, hb⟩; refine ⟨_, rfl, ?_⟩; have n0_ := Aside0.mk (blk_below (g := gb104) (o := .cells #[.slice A0_0 l0_0.length c0_0, .slice (some ad112) l0_1.length c0_1, .int .i64 a0_2] 25 (0, 0)) (by (with_reducible repeat (first | refine blk_drewN ?_ _ | refine blk_drew ?_ | refine blk_alloc ?_ _)); refine blk_far ?_ NB104_113.out _; (with_reducible repeat (first | refine blk_drewN ?_ _ | refine blk_drew ?_ | refine blk_alloc ?_ _)); refine blk_far ?_ NB104_113.out _; (with_reducible repeat (first | refine blk_drewN ?_ _ | refine blk_drew ?_ | refine blk_alloc ?_ _)); refine blk_far ?_ NB104_113.out _; (with_reducible repeat (first | refine blk_drewN ?_ _ | refine blk_drew ?_ | refine blk_alloc ?_ _)); refine blk_far ?_ NB104_113.out _; (with_reducible repeat (first | refine blk_drewN ?_ _ | refine blk_drew ?_ | refine blk_alloc ?_ _)); exact BK104.out) hb); have n1_ := Aside0.mk (blk_below (g := gb113) (o := .cells #[.int .i64 ((rd_T63 l0_1 x5_4).f0), .int .i64 ((rd_T63 l0_1 x5_4).f1), .int .i64 ((rd_T63 l0_1 x5_4).f2.f0), .int .i64 ((rd_T63 l0_1 x5_4).f2.f1)] 63 (0, 0)) (by (with_reducible repeat (first | refine blk_drewN ?_ _ | refine blk_drew ?_ | refine blk_alloc ?_ _)); refine blk_put (cs := #[.int .i64 ((rd_T63 l0_1 x5_4).f0), .int .i64 ((rd_T63 l0_1 x5_4).f1), .int .i64 ((rd_T63 l0_1 x5_4).f2.f0), .int .i64 0]) ?_ 3 _ rfl; (with_reducible repeat (first | refine blk_drewN ?_ _ | refine blk_drew ?_ | refine blk_alloc ?_ _)); refine blk_put (cs := #[.int .i64 ((rd_T63 l0_1 x5_4).f0), .int .i64 ((rd_T63 l0_1 x5_4).f1), .int .i64 0, .int .i64 0]) ?_ 2 _ rfl; (with_reducible repeat (first | refine blk_drewN ?_ _ | refine blk_drew ?_ | refine blk_alloc ?_ _)); refine blk_put (cs := #[.int .i64 ((rd_T63 l0_1 x5_4).f0), .int .i64 0, .int .i64 0, .int .i64 0]) ?_ 1 _ rfl; (with_reducible repeat (first | refine blk_drewN ?_ _ | refine blk_drew ?_ | refine blk_alloc ?_ _)); refine blk_put (cs := #[.int .i64 0, .int .i64 0, .int .i64 0, .int .i64 0]) ?_ 0 _ rfl; (with_reducible repeat (first | refine blk_drewN ?_ _ | refine blk_drew ?_ | refine blk_alloc ?_ _)); exact BK113.out) hb); have n2_ := Aside0.mk (below_step (bw2 HB GE104 GE113) hb); clear BK104; clear BK113; clear HB; have BK104 := n0_; have BK113 := n1_; have HB := n2_; clear n0_ n1_ n2_; (try clear hb); (try clear hb2); (try clear hk); (try clear hi); obtain ⟨hcz65_0, hcz65_1, hcz65_2, hfz65_0, hfz65_1, hfz65_2⟩ := b3 BK104; obtain ⟨hcz66_0, hcz66_1, hcz66_2, hcz66_3, hfz66_0, hfz66_1, hfz66_2, hfz66_3⟩ := b4 BK113) | (go_at_call 65; (with_reducible refine (macadamref04_isMile.calls _ _ l0_0 _ _ l0_1 a0_2 ((rd_T63 l0_1 x5_4).f1) false _ ?side1 ?side2 ?side3 ?side4 A34.out).mono ?_); (case side1 => repeat (first | exact (Kd.C_below HR0_0.out HB.out) | (with_reducible refine Kd.C_alloc ?_ _) | (with_reducible refine Kd.C_drewN ?_ _) | (with_reducible refine Kd.C_drew ?_))); (case side2 => exact HC0_0.out); (case side3 => repeat (first | exact (Kd.C_below HR0_1.out HB.out) | (with_reducible refine Kd.C_alloc ?_ _) | (with_reducible refine Kd.C_drewN ?_ _) | (with_reducible refine Kd.C_drew ?_))); (case side4 => exact HC0_1.out); rintro e w67 ⟨rfl, hb⟩; have n0_ := Aside0.mk (blk_below (bm BK104) hb); have n1_ := Aside0.mk (blk_below (bm BK113) hb); have n2_ := Aside0.mk (below_step (bw2 HB GE104 GE113) hb); clear BK104; clear BK113; clear HB; have BK104 := n0_; have BK113 := n1_; have HB := n2_; clear n0_ n1_ n2_; (try clear hb); (try clear hb2); (try clear hk); (try clear hi)))
                 go_roundg kj25
                 case measure => have := HJ1.out; have := HK2.out; have := HJ11.out; have := HK4.out; have := HJ25.out; omega
                 case rel => exact ⟨(false), (wrap64 (x5_4 + 1)), (by first | rfl | (simp; done) | (simp [*]; done)), (by first | rfl | (simp; done) | (simp [*]; done)), H', ⟨by have := HJ1.out; have := HK2.out; have := HJ11.out; have := HK4.out; have := HJ25.out; omega⟩, ⟨bm BK104⟩, ⟨bw2 HB GE104 GE113⟩⟩
               ·replace c33 := Bool.eq_false_iff.mpr c33
                subst c33
                have H1 : (macadamref04_Check.l1 kj25 false (wrap64 (x5_4 + 1)) l0_0 l0_1 a0_2) = some r := by rw [if_neg (show ¬ (false = true) by decide)] at H; exact H
                clear H
                have H := H1
                clear H1
                have H' := Aside0.mk H
                clear H
                obtain ⟨hcz68_0, hcz68_1, hcz68_2, hfz68_0, hfz68_1, hfz68_2⟩ := b3 BK104
                have p112 : 0 ≤ (x5_4 : Int) := of_decide_eq_true (by first | (with_reducible assumption) | assumption)
                have q112 : x5_4 < (l0_1.length : Int) := of_decide_eq_true (by first | (with_reducible assumption) | assumption)
                obtain ⟨ad112, e112, hx112_0, hx112_1, hx112_2, hx112_3⟩ := at_T63 HR0_1.out x5_4 p112 q112
                cases e112
                replace hx112_0 := cB HB hx112_0
                replace hx112_1 := cB HB hx112_1
                replace hx112_2 := cB HB hx112_2
                replace hx112_3 := cB HB hx112_3
                replace p112 := eq_true p112
                replace q112 := eq_true q112
                go_wp2_with (first | ((with_reducible refine gate_dst (N := 6) rfl ?_); (try (refine gate_guard (by rfl) ?_; dsimp only)); refine bx 6 #[.int .i64 0, .int .i64 0, .int .i64 0, .int .i64 0] 63 ?_; intro gb113 hg w69 hbox hb; have n0_ := Aside0.mk (blk_below (bm BK104) hb); have n1_ := Aside0.mk (below_step (bw1 HB GE104) hb); have n2_ := Aside0.mk (hbox); have n3_ := Aside0.mk (bz (bw1 HB GE104) hg); have n4_ := Aside0.mk (bz (bw1 HB GE104) hg); have n5_ := Aside0.mk (bl (bm BK104) hg); have n6_ := Aside0.mk (bg (bm BK104) hg); clear BK104; clear HB; have BK104 := n0_; have HB := n1_; have BK113 := n2_; have GW113 := n3_; have GE113 := n4_; have NB104_113 := n5_; have NB113_104 := n6_; clear n0_ n1_ n2_ n3_ n4_ n5_ n6_; clear hb hbox hg; have hnb70 := NB113_104.out; have hnc70 := NB104_113.out; obtain ⟨hcz71_0, hcz71_1, hcz71_2, hcz71_3, hfz71_0, hfz71_1, hfz71_2, hfz71_3⟩ := b4 BK113; obtain ⟨hcz72_0, hcz72_1, hcz72_2, hfz72_0, hfz72_1, hfz72_2⟩ := b3 BK104) | ((with_reducible refine gate_callee (f := 65) rfl ?_); refine gL (some 66) Tryd.func65 #[.agg #[.slice A0_0 l0_0.length c0_0, .slice (some ad112) l0_1.length c0_1, .int .i64 a0_2], .int .i64 ((rd_T63 l0_1 x5_4).f0)] ?_; (with_reducible refine (macadamref04_isMile.calls _ _ l0_0 _ _ l0_1 a0_2 ((rd_T63 l0_1 x5_4).f0) false _ ?side1 ?side2 ?side3 ?side4 A32.out).mono ?_); (case side1 => exact Kd.C_below HR0_0.out (bw2 HB GE104 GE113)); (case side2 => exact HC0_0.out); (case side3 => exact Kd.C_below HR0_1.out (bw2 HB GE104 GE113)); (case side4 => exact HC0_1.out); rintro e w73 ⟨rfl, hb⟩; refine ⟨_, rfl, ?_⟩; have n0_ := Aside0.mk (blk_below (g := gb104) (o := .cells #[.slice A0_0 l0_0.length c0_0, .slice (some ad112) l0_1.length c0_1, .int .i64 a0_2] 25 (0, 0)) (by (with_reducible repeat (first | refine blk_drewN ?_ _ | refine blk_drew ?_ | refine blk_alloc ?_ _)); refine blk_far ?_ NB104_113.out _; (with_reducible repeat (first | refine blk_drewN ?_ _ | refine blk_drew ?_ | refine blk_alloc ?_ _)); refine blk_far ?_ NB104_113.out _; (with_reducible repeat (first | refine blk_drewN ?_ _ | refine blk_drew ?_ | refine blk_alloc ?_ _)); refine blk_far ?_ NB104_113.out _; (with_reducible repeat (first | refine blk_drewN ?_ _ | refine blk_drew ?_ | refine blk_alloc ?_ _)); refine blk_far ?_ NB104_113.out _; (with_reducible repeat (first | refine blk_drewN ?_ _ | refine blk_drew ?_ | refine blk_alloc ?_ _)); exact BK104.out) hb); have n1_ := Aside0.mk (blk_below (g := gb113) (o := .cells #[.int .i64 ((rd_T63 l0_1 x5_4).f0), .int .i64 ((rd_T63 l0_1 x5_4).f1), .int .i64 ((rd_T63 l0_1 x5_4).f2.f0), .int .i64 ((rd_T63 l0_1 x5_4).f2.f1)] 63 (0, 0)) (by (with_reducible repeat (first | refine blk_drewN ?_ _ | refine blk_drew ?_ | refine blk_alloc ?_ _)); refine blk_put (cs := #[.int .i64 ((rd_T63 l0_1 x5_4).f0), .int .i64 ((rd_T63 l0_1 x5_4).f1), .int .i64 ((rd_T63 l0_1 x5_4).f2.f0), .int .i64 0]) ?_ 3 _ rfl; (with_reducible repeat (first | refine blk_drewN ?_ _ | refine blk_drew ?_ | refine blk_alloc ?_ _)); refine blk_put (cs := #[.int .i64 ((rd_T63 l0_1 x5_4).f0), .int .i64 ((rd_T63 l0_1 x5_4).f1), .int .i64 0, .int .i64 0]) ?_ 2 _ rfl; (with_reducible repeat (first | refine blk_drewN ?_ _ | refine blk_drew ?_ | refine blk_alloc ?_ _)); refine blk_put (cs := #[.int .i64 ((rd_T63 l0_1 x5_4).f0), .int .i64 0, .int .i64 0, .int .i64 0]) ?_ 1 _ rfl; (with_reducible repeat (first | refine blk_drewN ?_ _ | refine blk_drew ?_ | refine blk_alloc ?_ _)); refine blk_put (cs := #[.int .i64 0, .int .i64 0, .int .i64 0, .int .i64 0]) ?_ 0 _ rfl; (with_reducible repeat (first | refine blk_drewN ?_ _ | refine blk_drew ?_ | refine blk_alloc ?_ _)); exact BK113.out) hb); have n2_ := Aside0.mk (below_step (bw2 HB GE104 GE113) hb); clear BK104; clear BK113; clear HB; have BK104 := n0_; have BK113 := n1_; have HB := n2_; clear n0_ n1_ n2_; (try clear hb); (try clear hb2); (try clear hk); (try clear hi)))
                go_roundg kj25
                case measure => have := HJ1.out; have := HK2.out; have := HJ11.out; have := HK4.out; have := HJ25.out; omega
                case rel => exact ⟨(false), (wrap64 (x5_4 + 1)), (by first | rfl | (simp; done) | (simp [*]; done)), (by first | rfl | (simp; done) | (simp [*]; done)), H', ⟨by have := HJ1.out; have := HK2.out; have := HJ11.out; have := HK4.out; have := HJ25.out; omega⟩, ⟨bm BK104⟩, ⟨bw2 HB GE104 GE113⟩⟩
              ·rw [if_neg c31] at H
               exact absurd H (by simp)
             ·rw [if_neg c30] at H
              exact absurd H (by simp)
            ·replace c29 := Bool.eq_false_iff.mpr c29
             subst c29
             have H1 : (if x3_4 = true then (some 0) else (some 40)) = some r := by rw [if_neg (show ¬ (false = true) by decide)] at H; exact H
             clear H
             have H := H1
             clear H1
             by_cases c74 : x3_4 = true
             ·subst c74
              have H1 : (some 0) = some r := by rw [if_pos rfl] at H; exact H
              clear H
              have H := H1
              clear H1
              obtain rfl := Option.some.inj H
              go_wp2
              go_ret
              exact ⟨by first | rfl | (simp [errW_none, errW_some] <;> rfl) | (simp [*, errW_none, errW_some] <;> rfl), bw1 HB GE104⟩
             ·replace c74 := Bool.eq_false_iff.mpr c74
              subst c74
              have H1 : (some 40) = some r := by rw [if_neg (show ¬ (false = true) by decide)] at H; exact H
              clear H
              have H := H1
              clear H1
              obtain rfl := Option.some.inj H
              go_wp2
              go_ret
              exact ⟨by first | rfl | (simp [errW_none, errW_some] <;> rfl) | (simp [*, errW_none, errW_some] <;> rfl), bw1 HB GE104⟩
end Go.Proofs.YtikfghnkbgdbgaaDoor.Q
end
section
namespace Go.Proofs.YtikfghnkbgdbgaaDoor.Q
open Go.RowKit Go.Proofs.YtikfghnkbgdbgaaDoorW.PrintWords Go.Proofs.YtikfghnkbgdbgaaDoorW.PrintLast Go.Proofs.YtikfghnkbgdbgaaDoorW.PrintMore
attribute [local go_sem] max2_int min2_int max_two min_two max_three min_three max_four min_four   -- for this text's walks alone
set_option linter.unusedVariables false
set_option linter.unusedSimpArgs false
def macadamref04_isGang.f (l0_0 : List (S66)) (l0_1 : List (S63)) (a0_2 : Int) (a1 : Int) : Option (Bool) := (macadamref00_Amid.f a1 0 (wrap64 ((l0_1.length : Int) - 1))).bind fun t118 => (some t118)
set_option maxHeartbeats 8000000 in
set_option maxRecDepth 100000 in
theorem macadamref04_isGang.calls (A0_0 : Option Addr) (c0_0 : Nat) (l0_0 : List (S66)) (A0_1 : Option Addr) (c0_1 : Nat) (l0_1 : List (S63)) (a0_2 : Int) (a1 : Int) (r : Bool) (w : World) (hr0_0 : Kd.C k66 w A0_0 l0_0.length l0_0) (hc0_0 : l0_0.length ≤ c0_0) (hr0_1 : Kd.C k63 w A0_1 l0_1.length l0_1) (hc0_1 : l0_1.length ≤ c0_1) (h : macadamref04_isGang.f l0_0 l0_1 a0_2 a1 = some r) :
  Calls Tryd.prog 64 #[.agg #[.slice A0_0 l0_0.length c0_0, .slice A0_1 l0_1.length c0_1, .int .i64 a0_2], .int .i64 a1] w fun e w' => e = .returned (.bool r) ∧ Below w.heap.size w w' := by
 have hu25 := Tryd.underlying25
 have HR0_0 := Aside0.mk hr0_0
 have HC0_0 := Aside0.mk hc0_0
 clear hr0_0 hc0_0
 have HR0_1 := Aside0.mk hr0_1
 have HC0_1 := Aside0.mk hc0_1
 clear hr0_1 hc0_1
 have HB := Aside0.mk (Below.refl w.heap.size w)
 have H : ((macadamref00_Amid.f a1 0 (wrap64 ((l0_1.length : Int) - 1))).bind fun t118 => (some t118)) = some r := h
 clear h
 replace H := Option.bind_eq_some_iff.mp H
 obtain ⟨t118, A30, H⟩ := H
 replace H : (some t118) = some r := H
 have A3 := Aside0.mk A30
 clear A30
 obtain rfl := Option.some.inj H
 go_enter Tryd.func64, Tryd.ntmps64
 go_wp2_with (first | ((with_reducible refine gate_dst (N := 2) rfl ?_); refine bx 2 #[.slice A0_0 l0_0.length c0_0, .slice A0_1 l0_1.length c0_1, .int .i64 a0_2] 25 ?_; intro gb117 hg w4 hbox hb; have n0_ := Aside0.mk (below_step (bw HB) hb); have n1_ := Aside0.mk (hbox); have n2_ := Aside0.mk (bz (bw HB) hg); have n3_ := Aside0.mk (bz (bw HB) hg); clear HB; have HB := n0_; have BK117 := n1_; have GW117 := n2_; have GE117 := n3_; clear n0_ n1_ n2_ n3_; clear hb hbox hg; obtain ⟨hcz5_0, hcz5_1, hcz5_2, hfz5_0, hfz5_1, hfz5_2⟩ := b3 BK117) | ((with_reducible refine gate_callee (f := 45) rfl ?_); refine gL (some 10) Tryd.func45 #[.int .i64 a1, .int .i64 0, .int .i64 (wrap64 ((l0_1.length : Int) - 1))] ?_; (with_reducible refine (macadamref00_Amid.calls a1 0 (wrap64 ((l0_1.length : Int) - 1)) t118 _ A3.out).mono ?_); rintro e w' ⟨rfl, ⟨nd, rfl⟩⟩; refine ⟨_, rfl, ?_⟩))
 go_ret
 exact ⟨by first | rfl | (simp [errW_none, errW_some] <;> rfl) | (simp [*, errW_none, errW_some] <;> rfl), bw1 HB GE117⟩
def macadamref00_In.f (a0 : Int) (a1 : Int) : Option (Bool) := if 0 ≤ a1 then (some ((Go.bits .and .i64 (shr .i64 a0 a1) 1) == 1)) else (none)
set_option maxHeartbeats 8000000 in
set_option maxRecDepth 100000 in
theorem macadamref00_In.calls (a0 : Int) (a1 : Int) (r : Bool) (w : World) (h : macadamref00_In.f a0 a1 = some r) :
  Calls Tryd.prog 46 #[.int .i64 a0, .int .i64 a1] w fun e w' => e = .returned (.bool r) ∧ Drawn0 w w' := by
 have H : (if 0 ≤ a1 then (some ((Go.bits .and .i64 (shr .i64 a0 a1) 1) == 1)) else (none)) = some r := h
 clear h
 by_cases c3 : 0 ≤ a1
 ·rw [if_pos c3] at H
  have c3b0 := eq_true c3
  have c3b1 : decide (0 ≤ a1) = true := decide_eq_true c3
  clear c3
  obtain ⟨ji4, hji4⟩ : ∃ j_ : Int, (shr .i64 a0 a1) = j_ := ⟨_, rfl⟩
  replace H : (some ((Go.bits .and .i64 (ji4) 1) == 1)) = some r := by first | (rw [hji4] at H; exact H) | (simp only [hji4] at H ⊢; exact H)
  have hji4_ : (a0 / 2 ^ min a1.toNat 64) = ji4 := hji4
  have hji4z : a1 ≤ 64 → (a0 / 2 ^ a1.toNat) = ji4 := shr_small hji4
  obtain rfl := Option.some.inj H
  go_enter Tryd.func46, Tryd.ntmps46
  go_wp2
  go_ret
  exact ⟨by first | rfl | (simp; done) | (simp only [← hji4] <;> (first | rfl | simp)) | (simp [*]; done), by repeat (first | exact Drawn0.refl _ | apply Drawn0.step)⟩
 ·rw [if_neg c3] at H
  exact absurd H (by simp)
def macadamref04_can.f (l0_0 : List (S66)) (l0_1 : List (S63)) (a0_2 : Int) (a1 : Int) (a2 : Int) (a3 : Int) : Option (Bool) := if 0 ≤ a1 then (if a1 < (l0_1.length : Int) then ((macadamref00_Amid.f a2 ((rd_T63 l0_1 a1).f0) ((rd_T63 l0_1 a1).f1)).bind fun t122 => (if t122 = true then (if 0 ≤ a2 then (if a2 < (l0_0.length : Int) then ((macadamref00_In.f ((rd_T66 l0_0 a2).f1) a3).bind fun t124 => (some (!t124))) else (none)) else (none)) else (some false))) else (none)) else (none)
set_option maxHeartbeats 8000000 in
set_option maxRecDepth 100000 in
theorem macadamref04_can.calls (A0_0 : Option Addr) (c0_0 : Nat) (l0_0 : List (S66)) (A0_1 : Option Addr) (c0_1 : Nat) (l0_1 : List (S63)) (a0_2 : Int) (a1 : Int) (a2 : Int) (a3 : Int) (r : Bool) (w : World) (hr0_0 : Kd.C k66 w A0_0 l0_0.length l0_0) (hc0_0 : l0_0.length ≤ c0_0) (hr0_1 : Kd.C k63 w A0_1 l0_1.length l0_1) (hc0_1 : l0_1.length ≤ c0_1) (h : macadamref04_can.f l0_0 l0_1 a0_2 a1 a2 a3 = some r) :
  Calls Tryd.prog 66 #[.agg #[.slice A0_0 l0_0.length c0_0, .slice A0_1 l0_1.length c0_1, .int .i64 a0_2], .int .i64 a1, .int .i64 a2, .int .i64 a3] w fun e w' => e = .returned (.bool r) ∧ Below w.heap.size w w' := by
 have hu25 := Tryd.underlying25
 have HR0_0 := Aside0.mk hr0_0
 have HC0_0 := Aside0.mk hc0_0
 clear hr0_0 hc0_0
 have HR0_1 := Aside0.mk hr0_1
 have HC0_1 := Aside0.mk hc0_1
 clear hr0_1 hc0_1
 have HB := Aside0.mk (Below.refl w.heap.size w)
 have H : (if 0 ≤ a1 then (if a1 < (l0_1.length : Int) then ((macadamref00_Amid.f a2 ((rd_T63 l0_1 a1).f0) ((rd_T63 l0_1 a1).f1)).bind fun t122 => (if t122 = true then (if 0 ≤ a2 then (if a2 < (l0_0.length : Int) then ((macadamref00_In.f ((rd_T66 l0_0 a2).f1) a3).bind fun t124 => (some (!t124))) else (none)) else (none)) else (some false))) else (none)) else (none)) = some r := h
 clear h
 by_cases c5 : 0 ≤ a1
 ·rw [if_pos c5] at H
  have c5b0 : decide (0 ≤ a1) = true := decide_eq_true c5
  clear c5
  by_cases c6 : a1 < (l0_1.length : Int)
  ·rw [if_pos c6] at H
   have c6b0 : decide (a1 < (l0_1.length : Int)) = true := decide_eq_true c6
   clear c6
   replace H := Option.bind_eq_some_iff.mp H
   obtain ⟨t122, A70, H⟩ := H
   replace H : (if t122 = true then (if 0 ≤ a2 then (if a2 < (l0_0.length : Int) then ((macadamref00_In.f ((rd_T66 l0_0 a2).f1) a3).bind fun t124 => (some (!t124))) else (none)) else (none)) else (some false)) = some r := H
   have A7 := Aside0.mk A70
   clear A70
   by_cases c8 : t122 = true
   ·subst c8
    have H1 : (if 0 ≤ a2 then (if a2 < (l0_0.length : Int) then ((macadamref00_In.f ((rd_T66 l0_0 a2).f1) a3).bind fun t124 => (some (!t124))) else (none)) else (none)) = some r := by rw [if_pos rfl] at H; exact H
    clear H
    have H := H1
    clear H1
    by_cases c9 : 0 ≤ a2
    ·rw [if_pos c9] at H
     have c9b0 : decide (0 ≤ a2) = true := decide_eq_true c9
     clear c9
     by_cases c10 : a2 < (l0_0.length : Int)
     ·rw [if_pos c10] at H
      have c10b0 : decide (a2 < (l0_0.length : Int)) = true := decide_eq_true c10
      clear c10
      replace H := Option.bind_eq_some_iff.mp H
      obtain ⟨t124, A110, H⟩ := H
      replace H : (some (!t124)) = some r := H
      have A11 := Aside0.mk A110
      clear A110
      obtain rfl := Option.some.inj H
      go_enter Tryd.func66, Tryd.ntmps66
      go_wp2_with (first | ((with_reducible refine gate_dst (N := 4) rfl ?_); refine bx 4 #[.slice A0_0 l0_0.length c0_0, .slice A0_1 l0_1.length c0_1, .int .i64 a0_2] 25 ?_; intro gb119 hg w12 hbox hb; have n0_ := Aside0.mk (below_step (bw HB) hb); have n1_ := Aside0.mk (hbox); have n2_ := Aside0.mk (bz (bw HB) hg); have n3_ := Aside0.mk (bz (bw HB) hg); clear HB; have HB := n0_; have BK119 := n1_; have GW119 := n2_; have GE119 := n3_; clear n0_ n1_ n2_ n3_; clear hb hbox hg; obtain ⟨hcz13_0, hcz13_1, hcz13_2, hfz13_0, hfz13_1, hfz13_2⟩ := b3 BK119; have p120 : 0 ≤ (a1 : Int) := of_decide_eq_true (by first | (with_reducible assumption) | assumption); have q120 : a1 < (l0_1.length : Int) := of_decide_eq_true (by first | (with_reducible assumption) | assumption); obtain ⟨ad120, e120, hx120_0, hx120_1, hx120_2, hx120_3⟩ := at_T63 HR0_1.out a1 p120 q120; cases e120; replace hx120_0 := cB HB hx120_0; replace hx120_1 := cB HB hx120_1; replace hx120_2 := cB HB hx120_2; replace hx120_3 := cB HB hx120_3; replace p120 := eq_true p120; replace q120 := eq_true q120; have p121 : 0 ≤ (a1 : Int) := of_decide_eq_true (by first | (with_reducible assumption) | assumption); have q121 : a1 < (l0_1.length : Int) := of_decide_eq_true (by first | (with_reducible assumption) | assumption); obtain ⟨ad121, e121, hx121_0, hx121_1, hx121_2, hx121_3⟩ := at_T63 HR0_1.out a1 p121 q121; obtain rfl : ad120 = ad121 := (by injection e121); replace hx121_0 := cB HB hx121_0; replace hx121_1 := cB HB hx121_1; replace hx121_2 := cB HB hx121_2; replace hx121_3 := cB HB hx121_3; replace p121 := eq_true p121; replace q121 := eq_true q121) | (go_at_call 45; (with_reducible refine (macadamref00_Amid.calls a2 ((rd_T63 l0_1 a1).f0) ((rd_T63 l0_1 a1).f1) true _ A7.out).mono ?_); rintro e w' ⟨rfl, ⟨nd, rfl⟩⟩; (try first | exact ⟨rfl, _, World.drewN_drewN _ _ _⟩ | exact ⟨rfl, _, Eq.trans (World.drewN_drewN _ _ _) (congrArg (World.drewN _) (Nat.add_assoc _ _ _))⟩); have p123 : 0 ≤ (a2 : Int) := of_decide_eq_true (by first | (with_reducible assumption) | assumption); have q123 : a2 < (l0_0.length : Int) := of_decide_eq_true (by first | (with_reducible assumption) | assumption); obtain ⟨ad123, e123, hx123_0, hx123_1, hx123_2⟩ := at_T66 HR0_0.out a2 p123 q123; cases e123; replace hx123_0 := cB HB hx123_0; replace hx123_1 := cB HB hx123_1; replace hx123_2 := cB HB hx123_2; replace p123 := eq_true p123; replace q123 := eq_true q123) | (go_at_call 46; (with_reducible refine (macadamref00_In.calls ((rd_T66 l0_0 a2).f1) a3 t124 _ A11.out).mono ?_); rintro e w' ⟨rfl, ⟨nd, rfl⟩⟩; (try first | exact ⟨rfl, _, World.drewN_drewN _ _ _⟩ | exact ⟨rfl, _, Eq.trans (World.drewN_drewN _ _ _) (congrArg (World.drewN _) (Nat.add_assoc _ _ _))⟩)))
      repeat (go_quiet (first | ((with_reducible refine gate_dst (N := 4) rfl ?_); refine bx 4 #[.slice A0_0 l0_0.length c0_0, .slice A0_1 l0_1.length c0_1, .int .i64 a0_2] 25 ?_; intro gb119 hg w12 hbox hb; have n0_ := Aside0.mk (below_step (bw HB) hb); have n1_ := Aside0.mk (hbox); have n2_ := Aside0.mk (bz (bw HB) hg); have n3_ := Aside0.mk (bz (bw HB) hg); clear HB; have HB := n0_; have BK119 := n1_; have GW119 := n2_; have GE119 := n3_; clear n0_ n1_ n2_ n3_; clear hb hbox hg; obtain ⟨hcz13_0, hcz13_1, hcz13_2, hfz13_0, hfz13_1, hfz13_2⟩ := b3 BK119; have p120 : 0 ≤ (a1 : Int) := of_decide_eq_true (by first | (with_reducible assumption) | assumption); have q120 : a1 < (l0_1.length : Int) := of_decide_eq_true (by first | (with_reducible assumption) | assumption); obtain ⟨ad120, e120, hx120_0, hx120_1, hx120_2, hx120_3⟩ := at_T63 HR0_1.out a1 p120 q120; cases e120; replace hx120_0 := cB HB hx120_0; replace hx120_1 := cB HB hx120_1; replace hx120_2 := cB HB hx120_2; replace hx120_3 := cB HB hx120_3; replace p120 := eq_true p120; replace q120 := eq_true q120; have p121 : 0 ≤ (a1 : Int) := of_decide_eq_true (by first | (with_reducible assumption) | assumption); have q121 : a1 < (l0_1.length : Int) := of_decide_eq_true (by first | (with_reducible assumption) | assumption); obtain ⟨ad121, e121, hx121_0, hx121_1, hx121_2, hx121_3⟩ := at_T63 HR0_1.out a1 p121 q121; obtain rfl : ad120 = ad121 := (by injection e121); replace hx121_0 := cB HB hx121_0; replace hx121_1 := cB HB hx121_1; replace hx121_2 := cB HB hx121_2; replace hx121_3 := cB HB hx121_3; replace p121 := eq_true p121; replace q121 := eq_true q121) | (go_at_call 45; (with_reducible refine (macadamref00_Amid.calls a2 ((rd_T63 l0_1 a1).f0) ((rd_T63 l0_1 a1).f1) true _ A7.out).mono ?_); rintro e w' ⟨rfl, ⟨nd, rfl⟩⟩; (try first | exact ⟨rfl, _, World.drewN_drewN _ _ _⟩ | exact ⟨rfl, _, Eq.trans (World.drewN_drewN _ _ _) (congrArg (World.drewN _) (Nat.add_assoc _ _ _))⟩); have p123 : 0 ≤ (a2 : Int) := of_decide_eq_true (by first | (with_reducible assumption) | assumption); have q123 : a2 < (l0_0.length : Int) := of_decide_eq_true (by first | (with_reducible assumption) | assumption); obtain ⟨ad123, e123, hx123_0, hx123_1, hx123_2⟩ := at_T66 HR0_0.out a2 p123 q123; cases e123; replace hx123_0 := cB HB hx123_0; replace hx123_1 := cB HB hx123_1; replace hx123_2 := cB HB hx123_2; replace p123 := eq_true p123; replace q123 := eq_true q123) | (go_at_call 46; (with_reducible refine (macadamref00_In.calls ((rd_T66 l0_0 a2).f1) a3 t124 _ A11.out).mono ?_); rintro e w' ⟨rfl, ⟨nd, rfl⟩⟩; (try first | exact ⟨rfl, _, World.drewN_drewN _ _ _⟩ | exact ⟨rfl, _, Eq.trans (World.drewN_drewN _ _ _) (congrArg (World.drewN _) (Nat.add_assoc _ _ _))⟩))); try go_wp2_with (first | ((with_reducible refine gate_dst (N := 4) rfl ?_); refine bx 4 #[.slice A0_0 l0_0.length c0_0, .slice A0_1 l0_1.length c0_1, .int .i64 a0_2] 25 ?_; intro gb119 hg w12 hbox hb; have n0_ := Aside0.mk (below_step (bw HB) hb); have n1_ := Aside0.mk (hbox); have n2_ := Aside0.mk (bz (bw HB) hg); have n3_ := Aside0.mk (bz (bw HB) hg); clear HB; have HB := n0_; have BK119 := n1_; have GW119 := n2_; have GE119 := n3_; clear n0_ n1_ n2_ n3_; clear hb hbox hg; obtain ⟨hcz13_0, hcz13_1, hcz13_2, hfz13_0, hfz13_1, hfz13_2⟩ := b3 BK119; have p120 : 0 ≤ (a1 : Int) := of_decide_eq_true (by first | (with_reducible assumption) | assumption); have q120 : a1 < (l0_1.length : Int) := of_decide_eq_true (by first | (with_reducible assumption) | assumption); obtain ⟨ad120, e120, hx120_0, hx120_1, hx120_2, hx120_3⟩ := at_T63 HR0_1.out a1 p120 q120; cases e120; replace hx120_0 := cB HB hx120_0; replace hx120_1 := cB HB hx120_1; replace hx120_2 := cB HB hx120_2; replace hx120_3 := cB HB hx120_3; replace p120 := eq_true p120; replace q120 := eq_true q120; have p121 : 0 ≤ (a1 : Int) := of_decide_eq_true (by first | (with_reducible assumption) | assumption); have q121 : a1 < (l0_1.length : Int) := of_decide_eq_true (by first | (with_reducible assumption) | assumption); obtain ⟨ad121, e121, hx121_0, hx121_1, hx121_2, hx121_3⟩ := at_T63 HR0_1.out a1 p121 q121; obtain rfl : ad120 = ad121 := (by injection e121); replace hx121_0 := cB HB hx121_0; replace hx121_1 := cB HB hx121_1; replace hx121_2 := cB HB hx121_2; replace hx121_3 := cB HB hx121_3; replace p121 := eq_true p121; replace q121 := eq_true q121) | (go_at_call 45; (with_reducible refine (macadamref00_Amid.calls a2 ((rd_T63 l0_1 a1).f0) ((rd_T63 l0_1 a1).f1) true _ A7.out).mono ?_); rintro e w' ⟨rfl, ⟨nd, rfl⟩⟩; (try first | exact ⟨rfl, _, World.drewN_drewN _ _ _⟩ | exact ⟨rfl, _, Eq.trans (World.drewN_drewN _ _ _) (congrArg (World.drewN _) (Nat.add_assoc _ _ _))⟩); have p123 : 0 ≤ (a2 : Int) := of_decide_eq_true (by first | (with_reducible assumption) | assumption); have q123 : a2 < (l0_0.length : Int) := of_decide_eq_true (by first | (with_reducible assumption) | assumption); obtain ⟨ad123, e123, hx123_0, hx123_1, hx123_2⟩ := at_T66 HR0_0.out a2 p123 q123; cases e123; replace hx123_0 := cB HB hx123_0; replace hx123_1 := cB HB hx123_1; replace hx123_2 := cB HB hx123_2; replace p123 := eq_true p123; replace q123 := eq_true q123) | (go_at_call 46; (with_reducible refine (macadamref00_In.calls ((rd_T66 l0_0 a2).f1) a3 t124 _ A11.out).mono ?_); rintro e w' ⟨rfl, ⟨nd, rfl⟩⟩; (try first | exact ⟨rfl, _, World.drewN_drewN _ _ _⟩ | exact ⟨rfl, _, Eq.trans (World.drewN_drewN _ _ _) (congrArg (World.drewN _) (Nat.add_assoc _ _ _))⟩))))
      go_ret
      exact ⟨by first | rfl | (simp [errW_none, errW_some] <;> rfl) | (simp [*, errW_none, errW_some] <;> rfl), bw1 HB GE119⟩
     ·rw [if_neg c10] at H
      exact absurd H (by simp)
    ·rw [if_neg c9] at H
     exact absurd H (by simp)
   ·replace c8 := Bool.eq_false_iff.mpr c8
    subst c8
    have H1 : (some false) = some r := by rw [if_neg (show ¬ (false = true) by decide)] at H; exact H
    clear H
    have H := H1
    clear H1
    obtain rfl := Option.some.inj H
    go_enter Tryd.func66, Tryd.ntmps66
    go_wp2_with (first | ((with_reducible refine gate_dst (N := 4) rfl ?_); refine bx 4 #[.slice A0_0 l0_0.length c0_0, .slice A0_1 l0_1.length c0_1, .int .i64 a0_2] 25 ?_; intro gb119 hg w14 hbox hb; have n0_ := Aside0.mk (below_step (bw HB) hb); have n1_ := Aside0.mk (hbox); have n2_ := Aside0.mk (bz (bw HB) hg); have n3_ := Aside0.mk (bz (bw HB) hg); clear HB; have HB := n0_; have BK119 := n1_; have GW119 := n2_; have GE119 := n3_; clear n0_ n1_ n2_ n3_; clear hb hbox hg; obtain ⟨hcz15_0, hcz15_1, hcz15_2, hfz15_0, hfz15_1, hfz15_2⟩ := b3 BK119; have p120 : 0 ≤ (a1 : Int) := of_decide_eq_true (by first | (with_reducible assumption) | assumption); have q120 : a1 < (l0_1.length : Int) := of_decide_eq_true (by first | (with_reducible assumption) | assumption); obtain ⟨ad120, e120, hx120_0, hx120_1, hx120_2, hx120_3⟩ := at_T63 HR0_1.out a1 p120 q120; cases e120; replace hx120_0 := cB HB hx120_0; replace hx120_1 := cB HB hx120_1; replace hx120_2 := cB HB hx120_2; replace hx120_3 := cB HB hx120_3; replace p120 := eq_true p120; replace q120 := eq_true q120; have p121 : 0 ≤ (a1 : Int) := of_decide_eq_true (by first | (with_reducible assumption) | assumption); have q121 : a1 < (l0_1.length : Int) := of_decide_eq_true (by first | (with_reducible assumption) | assumption); obtain ⟨ad121, e121, hx121_0, hx121_1, hx121_2, hx121_3⟩ := at_T63 HR0_1.out a1 p121 q121; obtain rfl : ad120 = ad121 := (by injection e121); replace hx121_0 := cB HB hx121_0; replace hx121_1 := cB HB hx121_1; replace hx121_2 := cB HB hx121_2; replace hx121_3 := cB HB hx121_3; replace p121 := eq_true p121; replace q121 := eq_true q121) | (go_at_call 45; (with_reducible refine (macadamref00_Amid.calls a2 ((rd_T63 l0_1 a1).f0) ((rd_T63 l0_1 a1).f1) false _ A7.out).mono ?_); rintro e w' ⟨rfl, ⟨nd, rfl⟩⟩; (try first | exact ⟨rfl, _, World.drewN_drewN _ _ _⟩ | exact ⟨rfl, _, Eq.trans (World.drewN_drewN _ _ _) (congrArg (World.drewN _) (Nat.add_assoc _ _ _))⟩)))
    repeat (go_quiet (first | ((with_reducible refine gate_dst (N := 4) rfl ?_); refine bx 4 #[.slice A0_0 l0_0.length c0_0, .slice A0_1 l0_1.length c0_1, .int .i64 a0_2] 25 ?_; intro gb119 hg w14 hbox hb; have n0_ := Aside0.mk (below_step (bw HB) hb); have n1_ := Aside0.mk (hbox); have n2_ := Aside0.mk (bz (bw HB) hg); have n3_ := Aside0.mk (bz (bw HB) hg); clear HB; have HB := n0_; have BK119 := n1_; have GW119 := n2_; have GE119 := n3_; clear n0_ n1_ n2_ n3_; clear hb hbox hg; obtain ⟨hcz15_0, hcz15_1, hcz15_2, hfz15_0, hfz15_1, hfz15_2⟩ := b3 BK119; have p120 : 0 ≤ (a1 : Int) := of_decide_eq_true (by first | (with_reducible assumption) | assumption); have q120 : a1 < (l0_1.length : Int) := of_decide_eq_true (by first | (with_reducible assumption) | assumption); obtain ⟨ad120, e120, hx120_0, hx120_1, hx120_2, hx120_3⟩ := at_T63 HR0_1.out a1 p120 q120; cases e120; replace hx120_0 := cB HB hx120_0; replace hx120_1 := cB HB hx120_1; replace hx120_2 := cB HB hx120_2; replace hx120_3 := cB HB hx120_3; replace p120 := eq_true p120; replace q120 := eq_true q120; have p121 : 0 ≤ (a1 : Int) := of_decide_eq_true (by first | (with_reducible assumption) | assumption); have q121 : a1 < (l0_1.length : Int) := of_decide_eq_true (by first | (with_reducible assumption) | assumption); obtain ⟨ad121, e121, hx121_0, hx121_1, hx121_2, hx121_3⟩ := at_T63 HR0_1.out a1 p121 q121; obtain rfl : ad120 = ad121 := (by injection e121); replace hx121_0 := cB HB hx121_0; replace hx121_1 := cB HB hx121_1; replace hx121_2 := cB HB hx121_2; replace hx121_3 := cB HB hx121_3; replace p121 := eq_true p121; replace q121 := eq_true q121) | (go_at_call 45; (with_reducible refine (macadamref00_Amid.calls a2 ((rd_T63 l0_1 a1).f0) ((rd_T63 l0_1 a1).f1) false _ A7.out).mono ?_); rintro e w' ⟨rfl, ⟨nd, rfl⟩⟩; (try first | exact ⟨rfl, _, World.drewN_drewN _ _ _⟩ | exact ⟨rfl, _, Eq.trans (World.drewN_drewN _ _ _) (congrArg (World.drewN _) (Nat.add_assoc _ _ _))⟩))); try go_wp2_with (first | ((with_reducible refine gate_dst (N := 4) rfl ?_); refine bx 4 #[.slice A0_0 l0_0.length c0_0, .slice A0_1 l0_1.length c0_1, .int .i64 a0_2] 25 ?_; intro gb119 hg w14 hbox hb; have n0_ := Aside0.mk (below_step (bw HB) hb); have n1_ := Aside0.mk (hbox); have n2_ := Aside0.mk (bz (bw HB) hg); have n3_ := Aside0.mk (bz (bw HB) hg); clear HB; have HB := n0_; have BK119 := n1_; have GW119 := n2_; have GE119 := n3_; clear n0_ n1_ n2_ n3_; clear hb hbox hg; obtain ⟨hcz15_0, hcz15_1, hcz15_2, hfz15_0, hfz15_1, hfz15_2⟩ := b3 BK119; have p120 : 0 ≤ (a1 : Int) := of_decide_eq_true (by first | (with_reducible assumption) | assumption); have q120 : a1 < (l0_1.length : Int) := of_decide_eq_true (by first | (with_reducible assumption) | assumption); obtain ⟨ad120, e120, hx120_0, hx120_1, hx120_2, hx120_3⟩ := at_T63 HR0_1.out a1 p120 q120; cases e120; replace hx120_0 := cB HB hx120_0; replace hx120_1 := cB HB hx120_1; replace hx120_2 := cB HB hx120_2; replace hx120_3 := cB HB hx120_3; replace p120 := eq_true p120; replace q120 := eq_true q120; have p121 : 0 ≤ (a1 : Int) := of_decide_eq_true (by first | (with_reducible assumption) | assumption); have q121 : a1 < (l0_1.length : Int) := of_decide_eq_true (by first | (with_reducible assumption) | assumption); obtain ⟨ad121, e121, hx121_0, hx121_1, hx121_2, hx121_3⟩ := at_T63 HR0_1.out a1 p121 q121; obtain rfl : ad120 = ad121 := (by injection e121); replace hx121_0 := cB HB hx121_0; replace hx121_1 := cB HB hx121_1; replace hx121_2 := cB HB hx121_2; replace hx121_3 := cB HB hx121_3; replace p121 := eq_true p121; replace q121 := eq_true q121) | (go_at_call 45; (with_reducible refine (macadamref00_Amid.calls a2 ((rd_T63 l0_1 a1).f0) ((rd_T63 l0_1 a1).f1) false _ A7.out).mono ?_); rintro e w' ⟨rfl, ⟨nd, rfl⟩⟩; (try first | exact ⟨rfl, _, World.drewN_drewN _ _ _⟩ | exact ⟨rfl, _, Eq.trans (World.drewN_drewN _ _ _) (congrArg (World.drewN _) (Nat.add_assoc _ _ _))⟩))))
    go_ret
    exact ⟨by first | rfl | (simp [errW_none, errW_some] <;> rfl) | (simp [*, errW_none, errW_some] <;> rfl), bw1 HB GE119⟩
  ·rw [if_neg c6] at H
   exact absurd H (by simp)
 ·rw [if_neg c5] at H
  exact absurd H (by simp)
def macadamref00_Like.l0 : Nat → List Int → List Int → Bool → Int → Option (Bool)
 | 0, _, _, _, _ => none
 | k + 1, x0, x1, x5, x6 => if x5 = true then (if x6 < (x0.length : Int) then (if 0 ≤ x6 then (if x6 < (x1.length : Int) then (macadamref00_Like.l0 k x0 x1 ((rd x0 x6) == (rd x1 x6)) (wrap64 (x6 + 1))) else (none)) else (none)) else (some x5)) else (some x5)
def macadamref00_Like.f (k : Nat) (l0 : List Int) (l1 : List Int) : Option (Bool) := macadamref00_Like.l0 k l0 l1 ((l0.length : Int) == (l1.length : Int)) 0
set_option maxHeartbeats 8000000 in
set_option maxRecDepth 100000 in
theorem macadamref00_Like.calls (k : Nat) (A0 : Option Addr) (c0 : Nat) (l0 : List Int) (A1 : Option Addr) (c1 : Nat) (l1 : List Int) (r : Bool) (w : World) (hr0 : Kd.C (Kd.int .i64) w A0 l0.length l0) (hc0 : l0.length ≤ c0) (hr1 : Kd.C (Kd.int .i64) w A1 l1.length l1) (hc1 : l1.length ≤ c1) (h : macadamref00_Like.f k l0 l1 = some r) :
  Calls Tryd.prog 17 #[.slice A0 l0.length c0, .slice A1 l1.length c1] w fun e w' => e = .returned (.bool r) ∧ Drawn0 w w' := by
 have HR0 := Aside0.mk hr0
 have HC0 := Aside0.mk hc0
 clear hr0 hc0
 have HR1 := Aside0.mk hr1
 have HC1 := Aside0.mk hc1
 clear hr1 hc1
 have H : (macadamref00_Like.l0 k l0 l1 ((l0.length : Int) == (l1.length : Int)) 0) = some r := h
 clear h
 have H' := Aside0.mk H
 clear H
 go_enter Tryd.func17, Tryd.ntmps17
 go_wp2
 repeat (go_quiet (fail); try go_wp2)
 go_loopg [5, 6] k (fun kq v5 v6 w' => ∃ (x5_1 : Bool) (x6_1 : Int), v5 = .bool x5_1 ∧ v6 = .int .i64 x6_1 ∧ Aside0 (macadamref00_Like.l0 kq l0 l1 x5_1 x6_1 = some r) ∧ Aside0 (kq ≤ k) ∧ Drawn0 w w')
 case atStart => exact ⟨(((l0.length : Int) == (l1.length : Int))), (0), (by first | rfl | (simp; done) | (simp [*]; done)), (by first | rfl | (simp; done) | (simp [*]; done)), H', ⟨Nat.le_refl _⟩, by repeat (first | exact Drawn0.refl _ | apply Drawn0.step)⟩
 case round =>
  clear H'
  try clear c1
  try clear p2
  obtain ⟨x5_1, x6_1, rfl, rfl, HA, HK1, ⟨m1, rfl⟩⟩ := hrel
  cases gk with
  | zero => exact absurd HA.out (by simp [macadamref00_Like.l0])
  | succ k1 =>
   have H := HA.out
   clear HA
   simp only [macadamref00_Like.l0] at H
   by_cases c3 : x5_1 = true
   ·subst c3
    have H1 : (if x6_1 < (l0.length : Int) then (if 0 ≤ x6_1 then (if x6_1 < (l1.length : Int) then (macadamref00_Like.l0 k1 l0 l1 ((rd l0 x6_1) == (rd l1 x6_1)) (wrap64 (x6_1 + 1))) else (none)) else (none)) else (some true)) = some r := by rw [if_pos rfl] at H; exact H
    clear H
    have H := H1
    clear H1
    by_cases c4 : x6_1 < (l0.length : Int)
    ·rw [if_pos c4] at H
     have c4b0 : decide (x6_1 < (l0.length : Int)) = true := decide_eq_true c4
     clear c4
     by_cases c5 : 0 ≤ x6_1
     ·rw [if_pos c5] at H
      have c5b0 : decide (0 ≤ x6_1) = true := decide_eq_true c5
      clear c5
      by_cases c6 : x6_1 < (l1.length : Int)
      ·rw [if_pos c6] at H
       have c6b0 : decide (x6_1 < (l1.length : Int)) = true := decide_eq_true c6
       clear c6
       have H' := Aside0.mk H
       clear H
       have p136 : 0 ≤ (x6_1 : Int) := of_decide_eq_true (by first | (with_reducible assumption) | assumption)
       have q136 : x6_1 < (l0.length : Int) := of_decide_eq_true (by first | (with_reducible assumption) | assumption)
       obtain ⟨ad136, e136, hx136_0⟩ := Kd.at_int HR0.out x6_1 p136 q136
       cases e136
       replace p136 := eq_true p136
       replace q136 := eq_true q136
       have p137 : 0 ≤ (x6_1 : Int) := of_decide_eq_true (by first | (with_reducible assumption) | assumption)
       have q137 : x6_1 < (l1.length : Int) := of_decide_eq_true (by first | (with_reducible assumption) | assumption)
       obtain ⟨ad137, e137, hx137_0⟩ := Kd.at_int HR1.out x6_1 p137 q137
       cases e137
       replace p137 := eq_true p137
       replace q137 := eq_true q137
       go_wp2
       repeat (go_quiet (fail); try go_wp2)
       go_roundg k1
       case measure => have := HK1.out; omega
       case rel => exact ⟨(((rd l0 x6_1) == (rd l1 x6_1))), (wrap64 (x6_1 + 1)), (by first | rfl | (simp; done) | (simp [*]; done)), (by first | rfl | (simp; done) | (simp [*]; done)), H', ⟨by have := HK1.out; omega⟩, by repeat (first | exact Drawn0.refl _ | apply Drawn0.step)⟩
      ·rw [if_neg c6] at H
       exact absurd H (by simp)
     ·rw [if_neg c5] at H
      exact absurd H (by simp)
    ·rw [if_neg c4] at H
     have c4b0 : decide (x6_1 < (l0.length : Int)) = false := decide_eq_false c4
     clear c4
     obtain rfl := Option.some.inj H
     go_wp2
     repeat (go_quiet (fail); try go_wp2)
     go_ret
     exact ⟨by first | rfl | (simp; done) | (simp [*]; done), by repeat (first | exact Drawn0.refl _ | apply Drawn0.step)⟩
   ·replace c3 := Bool.eq_false_iff.mpr c3
    subst c3
    have H1 : (some false) = some r := by rw [if_neg (show ¬ (false = true) by decide)] at H; exact H
    clear H
    have H := H1
    clear H1
    obtain rfl := Option.some.inj H
    go_wp2
    repeat (go_quiet (fail); try go_wp2)
    go_ret
    exact ⟨by first | rfl | (simp; done) | (simp [*]; done), by repeat (first | exact Drawn0.refl _ | apply Drawn0.step)⟩
def gang_within.f (a0 : Int) (a1 : Int) (a2 : Int) : Option (Bool) := if a1 ≤ a0 then (some (decide (a0 ≤ a2))) else (some false)
set_option maxHeartbeats 8000000 in
set_option maxRecDepth 100000 in
theorem gang_within.calls (a0 : Int) (a1 : Int) (a2 : Int) (r : Bool) (w : World) (h : gang_within.f a0 a1 a2 = some r) :
  Calls Tryd.prog 62 #[.int .i64 a0, .int .i64 a1, .int .i64 a2] w fun e w' => e = .returned (.bool r) ∧ Drawn0 w w' := by
 have H : (if a1 ≤ a0 then (some (decide (a0 ≤ a2))) else (some false)) = some r := h
 clear h
 by_cases c4 : a1 ≤ a0
 ·rw [if_pos c4] at H
  have c4b0 : decide (a1 ≤ a0) = true := decide_eq_true c4
  clear c4
  obtain rfl := Option.some.inj H
  go_enter Tryd.func62, Tryd.ntmps62
  go_wp2
  go_ret
  exact ⟨by first | rfl | (simp; done) | (simp [*]; done), by repeat (first | exact Drawn0.refl _ | apply Drawn0.step)⟩
 ·rw [if_neg c4] at H
  have c4b0 : decide (a1 ≤ a0) = false := decide_eq_false c4
  clear c4
  obtain rfl := Option.some.inj H
  go_enter Tryd.func62, Tryd.ntmps62
  go_wp2
  go_ret
  exact ⟨by first | rfl | (simp; done) | (simp [*]; done), by repeat (first | exact Drawn0.refl _ | apply Drawn0.step)⟩
def gang_isSpan.f (a0_0 : Int) (a0_1 : Int) (a1 : Int) : Option (Bool) := if 1 ≤ a0_0 then (if a0_0 ≤ a0_1 then (if a0_1 ≤ a1 then (some (decide ((wrap64 (a0_1 - a0_0)) ≤ 2))) else (some false)) else (some false)) else (some false)
set_option maxHeartbeats 8000000 in
set_option maxRecDepth 100000 in
theorem gang_isSpan.calls (a0_0 : Int) (a0_1 : Int) (a1 : Int) (r : Bool) (w : World) (h : gang_isSpan.f a0_0 a0_1 a1 = some r) :
  Calls Tryd.prog 67 #[.agg #[.int .i64 a0_0, .int .i64 a0_1], .int .i64 a1] w fun e w' => e = .returned (.bool r) ∧ Below w.heap.size w w' := by
 have hu40 := Tryd.underlying40
 have HB := Aside0.mk (Below.refl w.heap.size w)
 have H : (if 1 ≤ a0_0 then (if a0_0 ≤ a0_1 then (if a0_1 ≤ a1 then (some (decide ((wrap64 (a0_1 - a0_0)) ≤ 2))) else (some false)) else (some false)) else (some false)) = some r := h
 clear h
 by_cases c3 : 1 ≤ a0_0
 ·rw [if_pos c3] at H
  have c3b0 : decide (1 ≤ a0_0) = true := decide_eq_true c3
  clear c3
  by_cases c4 : a0_0 ≤ a0_1
  ·rw [if_pos c4] at H
   have c4b0 : decide (a0_0 ≤ a0_1) = true := decide_eq_true c4
   clear c4
   by_cases c5 : a0_1 ≤ a1
   ·rw [if_pos c5] at H
    have c5b0 : decide (a0_1 ≤ a1) = true := decide_eq_true c5
    clear c5
    obtain rfl := Option.some.inj H
    go_enter Tryd.func67, Tryd.ntmps67
    go_wp2_with (first | ((with_reducible refine gate_dst (N := 2) rfl ?_); refine bx 2 #[.int .i64 a0_0, .int .i64 a0_1] 40 ?_; intro gb138 hg w6 hbox hb; have n0_ := Aside0.mk (below_step (bw HB) hb); have n1_ := Aside0.mk (hbox); have n2_ := Aside0.mk (bz (bw HB) hg); have n3_ := Aside0.mk (bz (bw HB) hg); clear HB; have HB := n0_; have BK138 := n1_; have GW138 := n2_; have GE138 := n3_; clear n0_ n1_ n2_ n3_; clear hb hbox hg; obtain ⟨hcz7_0, hcz7_1, hfz7_0, hfz7_1⟩ := b2 BK138))
    go_ret
    exact ⟨by first | rfl | (simp [errW_none, errW_some] <;> rfl) | (simp [*, errW_none, errW_some] <;> rfl), bw1 HB GE138⟩
   ·rw [if_neg c5] at H
    have c5b0 : decide (a0_1 ≤ a1) = false := decide_eq_false c5
    clear c5
    obtain rfl := Option.some.inj H
    go_enter Tryd.func67, Tryd.ntmps67
    go_wp2_with (first | ((with_reducible refine gate_dst (N := 2) rfl ?_); refine bx 2 #[.int .i64 a0_0, .int .i64 a0_1] 40 ?_; intro gb138 hg w8 hbox hb; have n0_ := Aside0.mk (below_step (bw HB) hb); have n1_ := Aside0.mk (hbox); have n2_ := Aside0.mk (bz (bw HB) hg); have n3_ := Aside0.mk (bz (bw HB) hg); clear HB; have HB := n0_; have BK138 := n1_; have GW138 := n2_; have GE138 := n3_; clear n0_ n1_ n2_ n3_; clear hb hbox hg; obtain ⟨hcz9_0, hcz9_1, hfz9_0, hfz9_1⟩ := b2 BK138))
    go_ret
    exact ⟨by first | rfl | (simp [errW_none, errW_some] <;> rfl) | (simp [*, errW_none, errW_some] <;> rfl), bw1 HB GE138⟩
  ·rw [if_neg c4] at H
   have c4b0 : decide (a0_0 ≤ a0_1) = false := decide_eq_false c4
   clear c4
   obtain rfl := Option.some.inj H
   go_enter Tryd.func67, Tryd.ntmps67
   go_wp2_with (first | ((with_reducible refine gate_dst (N := 2) rfl ?_); refine bx 2 #[.int .i64 a0_0, .int .i64 a0_1] 40 ?_; intro gb138 hg w10 hbox hb; have n0_ := Aside0.mk (below_step (bw HB) hb); have n1_ := Aside0.mk (hbox); have n2_ := Aside0.mk (bz (bw HB) hg); have n3_ := Aside0.mk (bz (bw HB) hg); clear HB; have HB := n0_; have BK138 := n1_; have GW138 := n2_; have GE138 := n3_; clear n0_ n1_ n2_ n3_; clear hb hbox hg; obtain ⟨hcz11_0, hcz11_1, hfz11_0, hfz11_1⟩ := b2 BK138))
   go_ret
   exact ⟨by first | rfl | (simp [errW_none, errW_some] <;> rfl) | (simp [*, errW_none, errW_some] <;> rfl), bw1 HB GE138⟩
 ·rw [if_neg c3] at H
  have c3b0 : decide (1 ≤ a0_0) = false := decide_eq_false c3
  clear c3
  obtain rfl := Option.some.inj H
  go_enter Tryd.func67, Tryd.ntmps67
  go_wp2_with (first | ((with_reducible refine gate_dst (N := 2) rfl ?_); refine bx 2 #[.int .i64 a0_0, .int .i64 a0_1] 40 ?_; intro gb138 hg w12 hbox hb; have n0_ := Aside0.mk (below_step (bw HB) hb); have n1_ := Aside0.mk (hbox); have n2_ := Aside0.mk (bz (bw HB) hg); have n3_ := Aside0.mk (bz (bw HB) hg); clear HB; have HB := n0_; have BK138 := n1_; have GW138 := n2_; have GE138 := n3_; clear n0_ n1_ n2_ n3_; clear hb hbox hg; obtain ⟨hcz13_0, hcz13_1, hfz13_0, hfz13_1⟩ := b2 BK138))
  go_ret
  exact ⟨by first | rfl | (simp [errW_none, errW_some] <;> rfl) | (simp [*, errW_none, errW_some] <;> rfl), bw1 HB GE138⟩
end Go.Proofs.YtikfghnkbgdbgaaDoor.Q
end
section
namespace Go.Proofs.YtikfghnkbgdbgaaDoor.Q
open Go.RowKit Go.Proofs.YtikfghnkbgdbgaaDoorW.PrintWords Go.Proofs.YtikfghnkbgdbgaaDoorW.PrintLast Go.Proofs.YtikfghnkbgdbgaaDoorW.PrintMore
attribute [local go_sem] max2_int min2_int max_two min_two max_three min_three max_four min_four   -- for this text's walks alone
set_option linter.unusedVariables false
set_option linter.unusedSimpArgs false
mutual
def gang_Check.j0 : Nat → Bool → List (S66) → List (S63) → Int → Option (Int)
 | 0, _, _, _, _ => none
 | k + 1, x3, x140000, x140001, x140002 => gang_Check.l0 k x3 x140000 (x140000.length : Int) 0 x140000 x140001 x140002
def gang_Check.l0 : Nat → Bool → List (S66) → Int → Int → List (S66) → List (S63) → Int → Option (Int)
 | 0, _, _, _, _, _, _, _ => none
 | k + 1, x3, x24, x25, x26, x140000, x140001, x140002 => if x26 < x25 then (if 0 ≤ x26 then (if x26 < (x24.length : Int) then (if x3 = true then ((gang_isSpan.f ((rd_T66 x24 x26).f0.f0) ((rd_T66 x24 x26).f0.f1) 6).bind fun t145 => (if t145 = true then ((gang_within.f ((rd_T66 x24 x26).f1) 0 15).bind fun t146 => (gang_Check.l0 k t146 x24 x25 (wrap64 (x26 + 1)) x140000 x140001 x140002)) else (gang_Check.l0 k false x24 x25 (wrap64 (x26 + 1)) x140000 x140001 x140002))) else (gang_Check.l0 k false x24 x25 (wrap64 (x26 + 1)) x140000 x140001 x140002)) else (none)) else (none)) else (gang_Check.l1 k x3 x140001 (x140001.length : Int) 0 x140000 x140001 x140002)
def gang_Check.l1 : Nat → Bool → List (S63) → Int → Int → List (S66) → List (S63) → Int → Option (Int)
 | 0, _, _, _, _, _, _, _ => none
 | k + 1, x3, x43, x44, x45, x140000, x140001, x140002 => if x45 < x44 then (if 0 ≤ x45 then (if x45 < (x43.length : Int) then (if x3 = true then ((gang_within.f ((rd_T63 x43 x45).f0) 0 ((rd_T63 x43 x45).f1)).bind fun t149 => (if t149 = true then (if ((rd_T63 x43 x45).f1) < (x140000.length : Int) then ((gang_isSpan.f ((rd_T63 x43 x45).f2.f0) ((rd_T63 x43 x45).f2.f1) 3).bind fun t150 => (gang_Check.l1 k t150 x43 x44 (wrap64 (x45 + 1)) x140000 x140001 x140002)) else (gang_Check.l1 k false x43 x44 (wrap64 (x45 + 1)) x140000 x140001 x140002)) else (gang_Check.l1 k false x43 x44 (wrap64 (x45 + 1)) x140000 x140001 x140002))) else (gang_Check.l1 k false x43 x44 (wrap64 (x45 + 1)) x140000 x140001 x140002)) else (none)) else (none)) else (if x3 = true then (some 0) else (some 40))
end
def gang_Check.f (k : Nat) (l0_0 : List (S66)) (l0_1 : List (S63)) (a0_2 : Int) : Option (Int) := (gang_within.f (l0_0.length : Int) 1 4).bind fun t140 => (if t140 = true then ((gang_within.f (l0_1.length : Int) 1 2).bind fun t141 => (if t141 = true then ((gang_within.f a0_2 1 4).bind fun t142 => (gang_Check.j0 k t142 l0_0 l0_1 a0_2)) else (gang_Check.j0 k false l0_0 l0_1 a0_2))) else (gang_Check.j0 k false l0_0 l0_1 a0_2))
set_option maxHeartbeats 8000000 in
set_option maxRecDepth 100000 in
theorem gang_Check.calls (k : Nat) (A0_0 : Option Addr) (c0_0 : Nat) (l0_0 : List (S66)) (A0_1 : Option Addr) (c0_1 : Nat) (l0_1 : List (S63)) (a0_2 : Int) (r : Int) (w : World) (hr0_0 : Kd.C k66 w A0_0 l0_0.length l0_0) (hc0_0 : l0_0.length ≤ c0_0) (hr0_1 : Kd.C k63 w A0_1 l0_1.length l0_1) (hc0_1 : l0_1.length ≤ c0_1) (h : gang_Check.f k l0_0 l0_1 a0_2 = some r) :
  Calls Tryd.prog 18 #[.agg #[.slice A0_0 l0_0.length c0_0, .slice A0_1 l0_1.length c0_1, .int .i64 a0_2]] w fun e w' => e = .returned (.int .i64 r) ∧ Below w.heap.size w w' := by
 have hu25 := Tryd.underlying25
 have hu66 := Tryd.underlying66
 have hu40 := Tryd.underlying40
 have hu63 := Tryd.underlying63
 have HR0_0 := Aside0.mk hr0_0
 have HC0_0 := Aside0.mk hc0_0
 clear hr0_0 hc0_0
 have HR0_1 := Aside0.mk hr0_1
 have HC0_1 := Aside0.mk hc0_1
 clear hr0_1 hc0_1
 have HB := Aside0.mk (Below.refl w.heap.size w)
 have H : ((gang_within.f (l0_0.length : Int) 1 4).bind fun t140 => (if t140 = true then ((gang_within.f (l0_1.length : Int) 1 2).bind fun t141 => (if t141 = true then ((gang_within.f a0_2 1 4).bind fun t142 => (gang_Check.j0 k t142 l0_0 l0_1 a0_2)) else (gang_Check.j0 k false l0_0 l0_1 a0_2))) else (gang_Check.j0 k false l0_0 l0_1 a0_2))) = some r := h
 clear h
 have HC2 := Aside0.mk H
 clear H
 go_enter Tryd.func18, Tryd.ntmps18
 go_upto_region 1 with (first | ((with_reducible refine gate_dst (N := 1) rfl ?_); (try (refine gate_guard (by rfl) ?_; dsimp only)); refine bx 1 #[.slice A0_0 l0_0.length c0_0, .slice A0_1 l0_1.length c0_1, .int .i64 a0_2] 25 ?_; intro gb139 hg w3 hbox hb; have n0_ := Aside0.mk (below_step (bw HB) hb); have n1_ := Aside0.mk (hbox); have n2_ := Aside0.mk (bz (bw HB) hg); have n3_ := Aside0.mk (bz (bw HB) hg); clear HB; have HB := n0_; have BK139 := n1_; have GW139 := n2_; have GE139 := n3_; clear n0_ n1_ n2_ n3_; clear hb hbox hg))
 (try simp only [Act.put, List.setIfInBounds_toArray, List.set_cons_zero, List.set_cons_succ])
 go_cut [3] (fun v3 wc => ∃ (kq : Nat) (x3_1 : Bool), v3 = .bool x3_1 ∧ Aside0 (gang_Check.j0 kq x3_1 l0_0 l0_1 a0_2 = some r) ∧ Aside0 (kq ≤ k) ∧ Aside0 (wc.heap[gb139]? = some (.cells #[(.slice A0_0 l0_0.length c0_0), (.slice A0_1 l0_1.length c0_1), .int .i64 a0_2] 25 (0, 0))) ∧ Aside0 (Below w.heap.size w wc))
 case first =>
  have H := HC2.out
  clear HC2
  replace H := Option.bind_eq_some_iff.mp H
  obtain ⟨t140, A40, H⟩ := H
  replace H : (if t140 = true then ((gang_within.f (l0_1.length : Int) 1 2).bind fun t141 => (if t141 = true then ((gang_within.f a0_2 1 4).bind fun t142 => (gang_Check.j0 k t142 l0_0 l0_1 a0_2)) else (gang_Check.j0 k false l0_0 l0_1 a0_2))) else (gang_Check.j0 k false l0_0 l0_1 a0_2)) = some r := H
  have A4 := Aside0.mk A40
  clear A40
  by_cases c5 : t140 = true
  ·subst c5
   have H1 : ((gang_within.f (l0_1.length : Int) 1 2).bind fun t141 => (if t141 = true then ((gang_within.f a0_2 1 4).bind fun t142 => (gang_Check.j0 k t142 l0_0 l0_1 a0_2)) else (gang_Check.j0 k false l0_0 l0_1 a0_2))) = some r := by rw [if_pos rfl] at H; exact H
   clear H
   have H := H1
   clear H1
   replace H := Option.bind_eq_some_iff.mp H
   obtain ⟨t141, A60, H⟩ := H
   replace H : (if t141 = true then ((gang_within.f a0_2 1 4).bind fun t142 => (gang_Check.j0 k t142 l0_0 l0_1 a0_2)) else (gang_Check.j0 k false l0_0 l0_1 a0_2)) = some r := H
   have A6 := Aside0.mk A60
   clear A60
   by_cases c7 : t141 = true
   ·subst c7
    have H1 : ((gang_within.f a0_2 1 4).bind fun t142 => (gang_Check.j0 k t142 l0_0 l0_1 a0_2)) = some r := by rw [if_pos rfl] at H; exact H
    clear H
    have H := H1
    clear H1
    replace H := Option.bind_eq_some_iff.mp H
    obtain ⟨t142, A80, H⟩ := H
    replace H : (gang_Check.j0 k t142 l0_0 l0_1 a0_2) = some r := H
    have A8 := Aside0.mk A80
    clear A80
    have H' := Aside0.mk H
    clear H
    obtain ⟨hcz9_0, hcz9_1, hcz9_2, hfz9_0, hfz9_1, hfz9_2⟩ := b3 BK139
    go_wp2_with (first | ((with_reducible refine gate_callee (f := 62) rfl ?_); refine gL (some 11) Tryd.func62 #[.int .i64 (l0_0.length : Int), .int .i64 1, .int .i64 4] ?_; (with_reducible refine (gang_within.calls (l0_0.length : Int) 1 4 true _ A4.out).mono ?_); rintro e w' ⟨rfl, ⟨nd, rfl⟩⟩; refine ⟨_, rfl, ?_⟩) | (go_at_call 62; (with_reducible refine (gang_within.calls (l0_1.length : Int) 1 2 true _ A6.out).mono ?_); rintro e w' ⟨rfl, ⟨nd, rfl⟩⟩) | (go_at_call 62; (with_reducible refine (gang_within.calls a0_2 1 4 t142 _ A8.out).mono ?_); rintro e w' ⟨rfl, ⟨nd, rfl⟩⟩))
    go_meet
    case rel => exact ⟨_, (t142), (by first | rfl | (simp; done) | (simp [*]; done)), H', ⟨by first | omega | exact Nat.le_refl _⟩, ⟨bm BK139⟩, ⟨bw1 HB GE139⟩⟩
   ·replace c7 := Bool.eq_false_iff.mpr c7
    subst c7
    have H1 : (gang_Check.j0 k false l0_0 l0_1 a0_2) = some r := by rw [if_neg (show ¬ (false = true) by decide)] at H; exact H
    clear H
    have H := H1
    clear H1
    have H' := Aside0.mk H
    clear H
    obtain ⟨hcz10_0, hcz10_1, hcz10_2, hfz10_0, hfz10_1, hfz10_2⟩ := b3 BK139
    go_wp2_with (first | ((with_reducible refine gate_callee (f := 62) rfl ?_); refine gL (some 11) Tryd.func62 #[.int .i64 (l0_0.length : Int), .int .i64 1, .int .i64 4] ?_; (with_reducible refine (gang_within.calls (l0_0.length : Int) 1 4 true _ A4.out).mono ?_); rintro e w' ⟨rfl, ⟨nd, rfl⟩⟩; refine ⟨_, rfl, ?_⟩) | (go_at_call 62; (with_reducible refine (gang_within.calls (l0_1.length : Int) 1 2 false _ A6.out).mono ?_); rintro e w' ⟨rfl, ⟨nd, rfl⟩⟩))
    go_meet
    case rel => exact ⟨_, (false), (by first | rfl | (simp; done) | (simp [*]; done)), H', ⟨by first | omega | exact Nat.le_refl _⟩, ⟨bm BK139⟩, ⟨bw1 HB GE139⟩⟩
  ·replace c5 := Bool.eq_false_iff.mpr c5
   subst c5
   have H1 : (gang_Check.j0 k false l0_0 l0_1 a0_2) = some r := by rw [if_neg (show ¬ (false = true) by decide)] at H; exact H
   clear H
   have H := H1
   clear H1
   have H' := Aside0.mk H
   clear H
   obtain ⟨hcz11_0, hcz11_1, hcz11_2, hfz11_0, hfz11_1, hfz11_2⟩ := b3 BK139
   go_wp2_with (first | ((with_reducible refine gate_callee (f := 62) rfl ?_); refine gL (some 11) Tryd.func62 #[.int .i64 (l0_0.length : Int), .int .i64 1, .int .i64 4] ?_; (with_reducible refine (gang_within.calls (l0_0.length : Int) 1 4 false _ A4.out).mono ?_); rintro e w' ⟨rfl, ⟨nd, rfl⟩⟩; refine ⟨_, rfl, ?_⟩))
   go_meet
   case rel => exact ⟨_, (false), (by first | rfl | (simp; done) | (simp [*]; done)), H', ⟨by first | omega | exact Nat.le_refl _⟩, ⟨bm BK139⟩, ⟨bw1 HB GE139⟩⟩
 case rest =>
  clear HC2
  try clear c1
  try clear p2
  try clear c5
  try clear c6
  try clear c7
  try clear hcz10_0
  try clear hcz10_1
  try clear hcz10_2
  try clear hcz11_0
  try clear hcz11_1
  try clear hcz11_2
  try clear hcz9_0
  try clear hcz9_1
  try clear hcz9_2
  try clear hfz10_0
  try clear hfz10_1
  try clear hfz10_2
  try clear hfz11_0
  try clear hfz11_1
  try clear hfz11_2
  try clear hfz9_0
  try clear hfz9_1
  try clear hfz9_2
  obtain ⟨kq, x3_1, rfl, HA, HJ1, BK139, HB⟩ := hcut
  cases kq with
  | zero => exact absurd HA.out (by simp [gang_Check.j0])
  | succ kj1 =>
   have H := HA.out
   clear HA
   simp only [gang_Check.j0] at H
   have H' := Aside0.mk H
   clear H
   obtain ⟨hcz12_0, hcz12_1, hcz12_2, hfz12_0, hfz12_1, hfz12_2⟩ := b3 BK139
   go_wp2
   go_loopg [3, 26] kj1 (fun kq v3 v26 w' => ∃ (x3_2 : Bool) (x26_2 : Int), v3 = .bool x3_2 ∧ v26 = .int .i64 x26_2 ∧ Aside0 (gang_Check.l0 kq x3_2 l0_0 (l0_0.length : Int) x26_2 l0_0 l0_1 a0_2 = some r) ∧ Aside0 (kq ≤ kj1) ∧ Aside0 (w'.heap[gb139]? = some (.cells #[(.slice A0_0 l0_0.length c0_0), (.slice A0_1 l0_1.length c0_1), .int .i64 a0_2] 25 (0, 0))) ∧ Aside0 (Below w.heap.size w w'))
   case atStart => exact ⟨(x3_1), (0), (by first | rfl | (simp; done) | (simp [*]; done)), (by first | rfl | (simp; done) | (simp [*]; done)), H', ⟨Nat.le_refl _⟩, ⟨bm BK139⟩, ⟨bw1 HB GE139⟩⟩
   case round =>
    clear H'
    try clear c1
    try clear p2
    try clear c5
    try clear c6
    try clear c7
    try clear hcz10_0
    try clear hcz10_1
    try clear hcz10_2
    try clear hcz11_0
    try clear hcz11_1
    try clear hcz11_2
    try clear hcz12_0
    try clear hcz12_1
    try clear hcz12_2
    try clear hcz9_0
    try clear hcz9_1
    try clear hcz9_2
    try clear hfz10_0
    try clear hfz10_1
    try clear hfz10_2
    try clear hfz11_0
    try clear hfz11_1
    try clear hfz11_2
    try clear hfz12_0
    try clear hfz12_1
    try clear hfz12_2
    try clear hfz9_0
    try clear hfz9_1
    try clear hfz9_2
    try clear p2
    obtain ⟨x3_2, x26_2, rfl, rfl, HA, HK2, BK139, HB⟩ := hrel
    cases gk with
    | zero => exact absurd HA.out (by simp [gang_Check.l0])
    | succ k2 =>
     have H := HA.out
     clear HA
     simp only [gang_Check.l0] at H
     by_cases c13 : x26_2 < (l0_0.length : Int)
     ·rw [if_pos c13] at H
      have c13b0 : decide (x26_2 < (l0_0.length : Int)) = true := decide_eq_true c13
      clear c13
      by_cases c14 : 0 ≤ x26_2
      ·rw [if_pos c14] at H
       have c14b0 : decide (0 ≤ x26_2) = true := decide_eq_true c14
       clear c14
       by_cases c15 : x26_2 < (l0_0.length : Int)
       ·rw [if_pos c15] at H
        have c15b0 : decide (x26_2 < (l0_0.length : Int)) = true := decide_eq_true c15
        clear c15
        by_cases c16 : x3_2 = true
        ·subst c16
         have H1 : ((gang_isSpan.f ((rd_T66 l0_0 x26_2).f0.f0) ((rd_T66 l0_0 x26_2).f0.f1) 6).bind fun t145 => (if t145 = true then ((gang_within.f ((rd_T66 l0_0 x26_2).f1) 0 15).bind fun t146 => (gang_Check.l0 k2 t146 l0_0 (l0_0.length : Int) (wrap64 (x26_2 + 1)) l0_0 l0_1 a0_2)) else (gang_Check.l0 k2 false l0_0 (l0_0.length : Int) (wrap64 (x26_2 + 1)) l0_0 l0_1 a0_2))) = some r := by rw [if_pos rfl] at H; exact H
         clear H
         have H := H1
         clear H1
         replace H := Option.bind_eq_some_iff.mp H
         obtain ⟨t145, A170, H⟩ := H
         replace H : (if t145 = true then ((gang_within.f ((rd_T66 l0_0 x26_2).f1) 0 15).bind fun t146 => (gang_Check.l0 k2 t146 l0_0 (l0_0.length : Int) (wrap64 (x26_2 + 1)) l0_0 l0_1 a0_2)) else (gang_Check.l0 k2 false l0_0 (l0_0.length : Int) (wrap64 (x26_2 + 1)) l0_0 l0_1 a0_2)) = some r := H
         have A17 := Aside0.mk A170
         clear A170
         by_cases c18 : t145 = true
         ·subst c18
          have H1 : ((gang_within.f ((rd_T66 l0_0 x26_2).f1) 0 15).bind fun t146 => (gang_Check.l0 k2 t146 l0_0 (l0_0.length : Int) (wrap64 (x26_2 + 1)) l0_0 l0_1 a0_2)) = some r := by rw [if_pos rfl] at H; exact H
          clear H
          have H := H1
          clear H1
          replace H := Option.bind_eq_some_iff.mp H
          obtain ⟨t146, A190, H⟩ := H
          replace H : (gang_Check.l0 k2 t146 l0_0 (l0_0.length : Int) (wrap64 (x26_2 + 1)) l0_0 l0_1 a0_2) = some r := H
          have A19 := Aside0.mk A190
          clear A190
          have H' := Aside0.mk H
          clear H
          have p143 : 0 ≤ (x26_2 : Int) := of_decide_eq_true (by first | (with_reducible assumption) | assumption)
          have q143 : x26_2 < (l0_0.length : Int) := of_decide_eq_true (by first | (with_reducible assumption) | assumption)
          obtain ⟨ad143, e143, hx143_0, hx143_1, hx143_2⟩ := at_T66 HR0_0.out x26_2 p143 q143
          cases e143
          replace hx143_0 := cB HB hx143_0
          replace hx143_1 := cB HB hx143_1
          replace hx143_2 := cB HB hx143_2
          replace p143 := eq_true p143
          replace q143 := eq_true q143
          go_wp2_with (first | ((with_reducible refine gate_dst (N := 5) rfl ?_); (try (refine gate_guard (by rfl) ?_; dsimp only)); refine bx 5 #[.int .i64 0, .int .i64 0, .int .i64 0] 66 ?_; intro gb144 hg w20 hbox hb; have n0_ := Aside0.mk (blk_below (bm BK139) hb); have n1_ := Aside0.mk (below_step (bw1 HB GE139) hb); have n2_ := Aside0.mk (hbox); have n3_ := Aside0.mk (bz (bw1 HB GE139) hg); have n4_ := Aside0.mk (bz (bw1 HB GE139) hg); have n5_ := Aside0.mk (bl (bm BK139) hg); have n6_ := Aside0.mk (bg (bm BK139) hg); clear BK139; clear HB; have BK139 := n0_; have HB := n1_; have BK144 := n2_; have GW144 := n3_; have GE144 := n4_; have NB139_144 := n5_; have NB144_139 := n6_; clear n0_ n1_ n2_ n3_ n4_ n5_ n6_; clear hb hbox hg; have hnb21 := NB144_139.out; have hnc21 := NB139_144.out; obtain ⟨hcz22_0, hcz22_1, hcz22_2, hfz22_0, hfz22_1, hfz22_2⟩ := b3 BK144) | (go_at_call 67; (with_reducible refine (gang_isSpan.calls ((rd_T66 l0_0 x26_2).f0.f0) ((rd_T66 l0_0 x26_2).f0.f1) 6 true _ A17.out).mono ?_); rintro e w23 ⟨rfl, hb⟩; have n0_ := Aside0.mk (blk_below (g := gb139) (o := .cells #[.slice (some ad143) l0_0.length c0_0, .slice A0_1 l0_1.length c0_1, .int .i64 a0_2] 25 (0, 0)) (by (with_reducible repeat (first | refine blk_drewN ?_ _ | refine blk_drew ?_ | refine blk_alloc ?_ _)); refine blk_far ?_ NB139_144.out _; (with_reducible repeat (first | refine blk_drewN ?_ _ | refine blk_drew ?_ | refine blk_alloc ?_ _)); refine blk_far ?_ NB139_144.out _; (with_reducible repeat (first | refine blk_drewN ?_ _ | refine blk_drew ?_ | refine blk_alloc ?_ _)); refine blk_far ?_ NB139_144.out _; (with_reducible repeat (first | refine blk_drewN ?_ _ | refine blk_drew ?_ | refine blk_alloc ?_ _)); exact BK139.out) hb); have n1_ := Aside0.mk (blk_below (g := gb144) (o := .cells #[.int .i64 ((rd_T66 l0_0 x26_2).f0.f0), .int .i64 ((rd_T66 l0_0 x26_2).f0.f1), .int .i64 ((rd_T66 l0_0 x26_2).f1)] 66 (0, 0)) (by (with_reducible repeat (first | refine blk_drewN ?_ _ | refine blk_drew ?_ | refine blk_alloc ?_ _)); refine blk_put (cs := #[.int .i64 ((rd_T66 l0_0 x26_2).f0.f0), .int .i64 ((rd_T66 l0_0 x26_2).f0.f1), .int .i64 0]) ?_ 2 _ rfl; (with_reducible repeat (first | refine blk_drewN ?_ _ | refine blk_drew ?_ | refine blk_alloc ?_ _)); refine blk_put (cs := #[.int .i64 ((rd_T66 l0_0 x26_2).f0.f0), .int .i64 0, .int .i64 0]) ?_ 1 _ rfl; (with_reducible repeat (first | refine blk_drewN ?_ _ | refine blk_drew ?_ | refine blk_alloc ?_ _)); refine blk_put (cs := #[.int .i64 0, .int .i64 0, .int .i64 0]) ?_ 0 _ rfl; (with_reducible repeat (first | refine blk_drewN ?_ _ | refine blk_drew ?_ | refine blk_alloc ?_ _)); exact BK144.out) hb); have n2_ := Aside0.mk (below_step (bw2 HB GE139 GE144) hb); clear BK139; clear BK144; clear HB; have BK139 := n0_; have BK144 := n1_; have HB := n2_; clear n0_ n1_ n2_; (try clear hb); (try clear hb2); (try clear hk); (try clear hi); obtain ⟨hcz24_0, hcz24_1, hcz24_2, hfz24_0, hfz24_1, hfz24_2⟩ := b3 BK144) | (go_at_call 62; (with_reducible refine (gang_within.calls ((rd_T66 l0_0 x26_2).f1) 0 15 t146 _ A19.out).mono ?_); rintro e w' ⟨rfl, ⟨nd, rfl⟩⟩))
          go_roundg k2
          case measure => have := HJ1.out; have := HK2.out; omega
          case rel => exact ⟨(t146), (wrap64 (x26_2 + 1)), (by first | rfl | (simp; done) | (simp [*]; done)), (by first | rfl | (simp; done) | (simp [*]; done)), H', ⟨by have := HJ1.out; have := HK2.out; omega⟩, ⟨bm BK139⟩, ⟨bw2 HB GE139 GE144⟩⟩
         ·replace c18 := Bool.eq_false_iff.mpr c18
          subst c18
          have H1 : (gang_Check.l0 k2 false l0_0 (l0_0.length : Int) (wrap64 (x26_2 + 1)) l0_0 l0_1 a0_2) = some r := by rw [if_neg (show ¬ (false = true) by decide)] at H; exact H
          clear H
          have H := H1
          clear H1
          have H' := Aside0.mk H
          clear H
          have p143 : 0 ≤ (x26_2 : Int) := of_decide_eq_true (by first | (with_reducible assumption) | assumption)
          have q143 : x26_2 < (l0_0.length : Int) := of_decide_eq_true (by first | (with_reducible assumption) | assumption)
          obtain ⟨ad143, e143, hx143_0, hx143_1, hx143_2⟩ := at_T66 HR0_0.out x26_2 p143 q143
          cases e143
          replace hx143_0 := cB HB hx143_0
          replace hx143_1 := cB HB hx143_1
          replace hx143_2 := cB HB hx143_2
          replace p143 := eq_true p143
          replace q143 := eq_true q143
          go_wp2_with (first | ((with_reducible refine gate_dst (N := 5) rfl ?_); (try (refine gate_guard (by rfl) ?_; dsimp only)); refine bx 5 #[.int .i64 0, .int .i64 0, .int .i64 0] 66 ?_; intro gb144 hg w25 hbox hb; have n0_ := Aside0.mk (blk_below (bm BK139) hb); have n1_ := Aside0.mk (below_step (bw1 HB GE139) hb); have n2_ := Aside0.mk (hbox); have n3_ := Aside0.mk (bz (bw1 HB GE139) hg); have n4_ := Aside0.mk (bz (bw1 HB GE139) hg); have n5_ := Aside0.mk (bl (bm BK139) hg); have n6_ := Aside0.mk (bg (bm BK139) hg); clear BK139; clear HB; have BK139 := n0_; have HB := n1_; have BK144 := n2_; have GW144 := n3_; have GE144 := n4_; have NB139_144 := n5_; have NB144_139 := n6_; clear n0_ n1_ n2_ n3_ n4_ n5_ n6_; clear hb hbox hg; have hnb26 := NB144_139.out; have hnc26 := NB139_144.out; obtain ⟨hcz27_0, hcz27_1, hcz27_2, hfz27_0, hfz27_1, hfz27_2⟩ := b3 BK144) | (go_at_call 67; (with_reducible refine (gang_isSpan.calls ((rd_T66 l0_0 x26_2).f0.f0) ((rd_T66 l0_0 x26_2).f0.f1) 6 false _ A17.out).mono ?_); rintro e w28 ⟨rfl, hb⟩; have n0_ := Aside0.mk (blk_below (g := gb139) (o := .cells #[.slice (some ad143) l0_0.length c0_0, .slice A0_1 l0_1.length c0_1, .int .i64 a0_2] 25 (0, 0)) (by (with_reducible repeat (first | refine blk_drewN ?_ _ | refine blk_drew ?_ | refine blk_alloc ?_ _)); refine blk_far ?_ NB139_144.out _; (with_reducible repeat (first | refine blk_drewN ?_ _ | refine blk_drew ?_ | refine blk_alloc ?_ _)); refine blk_far ?_ NB139_144.out _; (with_reducible repeat (first | refine blk_drewN ?_ _ | refine blk_drew ?_ | refine blk_alloc ?_ _)); refine blk_far ?_ NB139_144.out _; (with_reducible repeat (first | refine blk_drewN ?_ _ | refine blk_drew ?_ | refine blk_alloc ?_ _)); exact BK139.out) hb); have n1_ := Aside0.mk (blk_below (g := gb144) (o := .cells #[.int .i64 ((rd_T66 l0_0 x26_2).f0.f0), .int .i64 ((rd_T66 l0_0 x26_2).f0.f1), .int .i64 ((rd_T66 l0_0 x26_2).f1)] 66 (0, 0)) (by (with_reducible repeat (first | refine blk_drewN ?_ _ | refine blk_drew ?_ | refine blk_alloc ?_ _)); refine blk_put (cs := #[.int .i64 ((rd_T66 l0_0 x26_2).f0.f0), .int .i64 ((rd_T66 l0_0 x26_2).f0.f1), .int .i64 0]) ?_ 2 _ rfl; (with_reducible repeat (first | refine blk_drewN ?_ _ | refine blk_drew ?_ | refine blk_alloc ?_ _)); refine blk_put (cs := #[.int .i64 ((rd_T66 l0_0 x26_2).f0.f0), .int .i64 0, .int .i64 0]) ?_ 1 _ rfl; (with_reducible repeat (first | refine blk_drewN ?_ _ | refine blk_drew ?_ | refine blk_alloc ?_ _)); refine blk_put (cs := #[.int .i64 0, .int .i64 0, .int .i64 0]) ?_ 0 _ rfl; (with_reducible repeat (first | refine blk_drewN ?_ _ | refine blk_drew ?_ | refine blk_alloc ?_ _)); exact BK144.out) hb); have n2_ := Aside0.mk (below_step (bw2 HB GE139 GE144) hb); clear BK139; clear BK144; clear HB; have BK139 := n0_; have BK144 := n1_; have HB := n2_; clear n0_ n1_ n2_; (try clear hb); (try clear hb2); (try clear hk); (try clear hi)))
          go_roundg k2
          case measure => have := HJ1.out; have := HK2.out; omega
          case rel => exact ⟨(false), (wrap64 (x26_2 + 1)), (by first | rfl | (simp; done) | (simp [*]; done)), (by first | rfl | (simp; done) | (simp [*]; done)), H', ⟨by have := HJ1.out; have := HK2.out; omega⟩, ⟨bm BK139⟩, ⟨bw2 HB GE139 GE144⟩⟩
        ·replace c16 := Bool.eq_false_iff.mpr c16
         subst c16
         have H1 : (gang_Check.l0 k2 false l0_0 (l0_0.length : Int) (wrap64 (x26_2 + 1)) l0_0 l0_1 a0_2) = some r := by rw [if_neg (show ¬ (false = true) by decide)] at H; exact H
         clear H
         have H := H1
         clear H1
         have H' := Aside0.mk H
         clear H
         have p143 : 0 ≤ (x26_2 : Int) := of_decide_eq_true (by first | (with_reducible assumption) | assumption)
         have q143 : x26_2 < (l0_0.length : Int) := of_decide_eq_true (by first | (with_reducible assumption) | assumption)
         obtain ⟨ad143, e143, hx143_0, hx143_1, hx143_2⟩ := at_T66 HR0_0.out x26_2 p143 q143
         cases e143
         replace hx143_0 := cB HB hx143_0
         replace hx143_1 := cB HB hx143_1
         replace hx143_2 := cB HB hx143_2
         replace p143 := eq_true p143
         replace q143 := eq_true q143
         go_wp2_with (first | ((with_reducible refine gate_dst (N := 5) rfl ?_); (try (refine gate_guard (by rfl) ?_; dsimp only)); refine bx 5 #[.int .i64 0, .int .i64 0, .int .i64 0] 66 ?_; intro gb144 hg w29 hbox hb; have n0_ := Aside0.mk (blk_below (bm BK139) hb); have n1_ := Aside0.mk (below_step (bw1 HB GE139) hb); have n2_ := Aside0.mk (hbox); have n3_ := Aside0.mk (bz (bw1 HB GE139) hg); have n4_ := Aside0.mk (bz (bw1 HB GE139) hg); have n5_ := Aside0.mk (bl (bm BK139) hg); have n6_ := Aside0.mk (bg (bm BK139) hg); clear BK139; clear HB; have BK139 := n0_; have HB := n1_; have BK144 := n2_; have GW144 := n3_; have GE144 := n4_; have NB139_144 := n5_; have NB144_139 := n6_; clear n0_ n1_ n2_ n3_ n4_ n5_ n6_; clear hb hbox hg; have hnb30 := NB144_139.out; have hnc30 := NB139_144.out; obtain ⟨hcz31_0, hcz31_1, hcz31_2, hfz31_0, hfz31_1, hfz31_2⟩ := b3 BK144))
         go_roundg k2
         case measure => have := HJ1.out; have := HK2.out; omega
         case rel => exact ⟨(false), (wrap64 (x26_2 + 1)), (by first | rfl | (simp; done) | (simp [*]; done)), (by first | rfl | (simp; done) | (simp [*]; done)), H', ⟨by have := HJ1.out; have := HK2.out; omega⟩, ⟨by (with_reducible repeat (first | refine blk_drewN ?_ _ | refine blk_drew ?_ | refine blk_alloc ?_ _)); refine blk_far ?_ NB139_144.out _; (with_reducible repeat (first | refine blk_drewN ?_ _ | refine blk_drew ?_ | refine blk_alloc ?_ _)); refine blk_far ?_ NB139_144.out _; (with_reducible repeat (first | refine blk_drewN ?_ _ | refine blk_drew ?_ | refine blk_alloc ?_ _)); refine blk_far ?_ NB139_144.out _; (with_reducible repeat (first | refine blk_drewN ?_ _ | refine blk_drew ?_ | refine blk_alloc ?_ _)); exact BK139.out⟩, ⟨bw2 HB GE139 GE144⟩⟩
       ·rw [if_neg c15] at H
        exact absurd H (by simp)
      ·rw [if_neg c14] at H
       exact absurd H (by simp)
     ·rw [if_neg c13] at H
      have c13b0 : decide (x26_2 < (l0_0.length : Int)) = false := decide_eq_false c13
      clear c13
      have H' := Aside0.mk H
      clear H
      obtain ⟨hcz32_0, hcz32_1, hcz32_2, hfz32_0, hfz32_1, hfz32_2⟩ := b3 BK139
      go_wp2
      go_loopg [3, 45] k2 (fun kq v3 v45 w' => ∃ (x3_3 : Bool) (x45_3 : Int), v3 = .bool x3_3 ∧ v45 = .int .i64 x45_3 ∧ Aside0 (gang_Check.l1 kq x3_3 l0_1 (l0_1.length : Int) x45_3 l0_0 l0_1 a0_2 = some r) ∧ Aside0 (kq ≤ k2) ∧ Aside0 (w'.heap[gb139]? = some (.cells #[(.slice A0_0 l0_0.length c0_0), (.slice A0_1 l0_1.length c0_1), .int .i64 a0_2] 25 (0, 0))) ∧ Aside0 (Below w.heap.size w w'))
      case atStart => exact ⟨(x3_2), (0), (by first | rfl | (simp; done) | (simp [*]; done)), (by first | rfl | (simp; done) | (simp [*]; done)), H', ⟨Nat.le_refl _⟩, ⟨bm BK139⟩, ⟨bw1 HB GE139⟩⟩
      case round =>
       clear H'
       try clear c1
       try clear p1
       try clear q1
       try clear hx1
       try clear c2
       try clear p2
       try clear c3
       try clear c5
       try clear c6
       try clear p6
       try clear c7
       try clear c13
       try clear c13b0
       try clear c14
       try clear c14b0
       try clear p14
       try clear q14
       try clear hx14
       try clear c15
       try clear c15b0
       try clear c16
       try clear c18
       try clear c21
       try clear c26
       try clear c30
       try clear hcz10_0
       try clear hcz10_1
       try clear hcz10_2
       try clear hcz11_0
       try clear hcz11_1
       try clear hcz11_2
       try clear hcz12_0
       try clear hcz12_1
       try clear hcz12_2
       try clear hcz22_0
       try clear hcz22_1
       try clear hcz22_2
       try clear hcz24_0
       try clear hcz24_1
       try clear hcz24_2
       try clear hcz27_0
       try clear hcz27_1
       try clear hcz27_2
       try clear hcz31_0
       try clear hcz31_1
       try clear hcz31_2
       try clear hcz32_0
       try clear hcz32_1
       try clear hcz32_2
       try clear hcz9_0
       try clear hcz9_1
       try clear hcz9_2
       try clear hfz10_0
       try clear hfz10_1
       try clear hfz10_2
       try clear hfz11_0
       try clear hfz11_1
       try clear hfz11_2
       try clear hfz12_0
       try clear hfz12_1
       try clear hfz12_2
       try clear hfz22_0
       try clear hfz22_1
       try clear hfz22_2
       try clear hfz24_0
       try clear hfz24_1
       try clear hfz24_2
       try clear hfz27_0
       try clear hfz27_1
       try clear hfz27_2
       try clear hfz31_0
       try clear hfz31_1
       try clear hfz31_2
       try clear hfz32_0
       try clear hfz32_1
       try clear hfz32_2
       try clear hfz9_0
       try clear hfz9_1
       try clear hfz9_2
       try clear hx143_0
       try clear hx143_1
       try clear hx143_2
       try clear p143
       try clear p2
       try clear q143
       obtain ⟨x3_3, x45_3, rfl, rfl, HA, HK3, BK139, HB⟩ := hrel
       cases gk with
       | zero => exact absurd HA.out (by simp [gang_Check.l1])
       | succ k3 =>
        have H := HA.out
        clear HA
        simp only [gang_Check.l1] at H
        by_cases c33 : x45_3 < (l0_1.length : Int)
        ·rw [if_pos c33] at H
         have c33b0 : decide (x45_3 < (l0_1.length : Int)) = true := decide_eq_true c33
         clear c33
         by_cases c34 : 0 ≤ x45_3
         ·rw [if_pos c34] at H
          have c34b0 : decide (0 ≤ x45_3) = true := decide_eq_true c34
          clear c34
          by_cases c35 : x45_3 < (l0_1.length : Int)
          ·rw [if_pos c35] at H
           have c35b0 : decide (x45_3 < (l0_1.length : Int)) = true := decide_eq_true c35
           clear c35
           by_cases c36 : x3_3 = true
           ·subst c36
            have H1 : ((gang_within.f ((rd_T63 l0_1 x45_3).f0) 0 ((rd_T63 l0_1 x45_3).f1)).bind fun t149 => (if t149 = true then (if ((rd_T63 l0_1 x45_3).f1) < (l0_0.length : Int) then ((gang_isSpan.f ((rd_T63 l0_1 x45_3).f2.f0) ((rd_T63 l0_1 x45_3).f2.f1) 3).bind fun t150 => (gang_Check.l1 k3 t150 l0_1 (l0_1.length : Int) (wrap64 (x45_3 + 1)) l0_0 l0_1 a0_2)) else (gang_Check.l1 k3 false l0_1 (l0_1.length : Int) (wrap64 (x45_3 + 1)) l0_0 l0_1 a0_2)) else (gang_Check.l1 k3 false l0_1 (l0_1.length : Int) (wrap64 (x45_3 + 1)) l0_0 l0_1 a0_2))) = some r := by rw [if_pos rfl] at H; exact H
            clear H
            have H := H1
            clear H1
            replace H := Option.bind_eq_some_iff.mp H
            obtain ⟨t149, A370, H⟩ := H
            replace H : (if t149 = true then (if ((rd_T63 l0_1 x45_3).f1) < (l0_0.length : Int) then ((gang_isSpan.f ((rd_T63 l0_1 x45_3).f2.f0) ((rd_T63 l0_1 x45_3).f2.f1) 3).bind fun t150 => (gang_Check.l1 k3 t150 l0_1 (l0_1.length : Int) (wrap64 (x45_3 + 1)) l0_0 l0_1 a0_2)) else (gang_Check.l1 k3 false l0_1 (l0_1.length : Int) (wrap64 (x45_3 + 1)) l0_0 l0_1 a0_2)) else (gang_Check.l1 k3 false l0_1 (l0_1.length : Int) (wrap64 (x45_3 + 1)) l0_0 l0_1 a0_2)) = some r := H
            have A37 := Aside0.mk A370
            clear A370
            by_cases c38 : t149 = true
            ·subst c38
             have H1 : (if ((rd_T63 l0_1 x45_3).f1) < (l0_0.length : Int) then ((gang_isSpan.f ((rd_T63 l0_1 x45_3).f2.f0) ((rd_T63 l0_1 x45_3).f2.f1) 3).bind fun t150 => (gang_Check.l1 k3 t150 l0_1 (l0_1.length : Int) (wrap64 (x45_3 + 1)) l0_0 l0_1 a0_2)) else (gang_Check.l1 k3 false l0_1 (l0_1.length : Int) (wrap64 (x45_3 + 1)) l0_0 l0_1 a0_2)) = some r := by rw [if_pos rfl] at H; exact H
             clear H
             have H := H1
             clear H1
             by_cases c39 : ((rd_T63 l0_1 x45_3).f1) < (l0_0.length : Int)
             ·rw [if_pos c39] at H
              have c39b0 : decide (((rd_T63 l0_1 x45_3).f1) < (l0_0.length : Int)) = true := decide_eq_true c39
              clear c39
              replace H := Option.bind_eq_some_iff.mp H
              obtain ⟨t150, A400, H⟩ := H
              replace H : (gang_Check.l1 k3 t150 l0_1 (l0_1.length : Int) (wrap64 (x45_3 + 1)) l0_0 l0_1 a0_2) = some r := H
              have A40 := Aside0.mk A400
              clear A400
              have H' := Aside0.mk H
              clear H
              have p147 : 0 ≤ (x45_3 : Int) := of_decide_eq_true (by first | (with_reducible assumption) | assumption)
              have q147 : x45_3 < (l0_1.length : Int) := of_decide_eq_true (by first | (with_reducible assumption) | assumption)
              obtain ⟨ad147, e147, hx147_0, hx147_1, hx147_2, hx147_3⟩ := at_T63 HR0_1.out x45_3 p147 q147
              cases e147
              replace hx147_0 := cB HB hx147_0
              replace hx147_1 := cB HB hx147_1
              replace hx147_2 := cB HB hx147_2
              replace hx147_3 := cB HB hx147_3
              replace p147 := eq_true p147
              replace q147 := eq_true q147
              go_wp2_with (first | ((with_reducible refine gate_dst (N := 7) rfl ?_); (try (refine gate_guard (by rfl) ?_; dsimp only)); refine bx 7 #[.int .i64 0, .int .i64 0, .int .i64 0, .int .i64 0] 63 ?_; intro gb148 hg w41 hbox hb; have n0_ := Aside0.mk (blk_below (bm BK139) hb); have n1_ := Aside0.mk (below_step (bw1 HB GE139) hb); have n2_ := Aside0.mk (hbox); have n3_ := Aside0.mk (bz (bw1 HB GE139) hg); have n4_ := Aside0.mk (bz (bw1 HB GE139) hg); have n5_ := Aside0.mk (bl (bm BK139) hg); have n6_ := Aside0.mk (bg (bm BK139) hg); clear BK139; clear HB; have BK139 := n0_; have HB := n1_; have BK148 := n2_; have GW148 := n3_; have GE148 := n4_; have NB139_148 := n5_; have NB148_139 := n6_; clear n0_ n1_ n2_ n3_ n4_ n5_ n6_; clear hb hbox hg; have hnb42 := NB148_139.out; have hnc42 := NB139_148.out; obtain ⟨hcz43_0, hcz43_1, hcz43_2, hcz43_3, hfz43_0, hfz43_1, hfz43_2, hfz43_3⟩ := b4 BK148) | (go_at_call 62; (with_reducible refine (gang_within.calls ((rd_T63 l0_1 x45_3).f0) 0 ((rd_T63 l0_1 x45_3).f1) true _ A37.out).mono ?_); rintro e w' ⟨rfl, ⟨nd, rfl⟩⟩; obtain ⟨hcz44_0, hcz44_1, hcz44_2, hfz44_0, hfz44_1, hfz44_2⟩ := b3 BK139) | (go_at_call 67; (with_reducible refine (gang_isSpan.calls ((rd_T63 l0_1 x45_3).f2.f0) ((rd_T63 l0_1 x45_3).f2.f1) 3 t150 _ A40.out).mono ?_); rintro e w45 ⟨rfl, hb⟩; have n0_ := Aside0.mk (blk_below (g := gb139) (o := .cells #[.slice A0_0 l0_0.length c0_0, .slice (some ad147) l0_1.length c0_1, .int .i64 a0_2] 25 (0, 0)) (by (with_reducible repeat (first | refine blk_drewN ?_ _ | refine blk_drew ?_ | refine blk_alloc ?_ _)); refine blk_far ?_ NB139_148.out _; (with_reducible repeat (first | refine blk_drewN ?_ _ | refine blk_drew ?_ | refine blk_alloc ?_ _)); refine blk_far ?_ NB139_148.out _; (with_reducible repeat (first | refine blk_drewN ?_ _ | refine blk_drew ?_ | refine blk_alloc ?_ _)); refine blk_far ?_ NB139_148.out _; (with_reducible repeat (first | refine blk_drewN ?_ _ | refine blk_drew ?_ | refine blk_alloc ?_ _)); refine blk_far ?_ NB139_148.out _; (with_reducible repeat (first | refine blk_drewN ?_ _ | refine blk_drew ?_ | refine blk_alloc ?_ _)); exact BK139.out) hb); have n1_ := Aside0.mk (blk_below (g := gb148) (o := .cells #[.int .i64 ((rd_T63 l0_1 x45_3).f0), .int .i64 ((rd_T63 l0_1 x45_3).f1), .int .i64 ((rd_T63 l0_1 x45_3).f2.f0), .int .i64 ((rd_T63 l0_1 x45_3).f2.f1)] 63 (0, 0)) (by (with_reducible repeat (first | refine blk_drewN ?_ _ | refine blk_drew ?_ | refine blk_alloc ?_ _)); refine blk_put (cs := #[.int .i64 ((rd_T63 l0_1 x45_3).f0), .int .i64 ((rd_T63 l0_1 x45_3).f1), .int .i64 ((rd_T63 l0_1 x45_3).f2.f0), .int .i64 0]) ?_ 3 _ rfl; (with_reducible repeat (first | refine blk_drewN ?_ _ | refine blk_drew ?_ | refine blk_alloc ?_ _)); refine blk_put (cs := #[.int .i64 ((rd_T63 l0_1 x45_3).f0), .int .i64 ((rd_T63 l0_1 x45_3).f1), .int .i64 0, .int .i64 0]) ?_ 2 _ rfl; (with_reducible repeat (first | refine blk_drewN ?_ _ | refine blk_drew ?_ | refine blk_alloc ?_ _)); refine blk_put (cs := #[.int .i64 ((rd_T63 l0_1 x45_3).f0), .int .i64 0, .int .i64 0, .int .i64 0]) ?_ 1 _ rfl; (with_reducible repeat (first | refine blk_drewN ?_ _ | refine blk_drew ?_ | refine blk_alloc ?_ _)); refine blk_put (cs := #[.int .i64 0, .int .i64 0, .int .i64 0, .int .i64 0]) ?_ 0 _ rfl; (with_reducible repeat (first | refine blk_drewN ?_ _ | refine blk_drew ?_ | refine blk_alloc ?_ _)); exact BK148.out) hb); have n2_ := Aside0.mk (below_step (bw2 HB GE139 GE148) hb); clear BK139; clear BK148; clear HB; have BK139 := n0_; have BK148 := n1_; have HB := n2_; clear n0_ n1_ n2_; (try clear hb); (try clear hb2); (try clear hk); (try clear hi)))
              go_roundg k3
              case measure => have := HJ1.out; have := HK2.out; have := HK3.out; omega
              case rel => exact ⟨(t150), (wrap64 (x45_3 + 1)), (by first | rfl | (simp; done) | (simp [*]; done)), (by first | rfl | (simp; done) | (simp [*]; done)), H', ⟨by have := HJ1.out; have := HK2.out; have := HK3.out; omega⟩, ⟨bm BK139⟩, ⟨bw2 HB GE139 GE148⟩⟩
             ·rw [if_neg c39] at H
              have c39b0 : decide (((rd_T63 l0_1 x45_3).f1) < (l0_0.length : Int)) = false := decide_eq_false c39
              clear c39
              have H' := Aside0.mk H
              clear H
              have p147 : 0 ≤ (x45_3 : Int) := of_decide_eq_true (by first | (with_reducible assumption) | assumption)
              have q147 : x45_3 < (l0_1.length : Int) := of_decide_eq_true (by first | (with_reducible assumption) | assumption)
              obtain ⟨ad147, e147, hx147_0, hx147_1, hx147_2, hx147_3⟩ := at_T63 HR0_1.out x45_3 p147 q147
              cases e147
              replace hx147_0 := cB HB hx147_0
              replace hx147_1 := cB HB hx147_1
              replace hx147_2 := cB HB hx147_2
              replace hx147_3 := cB HB hx147_3
              replace p147 := eq_true p147
              replace q147 := eq_true q147
              go_wp2_with (first | ((with_reducible refine gate_dst (N := 7) rfl ?_); (try (refine gate_guard (by rfl) ?_; dsimp only)); refine bx 7 #[.int .i64 0, .int .i64 0, .int .i64 0, .int .i64 0] 63 ?_; intro gb148 hg w46 hbox hb; have n0_ := Aside0.mk (blk_below (bm BK139) hb); have n1_ := Aside0.mk (below_step (bw1 HB GE139) hb); have n2_ := Aside0.mk (hbox); have n3_ := Aside0.mk (bz (bw1 HB GE139) hg); have n4_ := Aside0.mk (bz (bw1 HB GE139) hg); have n5_ := Aside0.mk (bl (bm BK139) hg); have n6_ := Aside0.mk (bg (bm BK139) hg); clear BK139; clear HB; have BK139 := n0_; have HB := n1_; have BK148 := n2_; have GW148 := n3_; have GE148 := n4_; have NB139_148 := n5_; have NB148_139 := n6_; clear n0_ n1_ n2_ n3_ n4_ n5_ n6_; clear hb hbox hg; have hnb47 := NB148_139.out; have hnc47 := NB139_148.out; obtain ⟨hcz48_0, hcz48_1, hcz48_2, hcz48_3, hfz48_0, hfz48_1, hfz48_2, hfz48_3⟩ := b4 BK148) | (go_at_call 62; (with_reducible refine (gang_within.calls ((rd_T63 l0_1 x45_3).f0) 0 ((rd_T63 l0_1 x45_3).f1) true _ A37.out).mono ?_); rintro e w' ⟨rfl, ⟨nd, rfl⟩⟩; obtain ⟨hcz49_0, hcz49_1, hcz49_2, hfz49_0, hfz49_1, hfz49_2⟩ := b3 BK139))
              go_roundg k3
              case measure => have := HJ1.out; have := HK2.out; have := HK3.out; omega
              case rel => exact ⟨(false), (wrap64 (x45_3 + 1)), (by first | rfl | (simp; done) | (simp [*]; done)), (by first | rfl | (simp; done) | (simp [*]; done)), H', ⟨by have := HJ1.out; have := HK2.out; have := HK3.out; omega⟩, ⟨by (with_reducible repeat (first | refine blk_drewN ?_ _ | refine blk_drew ?_ | refine blk_alloc ?_ _)); refine blk_far ?_ NB139_148.out _; (with_reducible repeat (first | refine blk_drewN ?_ _ | refine blk_drew ?_ | refine blk_alloc ?_ _)); refine blk_far ?_ NB139_148.out _; (with_reducible repeat (first | refine blk_drewN ?_ _ | refine blk_drew ?_ | refine blk_alloc ?_ _)); refine blk_far ?_ NB139_148.out _; (with_reducible repeat (first | refine blk_drewN ?_ _ | refine blk_drew ?_ | refine blk_alloc ?_ _)); refine blk_far ?_ NB139_148.out _; (with_reducible repeat (first | refine blk_drewN ?_ _ | refine blk_drew ?_ | refine blk_alloc ?_ _)); exact BK139.out⟩, ⟨bw2 HB GE139 GE148⟩⟩
            ·replace c38 := Bool.eq_false_iff.mpr c38
             subst c38
             have H1 : (gang_Check.l1 k3 false l0_1 (l0_1.length : Int) (wrap64 (x45_3 + 1)) l0_0 l0_1 a0_2) = some r := by rw [if_neg (show ¬ (false = true) by decide)] at H; exact H
             clear H
             have H := H1
             clear H1
             have H' := Aside0.mk H
             clear H
             have p147 : 0 ≤ (x45_3 : Int) := of_decide_eq_true (by first | (with_reducible assumption) | assumption)
             have q147 : x45_3 < (l0_1.length : Int) := of_decide_eq_true (by first | (with_reducible assumption) | assumption)
             obtain ⟨ad147, e147, hx147_0, hx147_1, hx147_2, hx147_3⟩ := at_T63 HR0_1.out x45_3 p147 q147
             cases e147
             replace hx147_0 := cB HB hx147_0
             replace hx147_1 := cB HB hx147_1
             replace hx147_2 := cB HB hx147_2
             replace hx147_3 := cB HB hx147_3
             replace p147 := eq_true p147
             replace q147 := eq_true q147
             go_wp2_with (first | ((with_reducible refine gate_dst (N := 7) rfl ?_); (try (refine gate_guard (by rfl) ?_; dsimp only)); refine bx 7 #[.int .i64 0, .int .i64 0, .int .i64 0, .int .i64 0] 63 ?_; intro gb148 hg w50 hbox hb; have n0_ := Aside0.mk (blk_below (bm BK139) hb); have n1_ := Aside0.mk (below_step (bw1 HB GE139) hb); have n2_ := Aside0.mk (hbox); have n3_ := Aside0.mk (bz (bw1 HB GE139) hg); have n4_ := Aside0.mk (bz (bw1 HB GE139) hg); have n5_ := Aside0.mk (bl (bm BK139) hg); have n6_ := Aside0.mk (bg (bm BK139) hg); clear BK139; clear HB; have BK139 := n0_; have HB := n1_; have BK148 := n2_; have GW148 := n3_; have GE148 := n4_; have NB139_148 := n5_; have NB148_139 := n6_; clear n0_ n1_ n2_ n3_ n4_ n5_ n6_; clear hb hbox hg; have hnb51 := NB148_139.out; have hnc51 := NB139_148.out; obtain ⟨hcz52_0, hcz52_1, hcz52_2, hcz52_3, hfz52_0, hfz52_1, hfz52_2, hfz52_3⟩ := b4 BK148) | (go_at_call 62; (with_reducible refine (gang_within.calls ((rd_T63 l0_1 x45_3).f0) 0 ((rd_T63 l0_1 x45_3).f1) false _ A37.out).mono ?_); rintro e w' ⟨rfl, ⟨nd, rfl⟩⟩))
             go_roundg k3
             case measure => have := HJ1.out; have := HK2.out; have := HK3.out; omega
             case rel => exact ⟨(false), (wrap64 (x45_3 + 1)), (by first | rfl | (simp; done) | (simp [*]; done)), (by first | rfl | (simp; done) | (simp [*]; done)), H', ⟨by have := HJ1.out; have := HK2.out; have := HK3.out; omega⟩, ⟨by (with_reducible repeat (first | refine blk_drewN ?_ _ | refine blk_drew ?_ | refine blk_alloc ?_ _)); refine blk_far ?_ NB139_148.out _; (with_reducible repeat (first | refine blk_drewN ?_ _ | refine blk_drew ?_ | refine blk_alloc ?_ _)); refine blk_far ?_ NB139_148.out _; (with_reducible repeat (first | refine blk_drewN ?_ _ | refine blk_drew ?_ | refine blk_alloc ?_ _)); refine blk_far ?_ NB139_148.out _; (with_reducible repeat (first | refine blk_drewN ?_ _ | refine blk_drew ?_ | refine blk_alloc ?_ _)); refine blk_far ?_ NB139_148.out _; (with_reducible repeat (first | refine blk_drewN ?_ _ | refine blk_drew ?_ | refine blk_alloc ?_ _)); exact BK139.out⟩, ⟨bw2 HB GE139 GE148⟩⟩
           ·replace c36 := Bool.eq_false_iff.mpr c36
            subst c36
            have H1 : (gang_Check.l1 k3 false l0_1 (l0_1.length : Int) (wrap64 (x45_3 + 1)) l0_0 l0_1 a0_2) = some r := by rw [if_neg (show ¬ (false = true) by decide)] at H; exact H
            clear H
            have H := H1
            clear H1
            have H' := Aside0.mk H
            clear H
            have p147 : 0 ≤ (x45_3 : Int) := of_decide_eq_true (by first | (with_reducible assumption) | assumption)
            have q147 : x45_3 < (l0_1.length : Int) := of_decide_eq_true (by first | (with_reducible assumption) | assumption)
            obtain ⟨ad147, e147, hx147_0, hx147_1, hx147_2, hx147_3⟩ := at_T63 HR0_1.out x45_3 p147 q147
            cases e147
            replace hx147_0 := cB HB hx147_0
            replace hx147_1 := cB HB hx147_1
            replace hx147_2 := cB HB hx147_2
            replace hx147_3 := cB HB hx147_3
            replace p147 := eq_true p147
            replace q147 := eq_true q147
            go_wp2_with (first | ((with_reducible refine gate_dst (N := 7) rfl ?_); (try (refine gate_guard (by rfl) ?_; dsimp only)); refine bx 7 #[.int .i64 0, .int .i64 0, .int .i64 0, .int .i64 0] 63 ?_; intro gb148 hg w53 hbox hb; have n0_ := Aside0.mk (blk_below (bm BK139) hb); have n1_ := Aside0.mk (below_step (bw1 HB GE139) hb); have n2_ := Aside0.mk (hbox); have n3_ := Aside0.mk (bz (bw1 HB GE139) hg); have n4_ := Aside0.mk (bz (bw1 HB GE139) hg); have n5_ := Aside0.mk (bl (bm BK139) hg); have n6_ := Aside0.mk (bg (bm BK139) hg); clear BK139; clear HB; have BK139 := n0_; have HB := n1_; have BK148 := n2_; have GW148 := n3_; have GE148 := n4_; have NB139_148 := n5_; have NB148_139 := n6_; clear n0_ n1_ n2_ n3_ n4_ n5_ n6_; clear hb hbox hg; have hnb54 := NB148_139.out; have hnc54 := NB139_148.out; obtain ⟨hcz55_0, hcz55_1, hcz55_2, hcz55_3, hfz55_0, hfz55_1, hfz55_2, hfz55_3⟩ := b4 BK148))
            go_roundg k3
            case measure => have := HJ1.out; have := HK2.out; have := HK3.out; omega
            case rel => exact ⟨(false), (wrap64 (x45_3 + 1)), (by first | rfl | (simp; done) | (simp [*]; done)), (by first | rfl | (simp; done) | (simp [*]; done)), H', ⟨by have := HJ1.out; have := HK2.out; have := HK3.out; omega⟩, ⟨by (with_reducible repeat (first | refine blk_drewN ?_ _ | refine blk_drew ?_ | refine blk_alloc ?_ _)); refine blk_far ?_ NB139_148.out _; (with_reducible repeat (first | refine blk_drewN ?_ _ | refine blk_drew ?_ | refine blk_alloc ?_ _)); refine blk_far ?_ NB139_148.out _; (with_reducible repeat (first | refine blk_drewN ?_ _ | refine blk_drew ?_ | refine blk_alloc ?_ _)); refine blk_far ?_ NB139_148.out _; (with_reducible repeat (first | refine blk_drewN ?_ _ | refine blk_drew ?_ | refine blk_alloc ?_ _)); refine blk_far ?_ NB139_148.out _; (with_reducible repeat (first | refine blk_drewN ?_ _ | refine blk_drew ?_ | refine blk_alloc ?_ _)); exact BK139.out⟩, ⟨bw2 HB GE139 GE148⟩⟩
          ·rw [if_neg c35] at H
           exact absurd H (by simp)
         ·rw [if_neg c34] at H
          exact absurd H (by simp)
        ·rw [if_neg c33] at H
         have c33b0 : decide (x45_3 < (l0_1.length : Int)) = false := decide_eq_false c33
         clear c33
         by_cases c56 : x3_3 = true
         ·subst c56
          have H1 : (some 0) = some r := by rw [if_pos rfl] at H; exact H
          clear H
          have H := H1
          clear H1
          obtain rfl := Option.some.inj H
          go_wp2
          go_ret
          exact ⟨by first | rfl | (simp [errW_none, errW_some] <;> rfl) | (simp [*, errW_none, errW_some] <;> rfl), bw1 HB GE139⟩
         ·replace c56 := Bool.eq_false_iff.mpr c56
          subst c56
          have H1 : (some 40) = some r := by rw [if_neg (show ¬ (false = true) by decide)] at H; exact H
          clear H
          have H := H1
          clear H1
          obtain rfl := Option.some.inj H
          go_wp2
          go_ret
          exact ⟨by first | rfl | (simp [errW_none, errW_some] <;> rfl) | (simp [*, errW_none, errW_some] <;> rfl), bw1 HB GE139⟩
def macadamref04_isNight.f (l0_0 : List (S66)) (l0_1 : List (S63)) (a0_2 : Int) (a1 : Int) : Option (Bool) := (macadamref00_Amid.f a1 0 (wrap64 (a0_2 - 1))).bind fun t152 => (some t152)
set_option maxHeartbeats 8000000 in
set_option maxRecDepth 100000 in
theorem macadamref04_isNight.calls (A0_0 : Option Addr) (c0_0 : Nat) (l0_0 : List (S66)) (A0_1 : Option Addr) (c0_1 : Nat) (l0_1 : List (S63)) (a0_2 : Int) (a1 : Int) (r : Bool) (w : World) (hr0_0 : Kd.C k66 w A0_0 l0_0.length l0_0) (hc0_0 : l0_0.length ≤ c0_0) (hr0_1 : Kd.C k63 w A0_1 l0_1.length l0_1) (hc0_1 : l0_1.length ≤ c0_1) (h : macadamref04_isNight.f l0_0 l0_1 a0_2 a1 = some r) :
  Calls Tryd.prog 72 #[.agg #[.slice A0_0 l0_0.length c0_0, .slice A0_1 l0_1.length c0_1, .int .i64 a0_2], .int .i64 a1] w fun e w' => e = .returned (.bool r) ∧ Below w.heap.size w w' := by
 have hu25 := Tryd.underlying25
 have HR0_0 := Aside0.mk hr0_0
 have HC0_0 := Aside0.mk hc0_0
 clear hr0_0 hc0_0
 have HR0_1 := Aside0.mk hr0_1
 have HC0_1 := Aside0.mk hc0_1
 clear hr0_1 hc0_1
 have HB := Aside0.mk (Below.refl w.heap.size w)
 have H : ((macadamref00_Amid.f a1 0 (wrap64 (a0_2 - 1))).bind fun t152 => (some t152)) = some r := h
 clear h
 replace H := Option.bind_eq_some_iff.mp H
 obtain ⟨t152, A30, H⟩ := H
 replace H : (some t152) = some r := H
 have A3 := Aside0.mk A30
 clear A30
 obtain rfl := Option.some.inj H
 go_enter Tryd.func72, Tryd.ntmps72
 go_wp2_with (first | ((with_reducible refine gate_dst (N := 2) rfl ?_); refine bx 2 #[.slice A0_0 l0_0.length c0_0, .slice A0_1 l0_1.length c0_1, .int .i64 a0_2] 25 ?_; intro gb151 hg w4 hbox hb; have n0_ := Aside0.mk (below_step (bw HB) hb); have n1_ := Aside0.mk (hbox); have n2_ := Aside0.mk (bz (bw HB) hg); have n3_ := Aside0.mk (bz (bw HB) hg); clear HB; have HB := n0_; have BK151 := n1_; have GW151 := n2_; have GE151 := n3_; clear n0_ n1_ n2_ n3_; clear hb hbox hg; obtain ⟨hcz5_0, hcz5_1, hcz5_2, hfz5_0, hfz5_1, hfz5_2⟩ := b3 BK151) | ((with_reducible refine gate_callee (f := 45) rfl ?_); refine gL (some 9) Tryd.func45 #[.int .i64 a1, .int .i64 0, .int .i64 (wrap64 (a0_2 - 1))] ?_; (with_reducible refine (macadamref00_Amid.calls a1 0 (wrap64 (a0_2 - 1)) t152 _ A3.out).mono ?_); rintro e w' ⟨rfl, ⟨nd, rfl⟩⟩; refine ⟨_, rfl, ?_⟩))
 go_ret
 exact ⟨by first | rfl | (simp [errW_none, errW_some] <;> rfl) | (simp [*, errW_none, errW_some] <;> rfl), bw1 HB GE151⟩
end Go.Proofs.YtikfghnkbgdbgaaDoor.Q
end
section
namespace Go.Proofs.YtikfghnkbgdbgaaDoor.Q
open Go.RowKit Go.Proofs.YtikfghnkbgdbgaaDoorW.PrintWords Go.Proofs.YtikfghnkbgdbgaaDoorW.PrintLast Go.Proofs.YtikfghnkbgdbgaaDoorW.PrintMore
attribute [local go_sem] max2_int min2_int max_two min_two max_three min_three max_four min_four   -- for this text's walks alone
set_option linter.unusedVariables false
set_option linter.unusedSimpArgs false
mutual
def macadamref04_isPlan.l0 : Nat → List (S59) → Int → List (S66) → List (S63) → Int → Option (Bool)
 | 0, _, _, _, _, _ => none
 | k + 1, x1, x5, x154000, x154001, x154002 => if x5 < (x1.length : Int) then (if 0 ≤ x5 then ((macadamref04_isNight.f x154000 x154001 x154002 ((rd_T59 x1 x5).f0)).bind fun t156 => (if t156 = true then ((macadamref04_isGang.f x154000 x154001 x154002 ((rd_T59 x1 x5).f1)).bind fun t157 => (if t157 = true then ((macadamref04_isMile.f x154000 x154001 x154002 ((rd_T59 x1 x5).f2)).bind fun t158 => (if t158 = true then ((macadamref04_can.f x154000 x154001 x154002 ((rd_T59 x1 x5).f1) ((rd_T59 x1 x5).f2) ((rd_T59 x1 x5).f0)).bind fun t159 => (macadamref04_isPlan.j1 k x1 x5 (!t159) x154000 x154001 x154002 ((rd_T59 x1 x5).f0) ((rd_T59 x1 x5).f1) ((rd_T59 x1 x5).f2))) else (macadamref04_isPlan.j1 k x1 x5 true x154000 x154001 x154002 ((rd_T59 x1 x5).f0) ((rd_T59 x1 x5).f1) ((rd_T59 x1 x5).f2)))) else (macadamref04_isPlan.j1 k x1 x5 true x154000 x154001 x154002 ((rd_T59 x1 x5).f0) ((rd_T59 x1 x5).f1) ((rd_T59 x1 x5).f2)))) else (macadamref04_isPlan.j1 k x1 x5 true x154000 x154001 x154002 ((rd_T59 x1 x5).f0) ((rd_T59 x1 x5).f1) ((rd_T59 x1 x5).f2)))) else (none)) else (some true)
def macadamref04_isPlan.j1 : Nat → List (S59) → Int → Bool → List (S66) → List (S63) → Int → Int → Int → Int → Option (Bool)
 | 0, _, _, _, _, _, _, _, _, _ => none
 | k + 1, x1, x5, x47, x154000, x154001, x154002, x156000, x156001, x156002 => if x47 = true then (some false) else (if x5 = 0 then (macadamref04_isPlan.l0 k x1 (wrap64 (x5 + 1)) x154000 x154001 x154002) else (if 0 ≤ (wrap64 (x5 - 1)) then (if (wrap64 (x5 - 1)) < (x1.length : Int) then (if x156000 < ((rd_T59 x1 (wrap64 (x5 - 1))).f0) then (macadamref04_isPlan.j2 k x1 x5 true x154000 x154001 x154002 x156000 x156001 x156002 ((rd_T59 x1 (wrap64 (x5 - 1))).f0) ((rd_T59 x1 (wrap64 (x5 - 1))).f1) ((rd_T59 x1 (wrap64 (x5 - 1))).f2)) else (if x156000 = ((rd_T59 x1 (wrap64 (x5 - 1))).f0) then (macadamref04_isPlan.j2 k x1 x5 (decide (x156001 ≤ ((rd_T59 x1 (wrap64 (x5 - 1))).f1))) x154000 x154001 x154002 x156000 x156001 x156002 ((rd_T59 x1 (wrap64 (x5 - 1))).f0) ((rd_T59 x1 (wrap64 (x5 - 1))).f1) ((rd_T59 x1 (wrap64 (x5 - 1))).f2)) else (macadamref04_isPlan.j2 k x1 x5 false x154000 x154001 x154002 x156000 x156001 x156002 ((rd_T59 x1 (wrap64 (x5 - 1))).f0) ((rd_T59 x1 (wrap64 (x5 - 1))).f1) ((rd_T59 x1 (wrap64 (x5 - 1))).f2)))) else (none)) else (none)))
def macadamref04_isPlan.j2 : Nat → List (S59) → Int → Bool → List (S66) → List (S63) → Int → Int → Int → Int → Int → Int → Int → Option (Bool)
 | 0, _, _, _, _, _, _, _, _, _, _, _, _ => none
 | k + 1, x1, x5, x73, x154000, x154001, x154002, x156000, x156001, x156002, x162000, x162001, x162002 => if x73 = true then (some false) else (if x156000 = x162000 then ((macadamref00_Amid.f (wrap64 (x156002 - x162002)) (-1) 1).bind fun t162 => (if t162 = true then (some false) else (macadamref04_isPlan.l0 k x1 (wrap64 (x5 + 1)) x154000 x154001 x154002))) else (macadamref04_isPlan.l0 k x1 (wrap64 (x5 + 1)) x154000 x154001 x154002))
end
def macadamref04_isPlan.f (k : Nat) (l0_0 : List (S66)) (l0_1 : List (S63)) (a0_2 : Int) (l1 : List (S59)) : Option (Bool) := macadamref04_isPlan.l0 k l1 0 l0_0 l0_1 a0_2
set_option maxHeartbeats 8000000 in
set_option maxRecDepth 100000 in
theorem macadamref04_isPlan.calls (k : Nat) (A0_0 : Option Addr) (c0_0 : Nat) (l0_0 : List (S66)) (A0_1 : Option Addr) (c0_1 : Nat) (l0_1 : List (S63)) (a0_2 : Int) (A1 : Option Addr) (c1 : Nat) (l1 : List (S59)) (r : Bool) (w : World) (hr0_0 : Kd.C k66 w A0_0 l0_0.length l0_0) (hc0_0 : l0_0.length ≤ c0_0) (hr0_1 : Kd.C k63 w A0_1 l0_1.length l0_1) (hc0_1 : l0_1.length ≤ c0_1) (hr1 : Kd.C k59 w A1 l1.length l1) (hc1 : l1.length ≤ c1) (h : macadamref04_isPlan.f k l0_0 l0_1 a0_2 l1 = some r) :
  Calls Tryd.prog 69 #[.agg #[.slice A0_0 l0_0.length c0_0, .slice A0_1 l0_1.length c0_1, .int .i64 a0_2], .slice A1 l1.length c1] w fun e w' => e = .returned (.bool r) ∧ Below w.heap.size w w' := by
 have hu25 := Tryd.underlying25
 have hu59 := Tryd.underlying59
 have HR0_0 := Aside0.mk hr0_0
 have HC0_0 := Aside0.mk hc0_0
 clear hr0_0 hc0_0
 have HR0_1 := Aside0.mk hr0_1
 have HC0_1 := Aside0.mk hc0_1
 clear hr0_1 hc0_1
 have HR1 := Aside0.mk hr1
 have HC1 := Aside0.mk hc1
 clear hr1 hc1
 have HB := Aside0.mk (Below.refl w.heap.size w)
 have H : (macadamref04_isPlan.l0 k l1 0 l0_0 l0_1 a0_2) = some r := h
 clear h
 have H' := Aside0.mk H
 clear H
 go_enter Tryd.func69, Tryd.ntmps69
 go_wp2_with (first | ((with_reducible refine gate_dst (N := 2) rfl ?_); refine bx 2 #[.slice A0_0 l0_0.length c0_0, .slice A0_1 l0_1.length c0_1, .int .i64 a0_2] 25 ?_; intro gb153 hg w3 hbox hb; have n0_ := Aside0.mk (below_step (bw HB) hb); have n1_ := Aside0.mk (hbox); have n2_ := Aside0.mk (bz (bw HB) hg); have n3_ := Aside0.mk (bz (bw HB) hg); clear HB; have HB := n0_; have BK153 := n1_; have GW153 := n2_; have GE153 := n3_; clear n0_ n1_ n2_ n3_; clear hb hbox hg))
 go_loopg [5] k (fun kq v5 w' => ∃ (x5_1 : Int), v5 = .int .i64 x5_1 ∧ Aside0 (macadamref04_isPlan.l0 kq l1 x5_1 l0_0 l0_1 a0_2 = some r) ∧ Aside0 (kq ≤ k) ∧ Aside0 (w'.heap[gb153]? = some (.cells #[(.slice A0_0 l0_0.length c0_0), (.slice A0_1 l0_1.length c0_1), .int .i64 a0_2] 25 (0, 0))) ∧ Aside0 (Below w.heap.size w w'))
 case atStart => exact ⟨(0), (by first | rfl | (simp; done) | (simp [*]; done)), H', ⟨Nat.le_refl _⟩, ⟨bm BK153⟩, ⟨bw1 HB GE153⟩⟩
 case round =>
  clear H'
  try clear c1
  try clear p2
  obtain ⟨x5_1, rfl, HA, HK1, BK153, HB⟩ := hrel
  cases gk with
  | zero => exact absurd HA.out (by simp [macadamref04_isPlan.l0])
  | succ k1 =>
   have H := HA.out
   clear HA
   simp only [macadamref04_isPlan.l0] at H
   by_cases c4 : x5_1 < (l1.length : Int)
   ·rw [if_pos c4] at H
    have c4b0 : decide (x5_1 < (l1.length : Int)) = true := decide_eq_true c4
    clear c4
    by_cases c5 : 0 ≤ x5_1
    ·rw [if_pos c5] at H
     have c5b0 : decide (0 ≤ x5_1) = true := decide_eq_true c5
     clear c5
     have HC6 := Aside0.mk H
     clear H
     have p154 : 0 ≤ (x5_1 : Int) := of_decide_eq_true (by first | (with_reducible assumption) | assumption)
     have q154 : x5_1 < (l1.length : Int) := of_decide_eq_true (by first | (with_reducible assumption) | assumption)
     obtain ⟨ad154, e154, hx154_0, hx154_1, hx154_2⟩ := at_T59 HR1.out x5_1 p154 q154
     cases e154
     replace hx154_0 := cB HB hx154_0
     replace hx154_1 := cB HB hx154_1
     replace hx154_2 := cB HB hx154_2
     replace p154 := eq_true p154
     replace q154 := eq_true q154
     go_upto_region 5 with (first | ((with_reducible refine gate_dst (N := 6) rfl ?_); refine bx 6 #[.int .i64 0, .int .i64 0, .int .i64 0] 59 ?_; intro gb155 hg w7 hbox hb; have n0_ := Aside0.mk (blk_below (bm BK153) hb); have n1_ := Aside0.mk (below_step (bw1 HB GE153) hb); have n2_ := Aside0.mk (hbox); have n3_ := Aside0.mk (bz (bw1 HB GE153) hg); have n4_ := Aside0.mk (bz (bw1 HB GE153) hg); have n5_ := Aside0.mk (bl (bm BK153) hg); have n6_ := Aside0.mk (bg (bm BK153) hg); clear BK153; clear HB; have BK153 := n0_; have HB := n1_; have BK155 := n2_; have GW155 := n3_; have GE155 := n4_; have NB153_155 := n5_; have NB155_153 := n6_; clear n0_ n1_ n2_ n3_ n4_ n5_ n6_; clear hb hbox hg; have hnb8 := NB155_153.out; have hnc8 := NB153_155.out; obtain ⟨hcz9_0, hcz9_1, hcz9_2, hfz9_0, hfz9_1, hfz9_2⟩ := b3 BK155))
     (try simp only [Act.put, List.setIfInBounds_toArray, List.set_cons_zero, List.set_cons_succ])
     go_cut [47] (fun v47 wc => ∃ (kq : Nat) (x47_5 : Bool), v47 = .bool x47_5 ∧ Aside0 (macadamref04_isPlan.j1 kq l1 x5_1 x47_5 l0_0 l0_1 a0_2 ((rd_T59 l1 x5_1).f0) ((rd_T59 l1 x5_1).f1) ((rd_T59 l1 x5_1).f2) = some r) ∧ Aside0 (kq ≤ k1) ∧ Aside0 (wc.heap[gb153]? = some (.cells #[(.slice A0_0 l0_0.length c0_0), (.slice A0_1 l0_1.length c0_1), .int .i64 a0_2] 25 (0, 0))) ∧ Aside0 (wc.heap[gb155]? = some (.cells #[.int .i64 ((rd_T59 l1 x5_1).f0), .int .i64 ((rd_T59 l1 x5_1).f1), .int .i64 ((rd_T59 l1 x5_1).f2)] 59 (0, 0))) ∧ Aside0 (Below w.heap.size w wc))
     case first =>
      have H := HC6.out
      clear HC6
      replace H := Option.bind_eq_some_iff.mp H
      obtain ⟨t156, A100, H⟩ := H
      replace H : (if t156 = true then ((macadamref04_isGang.f l0_0 l0_1 a0_2 ((rd_T59 l1 x5_1).f1)).bind fun t157 => (if t157 = true then ((macadamref04_isMile.f l0_0 l0_1 a0_2 ((rd_T59 l1 x5_1).f2)).bind fun t158 => (if t158 = true then ((macadamref04_can.f l0_0 l0_1 a0_2 ((rd_T59 l1 x5_1).f1) ((rd_T59 l1 x5_1).f2) ((rd_T59 l1 x5_1).f0)).bind fun t159 => (macadamref04_isPlan.j1 k1 l1 x5_1 (!t159) l0_0 l0_1 a0_2 ((rd_T59 l1 x5_1).f0) ((rd_T59 l1 x5_1).f1) ((rd_T59 l1 x5_1).f2))) else (macadamref04_isPlan.j1 k1 l1 x5_1 true l0_0 l0_1 a0_2 ((rd_T59 l1 x5_1).f0) ((rd_T59 l1 x5_1).f1) ((rd_T59 l1 x5_1).f2)))) else (macadamref04_isPlan.j1 k1 l1 x5_1 true l0_0 l0_1 a0_2 ((rd_T59 l1 x5_1).f0) ((rd_T59 l1 x5_1).f1) ((rd_T59 l1 x5_1).f2)))) else (macadamref04_isPlan.j1 k1 l1 x5_1 true l0_0 l0_1 a0_2 ((rd_T59 l1 x5_1).f0) ((rd_T59 l1 x5_1).f1) ((rd_T59 l1 x5_1).f2))) = some r := H
      have A10 := Aside0.mk A100
      clear A100
      by_cases c11 : t156 = true
      ·subst c11
       have H1 : ((macadamref04_isGang.f l0_0 l0_1 a0_2 ((rd_T59 l1 x5_1).f1)).bind fun t157 => (if t157 = true then ((macadamref04_isMile.f l0_0 l0_1 a0_2 ((rd_T59 l1 x5_1).f2)).bind fun t158 => (if t158 = true then ((macadamref04_can.f l0_0 l0_1 a0_2 ((rd_T59 l1 x5_1).f1) ((rd_T59 l1 x5_1).f2) ((rd_T59 l1 x5_1).f0)).bind fun t159 => (macadamref04_isPlan.j1 k1 l1 x5_1 (!t159) l0_0 l0_1 a0_2 ((rd_T59 l1 x5_1).f0) ((rd_T59 l1 x5_1).f1) ((rd_T59 l1 x5_1).f2))) else (macadamref04_isPlan.j1 k1 l1 x5_1 true l0_0 l0_1 a0_2 ((rd_T59 l1 x5_1).f0) ((rd_T59 l1 x5_1).f1) ((rd_T59 l1 x5_1).f2)))) else (macadamref04_isPlan.j1 k1 l1 x5_1 true l0_0 l0_1 a0_2 ((rd_T59 l1 x5_1).f0) ((rd_T59 l1 x5_1).f1) ((rd_T59 l1 x5_1).f2)))) = some r := by rw [if_pos rfl] at H; exact H
       clear H
       have H := H1
       clear H1
       replace H := Option.bind_eq_some_iff.mp H
       obtain ⟨t157, A120, H⟩ := H
       replace H : (if t157 = true then ((macadamref04_isMile.f l0_0 l0_1 a0_2 ((rd_T59 l1 x5_1).f2)).bind fun t158 => (if t158 = true then ((macadamref04_can.f l0_0 l0_1 a0_2 ((rd_T59 l1 x5_1).f1) ((rd_T59 l1 x5_1).f2) ((rd_T59 l1 x5_1).f0)).bind fun t159 => (macadamref04_isPlan.j1 k1 l1 x5_1 (!t159) l0_0 l0_1 a0_2 ((rd_T59 l1 x5_1).f0) ((rd_T59 l1 x5_1).f1) ((rd_T59 l1 x5_1).f2))) else (macadamref04_isPlan.j1 k1 l1 x5_1 true l0_0 l0_1 a0_2 ((rd_T59 l1 x5_1).f0) ((rd_T59 l1 x5_1).f1) ((rd_T59 l1 x5_1).f2)))) else (macadamref04_isPlan.j1 k1 l1 x5_1 true l0_0 l0_1 a0_2 ((rd_T59 l1 x5_1).f0) ((rd_T59 l1 x5_1).f1) ((rd_T59 l1 x5_1).f2))) = some r := H
       have A12 := Aside0.mk A120
       clear A120
       by_cases c13 : t157 = true
       ·subst c13
        have H1 : ((macadamref04_isMile.f l0_0 l0_1 a0_2 ((rd_T59 l1 x5_1).f2)).bind fun t158 => (if t158 = true then ((macadamref04_can.f l0_0 l0_1 a0_2 ((rd_T59 l1 x5_1).f1) ((rd_T59 l1 x5_1).f2) ((rd_T59 l1 x5_1).f0)).bind fun t159 => (macadamref04_isPlan.j1 k1 l1 x5_1 (!t159) l0_0 l0_1 a0_2 ((rd_T59 l1 x5_1).f0) ((rd_T59 l1 x5_1).f1) ((rd_T59 l1 x5_1).f2))) else (macadamref04_isPlan.j1 k1 l1 x5_1 true l0_0 l0_1 a0_2 ((rd_T59 l1 x5_1).f0) ((rd_T59 l1 x5_1).f1) ((rd_T59 l1 x5_1).f2)))) = some r := by rw [if_pos rfl] at H; exact H
        clear H
        have H := H1
        clear H1
        replace H := Option.bind_eq_some_iff.mp H
        obtain ⟨t158, A140, H⟩ := H
        replace H : (if t158 = true then ((macadamref04_can.f l0_0 l0_1 a0_2 ((rd_T59 l1 x5_1).f1) ((rd_T59 l1 x5_1).f2) ((rd_T59 l1 x5_1).f0)).bind fun t159 => (macadamref04_isPlan.j1 k1 l1 x5_1 (!t159) l0_0 l0_1 a0_2 ((rd_T59 l1 x5_1).f0) ((rd_T59 l1 x5_1).f1) ((rd_T59 l1 x5_1).f2))) else (macadamref04_isPlan.j1 k1 l1 x5_1 true l0_0 l0_1 a0_2 ((rd_T59 l1 x5_1).f0) ((rd_T59 l1 x5_1).f1) ((rd_T59 l1 x5_1).f2))) = some r := H
        have A14 := Aside0.mk A140
        clear A140
        by_cases c15 : t158 = true
        ·subst c15
         have H1 : ((macadamref04_can.f l0_0 l0_1 a0_2 ((rd_T59 l1 x5_1).f1) ((rd_T59 l1 x5_1).f2) ((rd_T59 l1 x5_1).f0)).bind fun t159 => (macadamref04_isPlan.j1 k1 l1 x5_1 (!t159) l0_0 l0_1 a0_2 ((rd_T59 l1 x5_1).f0) ((rd_T59 l1 x5_1).f1) ((rd_T59 l1 x5_1).f2))) = some r := by rw [if_pos rfl] at H; exact H
         clear H
         have H := H1
         clear H1
         replace H := Option.bind_eq_some_iff.mp H
         obtain ⟨t159, A160, H⟩ := H
         replace H : (macadamref04_isPlan.j1 k1 l1 x5_1 (!t159) l0_0 l0_1 a0_2 ((rd_T59 l1 x5_1).f0) ((rd_T59 l1 x5_1).f1) ((rd_T59 l1 x5_1).f2)) = some r := H
         have A16 := Aside0.mk A160
         clear A160
         have H' := Aside0.mk H
         clear H
         have hnb17 := NB153_155.out
         have hnc17 := NB155_153.out
         obtain ⟨hcz18_0, hcz18_1, hcz18_2, hfz18_0, hfz18_1, hfz18_2⟩ := b3 BK153
         obtain ⟨hcz19_0, hcz19_1, hcz19_2, hfz19_0, hfz19_1, hfz19_2⟩ := b3 BK155
         go_wp2_with (first | ((with_reducible refine gate_callee (f := 72) rfl ?_); refine gL (some 21) Tryd.func72 #[.agg #[.slice A0_0 l0_0.length c0_0, .slice A0_1 l0_1.length c0_1, .int .i64 a0_2], .int .i64 ((rd_T59 l1 x5_1).f0)] ?_; (with_reducible refine (macadamref04_isNight.calls _ _ l0_0 _ _ l0_1 a0_2 ((rd_T59 l1 x5_1).f0) true _ ?side1 ?side2 ?side3 ?side4 A10.out).mono ?_); (case side1 => exact Kd.C_below HR0_0.out (bw2 HB GE153 GE155)); (case side2 => exact HC0_0.out); (case side3 => exact Kd.C_below HR0_1.out (bw2 HB GE153 GE155)); (case side4 => exact HC0_1.out); rintro e w20 ⟨rfl, hb⟩; refine ⟨_, rfl, ?_⟩; have n0_ := Aside0.mk (blk_below (g := gb153) (o := .cells #[.slice A0_0 l0_0.length c0_0, .slice A0_1 l0_1.length c0_1, .int .i64 a0_2] 25 (0, 0)) (by (with_reducible repeat (first | refine blk_drewN ?_ _ | refine blk_drew ?_ | refine blk_alloc ?_ _)); refine blk_far ?_ NB153_155.out _; (with_reducible repeat (first | refine blk_drewN ?_ _ | refine blk_drew ?_ | refine blk_alloc ?_ _)); refine blk_far ?_ NB153_155.out _; (with_reducible repeat (first | refine blk_drewN ?_ _ | refine blk_drew ?_ | refine blk_alloc ?_ _)); refine blk_far ?_ NB153_155.out _; (with_reducible repeat (first | refine blk_drewN ?_ _ | refine blk_drew ?_ | refine blk_alloc ?_ _)); exact BK153.out) hb); have n1_ := Aside0.mk (blk_below (g := gb155) (o := .cells #[.int .i64 ((rd_T59 l1 x5_1).f0), .int .i64 ((rd_T59 l1 x5_1).f1), .int .i64 ((rd_T59 l1 x5_1).f2)] 59 (0, 0)) (by (with_reducible repeat (first | refine blk_drewN ?_ _ | refine blk_drew ?_ | refine blk_alloc ?_ _)); refine blk_put (cs := #[.int .i64 ((rd_T59 l1 x5_1).f0), .int .i64 ((rd_T59 l1 x5_1).f1), .int .i64 0]) ?_ 2 _ rfl; (with_reducible repeat (first | refine blk_drewN ?_ _ | refine blk_drew ?_ | refine blk_alloc ?_ _)); refine blk_put (cs := #[.int .i64 ((rd_T59 l1 x5_1).f0), .int .i64 0, .int .i64 0]) ?_ 1 _ rfl; (with_reducible repeat (first | refine blk_drewN ?_ _ | refine blk_drew ?_ | refine blk_alloc ?_ _)); refine blk_put (cs := #[.int .i64 0, .int .i64 0, .int .i64 0]) ?_ 0 _ rfl; (with_reducible repeat (first | refine blk_drewN ?_ _ | refine blk_drew ?_ | refine blk_alloc ?_ _)); exact BK155.out) hb); have n2_ := Aside0.mk (below_step (bw2 HB GE153 GE155) hb); clear BK153; clear BK155; clear HB; have BK153 := n0_; have BK155 := n1_; have HB := n2_; clear n0_ n1_ n2_; (try clear hb); (try clear hb2); (try clear hk); (try clear hi); obtain ⟨hcz21_0, hcz21_1, hcz21_2, hfz21_0, hfz21_1, hfz21_2⟩ := b3 BK153; obtain ⟨hcz22_0, hcz22_1, hcz22_2, hfz22_0, hfz22_1, hfz22_2⟩ := b3 BK155) | (go_at_call 64; (with_reducible refine (macadamref04_isGang.calls _ _ l0_0 _ _ l0_1 a0_2 ((rd_T59 l1 x5_1).f1) true _ ?side1 ?side2 ?side3 ?side4 A12.out).mono ?_); (case side1 => repeat (first | exact (Kd.C_below HR0_0.out HB.out) | (with_reducible refine Kd.C_alloc ?_ _) | (with_reducible refine Kd.C_drewN ?_ _) | (with_reducible refine Kd.C_drew ?_))); (case side2 => exact HC0_0.out); (case side3 => repeat (first | exact (Kd.C_below HR0_1.out HB.out) | (with_reducible refine Kd.C_alloc ?_ _) | (with_reducible refine Kd.C_drewN ?_ _) | (with_reducible refine Kd.C_drew ?_))); (case side4 => exact HC0_1.out); rintro e w23 ⟨rfl, hb⟩; have n0_ := Aside0.mk (blk_below (bm BK153) hb); have n1_ := Aside0.mk (blk_below (bm BK155) hb); have n2_ := Aside0.mk (below_step (bw2 HB GE153 GE155) hb); clear BK153; clear BK155; clear HB; have BK153 := n0_; have BK155 := n1_; have HB := n2_; clear n0_ n1_ n2_; (try clear hb); (try clear hb2); (try clear hk); (try clear hi); obtain ⟨hcz24_0, hcz24_1, hcz24_2, hfz24_0, hfz24_1, hfz24_2⟩ := b3 BK153; obtain ⟨hcz25_0, hcz25_1, hcz25_2, hfz25_0, hfz25_1, hfz25_2⟩ := b3 BK155) | (go_at_call 65; (with_reducible refine (macadamref04_isMile.calls _ _ l0_0 _ _ l0_1 a0_2 ((rd_T59 l1 x5_1).f2) true _ ?side1 ?side2 ?side3 ?side4 A14.out).mono ?_); (case side1 => repeat (first | exact (Kd.C_below HR0_0.out HB.out) | (with_reducible refine Kd.C_alloc ?_ _) | (with_reducible refine Kd.C_drewN ?_ _) | (with_reducible refine Kd.C_drew ?_))); (case side2 => exact HC0_0.out); (case side3 => repeat (first | exact (Kd.C_below HR0_1.out HB.out) | (with_reducible refine Kd.C_alloc ?_ _) | (with_reducible refine Kd.C_drewN ?_ _) | (with_reducible refine Kd.C_drew ?_))); (case side4 => exact HC0_1.out); rintro e w26 ⟨rfl, hb⟩; have n0_ := Aside0.mk (blk_below (bm BK153) hb); have n1_ := Aside0.mk (blk_below (bm BK155) hb); have n2_ := Aside0.mk (below_step (bw2 HB GE153 GE155) hb); clear BK153; clear BK155; clear HB; have BK153 := n0_; have BK155 := n1_; have HB := n2_; clear n0_ n1_ n2_; (try clear hb); (try clear hb2); (try clear hk); (try clear hi); obtain ⟨hcz27_0, hcz27_1, hcz27_2, hfz27_0, hfz27_1, hfz27_2⟩ := b3 BK153; obtain ⟨hcz28_0, hcz28_1, hcz28_2, hfz28_0, hfz28_1, hfz28_2⟩ := b3 BK155) | (go_at_call 66; (with_reducible refine (macadamref04_can.calls _ _ l0_0 _ _ l0_1 a0_2 ((rd_T59 l1 x5_1).f1) ((rd_T59 l1 x5_1).f2) ((rd_T59 l1 x5_1).f0) t159 _ ?side1 ?side2 ?side3 ?side4 A16.out).mono ?_); (case side1 => repeat (first | exact (Kd.C_below HR0_0.out HB.out) | (with_reducible refine Kd.C_alloc ?_ _) | (with_reducible refine Kd.C_drewN ?_ _) | (with_reducible refine Kd.C_drew ?_))); (case side2 => exact HC0_0.out); (case side3 => repeat (first | exact (Kd.C_below HR0_1.out HB.out) | (with_reducible refine Kd.C_alloc ?_ _) | (with_reducible refine Kd.C_drewN ?_ _) | (with_reducible refine Kd.C_drew ?_))); (case side4 => exact HC0_1.out); rintro e w29 ⟨rfl, hb⟩; have n0_ := Aside0.mk (blk_below (bm BK153) hb); have n1_ := Aside0.mk (blk_below (bm BK155) hb); have n2_ := Aside0.mk (below_step (bw2 HB GE153 GE155) hb); clear BK153; clear BK155; clear HB; have BK153 := n0_; have BK155 := n1_; have HB := n2_; clear n0_ n1_ n2_; (try clear hb); (try clear hb2); (try clear hk); (try clear hi)))
         go_meet
         case rel => exact ⟨_, (!t159), (by first | rfl | (simp; done) | (simp [*]; done)), H', ⟨by have := HK1.out; first | omega | exact Nat.le_refl _⟩, ⟨bm BK153⟩, ⟨bm BK155⟩, ⟨bw2 HB GE153 GE155⟩⟩
        ·replace c15 := Bool.eq_false_iff.mpr c15
         subst c15
         have H1 : (macadamref04_isPlan.j1 k1 l1 x5_1 true l0_0 l0_1 a0_2 ((rd_T59 l1 x5_1).f0) ((rd_T59 l1 x5_1).f1) ((rd_T59 l1 x5_1).f2)) = some r := by rw [if_neg (show ¬ (false = true) by decide)] at H; exact H
         clear H
         have H := H1
         clear H1
         have H' := Aside0.mk H
         clear H
         have hnb30 := NB153_155.out
         have hnc30 := NB155_153.out
         obtain ⟨hcz31_0, hcz31_1, hcz31_2, hfz31_0, hfz31_1, hfz31_2⟩ := b3 BK153
         obtain ⟨hcz32_0, hcz32_1, hcz32_2, hfz32_0, hfz32_1, hfz32_2⟩ := b3 BK155
         go_wp2_with (first | ((with_reducible refine gate_callee (f := 72) rfl ?_); refine gL (some 21) Tryd.func72 #[.agg #[.slice A0_0 l0_0.length c0_0, .slice A0_1 l0_1.length c0_1, .int .i64 a0_2], .int .i64 ((rd_T59 l1 x5_1).f0)] ?_; (with_reducible refine (macadamref04_isNight.calls _ _ l0_0 _ _ l0_1 a0_2 ((rd_T59 l1 x5_1).f0) true _ ?side1 ?side2 ?side3 ?side4 A10.out).mono ?_); (case side1 => exact Kd.C_below HR0_0.out (bw2 HB GE153 GE155)); (case side2 => exact HC0_0.out); (case side3 => exact Kd.C_below HR0_1.out (bw2 HB GE153 GE155)); (case side4 => exact HC0_1.out); rintro e w33 ⟨rfl, hb⟩; refine ⟨_, rfl, ?_⟩; have n0_ := Aside0.mk (blk_below (g := gb153) (o := .cells #[.slice A0_0 l0_0.length c0_0, .slice A0_1 l0_1.length c0_1, .int .i64 a0_2] 25 (0, 0)) (by (with_reducible repeat (first | refine blk_drewN ?_ _ | refine blk_drew ?_ | refine blk_alloc ?_ _)); refine blk_far ?_ NB153_155.out _; (with_reducible repeat (first | refine blk_drewN ?_ _ | refine blk_drew ?_ | refine blk_alloc ?_ _)); refine blk_far ?_ NB153_155.out _; (with_reducible repeat (first | refine blk_drewN ?_ _ | refine blk_drew ?_ | refine blk_alloc ?_ _)); refine blk_far ?_ NB153_155.out _; (with_reducible repeat (first | refine blk_drewN ?_ _ | refine blk_drew ?_ | refine blk_alloc ?_ _)); exact BK153.out) hb); have n1_ := Aside0.mk (blk_below (g := gb155) (o := .cells #[.int .i64 ((rd_T59 l1 x5_1).f0), .int .i64 ((rd_T59 l1 x5_1).f1), .int .i64 ((rd_T59 l1 x5_1).f2)] 59 (0, 0)) (by (with_reducible repeat (first | refine blk_drewN ?_ _ | refine blk_drew ?_ | refine blk_alloc ?_ _)); refine blk_put (cs := #[.int .i64 ((rd_T59 l1 x5_1).f0), .int .i64 ((rd_T59 l1 x5_1).f1), .int .i64 0]) ?_ 2 _ rfl; (with_reducible repeat (first | refine blk_drewN ?_ _ | refine blk_drew ?_ | refine blk_alloc ?_ _)); refine blk_put (cs := #[.int .i64 ((rd_T59 l1 x5_1).f0), .int .i64 0, .int .i64 0]) ?_ 1 _ rfl; (with_reducible repeat (first | refine blk_drewN ?_ _ | refine blk_drew ?_ | refine blk_alloc ?_ _)); refine blk_put (cs := #[.int .i64 0, .int .i64 0, .int .i64 0]) ?_ 0 _ rfl; (with_reducible repeat (first | refine blk_drewN ?_ _ | refine blk_drew ?_ | refine blk_alloc ?_ _)); exact BK155.out) hb); have n2_ := Aside0.mk (below_step (bw2 HB GE153 GE155) hb); clear BK153; clear BK155; clear HB; have BK153 := n0_; have BK155 := n1_; have HB := n2_; clear n0_ n1_ n2_; (try clear hb); (try clear hb2); (try clear hk); (try clear hi); obtain ⟨hcz34_0, hcz34_1, hcz34_2, hfz34_0, hfz34_1, hfz34_2⟩ := b3 BK153; obtain ⟨hcz35_0, hcz35_1, hcz35_2, hfz35_0, hfz35_1, hfz35_2⟩ := b3 BK155) | (go_at_call 64; (with_reducible refine (macadamref04_isGang.calls _ _ l0_0 _ _ l0_1 a0_2 ((rd_T59 l1 x5_1).f1) true _ ?side1 ?side2 ?side3 ?side4 A12.out).mono ?_); (case side1 => repeat (first | exact (Kd.C_below HR0_0.out HB.out) | (with_reducible refine Kd.C_alloc ?_ _) | (with_reducible refine Kd.C_drewN ?_ _) | (with_reducible refine Kd.C_drew ?_))); (case side2 => exact HC0_0.out); (case side3 => repeat (first | exact (Kd.C_below HR0_1.out HB.out) | (with_reducible refine Kd.C_alloc ?_ _) | (with_reducible refine Kd.C_drewN ?_ _) | (with_reducible refine Kd.C_drew ?_))); (case side4 => exact HC0_1.out); rintro e w36 ⟨rfl, hb⟩; have n0_ := Aside0.mk (blk_below (bm BK153) hb); have n1_ := Aside0.mk (blk_below (bm BK155) hb); have n2_ := Aside0.mk (below_step (bw2 HB GE153 GE155) hb); clear BK153; clear BK155; clear HB; have BK153 := n0_; have BK155 := n1_; have HB := n2_; clear n0_ n1_ n2_; (try clear hb); (try clear hb2); (try clear hk); (try clear hi); obtain ⟨hcz37_0, hcz37_1, hcz37_2, hfz37_0, hfz37_1, hfz37_2⟩ := b3 BK153; obtain ⟨hcz38_0, hcz38_1, hcz38_2, hfz38_0, hfz38_1, hfz38_2⟩ := b3 BK155) | (go_at_call 65; (with_reducible refine (macadamref04_isMile.calls _ _ l0_0 _ _ l0_1 a0_2 ((rd_T59 l1 x5_1).f2) false _ ?side1 ?side2 ?side3 ?side4 A14.out).mono ?_); (case side1 => repeat (first | exact (Kd.C_below HR0_0.out HB.out) | (with_reducible refine Kd.C_alloc ?_ _) | (with_reducible refine Kd.C_drewN ?_ _) | (with_reducible refine Kd.C_drew ?_))); (case side2 => exact HC0_0.out); (case side3 => repeat (first | exact (Kd.C_below HR0_1.out HB.out) | (with_reducible refine Kd.C_alloc ?_ _) | (with_reducible refine Kd.C_drewN ?_ _) | (with_reducible refine Kd.C_drew ?_))); (case side4 => exact HC0_1.out); rintro e w39 ⟨rfl, hb⟩; have n0_ := Aside0.mk (blk_below (bm BK153) hb); have n1_ := Aside0.mk (blk_below (bm BK155) hb); have n2_ := Aside0.mk (below_step (bw2 HB GE153 GE155) hb); clear BK153; clear BK155; clear HB; have BK153 := n0_; have BK155 := n1_; have HB := n2_; clear n0_ n1_ n2_; (try clear hb); (try clear hb2); (try clear hk); (try clear hi)))
         go_meet
         case rel => exact ⟨_, (true), (by first | rfl | (simp; done) | (simp [*]; done)), H', ⟨by have := HK1.out; first | omega | exact Nat.le_refl _⟩, ⟨bm BK153⟩, ⟨bm BK155⟩, ⟨bw2 HB GE153 GE155⟩⟩
       ·replace c13 := Bool.eq_false_iff.mpr c13
        subst c13
        have H1 : (macadamref04_isPlan.j1 k1 l1 x5_1 true l0_0 l0_1 a0_2 ((rd_T59 l1 x5_1).f0) ((rd_T59 l1 x5_1).f1) ((rd_T59 l1 x5_1).f2)) = some r := by rw [if_neg (show ¬ (false = true) by decide)] at H; exact H
        clear H
        have H := H1
        clear H1
        have H' := Aside0.mk H
        clear H
        have hnb40 := NB153_155.out
        have hnc40 := NB155_153.out
        obtain ⟨hcz41_0, hcz41_1, hcz41_2, hfz41_0, hfz41_1, hfz41_2⟩ := b3 BK153
        obtain ⟨hcz42_0, hcz42_1, hcz42_2, hfz42_0, hfz42_1, hfz42_2⟩ := b3 BK155
        go_wp2_with (first | ((with_reducible refine gate_callee (f := 72) rfl ?_); refine gL (some 21) Tryd.func72 #[.agg #[.slice A0_0 l0_0.length c0_0, .slice A0_1 l0_1.length c0_1, .int .i64 a0_2], .int .i64 ((rd_T59 l1 x5_1).f0)] ?_; (with_reducible refine (macadamref04_isNight.calls _ _ l0_0 _ _ l0_1 a0_2 ((rd_T59 l1 x5_1).f0) true _ ?side1 ?side2 ?side3 ?side4 A10.out).mono ?_); (case side1 => exact Kd.C_below HR0_0.out (bw2 HB GE153 GE155)); (case side2 => exact HC0_0.out); (case side3 => exact Kd.C_below HR0_1.out (bw2 HB GE153 GE155)); (case side4 => exact HC0_1.out); rintro e w43 ⟨rfl, hb⟩; refine ⟨_, rfl, ?_⟩; have n0_ := Aside0.mk (blk_below (g := gb153) (o := .cells #[.slice A0_0 l0_0.length c0_0, .slice A0_1 l0_1.length c0_1, .int .i64 a0_2] 25 (0, 0)) (by (with_reducible repeat (first | refine blk_drewN ?_ _ | refine blk_drew ?_ | refine blk_alloc ?_ _)); refine blk_far ?_ NB153_155.out _; (with_reducible repeat (first | refine blk_drewN ?_ _ | refine blk_drew ?_ | refine blk_alloc ?_ _)); refine blk_far ?_ NB153_155.out _; (with_reducible repeat (first | refine blk_drewN ?_ _ | refine blk_drew ?_ | refine blk_alloc ?_ _)); refine blk_far ?_ NB153_155.out _; (with_reducible repeat (first | refine blk_drewN ?_ _ | refine blk_drew ?_ | refine blk_alloc ?_ _)); exact BK153.out) hb); have n1_ := Aside0.mk (blk_below (g := gb155) (o := .cells #[.int .i64 ((rd_T59 l1 x5_1).f0), .int .i64 ((rd_T59 l1 x5_1).f1), .int .i64 ((rd_T59 l1 x5_1).f2)] 59 (0, 0)) (by (with_reducible repeat (first | refine blk_drewN ?_ _ | refine blk_drew ?_ | refine blk_alloc ?_ _)); refine blk_put (cs := #[.int .i64 ((rd_T59 l1 x5_1).f0), .int .i64 ((rd_T59 l1 x5_1).f1), .int .i64 0]) ?_ 2 _ rfl; (with_reducible repeat (first | refine blk_drewN ?_ _ | refine blk_drew ?_ | refine blk_alloc ?_ _)); refine blk_put (cs := #[.int .i64 ((rd_T59 l1 x5_1).f0), .int .i64 0, .int .i64 0]) ?_ 1 _ rfl; (with_reducible repeat (first | refine blk_drewN ?_ _ | refine blk_drew ?_ | refine blk_alloc ?_ _)); refine blk_put (cs := #[.int .i64 0, .int .i64 0, .int .i64 0]) ?_ 0 _ rfl; (with_reducible repeat (first | refine blk_drewN ?_ _ | refine blk_drew ?_ | refine blk_alloc ?_ _)); exact BK155.out) hb); have n2_ := Aside0.mk (below_step (bw2 HB GE153 GE155) hb); clear BK153; clear BK155; clear HB; have BK153 := n0_; have BK155 := n1_; have HB := n2_; clear n0_ n1_ n2_; (try clear hb); (try clear hb2); (try clear hk); (try clear hi); obtain ⟨hcz44_0, hcz44_1, hcz44_2, hfz44_0, hfz44_1, hfz44_2⟩ := b3 BK153; obtain ⟨hcz45_0, hcz45_1, hcz45_2, hfz45_0, hfz45_1, hfz45_2⟩ := b3 BK155) | (go_at_call 64; (with_reducible refine (macadamref04_isGang.calls _ _ l0_0 _ _ l0_1 a0_2 ((rd_T59 l1 x5_1).f1) false _ ?side1 ?side2 ?side3 ?side4 A12.out).mono ?_); (case side1 => repeat (first | exact (Kd.C_below HR0_0.out HB.out) | (with_reducible refine Kd.C_alloc ?_ _) | (with_reducible refine Kd.C_drewN ?_ _) | (with_reducible refine Kd.C_drew ?_))); (case side2 => exact HC0_0.out); (case side3 => repeat (first | exact (Kd.C_below HR0_1.out HB.out) | (with_reducible refine Kd.C_alloc ?_ _) | (with_reducible refine Kd.C_drewN ?_ _) | (with_reducible refine Kd.C_drew ?_))); (case side4 => exact HC0_1.out); rintro e w46 ⟨rfl, hb⟩; have n0_ := Aside0.mk (blk_below (bm BK153) hb); have n1_ := Aside0.mk (blk_below (bm BK155) hb); have n2_ := Aside0.mk (below_step (bw2 HB GE153 GE155) hb); clear BK153; clear BK155; clear HB; have BK153 := n0_; have BK155 := n1_; have HB := n2_; clear n0_ n1_ n2_; (try clear hb); (try clear hb2); (try clear hk); (try clear hi)))
        go_meet
        case rel => exact ⟨_, (true), (by first | rfl | (simp; done) | (simp [*]; done)), H', ⟨by have := HK1.out; first | omega | exact Nat.le_refl _⟩, ⟨bm BK153⟩, ⟨bm BK155⟩, ⟨bw2 HB GE153 GE155⟩⟩
      ·replace c11 := Bool.eq_false_iff.mpr c11
       subst c11
       have H1 : (macadamref04_isPlan.j1 k1 l1 x5_1 true l0_0 l0_1 a0_2 ((rd_T59 l1 x5_1).f0) ((rd_T59 l1 x5_1).f1) ((rd_T59 l1 x5_1).f2)) = some r := by rw [if_neg (show ¬ (false = true) by decide)] at H; exact H
       clear H
       have H := H1
       clear H1
       have H' := Aside0.mk H
       clear H
       have hnb47 := NB153_155.out
       have hnc47 := NB155_153.out
       obtain ⟨hcz48_0, hcz48_1, hcz48_2, hfz48_0, hfz48_1, hfz48_2⟩ := b3 BK153
       obtain ⟨hcz49_0, hcz49_1, hcz49_2, hfz49_0, hfz49_1, hfz49_2⟩ := b3 BK155
       go_wp2_with (first | ((with_reducible refine gate_callee (f := 72) rfl ?_); refine gL (some 21) Tryd.func72 #[.agg #[.slice A0_0 l0_0.length c0_0, .slice A0_1 l0_1.length c0_1, .int .i64 a0_2], .int .i64 ((rd_T59 l1 x5_1).f0)] ?_; (with_reducible refine (macadamref04_isNight.calls _ _ l0_0 _ _ l0_1 a0_2 ((rd_T59 l1 x5_1).f0) false _ ?side1 ?side2 ?side3 ?side4 A10.out).mono ?_); (case side1 => exact Kd.C_below HR0_0.out (bw2 HB GE153 GE155)); (case side2 => exact HC0_0.out); (case side3 => exact Kd.C_below HR0_1.out (bw2 HB GE153 GE155)); (case side4 => exact HC0_1.out); rintro e w50 ⟨rfl, hb⟩; refine ⟨_, rfl, ?_⟩; have n0_ := Aside0.mk (blk_below (g := gb153) (o := .cells #[.slice A0_0 l0_0.length c0_0, .slice A0_1 l0_1.length c0_1, .int .i64 a0_2] 25 (0, 0)) (by (with_reducible repeat (first | refine blk_drewN ?_ _ | refine blk_drew ?_ | refine blk_alloc ?_ _)); refine blk_far ?_ NB153_155.out _; (with_reducible repeat (first | refine blk_drewN ?_ _ | refine blk_drew ?_ | refine blk_alloc ?_ _)); refine blk_far ?_ NB153_155.out _; (with_reducible repeat (first | refine blk_drewN ?_ _ | refine blk_drew ?_ | refine blk_alloc ?_ _)); refine blk_far ?_ NB153_155.out _; (with_reducible repeat (first | refine blk_drewN ?_ _ | refine blk_drew ?_ | refine blk_alloc ?_ _)); exact BK153.out) hb); have n1_ := Aside0.mk (blk_below (g := gb155) (o := .cells #[.int .i64 ((rd_T59 l1 x5_1).f0), .int .i64 ((rd_T59 l1 x5_1).f1), .int .i64 ((rd_T59 l1 x5_1).f2)] 59 (0, 0)) (by (with_reducible repeat (first | refine blk_drewN ?_ _ | refine blk_drew ?_ | refine blk_alloc ?_ _)); refine blk_put (cs := #[.int .i64 ((rd_T59 l1 x5_1).f0), .int .i64 ((rd_T59 l1 x5_1).f1), .int .i64 0]) ?_ 2 _ rfl; (with_reducible repeat (first | refine blk_drewN ?_ _ | refine blk_drew ?_ | refine blk_alloc ?_ _)); refine blk_put (cs := #[.int .i64 ((rd_T59 l1 x5_1).f0), .int .i64 0, .int .i64 0]) ?_ 1 _ rfl; (with_reducible repeat (first | refine blk_drewN ?_ _ | refine blk_drew ?_ | refine blk_alloc ?_ _)); refine blk_put (cs := #[.int .i64 0, .int .i64 0, .int .i64 0]) ?_ 0 _ rfl; (with_reducible repeat (first | refine blk_drewN ?_ _ | refine blk_drew ?_ | refine blk_alloc ?_ _)); exact BK155.out) hb); have n2_ := Aside0.mk (below_step (bw2 HB GE153 GE155) hb); clear BK153; clear BK155; clear HB; have BK153 := n0_; have BK155 := n1_; have HB := n2_; clear n0_ n1_ n2_; (try clear hb); (try clear hb2); (try clear hk); (try clear hi)))
       go_meet
       case rel => exact ⟨_, (true), (by first | rfl | (simp; done) | (simp [*]; done)), H', ⟨by have := HK1.out; first | omega | exact Nat.le_refl _⟩, ⟨bm BK153⟩, ⟨bm BK155⟩, ⟨bw2 HB GE153 GE155⟩⟩
     case rest =>
      clear HC6
      try clear c1
      try clear p1
      try clear q1
      try clear hx1
      try clear p2
      try clear c3
      try clear c4
      try clear c4b0
      try clear c5
      try clear c5b0
      try clear c6
      try clear c7
      try clear c8
      try clear c11
      try clear c13
      try clear c15
      try clear p15
      try clear q15
      try clear hx15
      try clear c17
      try clear c30
      try clear c40
      try clear c47
      try clear hcz18_0
      try clear hcz18_1
      try clear hcz18_2
      try clear hcz19_0
      try clear hcz19_1
      try clear hcz19_2
      try clear hcz21_0
      try clear hcz21_1
      try clear hcz21_2
      try clear hcz22_0
      try clear hcz22_1
      try clear hcz22_2
      try clear hcz24_0
      try clear hcz24_1
      try clear hcz24_2
      try clear hcz25_0
      try clear hcz25_1
      try clear hcz25_2
      try clear hcz27_0
      try clear hcz27_1
      try clear hcz27_2
      try clear hcz28_0
      try clear hcz28_1
      try clear hcz28_2
      try clear hcz31_0
      try clear hcz31_1
      try clear hcz31_2
      try clear hcz32_0
      try clear hcz32_1
      try clear hcz32_2
      try clear hcz34_0
      try clear hcz34_1
      try clear hcz34_2
      try clear hcz35_0
      try clear hcz35_1
      try clear hcz35_2
      try clear hcz37_0
      try clear hcz37_1
      try clear hcz37_2
      try clear hcz38_0
      try clear hcz38_1
      try clear hcz38_2
      try clear hcz41_0
      try clear hcz41_1
      try clear hcz41_2
      try clear hcz42_0
      try clear hcz42_1
      try clear hcz42_2
      try clear hcz44_0
      try clear hcz44_1
      try clear hcz44_2
      try clear hcz45_0
      try clear hcz45_1
      try clear hcz45_2
      try clear hcz48_0
      try clear hcz48_1
      try clear hcz48_2
      try clear hcz49_0
      try clear hcz49_1
      try clear hcz49_2
      try clear hcz9_0
      try clear hcz9_1
      try clear hcz9_2
      try clear hfz18_0
      try clear hfz18_1
      try clear hfz18_2
      try clear hfz19_0
      try clear hfz19_1
      try clear hfz19_2
      try clear hfz21_0
      try clear hfz21_1
      try clear hfz21_2
      try clear hfz22_0
      try clear hfz22_1
      try clear hfz22_2
      try clear hfz24_0
      try clear hfz24_1
      try clear hfz24_2
      try clear hfz25_0
      try clear hfz25_1
      try clear hfz25_2
      try clear hfz27_0
      try clear hfz27_1
      try clear hfz27_2
      try clear hfz28_0
      try clear hfz28_1
      try clear hfz28_2
      try clear hfz31_0
      try clear hfz31_1
      try clear hfz31_2
      try clear hfz32_0
      try clear hfz32_1
      try clear hfz32_2
      try clear hfz34_0
      try clear hfz34_1
      try clear hfz34_2
      try clear hfz35_0
      try clear hfz35_1
      try clear hfz35_2
      try clear hfz37_0
      try clear hfz37_1
      try clear hfz37_2
      try clear hfz38_0
      try clear hfz38_1
      try clear hfz38_2
      try clear hfz41_0
      try clear hfz41_1
      try clear hfz41_2
      try clear hfz42_0
      try clear hfz42_1
      try clear hfz42_2
      try clear hfz44_0
      try clear hfz44_1
      try clear hfz44_2
      try clear hfz45_0
      try clear hfz45_1
      try clear hfz45_2
      try clear hfz48_0
      try clear hfz48_1
      try clear hfz48_2
      try clear hfz49_0
      try clear hfz49_1
      try clear hfz49_2
      try clear hfz9_0
      try clear hfz9_1
      try clear hfz9_2
      try clear hx154_0
      try clear hx154_1
      try clear hx154_2
      try clear p154
      try clear p2
      try clear q154
      obtain ⟨kq, x47_5, rfl, HA, HJ5, BK153, BK155, HB⟩ := hcut
      cases kq with
      | zero => exact absurd HA.out (by simp [macadamref04_isPlan.j1])
      | succ kj5 =>
       have H := HA.out
       clear HA
       simp only [macadamref04_isPlan.j1] at H
       by_cases c51 : x47_5 = true
       ·subst c51
        have H1 : (some false) = some r := by rw [if_pos rfl] at H; exact H
        clear H
        have H := H1
        clear H1
        obtain rfl := Option.some.inj H
        go_wp2
        go_ret
        exact ⟨by first | rfl | (simp [errW_none, errW_some] <;> rfl) | (simp [*, errW_none, errW_some] <;> rfl), bw2 HB GE153 GE155⟩
       ·replace c51 := Bool.eq_false_iff.mpr c51
        subst c51
        have H1 : (if x5_1 = 0 then (macadamref04_isPlan.l0 kj5 l1 (wrap64 (x5_1 + 1)) l0_0 l0_1 a0_2) else (if 0 ≤ (wrap64 (x5_1 - 1)) then (if (wrap64 (x5_1 - 1)) < (l1.length : Int) then (if ((rd_T59 l1 x5_1).f0) < ((rd_T59 l1 (wrap64 (x5_1 - 1))).f0) then (macadamref04_isPlan.j2 kj5 l1 x5_1 true l0_0 l0_1 a0_2 ((rd_T59 l1 x5_1).f0) ((rd_T59 l1 x5_1).f1) ((rd_T59 l1 x5_1).f2) ((rd_T59 l1 (wrap64 (x5_1 - 1))).f0) ((rd_T59 l1 (wrap64 (x5_1 - 1))).f1) ((rd_T59 l1 (wrap64 (x5_1 - 1))).f2)) else (if ((rd_T59 l1 x5_1).f0) = ((rd_T59 l1 (wrap64 (x5_1 - 1))).f0) then (macadamref04_isPlan.j2 kj5 l1 x5_1 (decide (((rd_T59 l1 x5_1).f1) ≤ ((rd_T59 l1 (wrap64 (x5_1 - 1))).f1))) l0_0 l0_1 a0_2 ((rd_T59 l1 x5_1).f0) ((rd_T59 l1 x5_1).f1) ((rd_T59 l1 x5_1).f2) ((rd_T59 l1 (wrap64 (x5_1 - 1))).f0) ((rd_T59 l1 (wrap64 (x5_1 - 1))).f1) ((rd_T59 l1 (wrap64 (x5_1 - 1))).f2)) else (macadamref04_isPlan.j2 kj5 l1 x5_1 false l0_0 l0_1 a0_2 ((rd_T59 l1 x5_1).f0) ((rd_T59 l1 x5_1).f1) ((rd_T59 l1 x5_1).f2) ((rd_T59 l1 (wrap64 (x5_1 - 1))).f0) ((rd_T59 l1 (wrap64 (x5_1 - 1))).f1) ((rd_T59 l1 (wrap64 (x5_1 - 1))).f2)))) else (none)) else (none))) = some r := by rw [if_neg (show ¬ (false = true) by decide)] at H; exact H
        clear H
        have H := H1
        clear H1
        by_cases c52 : x5_1 = 0
        ·rw [if_pos c52] at H
         have c52b0 : (x5_1 == 0) = true := beq_iff_eq.mpr c52
         have c52b1 : (x5_1 != 0) = false := bne_eq_false_iff_eq.mpr c52
         clear c52
         have H' := Aside0.mk H
         clear H
         go_wp2
         go_roundg kj5
         case measure => have := HK1.out; have := HJ5.out; omega
         case rel => exact ⟨(wrap64 (x5_1 + 1)), (by first | rfl | (simp; done) | (simp [*]; done)), H', ⟨by have := HK1.out; have := HJ5.out; omega⟩, ⟨bm BK153⟩, ⟨bw2 HB GE153 GE155⟩⟩
        ·rw [if_neg c52] at H
         have c52b0 : (x5_1 == 0) = false := beq_eq_false_iff_ne.mpr c52
         have c52b1 : (x5_1 != 0) = true := bne_iff_ne.mpr c52
         obtain ⟨ji53, hji53⟩ : ∃ j_ : Int, (wrap64 (x5_1 - 1)) = j_ := ⟨_, rfl⟩
         replace H : (if 0 ≤ (ji53) then (if (ji53) < (l1.length : Int) then (if ((rd_T59 l1 x5_1).f0) < ((rd_T59 l1 (ji53)).f0) then (macadamref04_isPlan.j2 kj5 l1 x5_1 true l0_0 l0_1 a0_2 ((rd_T59 l1 x5_1).f0) ((rd_T59 l1 x5_1).f1) ((rd_T59 l1 x5_1).f2) ((rd_T59 l1 (ji53)).f0) ((rd_T59 l1 (ji53)).f1) ((rd_T59 l1 (ji53)).f2)) else (if ((rd_T59 l1 x5_1).f0) = ((rd_T59 l1 (ji53)).f0) then (macadamref04_isPlan.j2 kj5 l1 x5_1 (decide (((rd_T59 l1 x5_1).f1) ≤ ((rd_T59 l1 (ji53)).f1))) l0_0 l0_1 a0_2 ((rd_T59 l1 x5_1).f0) ((rd_T59 l1 x5_1).f1) ((rd_T59 l1 x5_1).f2) ((rd_T59 l1 (ji53)).f0) ((rd_T59 l1 (ji53)).f1) ((rd_T59 l1 (ji53)).f2)) else (macadamref04_isPlan.j2 kj5 l1 x5_1 false l0_0 l0_1 a0_2 ((rd_T59 l1 x5_1).f0) ((rd_T59 l1 x5_1).f1) ((rd_T59 l1 x5_1).f2) ((rd_T59 l1 (ji53)).f0) ((rd_T59 l1 (ji53)).f1) ((rd_T59 l1 (ji53)).f2)))) else (none)) else (none)) = some r := by first | (rw [hji53] at H; exact H) | (simp only [hji53] at H ⊢; exact H)
         have hji53w : (IntKind.i64.wrap (x5_1 - 1)) = ji53 := (i64_w _).trans hji53
         by_cases c54 : 0 ≤ (ji53)
         ·rw [if_pos c54] at H
          have c54b0 : decide (0 ≤ (ji53)) = true := decide_eq_true c54
          clear c54
          by_cases c55 : (ji53) < (l1.length : Int)
          ·rw [if_pos c55] at H
           have c55b0 : decide ((ji53) < (l1.length : Int)) = true := decide_eq_true c55
           clear c55
           have HC56 := Aside0.mk H
           clear H
           have p160 : 0 ≤ ((ji53) : Int) := of_decide_eq_true (by first | (with_reducible assumption) | assumption)
           have q160 : (ji53) < (l1.length : Int) := of_decide_eq_true (by first | (with_reducible assumption) | assumption)
           obtain ⟨ad160, e160, hx160_0, hx160_1, hx160_2⟩ := at_T59 HR1.out (ji53) p160 q160
           obtain rfl : ad154 = ad160 := (by injection e160)
           replace hx160_0 := cB HB hx160_0
           replace hx160_1 := cB HB hx160_1
           replace hx160_2 := cB HB hx160_2
           replace p160 := eq_true p160
           replace q160 := eq_true q160
           go_upto_region 9 with (first | ((with_reducible refine gate_dst (N := 7) rfl ?_); refine bx 7 #[.int .i64 0, .int .i64 0, .int .i64 0] 59 ?_; intro gb161 hg w57 hbox hb; have n0_ := Aside0.mk (blk_below (bm BK153) hb); have n1_ := Aside0.mk (blk_below (bm BK155) hb); have n2_ := Aside0.mk (below_step (bw2 HB GE153 GE155) hb); have n3_ := Aside0.mk (hbox); have n4_ := Aside0.mk (bz (bw2 HB GE153 GE155) hg); have n5_ := Aside0.mk (bz (bw2 HB GE153 GE155) hg); have n6_ := Aside0.mk (bl (bm BK153) hg); have n7_ := Aside0.mk (bg (bm BK153) hg); have n8_ := Aside0.mk (bl (bm BK155) hg); have n9_ := Aside0.mk (bg (bm BK155) hg); clear BK153; clear BK155; clear HB; have BK153 := n0_; have BK155 := n1_; have HB := n2_; have BK161 := n3_; have GW161 := n4_; have GE161 := n5_; have NB153_161 := n6_; have NB161_153 := n7_; have NB155_161 := n8_; have NB161_155 := n9_; clear n0_ n1_ n2_ n3_ n4_ n5_ n6_ n7_ n8_ n9_; clear hb hbox hg; have hnb58 := NB161_153.out; have hnc58 := NB153_161.out; have hnb59 := NB161_155.out; have hnc59 := NB155_161.out; obtain ⟨hcz60_0, hcz60_1, hcz60_2, hfz60_0, hfz60_1, hfz60_2⟩ := b3 BK161))
           (try simp only [Act.put, List.setIfInBounds_toArray, List.set_cons_zero, List.set_cons_succ])
           go_cut [73] (fun v73 wc => ∃ (kq : Nat) (x73_55 : Bool), v73 = .bool x73_55 ∧ Aside0 (macadamref04_isPlan.j2 kq l1 x5_1 x73_55 l0_0 l0_1 a0_2 ((rd_T59 l1 x5_1).f0) ((rd_T59 l1 x5_1).f1) ((rd_T59 l1 x5_1).f2) ((rd_T59 l1 (ji53)).f0) ((rd_T59 l1 (ji53)).f1) ((rd_T59 l1 (ji53)).f2) = some r) ∧ Aside0 (kq ≤ kj5) ∧ Aside0 (wc.heap[gb153]? = some (.cells #[(.slice A0_0 l0_0.length c0_0), (.slice A0_1 l0_1.length c0_1), .int .i64 a0_2] 25 (0, 0))) ∧ Aside0 (wc.heap[gb155]? = some (.cells #[.int .i64 ((rd_T59 l1 x5_1).f0), .int .i64 ((rd_T59 l1 x5_1).f1), .int .i64 ((rd_T59 l1 x5_1).f2)] 59 (0, 0))) ∧ Aside0 (wc.heap[gb161]? = some (.cells #[.int .i64 ((rd_T59 l1 (ji53)).f0), .int .i64 ((rd_T59 l1 (ji53)).f1), .int .i64 ((rd_T59 l1 (ji53)).f2)] 59 (0, 0))) ∧ Aside0 (Below w.heap.size w wc))
           case first =>
            have H := HC56.out
            clear HC56
            by_cases c61 : ((rd_T59 l1 x5_1).f0) < ((rd_T59 l1 (ji53)).f0)
            ·rw [if_pos c61] at H
             have c61b0 : decide (((rd_T59 l1 x5_1).f0) < ((rd_T59 l1 (ji53)).f0)) = true := decide_eq_true c61
             clear c61
             (first | rw [c61b0] | (simp only [i64_w, i32_w]; rw [c61b0]) | skip)
             have H' := Aside0.mk H
             clear H
             have hnb62 := NB155_153.out
             have hnc62 := NB153_155.out
             have hnb63 := NB155_161.out
             have hnc63 := NB161_155.out
             obtain ⟨hcz64_0, hcz64_1, hcz64_2, hfz64_0, hfz64_1, hfz64_2⟩ := b3 BK155
             have hnb65 := NB161_153.out
             have hnc65 := NB153_161.out
             obtain ⟨hcz66_0, hcz66_1, hcz66_2, hfz66_0, hfz66_1, hfz66_2⟩ := b3 BK161
             go_wp2
             go_meet
             case rel => exact ⟨_, (true), (by first | rfl | (simp; done) | (simp [*]; done)), H', ⟨by have := HK1.out; have := HJ5.out; first | omega | exact Nat.le_refl _⟩, ⟨by (with_reducible repeat (first | refine blk_drewN ?_ _ | refine blk_drew ?_ | refine blk_alloc ?_ _)); refine blk_far ?_ NB153_161.out _; (with_reducible repeat (first | refine blk_drewN ?_ _ | refine blk_drew ?_ | refine blk_alloc ?_ _)); refine blk_far ?_ NB153_161.out _; (with_reducible repeat (first | refine blk_drewN ?_ _ | refine blk_drew ?_ | refine blk_alloc ?_ _)); refine blk_far ?_ NB153_161.out _; (with_reducible repeat (first | refine blk_drewN ?_ _ | refine blk_drew ?_ | refine blk_alloc ?_ _)); exact BK153.out⟩, ⟨by (with_reducible repeat (first | refine blk_drewN ?_ _ | refine blk_drew ?_ | refine blk_alloc ?_ _)); refine blk_far ?_ NB155_161.out _; (with_reducible repeat (first | refine blk_drewN ?_ _ | refine blk_drew ?_ | refine blk_alloc ?_ _)); refine blk_far ?_ NB155_161.out _; (with_reducible repeat (first | refine blk_drewN ?_ _ | refine blk_drew ?_ | refine blk_alloc ?_ _)); refine blk_far ?_ NB155_161.out _; (with_reducible repeat (first | refine blk_drewN ?_ _ | refine blk_drew ?_ | refine blk_alloc ?_ _)); exact BK155.out⟩, ⟨by (with_reducible repeat (first | refine blk_drewN ?_ _ | refine blk_drew ?_ | refine blk_alloc ?_ _)); refine blk_put (cs := #[.int .i64 ((rd_T59 l1 (ji53)).f0), .int .i64 ((rd_T59 l1 (ji53)).f1), .int .i64 0]) ?_ 2 _ rfl; (with_reducible repeat (first | refine blk_drewN ?_ _ | refine blk_drew ?_ | refine blk_alloc ?_ _)); refine blk_put (cs := #[.int .i64 ((rd_T59 l1 (ji53)).f0), .int .i64 0, .int .i64 0]) ?_ 1 _ rfl; (with_reducible repeat (first | refine blk_drewN ?_ _ | refine blk_drew ?_ | refine blk_alloc ?_ _)); refine blk_put (cs := #[.int .i64 0, .int .i64 0, .int .i64 0]) ?_ 0 _ rfl; (with_reducible repeat (first | refine blk_drewN ?_ _ | refine blk_drew ?_ | refine blk_alloc ?_ _)); exact BK161.out⟩, ⟨bw3 HB GE153 GE155 GE161⟩⟩
            ·rw [if_neg c61] at H
             have c61b0 : decide (((rd_T59 l1 x5_1).f0) < ((rd_T59 l1 (ji53)).f0)) = false := decide_eq_false c61
             clear c61
             (first | rw [c61b0] | (simp only [i64_w, i32_w]; rw [c61b0]) | skip)
             by_cases c67 : ((rd_T59 l1 x5_1).f0) = ((rd_T59 l1 (ji53)).f0)
             ·rw [if_pos c67] at H
              have c67b0 : (((rd_T59 l1 x5_1).f0) == ((rd_T59 l1 (ji53)).f0)) = true := beq_iff_eq.mpr c67
              have c67b1 : (((rd_T59 l1 x5_1).f0) != ((rd_T59 l1 (ji53)).f0)) = false := bne_eq_false_iff_eq.mpr c67
              clear c67
              have H' := Aside0.mk H
              clear H
              have hnb68 := NB155_153.out
              have hnc68 := NB153_155.out
              have hnb69 := NB155_161.out
              have hnc69 := NB161_155.out
              obtain ⟨hcz70_0, hcz70_1, hcz70_2, hfz70_0, hfz70_1, hfz70_2⟩ := b3 BK155
              have hnb71 := NB161_153.out
              have hnc71 := NB153_161.out
              obtain ⟨hcz72_0, hcz72_1, hcz72_2, hfz72_0, hfz72_1, hfz72_2⟩ := b3 BK161
              go_wp2
              go_meet
              case rel => exact ⟨_, (decide (((rd_T59 l1 x5_1).f1) ≤ ((rd_T59 l1 (ji53)).f1))), (by first | rfl | (simp; done) | (simp only [← hji53] <;> (first | rfl | simp)) | (simp [*]; done)), H', ⟨by have := HK1.out; have := HJ5.out; first | omega | exact Nat.le_refl _⟩, ⟨by (with_reducible repeat (first | refine blk_drewN ?_ _ | refine blk_drew ?_ | refine blk_alloc ?_ _)); refine blk_far ?_ NB153_161.out _; (with_reducible repeat (first | refine blk_drewN ?_ _ | refine blk_drew ?_ | refine blk_alloc ?_ _)); refine blk_far ?_ NB153_161.out _; (with_reducible repeat (first | refine blk_drewN ?_ _ | refine blk_drew ?_ | refine blk_alloc ?_ _)); refine blk_far ?_ NB153_161.out _; (with_reducible repeat (first | refine blk_drewN ?_ _ | refine blk_drew ?_ | refine blk_alloc ?_ _)); exact BK153.out⟩, ⟨by (with_reducible repeat (first | refine blk_drewN ?_ _ | refine blk_drew ?_ | refine blk_alloc ?_ _)); refine blk_far ?_ NB155_161.out _; (with_reducible repeat (first | refine blk_drewN ?_ _ | refine blk_drew ?_ | refine blk_alloc ?_ _)); refine blk_far ?_ NB155_161.out _; (with_reducible repeat (first | refine blk_drewN ?_ _ | refine blk_drew ?_ | refine blk_alloc ?_ _)); refine blk_far ?_ NB155_161.out _; (with_reducible repeat (first | refine blk_drewN ?_ _ | refine blk_drew ?_ | refine blk_alloc ?_ _)); exact BK155.out⟩, ⟨by (with_reducible repeat (first | refine blk_drewN ?_ _ | refine blk_drew ?_ | refine blk_alloc ?_ _)); refine blk_put (cs := #[.int .i64 ((rd_T59 l1 (ji53)).f0), .int .i64 ((rd_T59 l1 (ji53)).f1), .int .i64 0]) ?_ 2 _ rfl; (with_reducible repeat (first | refine blk_drewN ?_ _ | refine blk_drew ?_ | refine blk_alloc ?_ _)); refine blk_put (cs := #[.int .i64 ((rd_T59 l1 (ji53)).f0), .int .i64 0, .int .i64 0]) ?_ 1 _ rfl; (with_reducible repeat (first | refine blk_drewN ?_ _ | refine blk_drew ?_ | refine blk_alloc ?_ _)); refine blk_put (cs := #[.int .i64 0, .int .i64 0, .int .i64 0]) ?_ 0 _ rfl; (with_reducible repeat (first | refine blk_drewN ?_ _ | refine blk_drew ?_ | refine blk_alloc ?_ _)); exact BK161.out⟩, ⟨bw3 HB GE153 GE155 GE161⟩⟩
             ·rw [if_neg c67] at H
              have c67b0 : (((rd_T59 l1 x5_1).f0) == ((rd_T59 l1 (ji53)).f0)) = false := beq_eq_false_iff_ne.mpr c67
              have c67b1 : (((rd_T59 l1 x5_1).f0) != ((rd_T59 l1 (ji53)).f0)) = true := bne_iff_ne.mpr c67
              have H' := Aside0.mk H
              clear H
              have hnb73 := NB155_153.out
              have hnc73 := NB153_155.out
              have hnb74 := NB155_161.out
              have hnc74 := NB161_155.out
              obtain ⟨hcz75_0, hcz75_1, hcz75_2, hfz75_0, hfz75_1, hfz75_2⟩ := b3 BK155
              have hnb76 := NB161_153.out
              have hnc76 := NB153_161.out
              obtain ⟨hcz77_0, hcz77_1, hcz77_2, hfz77_0, hfz77_1, hfz77_2⟩ := b3 BK161
              go_wp2
              go_meet
              case rel => exact ⟨_, (false), (by first | rfl | (simp; done) | (simp [*]; done)), H', ⟨by have := HK1.out; have := HJ5.out; first | omega | exact Nat.le_refl _⟩, ⟨by (with_reducible repeat (first | refine blk_drewN ?_ _ | refine blk_drew ?_ | refine blk_alloc ?_ _)); refine blk_far ?_ NB153_161.out _; (with_reducible repeat (first | refine blk_drewN ?_ _ | refine blk_drew ?_ | refine blk_alloc ?_ _)); refine blk_far ?_ NB153_161.out _; (with_reducible repeat (first | refine blk_drewN ?_ _ | refine blk_drew ?_ | refine blk_alloc ?_ _)); refine blk_far ?_ NB153_161.out _; (with_reducible repeat (first | refine blk_drewN ?_ _ | refine blk_drew ?_ | refine blk_alloc ?_ _)); exact BK153.out⟩, ⟨by (with_reducible repeat (first | refine blk_drewN ?_ _ | refine blk_drew ?_ | refine blk_alloc ?_ _)); refine blk_far ?_ NB155_161.out _; (with_reducible repeat (first | refine blk_drewN ?_ _ | refine blk_drew ?_ | refine blk_alloc ?_ _)); refine blk_far ?_ NB155_161.out _; (with_reducible repeat (first | refine blk_drewN ?_ _ | refine blk_drew ?_ | refine blk_alloc ?_ _)); refine blk_far ?_ NB155_161.out _; (with_reducible repeat (first | refine blk_drewN ?_ _ | refine blk_drew ?_ | refine blk_alloc ?_ _)); exact BK155.out⟩, ⟨by (with_reducible repeat (first | refine blk_drewN ?_ _ | refine blk_drew ?_ | refine blk_alloc ?_ _)); refine blk_put (cs := #[.int .i64 ((rd_T59 l1 (ji53)).f0), .int .i64 ((rd_T59 l1 (ji53)).f1), .int .i64 0]) ?_ 2 _ rfl; (with_reducible repeat (first | refine blk_drewN ?_ _ | refine blk_drew ?_ | refine blk_alloc ?_ _)); refine blk_put (cs := #[.int .i64 ((rd_T59 l1 (ji53)).f0), .int .i64 0, .int .i64 0]) ?_ 1 _ rfl; (with_reducible repeat (first | refine blk_drewN ?_ _ | refine blk_drew ?_ | refine blk_alloc ?_ _)); refine blk_put (cs := #[.int .i64 0, .int .i64 0, .int .i64 0]) ?_ 0 _ rfl; (with_reducible repeat (first | refine blk_drewN ?_ _ | refine blk_drew ?_ | refine blk_alloc ?_ _)); exact BK161.out⟩, ⟨bw3 HB GE153 GE155 GE161⟩⟩
           case rest =>
            clear HC56
            try clear c1
            try clear p1
            try clear q1
            try clear hx1
            try clear p2
            try clear c3
            try clear c4
            try clear c4b0
            try clear c5
            try clear c5b0
            try clear c6
            try clear p6
            try clear c7
            try clear c8
            try clear c11
            try clear c13
            try clear c15
            try clear p15
            try clear q15
            try clear hx15
            try clear p16
            try clear q16
            try clear hx16
            try clear c17
            try clear c30
            try clear c40
            try clear c47
            try clear c51
            try clear c52
            try clear c52b0
            try clear c52b1
            try clear c54
            try clear c54b0
            try clear c55
            try clear c55b0
            try clear c58
            try clear c59
            try clear c61
            try clear c61b0
            try clear c62
            try clear c63
            try clear p64
            try clear c65
            try clear c67
            try clear c67b0
            try clear c67b1
            try clear c68
            try clear c69
            try clear c71
            try clear c72
            try clear c73
            try clear c74
            try clear c76
            try clear hcz18_0
            try clear hcz18_1
            try clear hcz18_2
            try clear hcz19_0
            try clear hcz19_1
            try clear hcz19_2
            try clear hcz21_0
            try clear hcz21_1
            try clear hcz21_2
            try clear hcz22_0
            try clear hcz22_1
            try clear hcz22_2
            try clear hcz24_0
            try clear hcz24_1
            try clear hcz24_2
            try clear hcz25_0
            try clear hcz25_1
            try clear hcz25_2
            try clear hcz27_0
            try clear hcz27_1
            try clear hcz27_2
            try clear hcz28_0
            try clear hcz28_1
            try clear hcz28_2
            try clear hcz31_0
            try clear hcz31_1
            try clear hcz31_2
            try clear hcz32_0
            try clear hcz32_1
            try clear hcz32_2
            try clear hcz34_0
            try clear hcz34_1
            try clear hcz34_2
            try clear hcz35_0
            try clear hcz35_1
            try clear hcz35_2
            try clear hcz37_0
            try clear hcz37_1
            try clear hcz37_2
            try clear hcz38_0
            try clear hcz38_1
            try clear hcz38_2
            try clear hcz41_0
            try clear hcz41_1
            try clear hcz41_2
            try clear hcz42_0
            try clear hcz42_1
            try clear hcz42_2
            try clear hcz44_0
            try clear hcz44_1
            try clear hcz44_2
            try clear hcz45_0
            try clear hcz45_1
            try clear hcz45_2
            try clear hcz48_0
            try clear hcz48_1
            try clear hcz48_2
            try clear hcz49_0
            try clear hcz49_1
            try clear hcz49_2
            try clear hcz60_0
            try clear hcz60_1
            try clear hcz60_2
            try clear hcz64_0
            try clear hcz64_1
            try clear hcz64_2
            try clear hcz66_0
            try clear hcz66_1
            try clear hcz66_2
            try clear hcz70_0
            try clear hcz70_1
            try clear hcz70_2
            try clear hcz72_0
            try clear hcz72_1
            try clear hcz72_2
            try clear hcz75_0
            try clear hcz75_1
            try clear hcz75_2
            try clear hcz77_0
            try clear hcz77_1
            try clear hcz77_2
            try clear hcz9_0
            try clear hcz9_1
            try clear hcz9_2
            try clear hfz18_0
            try clear hfz18_1
            try clear hfz18_2
            try clear hfz19_0
            try clear hfz19_1
            try clear hfz19_2
            try clear hfz21_0
            try clear hfz21_1
            try clear hfz21_2
            try clear hfz22_0
            try clear hfz22_1
            try clear hfz22_2
            try clear hfz24_0
            try clear hfz24_1
            try clear hfz24_2
            try clear hfz25_0
            try clear hfz25_1
            try clear hfz25_2
            try clear hfz27_0
            try clear hfz27_1
            try clear hfz27_2
            try clear hfz28_0
            try clear hfz28_1
            try clear hfz28_2
            try clear hfz31_0
            try clear hfz31_1
            try clear hfz31_2
            try clear hfz32_0
            try clear hfz32_1
            try clear hfz32_2
            try clear hfz34_0
            try clear hfz34_1
            try clear hfz34_2
            try clear hfz35_0
            try clear hfz35_1
            try clear hfz35_2
            try clear hfz37_0
            try clear hfz37_1
            try clear hfz37_2
            try clear hfz38_0
            try clear hfz38_1
            try clear hfz38_2
            try clear hfz41_0
            try clear hfz41_1
            try clear hfz41_2
            try clear hfz42_0
            try clear hfz42_1
            try clear hfz42_2
            try clear hfz44_0
            try clear hfz44_1
            try clear hfz44_2
            try clear hfz45_0
            try clear hfz45_1
            try clear hfz45_2
            try clear hfz48_0
            try clear hfz48_1
            try clear hfz48_2
            try clear hfz49_0
            try clear hfz49_1
            try clear hfz49_2
            try clear hfz60_0
            try clear hfz60_1
            try clear hfz60_2
            try clear hfz64_0
            try clear hfz64_1
            try clear hfz64_2
            try clear hfz66_0
            try clear hfz66_1
            try clear hfz66_2
            try clear hfz70_0
            try clear hfz70_1
            try clear hfz70_2
            try clear hfz72_0
            try clear hfz72_1
            try clear hfz72_2
            try clear hfz75_0
            try clear hfz75_1
            try clear hfz75_2
            try clear hfz77_0
            try clear hfz77_1
            try clear hfz77_2
            try clear hfz9_0
            try clear hfz9_1
            try clear hfz9_2
            try clear hx154_0
            try clear hx154_1
            try clear hx154_2
            try clear hx160_0
            try clear hx160_1
            try clear hx160_2
            try clear p1
            try clear p15
            try clear p154
            try clear p160
            try clear p2
            try clear q1
            try clear q15
            try clear q154
            try clear q160
            obtain ⟨kq, x73_55, rfl, HA, HJ55, BK153, BK155, BK161, HB⟩ := hcut
            cases kq with
            | zero => exact absurd HA.out (by simp [macadamref04_isPlan.j2])
            | succ kj55 =>
             have H := HA.out
             clear HA
             simp only [macadamref04_isPlan.j2] at H
             by_cases c78 : x73_55 = true
             ·subst c78
              have H1 : (some false) = some r := by rw [if_pos rfl] at H; exact H
              clear H
              have H := H1
              clear H1
              obtain rfl := Option.some.inj H
              go_wp2
              go_ret
              exact ⟨by first | rfl | (simp [errW_none, errW_some] <;> rfl) | (simp only [← hji53]; first | rfl | (simp [errW_none, errW_some] <;> rfl)) | (simp [*, errW_none, errW_some] <;> rfl), bw3 HB GE153 GE155 GE161⟩
             ·replace c78 := Bool.eq_false_iff.mpr c78
              subst c78
              have H1 : (if ((rd_T59 l1 x5_1).f0) = ((rd_T59 l1 (ji53)).f0) then ((macadamref00_Amid.f (wrap64 (((rd_T59 l1 x5_1).f2) - ((rd_T59 l1 (ji53)).f2))) (-1) 1).bind fun t162 => (if t162 = true then (some false) else (macadamref04_isPlan.l0 kj55 l1 (wrap64 (x5_1 + 1)) l0_0 l0_1 a0_2))) else (macadamref04_isPlan.l0 kj55 l1 (wrap64 (x5_1 + 1)) l0_0 l0_1 a0_2)) = some r := by rw [if_neg (show ¬ (false = true) by decide)] at H; exact H
              clear H
              have H := H1
              clear H1
              by_cases c79 : ((rd_T59 l1 x5_1).f0) = ((rd_T59 l1 (ji53)).f0)
              ·rw [if_pos c79] at H
               have c79b0 : (((rd_T59 l1 x5_1).f0) == ((rd_T59 l1 (ji53)).f0)) = true := beq_iff_eq.mpr c79
               have c79b1 : (((rd_T59 l1 x5_1).f0) != ((rd_T59 l1 (ji53)).f0)) = false := bne_eq_false_iff_eq.mpr c79
               clear c79
               replace H := Option.bind_eq_some_iff.mp H
               obtain ⟨t162, A800, H⟩ := H
               replace H : (if t162 = true then (some false) else (macadamref04_isPlan.l0 kj55 l1 (wrap64 (x5_1 + 1)) l0_0 l0_1 a0_2)) = some r := H
               have A80 := Aside0.mk A800
               clear A800
               by_cases c81 : t162 = true
               ·subst c81
                have H1 : (some false) = some r := by rw [if_pos rfl] at H; exact H
                clear H
                have H := H1
                clear H1
                obtain rfl := Option.some.inj H
                have hnb82 := NB155_153.out
                have hnc82 := NB153_155.out
                have hnb83 := NB155_161.out
                have hnc83 := NB161_155.out
                obtain ⟨hcz84_0, hcz84_1, hcz84_2, hfz84_0, hfz84_1, hfz84_2⟩ := b3 BK155
                have hnb85 := NB161_153.out
                have hnc85 := NB153_161.out
                obtain ⟨hcz86_0, hcz86_1, hcz86_2, hfz86_0, hfz86_1, hfz86_2⟩ := b3 BK161
                go_wp2_with (first | (go_at_call 45; (with_reducible refine (macadamref00_Amid.calls (wrap64 (((rd_T59 l1 x5_1).f2) - ((rd_T59 l1 (ji53)).f2))) (-1) 1 true _ A80.out).mono ?_); rintro e w' ⟨rfl, ⟨nd, rfl⟩⟩))
                go_ret
                exact ⟨by first | rfl | (simp [errW_none, errW_some] <;> rfl) | (simp only [← hji53]; first | rfl | (simp [errW_none, errW_some] <;> rfl)) | (simp [*, errW_none, errW_some] <;> rfl), bw3 HB GE153 GE155 GE161⟩
               ·replace c81 := Bool.eq_false_iff.mpr c81
                subst c81
                have H1 : (macadamref04_isPlan.l0 kj55 l1 (wrap64 (x5_1 + 1)) l0_0 l0_1 a0_2) = some r := by rw [if_neg (show ¬ (false = true) by decide)] at H; exact H
                clear H
                have H := H1
                clear H1
                have H' := Aside0.mk H
                clear H
                have hnb87 := NB155_153.out
                have hnc87 := NB153_155.out
                have hnb88 := NB155_161.out
                have hnc88 := NB161_155.out
                obtain ⟨hcz89_0, hcz89_1, hcz89_2, hfz89_0, hfz89_1, hfz89_2⟩ := b3 BK155
                have hnb90 := NB161_153.out
                have hnc90 := NB153_161.out
                obtain ⟨hcz91_0, hcz91_1, hcz91_2, hfz91_0, hfz91_1, hfz91_2⟩ := b3 BK161
                go_wp2_with (first | (go_at_call 45; (with_reducible refine (macadamref00_Amid.calls (wrap64 (((rd_T59 l1 x5_1).f2) - ((rd_T59 l1 (ji53)).f2))) (-1) 1 false _ A80.out).mono ?_); rintro e w' ⟨rfl, ⟨nd, rfl⟩⟩))
                go_roundg kj55
                case measure => have := HK1.out; have := HJ5.out; have := HJ55.out; omega
                case rel => exact ⟨(wrap64 (x5_1 + 1)), (by first | rfl | (simp; done) | (simp [*]; done)), H', ⟨by have := HK1.out; have := HJ5.out; have := HJ55.out; omega⟩, ⟨bm BK153⟩, ⟨bw3 HB GE153 GE155 GE161⟩⟩
              ·rw [if_neg c79] at H
               have c79b0 : (((rd_T59 l1 x5_1).f0) == ((rd_T59 l1 (ji53)).f0)) = false := beq_eq_false_iff_ne.mpr c79
               have c79b1 : (((rd_T59 l1 x5_1).f0) != ((rd_T59 l1 (ji53)).f0)) = true := bne_iff_ne.mpr c79
               have H' := Aside0.mk H
               clear H
               have hnb92 := NB155_153.out
               have hnc92 := NB153_155.out
               have hnb93 := NB155_161.out
               have hnc93 := NB161_155.out
               obtain ⟨hcz94_0, hcz94_1, hcz94_2, hfz94_0, hfz94_1, hfz94_2⟩ := b3 BK155
               have hnb95 := NB161_153.out
               have hnc95 := NB153_161.out
               obtain ⟨hcz96_0, hcz96_1, hcz96_2, hfz96_0, hfz96_1, hfz96_2⟩ := b3 BK161
               go_wp2
               go_roundg kj55
               case measure => have := HK1.out; have := HJ5.out; have := HJ55.out; omega
               case rel => exact ⟨(wrap64 (x5_1 + 1)), (by first | rfl | (simp; done) | (simp [*]; done)), H', ⟨by have := HK1.out; have := HJ5.out; have := HJ55.out; omega⟩, ⟨bm BK153⟩, ⟨bw3 HB GE153 GE155 GE161⟩⟩
          ·rw [if_neg c55] at H
           exact absurd H (by simp)
         ·rw [if_neg c54] at H
          exact absurd H (by simp)
    ·rw [if_neg c5] at H
     exact absurd H (by simp)
   ·rw [if_neg c4] at H
    have c4b0 : decide (x5_1 < (l1.length : Int)) = false := decide_eq_false c4
    clear c4
    obtain rfl := Option.some.inj H
    go_wp2
    go_ret
    exact ⟨by first | rfl | (simp [errW_none, errW_some] <;> rfl) | (simp [*, errW_none, errW_some] <;> rfl), bw1 HB GE153⟩
end Go.Proofs.YtikfghnkbgdbgaaDoor.Q
end
section
namespace Go.Proofs.YtikfghnkbgdbgaaDoor.Q
open Go.RowKit Go.Proofs.YtikfghnkbgdbgaaDoorW.PrintWords Go.Proofs.YtikfghnkbgdbgaaDoorW.PrintLast Go.Proofs.YtikfghnkbgdbgaaDoorW.PrintMore
attribute [local go_sem] max2_int min2_int max_two min_two max_three min_three max_four min_four   -- for this text's walks alone
set_option linter.unusedVariables false
set_option linter.unusedSimpArgs false
def macadamref00_All.l0 : Nat → Int → Int → List Int → Int → Option (List Int)
 | 0, _, _, _, _ => none
 | k + 1, x0, x1, x5, x6 => if x6 < x1 then ((macadamref00_In.f x0 x6).bind fun t172 => (if t172 = true then (if x5.length < 17592186044416 then (macadamref00_All.l0 k x0 x1 (x5 ++ [x6]) (wrap64 (x6 + 1))) else (none)) else (macadamref00_All.l0 k x0 x1 x5 (wrap64 (x6 + 1))))) else (some x5)
def macadamref00_All.f (k : Nat) (a0 : Int) (a1 : Int) : Option (List Int) := macadamref00_All.l0 k a0 a1 (([] : List Int)) 0
theorem macadamref00_All.mono_l : ∀ k, (∀ y0 y1 y2 y3, LeO (macadamref00_All.l0 k y0 y1 y2 y3) (macadamref00_All.l0 (k + 1) y0 y1 y2 y3))
 | 0 => fun _ _ _ _ r h => by simp [macadamref00_All.l0] at h
 | k + 1 => by
  have ih0 := macadamref00_All.mono_l k
  ·intro y0 y1 y2 y3
   unfold macadamref00_All.l0
   repeat' first
   | (with_reducible exact ih0 _ _ _ _)
   | (with_reducible exact LeO.refl _)
   | (with_reducible exact LeO.none _)
   | (with_reducible refine LeO.ite ?_ ?_)
   | (with_reducible refine LeO.bind ?_ (fun _ => ?_))
   | exact ih0 _ _ _ _
   | exact LeO.none _
   | refine LeO.ite ?_ ?_
   | refine LeO.bind ?_ (fun _ => ?_)
theorem macadamref00_All.mono : ∀ a0 a1 k, LeO (macadamref00_All.f k a0 a1) (macadamref00_All.f (k + 1) a0 a1) := by
 intro a0 a1 k
 have ih0 := macadamref00_All.mono_l k
 unfold macadamref00_All.f
 repeat' first
   | (with_reducible exact ih0 _ _ _ _)
   | (with_reducible exact LeO.refl _)
   | (with_reducible exact LeO.none _)
   | (with_reducible refine LeO.ite ?_ ?_)
   | (with_reducible refine LeO.bind ?_ (fun _ => ?_))
   | exact ih0 _ _ _ _
   | exact LeO.none _
   | refine LeO.ite ?_ ?_
   | refine LeO.bind ?_ (fun _ => ?_)
set_option maxHeartbeats 8000000 in
set_option maxRecDepth 100000 in
theorem macadamref00_All.calls (k : Nat) (a0 : Int) (a1 : Int) (r : List Int) (w : World) (h : macadamref00_All.f k a0 a1 = some r) :
  Calls Tryd.prog 73 #[.int .i64 a0, .int .i64 a1] w fun e w' => ∃ v0_ : Value, e = .returned (v0_) ∧ Kd.R (Kd.int .i64) 3 w' w.heap.size (fun _ => True) v0_ r ∧ Below w.heap.size w w' := by
 have HB := Aside0.mk (Below.refl w.heap.size w)
 have H : (macadamref00_All.l0 k a0 a1 (([] : List Int)) 0) = some r := h
 clear h
 obtain ⟨y169, hy169⟩ : ∃ y_ : List Int, y_ = (([] : List Int)) := ⟨_, rfl⟩
 replace H : (macadamref00_All.l0 k a0 a1 y169 0) = some r := by first | (rw [hy169]; with_reducible exact H) | (have H2_ := (Option.bind_some _ _).symm.trans H; rw [hy169]; with_reducible exact H2_) | (have H2_ := (Option.bind_some _ _).symm.trans H; with_reducible exact H2_) | with_reducible exact H | (rw [hy169]; exact H) | exact H
 have Ny169 := Aside0.mk hy169
 clear hy169
 have H' := Aside0.mk H
 clear H
 go_enter Tryd.func73, Tryd.ntmps73
 go_wp2_with (first | ((with_reducible refine gate_dst (N := 7) rfl ?_); refine Kd.R_lit (Kd.int .i64) _ 3 ?hg (N := 7) ?hd (xs := ([] : List Int)) (inner := []) (ok := fun _ => True) (okp := fun _ => True) ?hr ?hp (fun _ hk => hk) trivial (Below.refl _ _) (Nat.le_refl _) (by simp) ?_; (case hd => rfl); (case hg => rfl); (case hr => first | (go_simp; done) | (go_simp; rfl)); (case hp => exact (Reps.none _ _)); intro v170 w3 ho4 hb hg_ hnew_; clear hg_ hnew_; (first | rw [← Ny169.out] at ho4 | (simp only [Int.reduceToNat] at ho4; rw [← Ny169.out] at ho4)); have n0_ := Aside0.mk (Kd.R_lower ho4 (below_size (bw HB))); have n1_ := Aside0.mk (below_step (bw HB) hb); clear HB; have HO171 := n0_; have HB := n1_; clear n0_ n1_; clear hb ho4))
 go_loopg [5, 6] k (fun kq v5 v6 w' => ∃ (x5_1 : List Int) (x6_1 : Int), v6 = .int .i64 x6_1 ∧ Aside0 (macadamref00_All.l0 kq a0 a1 x5_1 x6_1 = some r) ∧ Aside0 (kq ≤ k) ∧ Aside0 (Kd.R (Kd.int .i64) 3 w' w.heap.size (fun _ => True) v5 x5_1) ∧ Aside0 (Below w.heap.size w w'))
 case atStart => exact ⟨(y169), (0), (by first | rfl | (simp; done) | (simp [*]; done)), H', ⟨Nat.le_refl _⟩, ⟨by (with_reducible repeat (first | apply Kd.R_alloc | apply Kd.R_drewN | apply Kd.R_drew)); exact HO171.out⟩, ⟨bw HB⟩⟩
 case round =>
  clear H'
  try clear p2
  obtain ⟨x5_1, x6_1, rfl, HA, HK1, HO_5, HB⟩ := hrel
  cases gk with
  | zero => exact absurd HA.out (by simp [macadamref00_All.l0])
  | succ k1 =>
   have H := HA.out
   clear HA
   simp only [macadamref00_All.l0] at H
   by_cases c5 : x6_1 < a1
   ·rw [if_pos c5] at H
    have c5b0 : decide (x6_1 < a1) = true := decide_eq_true c5
    clear c5
    replace H := Option.bind_eq_some_iff.mp H
    obtain ⟨t172, A60, H⟩ := H
    replace H : (if t172 = true then (if x5_1.length < 17592186044416 then (macadamref00_All.l0 k1 a0 a1 (x5_1 ++ [x6_1]) (wrap64 (x6_1 + 1))) else (none)) else (macadamref00_All.l0 k1 a0 a1 x5_1 (wrap64 (x6_1 + 1)))) = some r := H
    have A6 := Aside0.mk A60
    clear A60
    by_cases c7 : t172 = true
    ·subst c7
     have H1 : (if x5_1.length < 17592186044416 then (macadamref00_All.l0 k1 a0 a1 (x5_1 ++ [x6_1]) (wrap64 (x6_1 + 1))) else (none)) = some r := by rw [if_pos rfl] at H; exact H
     clear H
     have H := H1
     clear H1
     by_cases c8 : x5_1.length < 17592186044416
     ·rw [if_pos c8] at H
      have LMc8 := Aside0.mk c8
      clear c8
      obtain ⟨y173, hy173⟩ : ∃ y_ : List Int, y_ = (x5_1 ++ [x6_1]) := ⟨_, rfl⟩
      replace H : (macadamref00_All.l0 k1 a0 a1 y173 (wrap64 (x6_1 + 1))) = some r := by first | (rw [hy173]; with_reducible exact H) | (have H2_ := (Option.bind_some _ _).symm.trans H; rw [hy173]; with_reducible exact H2_) | (have H2_ := (Option.bind_some _ _).symm.trans H; with_reducible exact H2_) | with_reducible exact H | (rw [hy173]; exact H) | exact H
      have Ny173 := Aside0.mk hy173
      clear hy173
      have H' := Aside0.mk H
      clear H
      go_wp2_with (first | ((with_reducible refine gate_callee (f := 46) rfl ?_); refine gL (some 15) Tryd.func46 #[.int .i64 a0, .int .i64 x6_1] ?_; (with_reducible refine (macadamref00_In.calls a0 x6_1 true _ A6.out).mono ?_); rintro e w' ⟨rfl, ⟨nd, rfl⟩⟩; refine ⟨_, rfl, ?_⟩) | ((with_reducible refine gate_builtin (b := .append) (xs := #[.tmp 16, .tmp 18]) rfl ?_); at_builtin; refine Kd.R_append (Kd.int .i64) (w0 := w) w.heap.size rfl (.tmp 16) (.tmp 18) 28 3 (.int .i64 0) 8 rfl Tryd.underlying28 info3 rfl (by decide) (by omega) u5 x5_1 x6_1 [.int .i64 x6_1] (fun _ => True) (fun _ => False) rfl rfl ?aP (fun _ hk => hk.elim) ?aF ?aO ?aB ?aS ?aL ?_; (case aP => exact rfl); (case aB => exact (bw HB)); (case aF => exact (fun _ _ => trivial)); (case aO => exact (by (with_reducible repeat (first | apply Kd.R_alloc | apply Kd.R_drewN | apply Kd.R_drew)); exact HO_5.out)); (case aS => exact (below_size (bw HB))); (case aL => have := LMc8.out; omega); intro v174 w9 ho hb hg hat; rw [← Ny173.out] at ho; have n0_ := Aside0.mk (hb); have n1_ := Aside0.mk (ho); clear HB; clear HO_5; have HB := n0_; have HO175 := n1_; clear n0_ n1_; clear ho hb hg hat))
      go_roundg k1
      case measure => have := HK1.out; omega
      case rel => exact ⟨(y173), (wrap64 (x6_1 + 1)), (by first | rfl | (simp; done) | (simp [*]; done)), H', ⟨by have := HK1.out; omega⟩, ⟨by (with_reducible repeat (first | apply Kd.R_alloc | apply Kd.R_drewN | apply Kd.R_drew)); exact HO175.out⟩, ⟨bw HB⟩⟩
     ·rw [if_neg c8] at H
      exact absurd H (by simp)
    ·replace c7 := Bool.eq_false_iff.mpr c7
     subst c7
     have H1 : (macadamref00_All.l0 k1 a0 a1 x5_1 (wrap64 (x6_1 + 1))) = some r := by rw [if_neg (show ¬ (false = true) by decide)] at H; exact H
     clear H
     have H := H1
     clear H1
     have H' := Aside0.mk H
     clear H
     go_wp2_with (first | ((with_reducible refine gate_callee (f := 46) rfl ?_); refine gL (some 15) Tryd.func46 #[.int .i64 a0, .int .i64 x6_1] ?_; (with_reducible refine (macadamref00_In.calls a0 x6_1 false _ A6.out).mono ?_); rintro e w' ⟨rfl, ⟨nd, rfl⟩⟩; refine ⟨_, rfl, ?_⟩))
     go_roundg k1
     case measure => have := HK1.out; omega
     case rel => exact ⟨(x5_1), (wrap64 (x6_1 + 1)), (by first | rfl | (simp; done) | (simp [*]; done)), H', ⟨by have := HK1.out; omega⟩, ⟨by (with_reducible repeat (first | apply Kd.R_alloc | apply Kd.R_drewN | apply Kd.R_drew)); exact HO_5.out⟩, ⟨bw HB⟩⟩
   ·rw [if_neg c5] at H
    have c5b0 : decide (x6_1 < a1) = false := decide_eq_false c5
    clear c5
    obtain rfl := Option.some.inj H
    go_wp2
    go_ret
    exact ⟨_, by first | rfl | (simp [errW_none, errW_some] <;> rfl) | (simp [*, errW_none, errW_some] <;> rfl), by (with_reducible repeat (first | apply Kd.R_alloc | apply Kd.R_drewN | apply Kd.R_drew)); exact HO_5.out, bw HB⟩
end Go.Proofs.YtikfghnkbgdbgaaDoor.Q
end
section
namespace Go.Proofs.YtikfghnkbgdbgaaDoor.Q
set_option linter.unusedSimpArgs false
set_option linter.unusedVariables false
open Go.RowKit Go.Proofs.YtikfghnkbgdbgaaDoorW.PrintWords Go.Proofs.YtikfghnkbgdbgaaDoorW.PrintLast Go.Proofs.YtikfghnkbgdbgaaDoorW.PrintMore
theorem amid_f (a b c : Int) : macadamref00_Amid.f a b c = some (within a b c) := by
  unfold macadamref00_Amid.f within
  by_cases h : b ≤ a <;> simp [h]
theorem sane_f (lo hi m : Int) (hm : m ≤ 100) : macadamref00_Sane.f lo hi 1 m 2 = some (spanB ⟨lo, hi⟩ m) := by
  unfold macadamref00_Sane.f spanB
  by_cases h1 : 1 ≤ lo
  · by_cases h2 : lo ≤ hi
    · by_cases h3 : hi ≤ m
      · have : wrap64 (hi - lo) = hi - lo := by unfold wrap64; omega
        simp [h1, h2, h3, this]
      · simp [h1, h2, h3]
    · simp [h1, h2]
  · simp [h1]
theorem toFin {m : Int} {n : Nat} (h0 : 0 ≤ m) (h1 : m < (n : Int)) : ∃ i : Fin n, m = ((i : Nat) : Int) := ⟨⟨m.toNat, by omega⟩, by simp; omega⟩
theorem in_small : ∀ (m : Fin 16) (n : Fin 5), macadamref00_In.f ((m : Nat) : Int) ((n : Nat) : Int) = some (bitB ((m : Nat) : Int) ((n : Nat) : Int)) := by decide +kernel
theorem in_f {m n : Int} (h0 : 0 ≤ m) (h1 : m ≤ 15) (h2 : 0 ≤ n) (h3 : n ≤ 4) : macadamref00_In.f m n = some (bitB m n) := by
  obtain ⟨i, rfl⟩ := toFin (n := 16) h0 (by omega)
  obtain ⟨j, rfl⟩ := toFin (n := 5) h2 (by omega)
  exact in_small i j
theorem or_small : ∀ (m : Fin 16) (i : Fin 4), 0 ≤ Go.bits .or .i64 ((m : Nat) : Int) (shl .i64 1 ((i : Nat) : Int)) ∧ Go.bits .or .i64 ((m : Nat) : Int) (shl .i64 1 ((i : Nat) : Int)) ≤ 15 ∧
    ∀ j : Fin 4, bitB (Go.bits .or .i64 ((m : Nat) : Int) (shl .i64 1 ((i : Nat) : Int))) ((j : Nat) : Int) = (bitB ((m : Nat) : Int) ((j : Nat) : Int) || decide (j = i)) := by decide +kernel
theorem or_bit {m i : Int} (h0 : 0 ≤ m) (h1 : m ≤ 15) (h2 : 0 ≤ i) (h3 : i ≤ 3) : 0 ≤ Go.bits .or .i64 m (shl .i64 1 i) ∧ Go.bits .or .i64 m (shl .i64 1 i) ≤ 15 ∧
    ∀ j, 0 ≤ j → j ≤ 3 → bitB (Go.bits .or .i64 m (shl .i64 1 i)) j = (bitB m j || decide (j = i)) := by
  obtain ⟨m, rfl⟩ := toFin (n := 16) h0 (by omega)
  obtain ⟨i, rfl⟩ := toFin (n := 4) h2 (by omega)
  refine ⟨(or_small m i).1, (or_small m i).2.1, fun j hj0 hj1 => ?_⟩
  obtain ⟨j, rfl⟩ := toFin (n := 4) hj0 (by omega)
  rw [(or_small m i).2.2 j]
  congr 1
  rw [decide_eq_decide, Fin.ext_iff]
  omega
theorem bit_zero : ∀ j : Fin 4, bitB 0 ((j : Nat) : Int) = false := by decide +kernel
theorem bit0 {j : Int} (h0 : 0 ≤ j) (h1 : j ≤ 3) : bitB 0 j = false := by
  obtain ⟨j, rfl⟩ := toFin (n := 4) h0 (by omega)
  exact bit_zero j
theorem all_small : ∀ m : Fin 16, macadamref00_All.f 6 ((m : Nat) : Int) 4 = some ((upTo 4).filter (fun j => bitB ((m : Nat) : Int) j)) := by decide +kernel
theorem all_f {m : Int} (h0 : 0 ≤ m) (h1 : m ≤ 15) : Ev (fun k => macadamref00_All.f k m 4) ((upTo 4).filter (fun j => bitB m j)) := by
  obtain ⟨m, rfl⟩ := toFin (n := 16) h0 (by omega)
  exact Ev.of (fun k => macadamref00_All.mono _ _ k) (all_small m)
theorem rd_drop_I (l : List Int) (j : Nat) (h : j < l.length) : l.drop j = rd l j :: l.drop (j + 1) := by
  rw [List.drop_eq_getElem_cons h]; simp [rd, List.getD_eq_getElem?_getD, List.getElem?_eq_getElem h]
theorem like_l (l m : List Int) (hl : l.length ≤ 9223372036854775807) (d : Nat) : ∀ (k j : Nat) (b : Bool), l.length - j = d → j ≤ l.length → d < k → (b = true → l.length = m.length) →
    macadamref00_Like.l0 k l m b j = some (b && decide (l.drop j = m.drop j)) := by
  induction d with
  | zero =>
    intro k j b hd hj hk hb
    obtain ⟨k, rfl⟩ : ∃ m, k = m + 1 := ⟨k - 1, by omega⟩
    obtain rfl : j = l.length := by omega
    simp only [macadamref00_Like.l0]
    cases b with
    | false => simp
    | true => rw [if_pos rfl, if_neg (by omega)]; have := hb rfl; simp [this]
  | succ d ih =>
    intro k j b hd hj hk hb
    obtain ⟨k, rfl⟩ : ∃ m, k = m + 1 := ⟨k - 1, by omega⟩
    simp only [macadamref00_Like.l0]
    cases b with
    | false => simp
    | true =>
      have he := hb rfl
      rw [if_pos rfl, if_pos (by omega), if_pos (by omega), if_pos (by omega), show wrap64 ((j : Int) + 1) = ((j + 1 : Nat) : Int) by unfold wrap64; omega, ih k (j + 1) _ (by omega) (by omega) (by omega) (fun _ => he), rd_drop_I l j (by omega), rd_drop_I m j (by omega)]
      simp only [Bool.true_and, List.cons.injEq]
      rw [Bool.decide_and]
      congr 1
theorem like_f (l m : List Int) (hl : l.length ≤ 9223372036854775807) : Ev (fun k => macadamref00_Like.f k l m) (decide (l = m)) := by
  refine ⟨l.length + 1, fun k hk => ?_⟩
  unfold macadamref00_Like.f
  refine (like_l l m hl l.length k 0 _ (by omega) (by omega) (by omega) (fun h => Int.ofNat.inj (by simpa using h))).trans ?_
  by_cases h : l = m
  · subst h; simp
  · simp [h]
end Go.Proofs.YtikfghnkbgdbgaaDoor.Q
end
section
namespace Go.Proofs.YtikfghnkbgdbgaaDoor.Q
set_option linter.unusedSimpArgs false
set_option linter.unusedVariables false
open Go.RowKit Go.Proofs.YtikfghnkbgdbgaaDoorW.PrintWords Go.Proofs.YtikfghnkbgdbgaaDoorW.PrintLast Go.Proofs.YtikfghnkbgdbgaaDoorW.PrintMore
theorem eqSpot (d : Nat) (w : World) (x0 y0 x1 y1 : Int) :
    (Op.equalIn (d + 2) 116 (.agg #[.int .i64 x0, .int .i64 x1]) (.agg #[.int .i64 y0, .int .i64 y1])).run Tryd.prog w = .ok (x0 == y0 && (x1 == y1)) w := by
  refine eqA_of Tryd.underlying116 (by kernel_rfl) ?_
  refine eqf_cons (by rfl) (by go_simp; rfl) (by go_simp; rfl) (by go_simp) ?_
  exact eqf_last (by rfl) (by go_simp; rfl) (by go_simp; rfl) (by go_simp)
theorem checkSpot (em : Bool) (w : World) (i j : Int) : (Instr.checkKey em 10000 116 (.agg #[.int .i64 i, .int .i64 j])).run Tryd.prog w = .ok () w := by kernel_rfl
abbrev Spots := List ((Int × Int) × Bool)
def MapIs (w : World) (b : Nat) (l : Spots) : Prop :=
  ∃ (es : Array MapEntry) (clock : Nat), w.heap[b]? = some (.map es clock) ∧ es.toList.map (fun e => (e.key, e.val)) = l.map (fun x => (.agg #[.int .i64 x.1.1, .int .i64 x.1.2], .bool x.2))
def lk (l : Spots) (i j : Int) : Option Bool := (l.find? (fun x => i == x.1.1 && (j == x.1.2))).map (·.2)
theorem findSpot (w : World) (i j : Int) : ∀ (es : List MapEntry) (l : Spots) (n : Nat), es.map (fun e => (e.key, e.val)) = l.map (fun x => (Value.agg #[.int .i64 x.1.1, .int .i64 x.1.2], Value.bool x.2)) →
    ∃ r, (Instr.findAsking 116 (.agg #[.int .i64 i, .int .i64 j]) es n).run Tryd.prog w = .ok r w ∧ r.map (·.2) = (lk l i j).map Value.bool
  | [], [], n, _ => ⟨none, rfl, rfl⟩
  | [], _ :: _, _, h => by simp at h
  | _ :: _, [], _, h => by simp at h
  | e :: es, x :: l, n, h => by
    simp only [List.map_cons, List.cons.injEq, Prod.mk.injEq] at h
    obtain ⟨⟨hk, hv⟩, hr⟩ := h
    have heq : (Op.equal 116 (.agg #[.int .i64 i, .int .i64 j]) e.key).run Tryd.prog w = .ok (i == x.1.1 && (j == x.1.2)) w := by
      rw [hk]; exact eqSpot 9998 w i x.1.1 j x.1.2
    cases hc : (i == x.1.1 && (j == x.1.2)) with
    | true =>
      refine ⟨some (n, e.val), ?_, ?_⟩
      · simp [Instr.findAsking, Sem.run_bind, heq, hc, Result.andThen]
      · simp [lk, List.find?_cons, hc, hv]
    | false =>
      obtain ⟨r, hrun, hm⟩ := findSpot w i j es l (n + 1) hr
      refine ⟨r, ?_, ?_⟩
      · simp [Instr.findAsking, Sem.run_bind, heq, hc, Result.andThen, hrun]
      · rw [hm]; simp only [lk, List.find?_cons, hc]
theorem findKeySpot (w : World) (i j : Int) (es : List MapEntry) (l : Spots) (h : es.map (fun e => (e.key, e.val)) = l.map (fun x => (Value.agg #[.int .i64 x.1.1, .int .i64 x.1.2], Value.bool x.2))) :
    ∃ r, (Instr.findKey 116 (.agg #[.int .i64 i, .int .i64 j]) es).run Tryd.prog w = .ok r w ∧ r.map (·.2) = (lk l i j).map Value.bool := by
  obtain ⟨r, hrun, hm⟩ := findSpot w i j es l 0 h
  cases es with
  | nil =>
    cases l with
    | nil => exact ⟨none, by simp [Instr.findKey, Sem.run_bind, run_underlying Tryd.underlying116, Instr.findNow, Result.andThen], rfl⟩
    | cons => simp at h
  | cons e es =>
    refine ⟨r, ?_, hm⟩
    have hk : ∃ a b, e.key = .agg #[.int .i64 a, .int .i64 b] := by
      cases l with
      | nil => simp at h
      | cons x l => simp only [List.map_cons, List.cons.injEq, Prod.mk.injEq] at h; exact ⟨_, _, h.1.1⟩
    obtain ⟨a, b, hk⟩ := hk
    simp [Instr.findKey, Sem.run_bind, run_underlying Tryd.underlying116, Instr.findNow, Instr.sameNow, hk, Result.andThen, hrun]
theorem run_look {w : World} {b : Nat} {l : Spots} (h : MapIs w b l) (i j : Int) :
    (Instr.lookup 84 (.map (some b)) (.agg #[.int .i64 i, .int .i64 j]) false).run Tryd.prog w = .ok (.bool ((lk l i j).getD false)) w := by
  obtain ⟨es, clock, hb, he⟩ := h
  obtain ⟨r, hrun, hm⟩ := findKeySpot w i j es.toList l he
  have hz : (zeroValue 4).run Tryd.prog w = .ok (.bool false) w := by kernel_rfl
  cases r with
  | none =>
    have : lk l i j = none := by cases hl : lk l i j with
      | none => rfl
      | some x => rw [hl] at hm; simp at hm
    simp [Instr.lookup, Sem.run_bind, run_underlying Tryd.underlying84, MapKept.run_getObj_map hb, checkSpot, hrun, hz, this, Result.andThen]
  | some y =>
    obtain ⟨k, v⟩ := y
    have : ∃ x, lk l i j = some x ∧ v = .bool x := by cases hl : lk l i j with
      | none => rw [hl] at hm; simp at hm
      | some x => rw [hl] at hm; simp at hm; exact ⟨x, rfl, hm⟩
    obtain ⟨x, hx, rfl⟩ := this
    simp [Instr.lookup, Sem.run_bind, run_underlying Tryd.underlying84, MapKept.run_getObj_map hb, checkSpot, hrun, hx, Result.andThen]
theorem run_put {w : World} {b : Nat} {l : Spots} (h : MapIs w b l) (i j : Int) (v : Bool) (hn : lk l i j = none) :
    ∃ w', (Instr.mapUpdate 84 (.map (some b)) (.agg #[.int .i64 i, .int .i64 j]) (.bool v)).run Tryd.prog w = .ok () w' ∧ MapIs w' b (l ++ [((i, j), v)]) ∧ w.grownBy w' (some b) := by
  obtain ⟨es, clock, hb, he⟩ := h
  obtain ⟨r, hrun, hm⟩ := findKeySpot w i j es.toList l he
  have hr : r = none := by cases r with
    | none => rfl
    | some y => rw [hn] at hm; simp at hm
  subst hr
  refine ⟨_, by simp only [Instr.mapUpdate, Sem.run_bind, run_underlying Tryd.underlying84, MapKept.run_getObj_map hb, checkSpot, hrun, Result.andThen_ok, MapKept.run_setObj_map _ hb]; rfl, ?_, ?_⟩
  · refine ⟨_, _, Go.ChangeMaps.heap_setBlock_same hb _, ?_⟩
    simp [he]
  · exact ⟨rfl, rfl, rfl, by simp [Go.ChangeMaps.setBlock], fun k _ hk => Go.ChangeMaps.heap_setBlock_other hb _ (fun e => hk (by rw [e]))⟩
theorem MapIs.kept {w w' : World} {b : Nat} {l : Spots} (h : MapIs w b l) (hb : w'.heap[b]? = w.heap[b]?) : MapIs w' b l := by
  obtain ⟨es, clock, h1, h2⟩ := h
  exact ⟨es, clock, hb.trans h1, h2⟩
theorem MapIs.lt {w : World} {b : Nat} {l : Spots} (h : MapIs w b l) : b < w.heap.size := by
  obtain ⟨es, clock, h1, h2⟩ := h
  exact (Array.getElem?_eq_some_iff.1 h1).1
theorem MapIs.below {w w' : World} {b : Nat} {l : Spots} (h : MapIs w b l) (hb : Below w.heap.size w w') : MapIs w' b l := h.kept (hb.block b h.lt)
theorem MapIs.made (w : World) : MapIs (w.alloc (.map #[] 0)) w.heap.size [] := ⟨#[], 0, (MapKept.heap_alloc w _).1, rfl⟩
end Go.Proofs.YtikfghnkbgdbgaaDoor.Q
end
section
namespace Go.Proofs.YtikfghnkbgdbgaaDoor.Q
set_option linter.unusedSimpArgs false
set_option linter.unusedVariables false
open Go.RowKit Go.Proofs.YtikfghnkbgdbgaaDoorW.PrintWords Go.Proofs.YtikfghnkbgdbgaaDoorW.PrintLast Go.Proofs.YtikfghnkbgdbgaaDoorW.PrintMore
theorem putObj_last (X : World) (o o' : Obj) : (X.alloc o).putObj X.heap.size o' = X.alloc o' := by
  simp only [World.putObj, World.alloc]; congr 1
  apply Array.ext
  · simp
  · intro i h1 h2
    rw [Array.getElem_setIfInBounds (by simpa using h1)]
    simp only [Array.getElem_push]
    simp at h1
    by_cases e : X.heap.size = i
    · simp [e]
    · rw [if_neg e]
      split
      · rfl
      · omega
theorem putObj_last2 (X : World) (o o' c : Obj) : ((X.alloc o).alloc c).putObj X.heap.size o' = (X.alloc o').alloc c := by
  simp only [World.putObj, World.alloc]; congr 1
  apply Array.ext
  · simp
  · intro i h1 h2
    rw [Array.getElem_setIfInBounds (by simpa using h1)]
    simp only [Array.getElem_push, Array.size_push]
    simp at h1
    by_cases e : X.heap.size = i
    · subst e; simp
    · rw [if_neg e]
      by_cases e2 : i < X.heap.size
      · simp [e2, show i < X.heap.size + 1 by omega]
      · have : ¬ i < X.heap.size + 1 := by omega
        simp [this]
def one (i j : Int) (v : Bool) : Array MapEntry := #[{ key := .agg #[.int .i64 i, .int .i64 j], val := .bool v, born := 0 }]
theorem run_put0 (W : World) (b : Nat) (i j : Int) (v : Bool) (h : W.heap[b]? = some (.map #[] 0)) :
    (Instr.mapUpdate 84 (.map (some b)) (.agg #[.int .i64 i, .int .i64 j]) (.bool v)).run Tryd.prog W = .ok () (W.putObj b (.map (one i j v) 1)) := by
  obtain ⟨r, hrun, hm⟩ := findKeySpot W i j [] [] rfl
  have hr : r = none := by cases r with
    | none => rfl
    | some y => simp [lk] at hm
  subst hr
  simp only [Instr.mapUpdate, Sem.run_bind, run_underlying Tryd.underlying84, MapKept.run_getObj_map h, checkSpot, Array.toList_empty, hrun, Result.andThen_ok, MapKept.run_setObj_map _ h]
  rfl
theorem put_new (X : World) (n : Nat) (hn : n = X.heap.size) (i j : Int) (v : Bool) :
    (Instr.mapUpdate 84 (.map (some n)) (.agg #[.int .i64 i, .int .i64 j]) (.bool v)).run Tryd.prog (X.alloc (.map #[] 0)).drew = .ok () (X.alloc (.map (one i j v) 1)).drew := by
  subst hn
  rw [run_put0 _ _ i j v (show (X.alloc (.map #[] 0)).drew.heap[X.heap.size]? = _ from World.alloc_heap_new X _)]
  exact congrArg (fun w => Result.ok () (World.drew w)) (putObj_last X _ _)
theorem put_new2 (X : World) (c : Obj) (n : Nat) (hn : n = X.heap.size) (i j : Int) (v : Bool) :
    (Instr.mapUpdate 84 (.map (some n)) (.agg #[.int .i64 i, .int .i64 j]) (.bool v)).run Tryd.prog ((X.alloc (.map #[] 0)).alloc c).drew = .ok () ((X.alloc (.map (one i j v) 1)).alloc c).drew := by
  subst hn
  rw [run_put0 _ _ i j v (show ((X.alloc (.map #[] 0)).alloc c).drew.heap[X.heap.size]? = _ from (Below.heap_alloc _ _ _ (by simp)).trans (World.alloc_heap_new X _))]
  exact congrArg (fun w => Result.ok () (World.drew w)) (putObj_last2 X _ _ c)
theorem one_is {w : World} {b c : Nat} {i j : Int} {v : Bool} (h : w.heap[b]? = some (.map (one i j v) c)) : MapIs w b [((i, j), v)] := ⟨_, _, h, rfl⟩
def spotsAt (ms : List M) (k j : Nat) : Spots := (List.range j).map (fun (i : Nat) => (((k : Int), (i : Int)), !bitB (rd_T66 ms i).f1 k))
def spotsL (ms : List M) (k : Nat) : Spots := ((-1, -1), false) :: (List.range k).flatMap (fun t => spotsAt ms t ms.length)
theorem spotsL_succ (ms : List M) (k : Nat) : spotsL ms (k + 1) = spotsL ms k ++ spotsAt ms k ms.length := by simp [spotsL, List.range_succ, List.flatMap_append]
theorem spotsAt_succ (ms : List M) (k j : Nat) : spotsAt ms k (j + 1) = spotsAt ms k j ++ [(((k : Int), (j : Int)), !bitB (rd_T66 ms j).f1 k)] := by simp [spotsAt, List.range_succ]
theorem lk_none {l : Spots} {i j : Int} (h : ∀ x ∈ l, ¬ (i = x.1.1 ∧ j = x.1.2)) : lk l i j = none := by
  simp only [lk, Option.map_eq_none_iff, List.find?_eq_none]
  intro x hx
  have := h x hx
  simp only [Bool.and_eq_true, beq_iff_eq]
  exact this
theorem spots_new (ms : List M) (k j : Nat) : lk (spotsL ms k ++ spotsAt ms k j) (k : Int) (j : Int) = none := by
  apply lk_none
  intro x hx
  simp only [spotsL, List.cons_append, List.mem_cons, List.mem_append, List.mem_flatMap, List.mem_range, spotsAt, List.mem_map] at hx
  rcases hx with rfl | ⟨t, ht, i, hi, rfl⟩ | ⟨i, hi, rfl⟩
  · simp
    try omega
  · simp
    omega
  · simp
    omega
section
variable {P : Program} {ops : Array Oper} {rest : List Oper} {o : Oper} {a : Act} {Q : Exit → Act → World → Prop}
end
structure OpenedAt (w wc : World) (A0 : Option Addr) (n0 c0 : Nat) (A1 : Option Addr) (n1 c1 : Nat) (n : Int) (b g : Nat) (l : Spots) : Prop where
  map : MapIs wc b l
  low : w.heap.size ≤ b
  ne1 : b ≠ w.heap.size
  ne2 : b ≠ w.heap.size + 1
  ne3 : b ≠ g
  gne : g ≠ w.heap.size + 1
  glow : w.heap.size ≤ g
  box : wc.heap[w.heap.size]? = some (.cells #[.slice A0 n0 c0, .slice A1 n1 c1, .int .i64 n] 25 (0, 0))
  res : wc.heap[w.heap.size + 1]? = some (.cells #[.slice none 0 0, .slice none 0 0, .int .i64 0, .map none] 86 (0, 0))
  bk : wc.heap[g]? = some (.cells #[.slice A0 n0 c0, .slice A1 n1 c1, .int .i64 n, .map (some b)] 86 (0, 0))
  bel : Below w.heap.size w wc
theorem OpenedAt.step {w wc w' : World} {A0 : Option Addr} {n0 c0 : Nat} {A1 : Option Addr} {n1 c1 : Nat} {n : Int} {b g : Nat} {l l' : Spots} (h : OpenedAt w wc A0 n0 c0 A1 n1 c1 n b g l) (hm : MapIs w' b l') (hg : wc.grownBy w' (some b)) :
    OpenedAt w w' A0 n0 c0 A1 n1 c1 n b g l' :=
  ⟨hm, h.low, h.ne1, h.ne2, h.ne3, h.gne, h.glow, (hg.block _ (Array.getElem?_eq_some_iff.1 h.box).1 (fun e => h.ne1 (by injection e with e; exact e.symm))).trans h.box,
   (hg.block _ (Array.getElem?_eq_some_iff.1 h.res).1 (fun e => h.ne2 (by injection e with e; exact e.symm))).trans h.res, (hg.block _ (Array.getElem?_eq_some_iff.1 h.bk).1 (fun e => h.ne3 (by injection e with e; exact e.symm))).trans h.bk,
   h.bel.grown hg h.bel.size (fun k e => by injection e with e; subst e; exact h.low)⟩
theorem OpenedAt.grow {w wc w' : World} {A0 : Option Addr} {n0 c0 : Nat} {A1 : Option Addr} {n1 c1 : Nat} {n : Int} {b g : Nat} {l : Spots} (h : OpenedAt w wc A0 n0 c0 A1 n1 c1 n b g l) (hb : Below wc.heap.size wc w') :
    OpenedAt w w' A0 n0 c0 A1 n1 c1 n b g l :=
  ⟨h.map.below hb, h.low, h.ne1, h.ne2, h.ne3, h.gne, h.glow, (hb.block _ (Array.getElem?_eq_some_iff.1 h.box).1).trans h.box,
   (hb.block _ (Array.getElem?_eq_some_iff.1 h.res).1).trans h.res, (hb.block _ (Array.getElem?_eq_some_iff.1 h.bk).1).trans h.bk, below_then h.bel h.bel.size hb⟩
end Go.Proofs.YtikfghnkbgdbgaaDoor.Q
end
section
namespace Go.Proofs.YtikfghnkbgdbgaaDoor.Q
set_option linter.unusedSimpArgs false
set_option linter.unusedVariables false
open Go.RowKit Go.Proofs.YtikfghnkbgdbgaaDoorW.PrintWords Go.Proofs.YtikfghnkbgdbgaaDoorW.PrintLast Go.Proofs.YtikfghnkbgdbgaaDoorW.PrintMore
theorem heap_alloc_if (w : World) (o : Obj) (k : Nat) : (w.alloc o).heap[k]? = if k = w.heap.size then some o else w.heap[k]? := by
  show (w.heap.push o)[k]? = _
  rw [Array.getElem?_push]
theorem heap_drew (w : World) : w.drew.heap = w.heap := rfl
theorem opened_start1 (w : World) (A0 : Option Addr) (n0 c0 : Nat) (A1 : Option Addr) (n1 c1 : Nat) (n : Int) :
    OpenedAt w ((((w.alloc (.cells #[.slice A0 n0 c0, .slice A1 n1 c1, .int .i64 n] 25)).alloc (.cells #[.slice none 0 0, .slice none 0 0, .int .i64 0, .map none] 86)).alloc (.map (one (-1) (-1) false) 1)).alloc (.cells #[.slice A0 n0 c0, .slice A1 n1 c1, .int .i64 n, .map (some (w.heap.size + 1 + 1))] 86)).drew
      A0 n0 c0 A1 n1 c1 n (w.heap.size + 1 + 1) (w.heap.size + 1 + 1 + 1) [((-1, -1), false)] where
  map := one_is (c := 1) (by (simp only [heap_drew, heap_alloc_if, World.size_alloc]; repeat (first | rw [if_pos (by first | trivial | omega)] | rw [if_neg (by omega)])))
  low := by omega
  ne1 := by omega
  ne2 := by omega
  ne3 := by omega
  gne := by omega
  glow := by omega
  box := by (simp only [heap_drew, heap_alloc_if, World.size_alloc]; repeat (first | rw [if_pos (by first | trivial | omega)] | rw [if_neg (by omega)]))
  res := by (simp only [heap_drew, heap_alloc_if, World.size_alloc]; repeat (first | rw [if_pos (by first | trivial | omega)] | rw [if_neg (by omega)]))
  bk := by (simp only [heap_drew, heap_alloc_if, World.size_alloc]; repeat (first | rw [if_pos (by first | trivial | omega)] | rw [if_neg (by omega)]))
  bel := by
    refine Below.drew ?_
    exact ((((Below.refl _ w).alloc (Nat.le_refl _) _).alloc (by simp) _).alloc (by simp; omega) _).alloc (by simp; omega) _
theorem opened_start2 (w : World) (A0 : Option Addr) (n0 c0 : Nat) (A1 : Option Addr) (n1 c1 : Nat) (n : Int) :
    OpenedAt w ((((w.alloc (.cells #[.slice A0 n0 c0, .slice A1 n1 c1, .int .i64 n] 25)).alloc (.cells #[.slice none 0 0, .slice none 0 0, .int .i64 0, .map none] 86)).alloc (.cells #[.slice A0 n0 c0, .slice A1 n1 c1, .int .i64 n, .map (some (w.heap.size + 1 + 1 + 1))] 86)).alloc (.map (one (-1) (-1) false) 1)).drew
      A0 n0 c0 A1 n1 c1 n (w.heap.size + 1 + 1 + 1) (w.heap.size + 1 + 1) [((-1, -1), false)] where
  map := one_is (c := 1) (by (simp only [heap_drew, heap_alloc_if, World.size_alloc]; repeat (first | rw [if_pos (by first | trivial | omega)] | rw [if_neg (by omega)])))
  low := by omega
  ne1 := by omega
  ne2 := by omega
  ne3 := by omega
  gne := by omega
  glow := by omega
  box := by (simp only [heap_drew, heap_alloc_if, World.size_alloc]; repeat (first | rw [if_pos (by first | trivial | omega)] | rw [if_neg (by omega)]))
  res := by (simp only [heap_drew, heap_alloc_if, World.size_alloc]; repeat (first | rw [if_pos (by first | trivial | omega)] | rw [if_neg (by omega)]))
  bk := by (simp only [heap_drew, heap_alloc_if, World.size_alloc]; repeat (first | rw [if_pos (by first | trivial | omega)] | rw [if_neg (by omega)]))
  bel := by
    refine Below.drew ?_
    exact ((((Below.refl _ w).alloc (Nat.le_refl _) _).alloc (by simp) _).alloc (by simp; omega) _).alloc (by simp; omega) _
set_option maxHeartbeats 2000000 in
set_option maxRecDepth 100000 in
theorem opened_calls (ms : List M) (gs : List G) (A0 : Option Addr) (c0 : Nat) (A1 : Option Addr) (c1 : Nat) (n : Int) (w : World) (hG : GV w) (hr0 : Kd.C k66 w A0 ms.length ms) (hm4 : ms.length ≤ 4) (hn0 : 0 ≤ n) (hn4 : n ≤ 4) :
    Calls Tryd.prog 90 #[.agg #[.slice A0 ms.length c0, .slice A1 gs.length c1, .int .i64 n]] w fun e w' =>
      ∃ b, e = .returned (.agg #[.slice A0 ms.length c0, .slice A1 gs.length c1, .int .i64 n, .map (some b)]) ∧ MapIs w' b (spotsL ms n.toNat) ∧ w.heap.size ≤ b ∧ Below w.heap.size w w' := by
  have hg0 := hG.1
  have hg1 := hG.2.1
  have hlt0 : 0 < w.heap.size := World.block_lt_of_cell? w _ hg0
  have hmm := @run_makeMap Tryd.prog
  have HR := Aside0.mk hr0
  clear hG hr0
  obtain ⟨N, rfl⟩ := Int.eq_ofNat_of_zero_le hn0
  rw [Int.toNat_natCast]
  go_enter Tryd.func90, Tryd.ntmps90
  go_wp2
  go_cut [3] (fun v3 wc => ∃ b g, v3 = .pointer (some ⟨g, 0, none⟩) ∧ Aside0 (OpenedAt w wc A0 ms.length c0 A1 gs.length c1 N b g (spotsL ms 0)))
  case first =>
    have p1 := put_new ((w.alloc (.cells #[.slice A0 ms.length c0, .slice A1 gs.length c1, .int .i64 N] 25)).alloc (.cells #[.slice none 0 0, .slice none 0 0, .int .i64 0, .map none] 86)) (w.heap.size + 1 + 1) (by simp) (-1) (-1) false
    have p2 := put_new2 ((w.alloc (.cells #[.slice A0 ms.length c0, .slice A1 gs.length c1, .int .i64 N] 25)).alloc (.cells #[.slice none 0 0, .slice none 0 0, .int .i64 0, .map none] 86)) (.cells #[.slice none 0 0, .slice none 0 0, .int .i64 0, .map none] 86) (w.heap.size + 1 + 1) (by simp) (-1) (-1) false
    have p3 := put_new (((w.alloc (.cells #[.slice A0 ms.length c0, .slice A1 gs.length c1, .int .i64 N] 25)).alloc (.cells #[.slice none 0 0, .slice none 0 0, .int .i64 0, .map none] 86)).alloc (.cells #[.slice none 0 0, .slice none 0 0, .int .i64 0, .map none] 86)) (w.heap.size + 1 + 1 + 1) (by simp) (-1) (-1) false
    go_region
    all_goals clear p1 p2 p3
    all_goals go_wp2
    all_goals
      go_meet
      case rel => first | exact ⟨_, _, rfl, ⟨opened_start1 w _ _ _ _ _ _ _⟩⟩ | exact ⟨_, _, rfl, ⟨opened_start2 w _ _ _ _ _ _ _⟩⟩
  case rest =>
    obtain ⟨b, g, rfl, HO⟩ := hcut
    clear hg0 hg1 hlt0 hmm
    have hbx2 : wc.cell? ⟨w.heap.size, 2, none⟩ = some (.int .i64 N) := (blk_cell HO.out.box 2).trans rfl
    go_wp2
    clear hbx2
    go_loopw [14] (fun v14 wr => ∃ k : Nat, k ≤ N ∧ v14 = .int .i64 k ∧ Aside0 (OpenedAt w wr A0 ms.length c0 A1 gs.length c1 N b g (spotsL ms k))) (fun v14 _ => N - (intOf v14).toNat)
    case atStart => exact ⟨0, Nat.zero_le _, rfl, HO⟩
    case round =>
      obtain ⟨k, hk, rfl, HK⟩ := hrel
      by_cases hlt : k < N
      · have hbx0 : wr.cell? ⟨w.heap.size, 0, none⟩ = some (.slice A0 ms.length c0) := (blk_cell HK.out.box 0).trans rfl
        go_wp2
        clear hbx0

        go_loopw [20] (fun v20 wi => ∃ j : Nat, j ≤ ms.length ∧ v20 = .int .i64 j ∧ Aside0 (OpenedAt w wi A0 ms.length c0 A1 gs.length c1 N b g (spotsL ms k ++ spotsAt ms k j))) (fun v20 _ => ms.length - (intOf v20).toNat)
        case atStart => exact ⟨0, Nat.zero_le _, rfl, ⟨by simpa [spotsAt] using HK.out⟩⟩
        case round =>
          obtain ⟨j, hj, rfl, HJ⟩ := hrel
          by_cases hlj : j < ms.length
          · obtain ⟨ad, rfl, hc0, hc1, hc2⟩ := at_T66 (Kd.C_below HR.out HJ.out.bel) (j : Int) (by omega) (by omega)
            rw [Int.toNat_natCast] at hc0 hc1 hc2
            go_wp2
            have hgb3 : wr.cell? ⟨g, 3, none⟩ = some (.map (some b)) := (blk_cell HJ.out.bk 3).trans rfl
            have hgl : g < wr.heap.size := (Array.getElem?_eq_some_iff.1 HJ.out.bk).1
            clear hc0 hc1 hc2
            have HJ2 := Aside0.mk (HJ.out.grow (w' := (wr.alloc (.cells #[.int .i64 (rd_T66 ms j).f0.f0, .int .i64 (rd_T66 ms j).f0.f1, .int .i64 (rd_T66 ms j).f1] 66)).drew) (Below.drew ((Below.refl _ wr).alloc (Nat.le_refl _) _)))
            obtain ⟨W3, hrun, hm3, hg3⟩ := run_put HJ2.out.map (k : Int) (j : Int) (bits BinOp.and IntKind.i64 ((rd_T66 ms j).f1 / 2 ^ k) 1 == 0) (spots_new ms k j)
            have HM3 := Aside0.mk (HJ2.out.step hm3 hg3)
            clear hm3 hg3 HJ2
            go_region
            go_wp2
            go_roundw
            case rel => exact ⟨j + 1, by omega, by go_num, ⟨by rw [spotsAt_succ, ← List.append_assoc]; simpa [bitB] using HM3.out⟩⟩
            case measure => simp [intOf]; omega
          · obtain rfl : j = ms.length := by omega
            go_wp2
            go_roundw
            case rel => exact ⟨k + 1, by omega, by go_num, ⟨by rw [spotsL_succ]; exact HJ.out⟩⟩
            case measure => simp [intOf]; omega
      · obtain rfl : k = N := by omega
        have hgb0 : wr.cell? ⟨g, 0, none⟩ = some (.slice A0 ms.length c0) := (blk_cell HK.out.bk 0).trans rfl
        have hgb1 : wr.cell? ⟨g, 1, none⟩ = some (.slice A1 gs.length c1) := (blk_cell HK.out.bk 1).trans rfl
        have hgb2 : wr.cell? ⟨g, 2, none⟩ = some (.int .i64 k) := (blk_cell HK.out.bk 2).trans rfl
        have hgb3 : wr.cell? ⟨g, 3, none⟩ = some (.map (some b)) := (blk_cell HK.out.bk 3).trans rfl
        have hs0 : wr.cell? ⟨w.heap.size + 1, 0, none⟩ = some (.slice none 0 0) := (blk_cell HK.out.res 0).trans rfl
        have hs1 : wr.cell? ⟨w.heap.size + 1, 1, none⟩ = some (.slice none 0 0) := (blk_cell HK.out.res 1).trans rfl
        have hs2 : wr.cell? ⟨w.heap.size + 1, 2, none⟩ = some (.int .i64 0) := (blk_cell HK.out.res 2).trans rfl
        have hs3 : wr.cell? ⟨w.heap.size + 1, 3, none⟩ = some (.map none) := (blk_cell HK.out.res 3).trans rfl
        have hf0 := blk_frozen HK.out.res 0
        have hf1 := blk_frozen HK.out.res 1
        have hf2 := blk_frozen HK.out.res 2
        have hf3 := blk_frozen HK.out.res 3
        go_wp2
        refine bodyPost_ret (v := .agg #[.slice A0 ms.length c0, .slice A1 gs.length c1, .int .i64 k, .map (some b)]) (by simp [results, Tryd.results90, go_sem, hs0, hs1, hs2, hs3]) rfl ⟨b, rfl, ?_, HK.out.low, ?_⟩
        · refine HK.out.map.kept ?_
          rw [Below.heap_setCell _ _ _ _ HK.out.ne2, Below.heap_setCell _ _ _ _ HK.out.ne2, Below.heap_setCell _ _ _ _ HK.out.ne2, Below.heap_setCell _ _ _ _ HK.out.ne2]
        · exact (((HK.out.bel.setCell (by simp) _).setCell (by simp) _).setCell (by simp) _).setCell (by simp) _
end Go.Proofs.YtikfghnkbgdbgaaDoor.Q
end
section
namespace Go.Proofs.YtikfghnkbgdbgaaDoor.Q
set_option linter.unusedSimpArgs false
set_option linter.unusedVariables false
open Go.RowKit Go.Proofs.YtikfghnkbgdbgaaDoorW.PrintWords Go.Proofs.YtikfghnkbgdbgaaDoorW.PrintLast Go.Proofs.YtikfghnkbgdbgaaDoorW.PrintMore
theorem within_f (a b c : Int) : gang_within.f a b c = some (within a b c) := by
  unfold gang_within.f within
  by_cases h : b ≤ a <;> simp [h]
theorem within_quiet (a b c : Int) (r : Bool) (hr : within a b c = r) (w : World) (n : Nat) : Calls Tryd.prog 62 #[.int .i64 a, .int .i64 b, .int .i64 c] (w.drewN n) fun e w'' => e = .returned (.bool r) ∧ ∃ m, w'' = w.drewN m :=
  Calls.quiet_of ((gang_within.calls a b c r (w.drewN n) (by rw [within_f, hr])).mono fun e w' ⟨he, hd⟩ => ⟨he, hd.out⟩)
theorem lk_spots (ms : List M) (n : Nat) (i j : Int) : (lk (spotsL ms n) i j).getD false = openB ms n i j := by
  by_cases h : 0 ≤ i ∧ i < n ∧ 0 ≤ j ∧ j < ms.length
  · obtain ⟨h1, h2, h3, h4⟩ := h
    have : lk (spotsL ms n) i j = some (!bitB (rd_T66 ms j).f1 i) := by
      have key : ∀ m : Nat, i < m → m ≤ n → lk (spotsL ms m) i j = some (!bitB (rd_T66 ms j).f1 i) := by
        intro m hm hmn
        induction m with
        | zero => omega
        | succ m ih =>
          rw [spotsL_succ]
          simp only [lk, List.find?_append]
          by_cases hi : i < m
          · have := ih hi (by omega)
            simp only [lk, Option.map_eq_some_iff] at this
            obtain ⟨x, hx, hx2⟩ := this
            rw [hx]; simp [hx2]
          · obtain rfl : i = m := by omega
            have h0 : (spotsL ms m).find? (fun x => (m : Int) == x.1.1 && (j == x.1.2)) = none := by
              rw [List.find?_eq_none]
              intro x hx
              simp only [spotsL, List.mem_cons, List.mem_flatMap, List.mem_range, spotsAt, List.mem_map] at hx
              rcases hx with rfl | ⟨t, ht, q, hq, rfl⟩
              · simp
                try omega
              · simp
                try omega
            rw [h0, Option.none_or]
            have key2 : ∀ q : Nat, j < q → q ≤ ms.length → ((spotsAt ms m q).find? (fun x => (m : Int) == x.1.1 && (j == x.1.2))).map (·.2) = some (!bitB (rd_T66 ms j).f1 m) := by
              intro q hq hql
              induction q with
              | zero => omega
              | succ q ih2 =>
                rw [spotsAt_succ]
                simp only [List.find?_append]
                by_cases hj : j < q
                · have := ih2 hj (by omega)
                  simp only [Option.map_eq_some_iff] at this
                  obtain ⟨x, hx, hx2⟩ := this
                  rw [hx]; simp [hx2]
                · obtain rfl : j = q := by omega
                  have h0 : (spotsAt ms m q).find? (fun x => (m : Int) == x.1.1 && ((q : Int) == x.1.2)) = none := by
                    rw [List.find?_eq_none]
                    intro x hx
                    simp only [spotsAt, List.mem_map, List.mem_range] at hx
                    obtain ⟨y, hy, rfl⟩ := hx
                    simp; omega
                  rw [h0, Option.none_or]
                  simp
            exact key2 ms.length h4 (Nat.le_refl _)
      exact key n h2 (Nat.le_refl _)
    rw [this]
    simp [openB, h1, h2, h3, h4]
  · have h0 : openB ms n i j = false := by
      simp only [openB]
      by_cases a : 0 ≤ i <;> by_cases b : i < (n : Int) <;> by_cases c : 0 ≤ j <;> by_cases d : j < (ms.length : Int) <;> simp [a, b, c, d]
      exact absurd ⟨a, b, c, d⟩ h
    rw [h0]
    cases hl : lk (spotsL ms n) i j with
    | none => rfl
    | some v =>
      simp only [lk, Option.map_eq_some_iff] at hl
      obtain ⟨x, hx, rfl⟩ := hl
      have hm := List.mem_of_find?_eq_some hx
      have hp := List.find?_some hx
      simp only [spotsL, List.mem_cons, List.mem_flatMap, List.mem_range, spotsAt, List.mem_map] at hm
      rcases hm with rfl | ⟨t, ht, q, hq, rfl⟩
      · rfl
      · simp at hp
        exact absurd ⟨by omega, by omega, by omega, by omega⟩ h
theorem look_at {w W : World} {b : Nat} {ms : List M} {N : Nat} (hm : MapIs w b (spotsL ms N)) (hB : Below w.heap.size w W) (i j : Int) :
    ∀ nq, (Instr.lookup 84 (.map (some b)) (.agg #[.int .i64 i, .int .i64 j]) false).run Tryd.prog (W.drewN nq) = .ok (.bool (openB ms N i j)) (W.drewN nq) := fun nq => by
  rw [← lk_spots]
  exact run_look (hm.below (pw_below_drewN hB nq)) i j
end Go.Proofs.YtikfghnkbgdbgaaDoor.Q
end
section
namespace Go.Proofs.YtikfghnkbgdbgaaDoor.Q
set_option linter.unusedSimpArgs false
set_option linter.unusedVariables false
open Go.RowKit Go.Proofs.YtikfghnkbgdbgaaDoorW.PrintWords Go.Proofs.YtikfghnkbgdbgaaDoorW.PrintLast Go.Proofs.YtikfghnkbgdbgaaDoorW.PrintMore
attribute [local go_sem high] eqSpot
set_option maxHeartbeats 2000000 in
set_option maxRecDepth 100000 in
theorem can_calls (ms : List M) (gs : List G) (A0 : Option Addr) (c0 : Nat) (A1 : Option Addr) (c1 : Nat) (n : Int) (b : Nat) (x0 x1 x2 : Int) (w : World) (hr1 : Kd.C k63 w A1 gs.length gs) (hn0 : 0 ≤ n) (hm : MapIs w b (spotsL ms n.toNat)) (hG : GV w) (hg2 : gs.length ≤ 2) :
    Calls Tryd.prog 63 #[.agg #[.slice A0 ms.length c0, .slice A1 gs.length c1, .int .i64 n, .map (some b)], .agg #[.int .i64 x0, .int .i64 x1, .int .i64 x2]] w fun e w' =>
      e = .returned (.bool (canB ms gs n ⟨x0, x1, x2⟩)) ∧ Below w.heap.size w w' := by
  have hg0 := hG.1
  have hg1 := hG.2.1
  have hlt0 : 0 < w.heap.size := World.block_lt_of_cell? w _ hg0
  have HR := Aside0.mk hr1
  obtain ⟨N, rfl⟩ := Int.eq_ofNat_of_zero_le hn0
  rw [Int.toNat_natCast] at hm
  have HM := Aside0.mk hm
  clear hG hr1 hm
  have HB := Aside0.mk (((Below.refl w.heap.size w).alloc (Nat.le_refl _) (.cells #[.slice A0 ms.length c0, .slice A1 gs.length c1, .int .i64 N, .map (some b)] 86)).alloc (by simp) (.cells #[.int .i64 x0, .int .i64 x1, .int .i64 x2] 59) |>.alloc (by simp; omega) (.cells #[.int .i64 x0, .int .i64 x2] 116))
  have hlk := look_at HM.out HB.out x0 x2
  have hfin : ∀ nq, Below w.heap.size w (World.drewN _ nq) := fun nq => pw_below_drewN HB.out nq
  have HF := Aside0.mk hfin
  clear hfin
  cases h1 : (x0 == -1 && (x2 == -1)) with
  | true =>
    have hb : canB ms gs N ⟨x0, x1, x2⟩ = false := by
      have : x0 = -1 := by simp at h1; exact h1.1
      subst this
      simp [canB, openB]
    have Hb := Aside0.mk hb
    clear hb
    have hx0 : x0 = -1 := by simp at h1; exact h1.1
    have hx2 : x2 = -1 := by simp at h1; exact h1.2
    subst hx0 hx2
    clear h1
    go_enter Tryd.func63, Tryd.ntmps63
    go_wp2
    go_quiet (fail)
    go_wp2
    go_ret
    exact ⟨by first | (rw [Hb.out]; done) | (rw [Hb.out]; rfl), HF.out _⟩
  | false =>
    cases h2 : openB ms N x0 x2 with
    | false =>
      have hb : canB ms gs N ⟨x0, x1, x2⟩ = false := by simp [canB, h2]
      have Hb := Aside0.mk hb
      clear hb
      rw [h2] at hlk
      clear h2
      go_enter Tryd.func63, Tryd.ntmps63
      go_wp2
      go_quiet (fail)
      go_wp2
      go_ret
      exact ⟨by first | (rw [Hb.out]; done) | (rw [Hb.out]; rfl), HF.out _⟩
    | true =>
      rw [h2] at hlk
      cases h3 : within x1 0 ((gs.length : Int) - 1) with
      | false =>
        have hb : canB ms gs N ⟨x0, x1, x2⟩ = false := by
          simp only [within, Bool.and_eq_false_iff, decide_eq_false_iff_not] at h3
          simp only [canB, h2, Bool.true_and, Bool.and_eq_false_iff, decide_eq_false_iff_not]
          omega
        have Hb := Aside0.mk hb
        clear hb h2
        go_enter Tryd.func63, Tryd.ntmps63
        go_wp2
        go_quiet ((go_at_call 62; exact within_quiet _ _ _ _ rfl _ _))
        go_wp2
        go_ret
        exact ⟨by first | (rw [Hb.out]; done) | (rw [Hb.out]; rfl), HF.out _⟩
      | true =>
        have hx1 : 0 ≤ x1 ∧ x1 < gs.length := by simp [within] at h3; omega
        have hb : canB ms gs N ⟨x0, x1, x2⟩ = within x2 (rd_T63 gs x1).f0 (rd_T63 gs x1).f1 := by
          simp [canB, h2, hx1.1, hx1.2, within]
        have Hb := Aside0.mk hb
        clear hb h2
        obtain ⟨ad, rfl, hc0, hc1, hc2, hc3⟩ := at_T63 (Kd.C_below HR.out HB.out) x1 hx1.1 hx1.2
        have hx10 := hx1.1
        have hx11 := hx1.2
        clear hx1 hc2 hc3
        go_enter Tryd.func63, Tryd.ntmps63
        go_wp2
        go_quiet ((go_at_call 62; exact within_quiet _ _ _ _ rfl _ _))
        go_wp2
        go_ret
        exact ⟨by first | (rw [Hb.out]; done) | (rw [Hb.out]; rfl), HF.out _⟩
end Go.Proofs.YtikfghnkbgdbgaaDoor.Q
end
section
namespace Go.Proofs.YtikfghnkbgdbgaaDoor.Q
set_option linter.unusedSimpArgs false
set_option linter.unusedVariables false
open Go.RowKit Go.Proofs.YtikfghnkbgdbgaaDoorW.PrintWords Go.Proofs.YtikfghnkbgdbgaaDoorW.PrintLast Go.Proofs.YtikfghnkbgdbgaaDoorW.PrintMore
theorem canB_bounds {ms : List M} {gs : List G} {n : Int} {x : Wk} (h : canB ms gs n x = true) : (0 ≤ x.f0 ∧ x.f0 < n) ∧ (0 ≤ x.f1 ∧ x.f1 < gs.length) ∧ (0 ≤ x.f2 ∧ x.f2 < ms.length) := by
  simp only [canB, openB, Bool.and_eq_true, decide_eq_true_eq] at h
  omega
def W3 (p : List Wk) (k : Nat) : Wk := rd_T59 p k
theorem drop_W3 (p : List Wk) (k : Nat) (h : k < p.length) : p.drop k = W3 p k :: p.drop (k + 1) := by
  rw [List.drop_eq_getElem_cons h]
  simp [W3, rd_T59, List.getD_eq_getElem?_getD, List.getElem?_eq_getElem h]
theorem take_W3 (p : List Wk) (k : Nat) (h : k < p.length) : p.take (k + 1) = p.take k ++ [W3 p k] := by
  rw [List.take_succ_eq_append_getElem h]
  simp [W3, rd_T59, List.getD_eq_getElem?_getD, List.getElem?_eq_getElem h]
structure PlanAt (ms : List M) (gs : List G) (n : Int) (p : List Wk) (k : Nat) : Prop where
  rest : planB ms gs n p = planFrom ms gs n (p.take k) (p.drop k)
  had : ∀ j, j < k → canB ms gs n (W3 p j) = true
theorem PlanAt.start (ms : List M) (gs : List G) (n : Int) (p : List Wk) : PlanAt ms gs n p 0 := ⟨rfl, fun j h => absurd h (by omega)⟩
theorem PlanAt.no {ms : List M} {gs : List G} {n : Int} {p : List Wk} {k : Nat} (h : PlanAt ms gs n p k) (hk : k < p.length) (hc : canB ms gs n (W3 p k) = false) : planB ms gs n p = false := by
  rw [h.rest, drop_W3 p k hk]; simp [planFrom, hc]
theorem take_all (p : List Wk) (f : Wk → Bool) (k : Nat) (hk : k ≤ p.length) : (p.take k).all f = true ↔ ∀ j, j < k → f (W3 p j) = true := by
  induction k with
  | zero => simp
  | succ k ih =>
    rw [take_W3 p k (by omega), List.all_append, Bool.and_eq_true, ih (by omega)]
    simp only [List.all_cons, List.all_nil, Bool.and_true]
    constructor
    · rintro ⟨h1, h2⟩ j hj
      by_cases e : j = k
      · rw [e]; exact h2
      · exact h1 j (by omega)
    · intro h
      exact ⟨fun j hj => h j (by omega), h k (by omega)⟩
theorem PlanAt.bad {ms : List M} {gs : List G} {n : Int} {p : List Wk} {k j : Nat} (h : PlanAt ms gs n p k) (hk : k < p.length) (hj : j < k) (hc : behindB (W3 p j) (W3 p k) = false) : planB ms gs n p = false := by
  rw [h.rest, drop_W3 p k hk]
  have : (p.take k).all (fun y => behindB y (W3 p k)) = false := by
    cases e : (p.take k).all (fun y => behindB y (W3 p k)) with
    | false => rfl
    | true =>
      have := (take_all p _ k (by omega)).1 e j hj
      rw [hc] at this; cases this
  simp [planFrom, this]
theorem PlanAt.next {ms : List M} {gs : List G} {n : Int} {p : List Wk} {k : Nat} (h : PlanAt ms gs n p k) (hk : k < p.length) (hc : canB ms gs n (W3 p k) = true) (ha : ∀ j, j < k → behindB (W3 p j) (W3 p k) = true) : PlanAt ms gs n p (k + 1) := by
  refine ⟨?_, fun j hj => ?_⟩
  · rw [h.rest, drop_W3 p k hk, take_W3 p k hk]
    have := (take_all p (fun y => behindB y (W3 p k)) k (by omega)).2 ha
    simp [planFrom, hc, this]
  · by_cases e : j = k
    · rw [e]; exact hc
    · exact h.had j (by omega)
theorem PlanAt.end_ {ms : List M} {gs : List G} {n : Int} {p : List Wk} (h : PlanAt ms gs n p p.length) : planB ms gs n p = true := by
  rw [h.rest]; simp [planFrom]
theorem within_calls (a b c : Int) (r : Bool) (hr : within a b c = r) (w : World) : Calls Tryd.prog 62 #[.int .i64 a, .int .i64 b, .int .i64 c] w fun e w' => e = .returned (.bool r) ∧ Below w.heap.size w w' :=
  (gang_within.calls a b c r w (by rw [within_f, hr])).mono fun e w' ⟨he, hd⟩ => ⟨he, hd.below⟩
structure BoxAt (w wr : World) (A0 : Option Addr) (n0 c0 : Nat) (A1 : Option Addr) (n1 c1 : Nat) (n : Int) (b : Nat) (g : Nat) : Prop where
  box : wr.heap[g]? = some (.cells #[.slice A0 n0 c0, .slice A1 n1 c1, .int .i64 n, .map (some b)] 86 (0, 0))
  bel : Below w.heap.size w wr
theorem BoxAt.step {w wr w' : World} {A0 : Option Addr} {n0 c0 : Nat} {A1 : Option Addr} {n1 c1 : Nat} {n : Int} {b g : Nat} (h : BoxAt w wr A0 n0 c0 A1 n1 c1 n b g) (hb : Below wr.heap.size wr w') : BoxAt w w' A0 n0 c0 A1 n1 c1 n b g :=
  ⟨(hb.block _ (Array.getElem?_eq_some_iff.1 h.box).1).trans h.box, below_then h.bel h.bel.size hb⟩
set_option maxHeartbeats 4000000 in
set_option maxRecDepth 100000 in
theorem isPlan_calls (ms : List M) (gs : List G) (A0 : Option Addr) (c0 : Nat) (A1 : Option Addr) (c1 : Nat) (n : Int) (b : Nat) (A2 : Option Addr) (c2 : Nat) (p : List Wk) (w : World) (hr1 : Kd.C k63 w A1 gs.length gs) (hr2 : Kd.C k59 w A2 p.length p) (hc2 : p.length ≤ c2)
    (hn0 : 0 ≤ n) (hm : MapIs w b (spotsL ms n.toNat)) (hG : GV w) (hg2 : gs.length ≤ 2) (hm4 : ms.length ≤ 4) :
    Calls Tryd.prog 91 #[.agg #[.slice A0 ms.length c0, .slice A1 gs.length c1, .int .i64 n, .map (some b)], .slice A2 p.length c2] w fun e w' =>
      e = .returned (.bool (planB ms gs n p)) ∧ Below w.heap.size w w' := by
  have HR1 := Aside0.mk hr1
  have HR2 := Aside0.mk hr2
  have HM := Aside0.mk hm
  have HG := Aside0.mk hG
  have hpl : p.length ≤ 9223372036854775807 := hr2.2.1
  clear hr1 hr2 hm hG
  obtain ⟨i0, hi0, hz1, hsz, hz2⟩ := info_parts info59
  have HI := Aside0.mk hi0
  clear hi0 hsz hz1 hz2
  go_enter Tryd.func91, Tryd.ntmps91
  go_wp2
  go_loopw [11] (fun v11 wr => ∃ k : Nat, k ≤ p.length ∧ v11 = .int .i64 k ∧ Aside0 (PlanAt ms gs n p k) ∧ Aside0 (BoxAt w wr A0 ms.length c0 A1 gs.length c1 n b w.heap.size)) (fun v11 _ => p.length - (intOf v11).toNat)
  case atStart => exact ⟨0, Nat.zero_le _, rfl, ⟨PlanAt.start _ _ _ _⟩, ⟨⟨World.alloc_heap_new w _, (Below.refl _ w).alloc (Nat.le_refl _) _⟩⟩⟩
  case round =>
    obtain ⟨k, hk, rfl, HP, HX⟩ := hrel
    by_cases hlt : k < p.length
    · obtain ⟨ad, hA2, hx0, hx1, hx2⟩ := at_T59 (Kd.C_below HR2.out HX.out.bel) (k : Int) (by omega) (by omega)
      have HA2 := Aside0.mk hA2
      rw [Int.toNat_natCast] at hx0 hx1 hx2
      have hb0 : wr.cell? ⟨w.heap.size, 0, none⟩ = some (.slice A0 ms.length c0) := (blk_cell HX.out.box 0).trans rfl
      have hb1 : wr.cell? ⟨w.heap.size, 1, none⟩ = some (.slice A1 gs.length c1) := (blk_cell HX.out.box 1).trans rfl
      have hb2 : wr.cell? ⟨w.heap.size, 2, none⟩ = some (.int .i64 n) := (blk_cell HX.out.box 2).trans rfl
      have hb3 : wr.cell? ⟨w.heap.size, 3, none⟩ = some (.map (some b)) := (blk_cell HX.out.box 3).trans rfl
      have hbl : w.heap.size < wr.heap.size := (Array.getElem?_eq_some_iff.1 HX.out.box).1
      subst hA2
      clear HA2
      cases hc : canB ms gs n (W3 p k) with
      | false =>
        have HC := Aside0.mk hc
        clear hc
        go_wp2_with (fail)
        refine (can_calls ms gs A0 c0 A1 c1 n b _ _ _ _ ?s1 hn0 ?s2 ?s3 hg2).mono ?_
        case s1 => exact Kd.C_below HR1.out (HX.out.bel.alloc HX.out.bel.size _)
        case s2 => exact HM.out.below (HX.out.bel.alloc HX.out.bel.size _)
        case s3 => exact gv_below HG.out (HX.out.bel.alloc HX.out.bel.size _)
        rintro e w1 ⟨he, hb⟩
        rw [show canB ms gs n ⟨(rd_T59 p k).f0, (rd_T59 p k).f1, (rd_T59 p k).f2⟩ = false from HC.out] at he
        subst he
        have HB := Aside0.mk (below_then (HX.out.bel.alloc HX.out.bel.size _) (by simp; have := HX.out.bel.size; omega) hb)
        clear hb hx0 hx1 hx2 hb0 hb1 hb2 hb3 hbl
        go_wp2
        go_ret
        exact ⟨by rw [HP.out.no hlt HC.out]; first | done | rfl, HB.out⟩
      | true =>
        have HC := Aside0.mk hc
        have hxb := canB_bounds hc
        have hxb0 : 0 ≤ (rd_T59 p k).f2 := hxb.2.2.1
        have hxb1 : (rd_T59 p k).f2 < ms.length := hxb.2.2.2
        clear hc hxb
        go_wp2_with (fail)
        refine (can_calls ms gs A0 c0 A1 c1 n b _ _ _ _ ?s4 hn0 ?s5 ?s6 hg2).mono ?_
        case s4 => exact Kd.C_below HR1.out (HX.out.bel.alloc HX.out.bel.size _)
        case s5 => exact HM.out.below (HX.out.bel.alloc HX.out.bel.size _)
        case s6 => exact gv_below HG.out (HX.out.bel.alloc HX.out.bel.size _)
        rintro e w1 ⟨he, hb⟩
        rw [show canB ms gs n ⟨(rd_T59 p k).f0, (rd_T59 p k).f1, (rd_T59 p k).f2⟩ = true from HC.out] at he
        subst he
        have HX1 := Aside0.mk (HX.out.step (below_then ((Below.refl _ wr).alloc (Nat.le_refl _) _) (by simp) hb))
        have HBx := Aside0.mk (((hb.block wr.heap.size (by simp)).trans (World.alloc_heap_new wr _)))
        clear hb hx0 hx1 hx2 hb0 hb1 hb2 hb3 hbl
        have hcut := cut_to (P := Tryd.prog) 26 59 .i64 Tryd.underlying26 HI.out (some ad) p.length c2 (k : Int) (by omega) (by omega) hc2
        rw [Int.toNat_natCast] at hcut
        go_wp2
        clear hcut
        go_loopw [24] (fun v24 wi => ∃ j : Nat, j ≤ k ∧ v24 = .int .i64 j ∧ Aside0 (∀ i, i < j → behindB (W3 p i) (W3 p k) = true) ∧ Aside0 (BoxAt w wi A0 ms.length c0 A1 gs.length c1 n b w.heap.size) ∧
          Aside0 (wi.heap[wr.heap.size]? = some (.cells #[.int .i64 (rd_T59 p k).f0, .int .i64 (rd_T59 p k).f1, .int .i64 (rd_T59 p k).f2] 59 (0, 0)))) (fun v24 _ => k - (intOf v24).toNat)
        case atStart => exact ⟨0, Nat.zero_le _, rfl, ⟨fun i h => absurd h (by omega)⟩, HX1, HBx⟩
        case round =>
          obtain ⟨j, hj, rfl, HA, HY, HZ⟩ := hrel
          by_cases hlj : j < k
          · have hyb := canB_bounds (HP.out.had j hlj)
            have hyb0 : 0 ≤ (rd_T59 p j).f2 := hyb.2.2.1
            have hyb1 : (rd_T59 p j).f2 < ms.length := hyb.2.2.2
            clear hyb
            obtain ⟨ad', hA2, hy0, hy1, hy2⟩ := at_T59 (Kd.C_below HR2.out HY.out.bel) (j : Int) (by omega) (by omega)
            obtain rfl : ad = ad' := Option.some.inj hA2
            clear hA2
            rw [Int.toNat_natCast] at hy0 hy1 hy2
            have hz0 : wr.cell? ⟨_, 0, none⟩ = some (.int .i64 (rd_T59 p k).f0) := (blk_cell HZ.out 0).trans rfl
            have hz1 : wr.cell? ⟨_, 1, none⟩ = some (.int .i64 (rd_T59 p k).f1) := (blk_cell HZ.out 1).trans rfl
            have hz2 : wr.cell? ⟨_, 2, none⟩ = some (.int .i64 (rd_T59 p k).f2) := (blk_cell HZ.out 2).trans rfl
            have hzl := (Array.getElem?_eq_some_iff.1 HZ.out).1
            have HY2 := Aside0.mk (HY.out.step ((Below.refl _ wr).alloc (Nat.le_refl _) (.cells #[.int .i64 (rd_T59 p j).f0, .int .i64 (rd_T59 p j).f1, .int .i64 (rd_T59 p j).f2] 59)))
            by_cases e1 : (rd_T59 p k).f0 < (rd_T59 p j).f0
            · have HF := Aside0.mk (HP.out.bad hlt hlj (by simp [behindB, W3, e1]))
              go_wp2
              go_ret
              exact ⟨by rw [HF.out]; first | done | rfl, HY2.out.bel⟩
            · by_cases e2 : (rd_T59 p j).f0 = (rd_T59 p k).f0
              · have e2b : ((rd_T59 p j).f0 == (rd_T59 p k).f0) = true := beq_iff_eq.2 e2
                have E2 := Aside0.mk e2
                clear e2
                by_cases e3 : (rd_T59 p k).f1 ≤ (rd_T59 p j).f1
                · have HF := Aside0.mk (HP.out.bad hlt hlj (by simp [behindB, W3, E2.out, e3]))
                  go_wp2
                  go_ret
                  exact ⟨by rw [HF.out]; first | done | rfl, HY2.out.bel⟩
                · cases e4 : within ((rd_T59 p k).f2 - (rd_T59 p j).f2) (-1) 1 with
                  | true =>
                    have HF := Aside0.mk (HP.out.bad hlt hlj (by simp [within] at e4; simp [behindB, W3, E2.out, e4]))
                    have E4 := Aside0.mk e4
                    clear e4
                    go_wp2_with (fail)
                    refine (within_calls _ _ _ true E4.out _).mono ?_
                    rintro e w2 ⟨rfl, hb⟩
                    have HB := Aside0.mk (below_then HY2.out.bel HY2.out.bel.size hb)
                    clear hb hy0 hy1 hy2 hz0 hz1 hz2 hzl
                    go_wp2
                    go_ret
                    exact ⟨by rw [HF.out]; first | done | rfl, HB.out⟩
                  | false =>
                    have HF : Aside0 (behindB (W3 p j) (W3 p k) = true) := ⟨by
                      have q1 : decide ((rd_T59 p j).f0 > (rd_T59 p k).f0) = false := decide_eq_false (by omega)
                      have q2 : decide ((rd_T59 p j).f1 ≥ (rd_T59 p k).f1) = false := decide_eq_false (by omega)
                      have q3 : (decide (-1 ≤ (rd_T59 p k).f2 - (rd_T59 p j).f2) && decide ((rd_T59 p k).f2 - (rd_T59 p j).f2 ≤ 1)) = false := e4
                      unfold behindB W3
                      rw [q1, q2, q3]
                      simp⟩
                    have E4 := Aside0.mk e4
                    clear e4
                    go_wp2_with (fail)
                    refine (within_calls _ _ _ false E4.out _).mono ?_
                    rintro e w2 ⟨rfl, hb⟩
                    have HY3 := Aside0.mk (HY2.out.step hb)
                    have HZ3 := Aside0.mk ((hb.block _ (by simp; omega)).trans ((Below.heap_alloc wr _ _ hzl).trans HZ.out))
                    clear hb hy0 hy1 hy2 hz0 hz1 hz2 hzl
                    go_wp2
                    go_roundw
                    case rel => exact ⟨j + 1, by omega, by go_num, ⟨fun i hi => by
                      by_cases q : i = j
                      · rw [q]; exact HF.out
                      · exact HA.out i (by omega)⟩, HY3, HZ3⟩
                    case measure => simp [intOf]; omega
              · have e2b : ((rd_T59 p j).f0 == (rd_T59 p k).f0) = false := beq_eq_false_iff_ne.2 e2
                have HF : Aside0 (behindB (W3 p j) (W3 p k) = true) := ⟨by simp [behindB, W3, e2]; omega⟩
                have HZ3 := Aside0.mk ((Below.heap_alloc wr (.cells #[.int .i64 (rd_T59 p j).f0, .int .i64 (rd_T59 p j).f1, .int .i64 (rd_T59 p j).f2] 59) _ hzl).trans HZ.out)
                go_wp2
                go_roundw
                case rel => exact ⟨j + 1, by omega, by go_num, ⟨fun i hi => by
                    by_cases q : i = j
                    · rw [q]; exact HF.out
                    · exact HA.out i (by omega)⟩, HY2, HZ3⟩
                case measure => simp [intOf]; omega
          · obtain rfl : j = k := by omega
            go_wp2
            go_roundw
            case rel => exact ⟨j + 1, by omega, by go_num, ⟨HP.out.next hlt HC.out HA.out⟩, HY⟩
            case measure => simp [intOf]; omega
    · obtain rfl : k = p.length := by omega
      go_wp2
      go_ret
      exact ⟨by rw [HP.out.end_]; first | done | rfl, HX.out.bel⟩
end Go.Proofs.YtikfghnkbgdbgaaDoor.Q
end
section
namespace Go.Proofs.YtikfghnkbgdbgaaDoor.Q
set_option linter.unusedSimpArgs false
set_option linter.unusedVariables false
open Go.RowKit Go.Proofs.YtikfghnkbgdbgaaDoorW.PrintWords Go.Proofs.YtikfghnkbgdbgaaDoorW.PrintLast Go.Proofs.YtikfghnkbgdbgaaDoorW.PrintMore
theorem span_f (lo hi m : Int) (hm : m ≤ 100) : gang_isSpan.f lo hi m = some (spanB ⟨lo, hi⟩ m) := by
  unfold gang_isSpan.f spanB
  by_cases h1 : 1 ≤ lo
  · by_cases h2 : lo ≤ hi
    · by_cases h3 : hi ≤ m
      · have : wrap64 (hi - lo) = hi - lo := by unfold wrap64; omega
        simp [h1, h2, h3, this]
      · simp [h1, h2, h3]
    · simp [h1, h2]
  · simp [h1]
def mileB (x : M) : Bool := spanB x.f0 6 && decide (0 ≤ x.f1) && decide (x.f1 ≤ 15)
def gangB (m : Int) (x : G) : Bool := decide (0 ≤ x.f0) && decide (x.f0 ≤ x.f1) && decide (x.f1 < m) && spanB x.f2 3
theorem rd_drop_M (l : List M) (j : Nat) (h : j < l.length) : l.drop j = rd_T66 l j :: l.drop (j + 1) := by
  rw [List.drop_eq_getElem_cons h]; simp [rd_T66, List.getD_eq_getElem?_getD, List.getElem?_eq_getElem h]
theorem rd_drop_G (l : List G) (j : Nat) (h : j < l.length) : l.drop j = rd_T63 l j :: l.drop (j + 1) := by
  rw [List.drop_eq_getElem_cons h]; simp [rd_T63, List.getD_eq_getElem?_getD, List.getElem?_eq_getElem h]
theorem wrap_up {i n : Nat} (h : i < n) (hn : n ≤ 9223372036854775807) : wrap64 ((i : Int) + 1) = ((i + 1 : Nat) : Int) := by unfold wrap64; omega
theorem check_l1 (ms : List M) (gs : List G) (n : Int) (hg : gs.length ≤ 9223372036854775807) (d : Nat) : ∀ (k j : Nat) (b : Bool), gs.length - j = d → j ≤ gs.length → d < k →
    gang_Check.l1 k b gs (gs.length : Int) j ms gs n = some (if b && (gs.drop j).all (gangB ms.length) then 0 else 40) := by
  induction d with
  | zero =>
    intro k j b hd hj hk
    obtain ⟨k, rfl⟩ : ∃ m, k = m + 1 := ⟨k - 1, by omega⟩
    obtain rfl : j = gs.length := by omega
    simp only [gang_Check.l1]; rw [if_neg (by omega)]
    cases b <;> simp
  | succ d ih =>
    intro k j b hd hj hk
    obtain ⟨k, rfl⟩ : ∃ m, k = m + 1 := ⟨k - 1, by omega⟩
    have hlt : j < gs.length := by omega
    have hr := rd_drop_G gs j hlt
    simp only [gang_Check.l1]; rw [if_pos (by omega), if_pos (by omega), if_pos (by omega), wrap_up hlt hg, hr]
    have I := fun b => ih k (j + 1) b (by omega) (by omega) (by omega)
    cases b with
    | false =>
      rw [if_neg (by simp), I false]
      simp
    | true =>
      rw [if_pos rfl, within_f]
      simp only [Option.bind_some, List.all_cons, gangB]
      by_cases h1 : 0 ≤ (rd_T63 gs j).f0 <;> by_cases h2 : (rd_T63 gs j).f0 ≤ (rd_T63 gs j).f1
      · rw [show within (rd_T63 gs j).f0 0 (rd_T63 gs j).f1 = true by simp [within, h1, h2], if_pos rfl]
        by_cases h3 : (rd_T63 gs j).f1 < (ms.length : Int)
        · rw [if_pos h3, span_f _ _ _ (by omega)]
          simp only [Option.bind_some]
          rw [I]
          simp [h1, h2, h3]
          try rfl
        · rw [if_neg h3, I false]
          simp [h1, h2, h3]
      · rw [show within (rd_T63 gs j).f0 0 (rd_T63 gs j).f1 = false by simp [within, h1, h2], if_neg (by simp), I false]
        simp [h1, h2]
      · rw [show within (rd_T63 gs j).f0 0 (rd_T63 gs j).f1 = false by simp [within, h1, h2], if_neg (by simp), I false]
        simp [h1, h2]
      · rw [show within (rd_T63 gs j).f0 0 (rd_T63 gs j).f1 = false by simp [within, h1, h2], if_neg (by simp), I false]
        simp [h1, h2]
theorem check_l0 (ms : List M) (gs : List G) (n : Int) (hm : ms.length ≤ 9223372036854775807) (hg : gs.length ≤ 9223372036854775807) (d : Nat) : ∀ (k j : Nat) (b : Bool), ms.length - j = d → j ≤ ms.length → d + gs.length + 1 < k →
    gang_Check.l0 k b ms (ms.length : Int) j ms gs n = some (if b && (ms.drop j).all mileB && gs.all (gangB ms.length) then 0 else 40) := by
  induction d with
  | zero =>
    intro k j b hd hj hk
    obtain ⟨k, rfl⟩ : ∃ m, k = m + 1 := ⟨k - 1, by omega⟩
    obtain rfl : j = ms.length := by omega
    simp only [gang_Check.l0]; rw [if_neg (by omega)]
    refine (check_l1 ms gs n hg gs.length k 0 b (by omega) (by omega) (by omega)).trans ?_
    simp
  | succ d ih =>
    intro k j b hd hj hk
    obtain ⟨k, rfl⟩ : ∃ m, k = m + 1 := ⟨k - 1, by omega⟩
    have hlt : j < ms.length := by omega
    have hr := rd_drop_M ms j hlt
    simp only [gang_Check.l0]; rw [if_pos (by omega), if_pos (by omega), if_pos (by omega), wrap_up hlt hm, hr]
    have I := fun b => ih k (j + 1) b (by omega) (by omega) (by omega)
    cases b with
    | false =>
      rw [if_neg (by simp), I false]
      simp
    | true =>
      rw [if_pos rfl, span_f _ _ _ (by omega)]
      simp only [Option.bind_some, List.all_cons, mileB]
      by_cases h1 : spanB (rd_T66 ms j).f0 6 = true
      · rw [if_pos h1, within_f]
        simp only [Option.bind_some]
        rw [I]
        simp [h1, within]
      · rw [if_neg h1, I false]
        simp [h1]
theorem check_f (ms : List M) (gs : List G) (n : Int) (hm : ms.length ≤ 9223372036854775807) (hg : gs.length ≤ 9223372036854775807) : gang_Check.f (ms.length + gs.length + 3) ms gs n = some (if okB ms gs n = true then 0 else 40) := by
  have J : ∀ b, gang_Check.j0 (ms.length + gs.length + 3) b ms gs n = some (if b && ms.all mileB && gs.all (gangB ms.length) then 0 else 40) := fun b => by
    simp only [gang_Check.j0]
    refine (check_l0 ms gs n hm hg ms.length (ms.length + gs.length + 2) 0 b (by omega) (by omega) (by omega)).trans ?_
    simp
  unfold gang_Check.f
  rw [within_f, within_f, within_f]
  simp only [Option.bind_some, J]
  have e : okB ms gs n = (within ms.length 1 4 && within gs.length 1 2 && within n 1 4 && (ms.all mileB && gs.all (gangB ms.length))) := by
    have a1 : decide ((1 : Nat) ≤ ms.length) = decide ((1 : Int) ≤ (ms.length : Int)) := by congr 1; simp; omega
    have a2 : decide (ms.length ≤ 4) = decide ((ms.length : Int) ≤ 4) := by congr 1; simp; omega
    have a3 : decide ((1 : Nat) ≤ gs.length) = decide ((1 : Int) ≤ (gs.length : Int)) := by congr 1; simp; omega
    have a4 : decide (gs.length ≤ 2) = decide ((gs.length : Int) ≤ 2) := by congr 1; simp; omega
    unfold okB within
    rw [a1, a2, a3, a4, show (fun x : M => spanB x.f0 6 && decide (0 ≤ x.f1) && decide (x.f1 ≤ 15)) = mileB from rfl, show (fun x : G => decide (0 ≤ x.f0) && decide (x.f0 ≤ x.f1) && decide (x.f1 < (ms.length : Int)) && spanB x.f2 3) = gangB ms.length from rfl]
    simp only [Bool.and_assoc]
  rw [e]
  cases within (ms.length : Int) 1 4 <;> cases within (gs.length : Int) 1 2 <;> cases within n 1 4 <;> simp
end Go.Proofs.YtikfghnkbgdbgaaDoor.Q
end
