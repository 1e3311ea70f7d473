/- For any book the statement GangPlans holds: Plan, Most and First return what the chapter says. -/
import Derived.Test.YtikfghnkbgdbgaaDoorZGangPlans3
import Derived.Test.YtikfghnkbgdbgaaDoorTie
import Derived.Test.YtikfghnkbgdbgaaDoorCards
import Derived.SevenTiedAt
set_option linter.unusedSimpArgs false
set_option linter.unusedVariables false
section
namespace Go.Proofs.YtikfghnkbgdbgaaDoor.Q
open Go.RowKit Go.Proofs.YtikfghnkbgdbgaaDoorW.PrintWords Go.Proofs.YtikfghnkbgdbgaaDoorW.PrintLast Go.Proofs.YtikfghnkbgdbgaaDoorW.PrintMore
attribute [local go_sem] max2_int min2_int max_two min_two max_three min_three max_four min_four   -- for this text's walks alone
set_option linter.unusedVariables false
set_option linter.unusedSimpArgs false
attribute [local go_sem high] eqA40
mutual
def macadamref04_nights.l0 : Nat → Int → List (List (S59)) → Int → List (S66) → List (S63) → Int → Option ((List (List (S59))))
 | 0, _, _, _, _, _, _ => none
 | k + 1, x1, x5, x6, x274000, x274001, x274002 => if x6 < (x274001.length : Int) then (macadamref04_nights.l1 k x1 x5 x6 (wrap64 ((x5.length : Int) - 1)) x274000 x274001 x274002) else (some x5)
def macadamref04_nights.l1 : Nat → Int → List (List (S59)) → Int → Int → List (S66) → List (S63) → Int → Option ((List (List (S59))))
 | 0, _, _, _, _, _, _, _ => none
 | k + 1, x1, x5, x6, x7, x274000, x274001, x274002 => if x7 ≥ 0 then (macadamref04_nights.l2 k x1 x5 x6 x7 0 x274000 x274001 x274002) else (macadamref04_nights.l0 k x1 x5 (wrap64 (x6 + 1)) x274000 x274001 x274002)
def macadamref04_nights.l2 : Nat → Int → List (List (S59)) → Int → Int → Int → List (S66) → List (S63) → Int → Option ((List (List (S59))))
 | 0, _, _, _, _, _, _, _, _ => none
 | k + 1, x1, x5, x6, x7, x8, x274000, x274001, x274002 => if x8 < (x274000.length : Int) then ((some (([] : List (S59)) : List (S59))).bind fun y277 => (if 0 ≤ x7 then (if x7 < (x5.length : Int) then (if y277.length + (rd_L5 x5 x7).length < 5864062014805 then ((some (y277 ++ (rd_L5 x5 x7) : List (S59))).bind fun y281 => (if y281.length < 5864062014805 then ((some (y281 ++ [(⟨x1, x6, x8⟩ : S59)] : List (S59))).bind fun y284 => ((macadamref04_isPlan.f k x274000 x274001 x274002 y284).bind fun t287 => (if t287 = true then (if x5.length < 5864062014805 then (macadamref04_nights.l2 k x1 (x5 ++ [y284]) x6 x7 (wrap64 (x8 + 1)) x274000 x274001 x274002) else (none)) else (macadamref04_nights.l2 k x1 x5 x6 x7 (wrap64 (x8 + 1)) x274000 x274001 x274002)))) else (none))) else (none)) else (none)) else (none))) else (macadamref04_nights.l1 k x1 x5 x6 (wrap64 (x7 - 1)) x274000 x274001 x274002)
end
def macadamref04_nights.f (k : Nat) (l0_0 : List (S66)) (l0_1 : List (S63)) (a0_2 : Int) (a1 : Int) : Option ((List (List (S59)))) := macadamref04_nights.l0 k a1 (([[]] : List (List (S59)))) 0 l0_0 l0_1 a0_2
set_option maxHeartbeats 8000000 in
set_option maxRecDepth 100000 in
theorem macadamref04_nights.calls (k : Nat) (A0_0 : Option Addr) (c0_0 : Nat) (l0_0 : List (S66)) (A0_1 : Option Addr) (c0_1 : Nat) (l0_1 : List (S63)) (a0_2 : Int) (a1 : Int) (r : List (List (S59))) (w : World) (hr0_0 : Kd.C k66 w A0_0 l0_0.length l0_0) (hc0_0 : l0_0.length ≤ c0_0) (hr0_1 : Kd.C k63 w A0_1 l0_1.length l0_1) (hc0_1 : l0_1.length ≤ c0_1) (h : macadamref04_nights.f k l0_0 l0_1 a0_2 a1 = some r) :
  Calls Tryd.prog 102 #[.agg #[.slice A0_0 l0_0.length c0_0, .slice A0_1 l0_1.length c0_1, .int .i64 a0_2], .int .i64 a1] w fun e w' => ∃ v0_ : Value, e = .returned (v0_) ∧ Kd.S (Kd.slice 59 k59) 26 w' w.heap.size (fun _ => True) v0_ r ∧ Below w.heap.size w w' := by
 have hu25 := Tryd.underlying25
 have hu59 := Tryd.underlying59
 have HR0_0 := Aside0.mk hr0_0
 have HC0_0 := Aside0.mk hc0_0
 clear hr0_0 hc0_0
 have HR0_1 := Aside0.mk hr0_1
 have HC0_1 := Aside0.mk hc0_1
 clear hr0_1 hc0_1
 have HB := Aside0.mk (Below.refl w.heap.size w)
 have H : (macadamref04_nights.l0 k a1 (([[]] : List (List (S59)))) 0 l0_0 l0_1 a0_2) = some r := h
 clear h
 obtain ⟨y274, hy274⟩ : ∃ y_ : List (List (S59)), y_ = (([[]] : List (List (S59)))) := ⟨_, rfl⟩
 replace H : (macadamref04_nights.l0 k a1 y274 0 l0_0 l0_1 a0_2) = some r := by first | (rw [hy274]; with_reducible exact H) | (have H2_ := (Option.bind_some _ _).symm.trans H; rw [hy274]; with_reducible exact H2_) | (have H2_ := (Option.bind_some _ _).symm.trans H; with_reducible exact H2_) | with_reducible exact H | (rw [hy274]; exact H) | exact H
 have Ny274 := Aside0.mk hy274
 clear hy274
 have H' := Aside0.mk H
 clear H
 go_enter Tryd.func102, Tryd.ntmps102
 go_wp2_with (first | ((with_reducible refine gate_dst (N := 2) rfl ?_); refine bx 2 #[.slice A0_0 l0_0.length c0_0, .slice A0_1 l0_1.length c0_1, .int .i64 a0_2] 25 ?_; intro gb273 hg w3 hbox hb; have n0_ := Aside0.mk (below_step (bw HB) hb); have n1_ := Aside0.mk (hbox); have n2_ := Aside0.mk (bz (bw HB) hg); have n3_ := Aside0.mk (bz (bw HB) hg); clear HB; have HB := n0_; have BK273 := n1_; have GW273 := n2_; have GE273 := n3_; clear n0_ n1_ n2_ n3_; clear hb hbox hg) | ((with_reducible refine gate_dst (N := 10) rfl ?_); refine Kd.S_lit (Kd.slice 59 k59) _ 26 ?hg (N := 10) ?hd (xs := ([[]] : List (List (S59)))) (inner := [.slice none 0 0]) (ok := fun _ => True) (okp := fun _ => True) ?hr ?hp (fun _ hk => hk) trivial (Below.refl _ _) (Nat.le_refl _) (by simp) ?_; (case hd => rfl); (case hg => rfl); (case hr => first | (go_simp; done) | (go_simp; rfl)); (case hp => exact (Reps.one (show Kd.M (Kd.slice 59 k59) _ _ _ [] [.slice none 0 0] from ⟨_, rfl, Kd.R_nil _ _ _ _ _⟩) (Reps.none _ _))); intro v275 w4 ho5 hb hg_ hnew_; clear hg_ hnew_; (first | rw [← Ny274.out] at ho5 | (simp only [Int.reduceToNat] at ho5; rw [← Ny274.out] at ho5)); have n0_ := Aside0.mk (Kd.S_lower ho5 (below_size (bw1 HB GE273))); have n1_ := Aside0.mk (blk_below (bm BK273) hb); have n2_ := Aside0.mk (below_step (bw1 HB GE273) hb); clear BK273; clear HB; have HO276 := n0_; have BK273 := n1_; have HB := n2_; clear n0_ n1_ n2_; clear hb ho5))
 go_loopg [5, 6] k (fun kq v5 v6 w' => ∃ (x5_1 : List (List (S59))) (x6_1 : Int), v6 = .int .i64 x6_1 ∧ Aside0 (macadamref04_nights.l0 kq a1 x5_1 x6_1 l0_0 l0_1 a0_2 = some r) ∧ Aside0 (kq ≤ k) ∧ Aside0 (Kd.S (Kd.slice 59 k59) 26 w' w.heap.size (fun _ => True) v5 x5_1) ∧ Aside0 (w'.heap[gb273]? = some (.cells #[(.slice A0_0 l0_0.length c0_0), (.slice A0_1 l0_1.length c0_1), .int .i64 a0_2] 25 (0, 0))) ∧ Aside0 (Below w.heap.size w w'))
 case atStart => exact ⟨(y274), (0), (by first | rfl | (simp; done) | (simp [*]; done)), H', ⟨Nat.le_refl _⟩, ⟨by (with_reducible repeat (first | apply Kd.S_alloc | apply Kd.S_drewN | apply Kd.S_drew)); exact HO276.out⟩, ⟨bm BK273⟩, ⟨bw1 HB GE273⟩⟩
 case round =>
  clear H'
  try clear c1
  try clear p2
  obtain ⟨x5_1, x6_1, rfl, HA, HK1, HO_5, BK273, HB⟩ := hrel
  cases gk with
  | zero => exact absurd HA.out (by simp [macadamref04_nights.l0])
  | succ k1 =>
   have H := HA.out
   clear HA
   simp only [macadamref04_nights.l0] at H
   by_cases c6 : x6_1 < (l0_1.length : Int)
   ·rw [if_pos c6] at H
    have c6b0 : decide (x6_1 < (l0_1.length : Int)) = true := decide_eq_true c6
    clear c6
    have H' := Aside0.mk H
    clear H
    obtain ⟨hcz7_0, hcz7_1, hcz7_2, hfz7_0, hfz7_1, hfz7_2⟩ := b3 BK273
    obtain ⟨Ao8, co8, eo8⟩ := Kd.S_slice HO_5.out
    subst eo8
    go_wp2
    go_loopg [5, 7] k1 (fun kq v5 v7 w' => ∃ (x5_2 : List (List (S59))) (x7_2 : Int), v7 = .int .i64 x7_2 ∧ Aside0 (macadamref04_nights.l1 kq a1 x5_2 x6_1 x7_2 l0_0 l0_1 a0_2 = some r) ∧ Aside0 (kq ≤ k1) ∧ Aside0 (Kd.S (Kd.slice 59 k59) 26 w' w.heap.size (fun _ => True) v5 x5_2) ∧ Aside0 (w'.heap[gb273]? = some (.cells #[(.slice A0_0 l0_0.length c0_0), (.slice A0_1 l0_1.length c0_1), .int .i64 a0_2] 25 (0, 0))) ∧ Aside0 (Below w.heap.size w w'))
    case atStart => exact ⟨(x5_1), (wrap64 ((x5_1.length : Int) - 1)), (by first | rfl | (simp; done) | (simp [*]; done)), H', ⟨Nat.le_refl _⟩, ⟨by (with_reducible repeat (first | apply Kd.S_alloc | apply Kd.S_drewN | apply Kd.S_drew)); exact HO_5.out⟩, ⟨bm BK273⟩, ⟨bw1 HB GE273⟩⟩
    case round =>
     clear H'
     try clear c1
     try clear p2
     try clear c6
     try clear c6b0
     try clear p6
     try clear hcz7_0
     try clear hcz7_1
     try clear hcz7_2
     try clear hfz7_0
     try clear hfz7_1
     try clear hfz7_2
     try clear p2
     obtain ⟨x5_2, x7_2, rfl, HA, HK2, HO_5, BK273, HB⟩ := hrel
     cases gk with
     | zero => exact absurd HA.out (by simp [macadamref04_nights.l1])
     | succ k2 =>
      have H := HA.out
      clear HA
      simp only [macadamref04_nights.l1] at H
      by_cases c9 : x7_2 ≥ 0
      ·rw [if_pos c9] at H
       have c9b0 : decide (0 ≤ x7_2) = true := decide_eq_true c9
       clear c9
       have H' := Aside0.mk H
       clear H
       go_wp2
       go_loopg [5, 8] k2 (fun kq v5 v8 w' => ∃ (x5_3 : List (List (S59))) (x8_3 : Int), v8 = .int .i64 x8_3 ∧ Aside0 (macadamref04_nights.l2 kq a1 x5_3 x6_1 x7_2 x8_3 l0_0 l0_1 a0_2 = some r) ∧ Aside0 (kq ≤ k2) ∧ Aside0 (Kd.S (Kd.slice 59 k59) 26 w' w.heap.size (fun _ => True) v5 x5_3) ∧ Aside0 (w'.heap[gb273]? = some (.cells #[(.slice A0_0 l0_0.length c0_0), (.slice A0_1 l0_1.length c0_1), .int .i64 a0_2] 25 (0, 0))) ∧ Aside0 (Below w.heap.size w w'))
       case atStart => exact ⟨(x5_2), (0), (by first | rfl | (simp; done) | (simp [*]; done)), H', ⟨Nat.le_refl _⟩, ⟨by (with_reducible repeat (first | apply Kd.S_alloc | apply Kd.S_drewN | apply Kd.S_drew)); exact HO_5.out⟩, ⟨bm BK273⟩, ⟨bw1 HB GE273⟩⟩
       case round =>
        clear H'
        try clear c1
        try clear p2
        try clear c6
        try clear c6b0
        try clear p6
        try clear c9
        try clear c9b0
        try clear hcz7_0
        try clear hcz7_1
        try clear hcz7_2
        try clear hfz7_0
        try clear hfz7_1
        try clear hfz7_2
        try clear p2
        try clear p6
        obtain ⟨x5_3, x8_3, rfl, HA, HK3, HO_5, BK273, HB⟩ := hrel
        cases gk with
        | zero => exact absurd HA.out (by simp [macadamref04_nights.l2])
        | succ k3 =>
         have H := HA.out
         clear HA
         simp only [macadamref04_nights.l2] at H
         by_cases c10 : x8_3 < (l0_0.length : Int)
         ·rw [if_pos c10] at H
          have c10b0 : decide (x8_3 < (l0_0.length : Int)) = true := decide_eq_true c10
          clear c10
          obtain ⟨y277, hy277⟩ : ∃ y_ : List (S59), y_ = (([] : List (S59))) := ⟨_, rfl⟩
          replace H : (if 0 ≤ x7_2 then (if x7_2 < (x5_3.length : Int) then (if y277.length + (rd_L5 x5_3 x7_2).length < 5864062014805 then ((some (y277 ++ (rd_L5 x5_3 x7_2) : List (S59))).bind fun y281 => (if y281.length < 5864062014805 then ((some (y281 ++ [(⟨a1, x6_1, x8_3⟩ : S59)] : List (S59))).bind fun y284 => ((macadamref04_isPlan.f k3 l0_0 l0_1 a0_2 y284).bind fun t287 => (if t287 = true then (if x5_3.length < 5864062014805 then (macadamref04_nights.l2 k3 a1 (x5_3 ++ [y284]) x6_1 x7_2 (wrap64 (x8_3 + 1)) l0_0 l0_1 a0_2) else (none)) else (macadamref04_nights.l2 k3 a1 x5_3 x6_1 x7_2 (wrap64 (x8_3 + 1)) l0_0 l0_1 a0_2)))) else (none))) else (none)) else (none)) else (none)) = some r := by first | (rw [hy277]; with_reducible exact H) | (have H2_ := (Option.bind_some _ _).symm.trans H; rw [hy277]; with_reducible exact H2_) | (have H2_ := (Option.bind_some _ _).symm.trans H; with_reducible exact H2_) | with_reducible exact H | (rw [hy277]; exact H) | exact H
          have Ny277 := Aside0.mk hy277
          clear hy277
          by_cases c11 : 0 ≤ x7_2
          ·rw [if_pos c11] at H
           have c11b0 : decide (0 ≤ x7_2) = true := decide_eq_true c11
           clear c11
           by_cases c12 : x7_2 < (x5_3.length : Int)
           ·rw [if_pos c12] at H
            have c12b0 : decide (x7_2 < (x5_3.length : Int)) = true := decide_eq_true c12
            clear c12
            by_cases c13 : y277.length + (rd_L5 x5_3 x7_2).length < 5864062014805
            ·rw [if_pos c13] at H
             have LMc13 := Aside0.mk c13
             clear c13
             obtain ⟨y281, hy281⟩ : ∃ y_ : List (S59), y_ = (y277 ++ (rd_L5 x5_3 x7_2)) := ⟨_, rfl⟩
             replace H : (if y281.length < 5864062014805 then ((some (y281 ++ [(⟨a1, x6_1, x8_3⟩ : S59)] : List (S59))).bind fun y284 => ((macadamref04_isPlan.f k3 l0_0 l0_1 a0_2 y284).bind fun t287 => (if t287 = true then (if x5_3.length < 5864062014805 then (macadamref04_nights.l2 k3 a1 (x5_3 ++ [y284]) x6_1 x7_2 (wrap64 (x8_3 + 1)) l0_0 l0_1 a0_2) else (none)) else (macadamref04_nights.l2 k3 a1 x5_3 x6_1 x7_2 (wrap64 (x8_3 + 1)) l0_0 l0_1 a0_2)))) else (none)) = some r := by first | (rw [hy281]; with_reducible exact H) | (have H2_ := (Option.bind_some _ _).symm.trans H; rw [hy281]; with_reducible exact H2_) | (have H2_ := (Option.bind_some _ _).symm.trans H; with_reducible exact H2_) | with_reducible exact H | (rw [hy281]; exact H) | exact H
             have Ny281 := Aside0.mk hy281
             clear hy281
             by_cases c14 : y281.length < 5864062014805
             ·rw [if_pos c14] at H
              have LMc14 := Aside0.mk c14
              clear c14
              obtain ⟨y284, hy284⟩ : ∃ y_ : List (S59), y_ = (y281 ++ [(⟨a1, x6_1, x8_3⟩ : S59)]) := ⟨_, rfl⟩
              replace H : ((macadamref04_isPlan.f k3 l0_0 l0_1 a0_2 y284).bind fun t287 => (if t287 = true then (if x5_3.length < 5864062014805 then (macadamref04_nights.l2 k3 a1 (x5_3 ++ [y284]) x6_1 x7_2 (wrap64 (x8_3 + 1)) l0_0 l0_1 a0_2) else (none)) else (macadamref04_nights.l2 k3 a1 x5_3 x6_1 x7_2 (wrap64 (x8_3 + 1)) l0_0 l0_1 a0_2))) = some r := by first | (rw [hy284]; with_reducible exact H) | (have H2_ := (Option.bind_some _ _).symm.trans H; rw [hy284]; with_reducible exact H2_) | (have H2_ := (Option.bind_some _ _).symm.trans H; with_reducible exact H2_) | with_reducible exact H | (rw [hy284]; exact H) | exact H
              have Ny284 := Aside0.mk hy284
              clear hy284
              replace H := Option.bind_eq_some_iff.mp H
              obtain ⟨t287, A150, H⟩ := H
              replace H : (if t287 = true then (if x5_3.length < 5864062014805 then (macadamref04_nights.l2 k3 a1 (x5_3 ++ [y284]) x6_1 x7_2 (wrap64 (x8_3 + 1)) l0_0 l0_1 a0_2) else (none)) else (macadamref04_nights.l2 k3 a1 x5_3 x6_1 x7_2 (wrap64 (x8_3 + 1)) l0_0 l0_1 a0_2)) = some r := H
              have A15 := Aside0.mk A150
              clear A150
              by_cases c16 : t287 = true
              ·subst c16
               have H1 : (if x5_3.length < 5864062014805 then (macadamref04_nights.l2 k3 a1 (x5_3 ++ [y284]) x6_1 x7_2 (wrap64 (x8_3 + 1)) l0_0 l0_1 a0_2) else (none)) = some r := by rw [if_pos rfl] at H; exact H
               clear H
               have H := H1
               clear H1
               by_cases c17 : x5_3.length < 5864062014805
               ·rw [if_pos c17] at H
                have LMc17 := Aside0.mk c17
                clear c17
                obtain ⟨y288, hy288⟩ : ∃ y_ : List (List (S59)), y_ = (x5_3 ++ [y284]) := ⟨_, rfl⟩
                replace H : (macadamref04_nights.l2 k3 a1 y288 x6_1 x7_2 (wrap64 (x8_3 + 1)) l0_0 l0_1 a0_2) = some r := by first | (rw [hy288]; with_reducible exact H) | (have H2_ := (Option.bind_some _ _).symm.trans H; rw [hy288]; with_reducible exact H2_) | (have H2_ := (Option.bind_some _ _).symm.trans H; with_reducible exact H2_) | with_reducible exact H | (rw [hy288]; exact H) | exact H
                have Ny288 := Aside0.mk hy288
                clear hy288
                have H' := Aside0.mk H
                clear H
                obtain ⟨hcz18_0, hcz18_1, hcz18_2, hfz18_0, hfz18_1, hfz18_2⟩ := b3 BK273
                go_wp2_with (first | ((with_reducible refine gate_dst (N := 32) rfl ?_); refine Kd.R_lit k59 _ 59 ?hg (N := 32) ?hd (xs := ([] : List (S59))) (inner := []) (ok := fun _ => True) (okp := fun _ => True) ?hr ?hp (fun _ hk => hk) trivial (Below.refl _ _) (Nat.le_refl _) (by simp) ?_; (case hd => rfl); (case hg => rfl); (case hr => first | (go_simp; done) | (go_simp; rfl)); (case hp => exact (Reps.none _ _)); intro v278 w19 ho20 hb hg_ hnew_; clear hg_ hnew_; (first | rw [← Ny277.out] at ho20 | (simp only [Int.reduceToNat] at ho20; rw [← Ny277.out] at ho20)); have n0_ := Aside0.mk (Kd.S_elder' (by (with_reducible repeat (first | apply Kd.S_alloc | apply Kd.S_drewN | apply Kd.S_drew)); exact HO_5.out) (Kd.R_base ho20) hb); have n1_ := Aside0.mk (Kd.R_lower ho20 (below_size (bw1 HB GE273))); have n2_ := Aside0.mk (blk_below (bm BK273) hb); have n3_ := Aside0.mk (below_step (bw1 HB GE273) hb); clear HO_5; clear BK273; clear HB; have HO_5 := n0_; have HO279 := n1_; have BK273 := n2_; have HB := n3_; clear n0_ n1_ n2_ n3_; clear hb ho20; obtain ⟨Ao21, co21, eo21⟩ := Kd.S_slice HO_5.out; subst eo21; have p280 : 0 ≤ (x7_2 : Int) := of_decide_eq_true (by first | (with_reducible assumption) | assumption); have q280 : x7_2 < (x5_3.length : Int) := of_decide_eq_true (by first | (with_reducible assumption) | assumption); obtain ⟨ad280, A280_0, c280_0, e280, hx280_0, hl280_0, hi280_0⟩ := at_L5 (Kd.S_reads' HO_5.out).2.2 x7_2 p280 q280; cases e280; obtain ⟨ce280, hce280, hMe280, hcc280⟩ := Kd.S_get HO_5.out [] x7_2 p280 (by first | exact q280 | exact of_decide_eq_true (by first | (with_reducible assumption) | assumption) | (have e_ := (Kd.S_reads' HO_5.out).1; omega)); obtain ⟨ve280_0, rfl, ge280_0⟩ := hMe280; have hv280_0 := hcc280 0 _ rfl; rw [Nat.add_zero, show ((Kd.slice 59 k59)).sz = 1 from rfl, Nat.mul_one] at hv280_0; replace hv280_0 := Option.some.inj (hv280_0.symm.trans hx280_0); rw [hv280_0] at ge280_0; have HL280_0 := Aside0.mk (show Kd.R k59 59 _ _ _ _ (rd_L5 x5_3 x7_2) from ge280_0); clear hv280_0 ge280_0; clear hcc280 hce280; have HR280_0 := Aside0.mk hi280_0; have HC280_0 := Aside0.mk hl280_0; clear hi280_0 hl280_0; replace p280 := eq_true p280; replace q280 := eq_true q280) | ((with_reducible refine gate_builtin (b := .append) (xs := #[.tmp 32, .tmp 36]) rfl ?_); at_builtin; refine Kd.R_append_rows k59 (w0 := w) w.heap.size rfl (.tmp 32) (.tmp 36) 26 59 (.agg #[(.int .i64 0), (.int .i64 0), (.int .i64 0)]) 24 rfl Tryd.underlying26 info59 rfl (by decide) (by omega) v278 y277 (rd_L5 x5_3 x7_2) _ _ _ (fun _ => True) (fun _ => False) rfl rfl ?aO ?aR (fun _ _ h => h) (fun _ h => h.elim) ?aF ?aB ?aS ?aL ?_; (case aR => repeat (first | exact (by repeat (first | (with_reducible exact HR280_0.out) | (with_reducible refine Kd.C_alloc ?_ _) | (with_reducible refine Kd.C_drewN ?_ _) | (with_reducible refine Kd.C_drew ?_) | exact HR280_0.out)) | (with_reducible refine Kd.C_alloc ?_ _) | (with_reducible refine Kd.C_drewN ?_ _) | (with_reducible refine Kd.C_drew ?_))); (case aB => exact (bw1 HB GE273)); (case aF => exact (fun _ _ => trivial)); (case aO => exact (by (with_reducible repeat (first | apply Kd.R_alloc | apply Kd.R_drewN | apply Kd.R_drew)); exact HO279.out)); (case aS => exact (below_size (bw1 HB GE273))); (case aL => have := LMc13.out; omega); intro v282 w22 ho hb hg hat; rw [← Ny281.out] at ho; have n0_ := Aside0.mk (Kd.S_after (ok := (fun _ => True)) (by (with_reducible repeat (first | apply Kd.S_alloc | apply Kd.S_drewN | apply Kd.S_drew)); exact HO_5.out) hg hat); have n1_ := Aside0.mk (blk_grown (g := gb273) (o := .cells #[.slice A0_0 l0_0.length c0_0, .slice A0_1 l0_1.length c0_1, .int .i64 a0_2] 25 (0, 0)) (bm BK273) hg (Kd.R_ne HO279.out BK273.out (by decide))); have n2_ := Aside0.mk (Kd.R_after (ok := (fun k_ => some k_ ≠ (.slice (some ad280) x5_3.length co21 : Value).ownBlock)) (by (with_reducible repeat (first | apply Kd.R_alloc | apply Kd.R_drewN | apply Kd.R_drew)); exact Kd.R_mono HL280_0.out (fun _ hk => ⟨hk.2, hk.1.2⟩)) hg hat); have n3_ := Aside0.mk (hb); have n4_ := Aside0.mk (ho); clear HO_5; clear BK273; clear HL280_0; clear HB; clear HO279; have HO_5 := n0_; have BK273 := n1_; have HL280_0 := n2_; have HB := n3_; have HO283 := n4_; clear n0_ n1_ n2_ n3_ n4_; clear ho hb hg hat) | ((with_reducible refine gate_builtin (b := .append) (xs := #[.tmp 37, .tmp 42]) rfl ?_); at_builtin; refine Kd.R_append k59 (w0 := w) w.heap.size rfl (.tmp 37) (.tmp 42) 26 59 (.agg #[(.int .i64 0), (.int .i64 0), (.int .i64 0)]) 24 rfl Tryd.underlying26 info59 rfl (by decide) (by omega) v282 y281 (⟨a1, x6_1, x8_3⟩ : S59) [.int .i64 a1, .int .i64 x6_1, .int .i64 x8_3] (fun _ => True) (fun _ => False) rfl rfl ?aP (fun _ hk => hk.elim) ?aF ?aO ?aB ?aS ?aL ?_; (case aP => exact k59_mkM _ _ _ (⟨a1, x6_1, x8_3⟩ : S59)); (case aB => exact (bw1 HB GE273)); (case aF => exact (fun _ _ => trivial)); (case aO => exact (by (with_reducible repeat (first | apply Kd.R_alloc | apply Kd.R_drewN | apply Kd.R_drew)); exact HO283.out)); (case aS => exact (below_size (bw1 HB GE273))); (case aL => have := LMc14.out; omega); intro v285 w23 ho hb hg hat; rw [← Ny284.out] at ho; have n0_ := Aside0.mk (Kd.S_after (ok := (fun _ => True)) (by (with_reducible repeat (first | apply Kd.S_alloc | apply Kd.S_drewN | apply Kd.S_drew)); exact HO_5.out) hg hat); have n1_ := Aside0.mk (blk_grown (g := gb273) (o := .cells #[.slice A0_0 l0_0.length c0_0, .slice A0_1 l0_1.length c0_1, .int .i64 a0_2] 25 (0, 0)) (bm BK273) hg (Kd.R_ne HO283.out BK273.out (by decide))); have n2_ := Aside0.mk (Kd.R_after (ok := (fun k_ => some k_ ≠ (.slice (some ad280) x5_3.length co21 : Value).ownBlock)) (by (with_reducible repeat (first | apply Kd.R_alloc | apply Kd.R_drewN | apply Kd.R_drew)); exact HL280_0.out) hg hat); have n3_ := Aside0.mk (hb); have n4_ := Aside0.mk (ho); clear HO_5; clear BK273; clear HL280_0; clear HB; clear HO283; have HO_5 := n0_; have BK273 := n1_; have HL280_0 := n2_; have HB := n3_; have HO286 := n4_; clear n0_ n1_ n2_ n3_ n4_; clear ho hb hg hat; obtain ⟨hcz24_0, hcz24_1, hcz24_2, hfz24_0, hfz24_1, hfz24_2⟩ := b3 BK273; obtain ⟨Ao25, co25, eo25⟩ := Kd.R_slice HO286.out; subst eo25) | ((with_reducible refine gate_callee (f := 69) rfl ?_); refine gL (some 46) Tryd.func69 #[.agg #[.slice A0_0 l0_0.length c0_0, .slice A0_1 l0_1.length c0_1, .int .i64 a0_2], .slice Ao25 y284.length co25] ?_; (with_reducible refine (macadamref04_isPlan.calls k3 _ _ l0_0 _ _ l0_1 a0_2 _ _ y284 true _ ?side1 ?side2 ?side3 ?side4 ?side5 ?side6 A15.out).mono ?_); (case side1 => repeat (first | exact (Kd.C_below HR0_0.out HB.out) | (with_reducible refine Kd.C_alloc ?_ _) | (with_reducible refine Kd.C_drewN ?_ _) | (with_reducible refine Kd.C_drew ?_))); (case side2 => exact HC0_0.out); (case side3 => repeat (first | exact (Kd.C_below HR0_1.out HB.out) | (with_reducible refine Kd.C_alloc ?_ _) | (with_reducible refine Kd.C_drewN ?_ _) | (with_reducible refine Kd.C_drew ?_))); (case side4 => exact HC0_1.out); (case side5 => repeat (first | exact (Kd.R_reads' HO286.out).2.2 | (with_reducible refine Kd.C_alloc ?_ _) | (with_reducible refine Kd.C_drewN ?_ _) | (with_reducible refine Kd.C_drew ?_))); (case side6 => exact (Kd.R_reads' HO286.out).2.1); rintro e w26 ⟨rfl, hb⟩; refine ⟨_, rfl, ?_⟩; have n0_ := Aside0.mk (Kd.S_below (by (with_reducible repeat (first | apply Kd.S_alloc | apply Kd.S_drewN | apply Kd.S_drew)); exact HO_5.out) hb); have n1_ := Aside0.mk (Kd.R_below (by (with_reducible repeat (first | apply Kd.R_alloc | apply Kd.R_drewN | apply Kd.R_drew)); exact HL280_0.out) hb); have n2_ := Aside0.mk (Kd.R_below (by (with_reducible repeat (first | apply Kd.R_alloc | apply Kd.R_drewN | apply Kd.R_drew)); exact HO286.out) hb); have n3_ := Aside0.mk (blk_below (bm BK273) hb); have n4_ := Aside0.mk (below_step (bw1 HB GE273) hb); clear HO_5; clear HL280_0; clear HO286; clear BK273; clear HB; have HO_5 := n0_; have HL280_0 := n1_; have HO286 := n2_; have BK273 := n3_; have HB := n4_; clear n0_ n1_ n2_ n3_ n4_; (try clear hb); (try clear hb2); (try clear hk); (try clear hi)) | ((with_reducible refine gate_builtin (b := .append) (xs := #[.tmp 47, .tmp 49]) rfl ?_); at_builtin; refine Kd.S_append (Kd.slice 59 k59) (w0 := w) w.heap.size rfl (.tmp 47) (.tmp 49) 83 26 (.slice none 0 0) 24 rfl Tryd.underlying83 info26 rfl (by decide) (by omega) (.slice (some ad280) x5_3.length co21) x5_3 y284 [.slice Ao25 y284.length co25] (fun _ => True) (fun k_ => some k_ = (.slice Ao25 y284.length co25 : Value).ownBlock) rfl rfl ?aP (fun k_ hk_ => ((Kd.R_mono (ok' := fun k_ => ((fun _ => True)) k_ ∧ some k_ ≠ (.slice (some ad280) x5_3.length co21 : Value).ownBlock) (Kd.R_apart' (HO286.out) (Kd.S_typed HO_5.out) (by decide)) (fun k_ hk => ⟨trivial, hk.2⟩))).1 k_ hk_.symm) ?aF ?aO ?aB ?aS ?aL ?_; (case aP => exact Kd.M_row (Kd.R_mono (Kd.R_tight rfl (Kd.R_mono (ok' := fun k_ => ((fun _ => True)) k_ ∧ some k_ ≠ (.slice (some ad280) x5_3.length co21 : Value).ownBlock) (Kd.R_apart' (HO286.out) (Kd.S_typed HO_5.out) (by decide)) (fun k_ hk => ⟨trivial, hk.2⟩))) (fun _ h_ => h_))); (case aB => exact (bw1 HB GE273)); (case aF => exact (fun _ _ => trivial)); (case aO => exact (by (with_reducible repeat (first | apply Kd.S_alloc | apply Kd.S_drewN | apply Kd.S_drew)); exact Kd.S_mono HO_5.out (fun k_ hk => ⟨trivial, fun e_ => hk.2 e_⟩))); (case aS => exact (below_size (bw1 HB GE273))); (case aL => have := LMc17.out; omega); intro v289 w27 ho hb hg hat; rw [← Ny288.out] at ho; have n0_ := Aside0.mk (blk_grown (g := gb273) (o := .cells #[.slice A0_0 l0_0.length c0_0, .slice A0_1 l0_1.length c0_1, .int .i64 a0_2] 25 (0, 0)) (bm BK273) hg (Kd.S_ne HO_5.out BK273.out (by decide))); have n1_ := Aside0.mk (Kd.R_after (ok := (fun k_ => some k_ ≠ (.slice Ao25 y284.length co25 : Value).ownBlock)) (by (with_reducible repeat (first | apply Kd.R_alloc | apply Kd.R_drewN | apply Kd.R_drew)); exact Kd.R_mono HL280_0.out (fun _ hk => ⟨hk.2, hk.1⟩)) hg hat); have n2_ := Aside0.mk (hb); have n3_ := Aside0.mk (ho); clear BK273; clear HL280_0; clear HB; clear HO_5; clear HO286; have BK273 := n0_; have HL280_0 := n1_; have HB := n2_; have HO290 := n3_; clear n0_ n1_ n2_ n3_; clear ho hb hg hat))
                go_roundg k3
                case measure => have := HK1.out; have := HK2.out; have := HK3.out; omega
                case rel => exact ⟨(y288), (wrap64 (x8_3 + 1)), (by first | rfl | (simp; done) | (simp [*]; done)), H', ⟨by have := HK1.out; have := HK2.out; have := HK3.out; omega⟩, ⟨by (with_reducible repeat (first | apply Kd.S_alloc | apply Kd.S_drewN | apply Kd.S_drew)); exact HO290.out⟩, ⟨bm BK273⟩, ⟨bw1 HB GE273⟩⟩
               ·rw [if_neg c17] at H
                exact absurd H (by simp)
              ·replace c16 := Bool.eq_false_iff.mpr c16
               subst c16
               have H1 : (macadamref04_nights.l2 k3 a1 x5_3 x6_1 x7_2 (wrap64 (x8_3 + 1)) l0_0 l0_1 a0_2) = some r := by rw [if_neg (show ¬ (false = true) by decide)] at H; exact H
               clear H
               have H := H1
               clear H1
               have H' := Aside0.mk H
               clear H
               obtain ⟨hcz28_0, hcz28_1, hcz28_2, hfz28_0, hfz28_1, hfz28_2⟩ := b3 BK273
               go_wp2_with (first | ((with_reducible refine gate_dst (N := 32) rfl ?_); refine Kd.R_lit k59 _ 59 ?hg (N := 32) ?hd (xs := ([] : List (S59))) (inner := []) (ok := fun _ => True) (okp := fun _ => True) ?hr ?hp (fun _ hk => hk) trivial (Below.refl _ _) (Nat.le_refl _) (by simp) ?_; (case hd => rfl); (case hg => rfl); (case hr => first | (go_simp; done) | (go_simp; rfl)); (case hp => exact (Reps.none _ _)); intro v278 w29 ho30 hb hg_ hnew_; clear hg_ hnew_; (first | rw [← Ny277.out] at ho30 | (simp only [Int.reduceToNat] at ho30; rw [← Ny277.out] at ho30)); have n0_ := Aside0.mk (Kd.S_elder' (by (with_reducible repeat (first | apply Kd.S_alloc | apply Kd.S_drewN | apply Kd.S_drew)); exact HO_5.out) (Kd.R_base ho30) hb); have n1_ := Aside0.mk (Kd.R_lower ho30 (below_size (bw1 HB GE273))); have n2_ := Aside0.mk (blk_below (bm BK273) hb); have n3_ := Aside0.mk (below_step (bw1 HB GE273) hb); clear HO_5; clear BK273; clear HB; have HO_5 := n0_; have HO279 := n1_; have BK273 := n2_; have HB := n3_; clear n0_ n1_ n2_ n3_; clear hb ho30; obtain ⟨Ao31, co31, eo31⟩ := Kd.S_slice HO_5.out; subst eo31; have p280 : 0 ≤ (x7_2 : Int) := of_decide_eq_true (by first | (with_reducible assumption) | assumption); have q280 : x7_2 < (x5_3.length : Int) := of_decide_eq_true (by first | (with_reducible assumption) | assumption); obtain ⟨ad280, A280_0, c280_0, e280, hx280_0, hl280_0, hi280_0⟩ := at_L5 (Kd.S_reads' HO_5.out).2.2 x7_2 p280 q280; cases e280; obtain ⟨ce280, hce280, hMe280, hcc280⟩ := Kd.S_get HO_5.out [] x7_2 p280 (by first | exact q280 | exact of_decide_eq_true (by first | (with_reducible assumption) | assumption) | (have e_ := (Kd.S_reads' HO_5.out).1; omega)); obtain ⟨ve280_0, rfl, ge280_0⟩ := hMe280; have hv280_0 := hcc280 0 _ rfl; rw [Nat.add_zero, show ((Kd.slice 59 k59)).sz = 1 from rfl, Nat.mul_one] at hv280_0; replace hv280_0 := Option.some.inj (hv280_0.symm.trans hx280_0); rw [hv280_0] at ge280_0; have HL280_0 := Aside0.mk (show Kd.R k59 59 _ _ _ _ (rd_L5 x5_3 x7_2) from ge280_0); clear hv280_0 ge280_0; clear hcc280 hce280; have HR280_0 := Aside0.mk hi280_0; have HC280_0 := Aside0.mk hl280_0; clear hi280_0 hl280_0; replace p280 := eq_true p280; replace q280 := eq_true q280) | ((with_reducible refine gate_builtin (b := .append) (xs := #[.tmp 32, .tmp 36]) rfl ?_); at_builtin; refine Kd.R_append_rows k59 (w0 := w) w.heap.size rfl (.tmp 32) (.tmp 36) 26 59 (.agg #[(.int .i64 0), (.int .i64 0), (.int .i64 0)]) 24 rfl Tryd.underlying26 info59 rfl (by decide) (by omega) v278 y277 (rd_L5 x5_3 x7_2) _ _ _ (fun _ => True) (fun _ => False) rfl rfl ?aO ?aR (fun _ _ h => h) (fun _ h => h.elim) ?aF ?aB ?aS ?aL ?_; (case aR => repeat (first | exact (by repeat (first | (with_reducible exact HR280_0.out) | (with_reducible refine Kd.C_alloc ?_ _) | (with_reducible refine Kd.C_drewN ?_ _) | (with_reducible refine Kd.C_drew ?_) | exact HR280_0.out)) | (with_reducible refine Kd.C_alloc ?_ _) | (with_reducible refine Kd.C_drewN ?_ _) | (with_reducible refine Kd.C_drew ?_))); (case aB => exact (bw1 HB GE273)); (case aF => exact (fun _ _ => trivial)); (case aO => exact (by (with_reducible repeat (first | apply Kd.R_alloc | apply Kd.R_drewN | apply Kd.R_drew)); exact HO279.out)); (case aS => exact (below_size (bw1 HB GE273))); (case aL => have := LMc13.out; omega); intro v282 w32 ho hb hg hat; rw [← Ny281.out] at ho; have n0_ := Aside0.mk (Kd.S_after (ok := (fun _ => True)) (by (with_reducible repeat (first | apply Kd.S_alloc | apply Kd.S_drewN | apply Kd.S_drew)); exact HO_5.out) hg hat); have n1_ := Aside0.mk (blk_grown (g := gb273) (o := .cells #[.slice A0_0 l0_0.length c0_0, .slice A0_1 l0_1.length c0_1, .int .i64 a0_2] 25 (0, 0)) (bm BK273) hg (Kd.R_ne HO279.out BK273.out (by decide))); have n2_ := Aside0.mk (Kd.R_after (ok := (fun k_ => some k_ ≠ (.slice (some ad280) x5_3.length co31 : Value).ownBlock)) (by (with_reducible repeat (first | apply Kd.R_alloc | apply Kd.R_drewN | apply Kd.R_drew)); exact Kd.R_mono HL280_0.out (fun _ hk => ⟨hk.2, hk.1.2⟩)) hg hat); have n3_ := Aside0.mk (hb); have n4_ := Aside0.mk (ho); clear HO_5; clear BK273; clear HL280_0; clear HB; clear HO279; have HO_5 := n0_; have BK273 := n1_; have HL280_0 := n2_; have HB := n3_; have HO283 := n4_; clear n0_ n1_ n2_ n3_ n4_; clear ho hb hg hat) | ((with_reducible refine gate_builtin (b := .append) (xs := #[.tmp 37, .tmp 42]) rfl ?_); at_builtin; refine Kd.R_append k59 (w0 := w) w.heap.size rfl (.tmp 37) (.tmp 42) 26 59 (.agg #[(.int .i64 0), (.int .i64 0), (.int .i64 0)]) 24 rfl Tryd.underlying26 info59 rfl (by decide) (by omega) v282 y281 (⟨a1, x6_1, x8_3⟩ : S59) [.int .i64 a1, .int .i64 x6_1, .int .i64 x8_3] (fun _ => True) (fun _ => False) rfl rfl ?aP (fun _ hk => hk.elim) ?aF ?aO ?aB ?aS ?aL ?_; (case aP => exact k59_mkM _ _ _ (⟨a1, x6_1, x8_3⟩ : S59)); (case aB => exact (bw1 HB GE273)); (case aF => exact (fun _ _ => trivial)); (case aO => exact (by (with_reducible repeat (first | apply Kd.R_alloc | apply Kd.R_drewN | apply Kd.R_drew)); exact HO283.out)); (case aS => exact (below_size (bw1 HB GE273))); (case aL => have := LMc14.out; omega); intro v285 w33 ho hb hg hat; rw [← Ny284.out] at ho; have n0_ := Aside0.mk (Kd.S_after (ok := (fun _ => True)) (by (with_reducible repeat (first | apply Kd.S_alloc | apply Kd.S_drewN | apply Kd.S_drew)); exact HO_5.out) hg hat); have n1_ := Aside0.mk (blk_grown (g := gb273) (o := .cells #[.slice A0_0 l0_0.length c0_0, .slice A0_1 l0_1.length c0_1, .int .i64 a0_2] 25 (0, 0)) (bm BK273) hg (Kd.R_ne HO283.out BK273.out (by decide))); have n2_ := Aside0.mk (Kd.R_after (ok := (fun k_ => some k_ ≠ (.slice (some ad280) x5_3.length co31 : Value).ownBlock)) (by (with_reducible repeat (first | apply Kd.R_alloc | apply Kd.R_drewN | apply Kd.R_drew)); exact HL280_0.out) hg hat); have n3_ := Aside0.mk (hb); have n4_ := Aside0.mk (ho); clear HO_5; clear BK273; clear HL280_0; clear HB; clear HO283; have HO_5 := n0_; have BK273 := n1_; have HL280_0 := n2_; have HB := n3_; have HO286 := n4_; clear n0_ n1_ n2_ n3_ n4_; clear ho hb hg hat; obtain ⟨hcz34_0, hcz34_1, hcz34_2, hfz34_0, hfz34_1, hfz34_2⟩ := b3 BK273; obtain ⟨Ao35, co35, eo35⟩ := Kd.R_slice HO286.out; subst eo35) | ((with_reducible refine gate_callee (f := 69) rfl ?_); refine gL (some 46) Tryd.func69 #[.agg #[.slice A0_0 l0_0.length c0_0, .slice A0_1 l0_1.length c0_1, .int .i64 a0_2], .slice Ao35 y284.length co35] ?_; (with_reducible refine (macadamref04_isPlan.calls k3 _ _ l0_0 _ _ l0_1 a0_2 _ _ y284 false _ ?side1 ?side2 ?side3 ?side4 ?side5 ?side6 A15.out).mono ?_); (case side1 => repeat (first | exact (Kd.C_below HR0_0.out HB.out) | (with_reducible refine Kd.C_alloc ?_ _) | (with_reducible refine Kd.C_drewN ?_ _) | (with_reducible refine Kd.C_drew ?_))); (case side2 => exact HC0_0.out); (case side3 => repeat (first | exact (Kd.C_below HR0_1.out HB.out) | (with_reducible refine Kd.C_alloc ?_ _) | (with_reducible refine Kd.C_drewN ?_ _) | (with_reducible refine Kd.C_drew ?_))); (case side4 => exact HC0_1.out); (case side5 => repeat (first | exact (Kd.R_reads' HO286.out).2.2 | (with_reducible refine Kd.C_alloc ?_ _) | (with_reducible refine Kd.C_drewN ?_ _) | (with_reducible refine Kd.C_drew ?_))); (case side6 => exact (Kd.R_reads' HO286.out).2.1); rintro e w36 ⟨rfl, hb⟩; refine ⟨_, rfl, ?_⟩; have n0_ := Aside0.mk (Kd.S_below (by (with_reducible repeat (first | apply Kd.S_alloc | apply Kd.S_drewN | apply Kd.S_drew)); exact HO_5.out) hb); have n1_ := Aside0.mk (Kd.R_below (by (with_reducible repeat (first | apply Kd.R_alloc | apply Kd.R_drewN | apply Kd.R_drew)); exact HL280_0.out) hb); have n2_ := Aside0.mk (Kd.R_below (by (with_reducible repeat (first | apply Kd.R_alloc | apply Kd.R_drewN | apply Kd.R_drew)); exact HO286.out) hb); have n3_ := Aside0.mk (blk_below (bm BK273) hb); have n4_ := Aside0.mk (below_step (bw1 HB GE273) hb); clear HO_5; clear HL280_0; clear HO286; clear BK273; clear HB; have HO_5 := n0_; have HL280_0 := n1_; have HO286 := n2_; have BK273 := n3_; have HB := n4_; clear n0_ n1_ n2_ n3_ n4_; (try clear hb); (try clear hb2); (try clear hk); (try clear hi)))
               go_roundg k3
               case measure => have := HK1.out; have := HK2.out; have := HK3.out; omega
               case rel => exact ⟨(x5_3), (wrap64 (x8_3 + 1)), (by first | rfl | (simp; done) | (simp [*]; done)), H', ⟨by have := HK1.out; have := HK2.out; have := HK3.out; omega⟩, ⟨by (with_reducible repeat (first | apply Kd.S_alloc | apply Kd.S_drewN | apply Kd.S_drew)); exact Kd.S_mono HO_5.out (fun _ hk => trivial)⟩, ⟨bm BK273⟩, ⟨bw1 HB GE273⟩⟩
             ·rw [if_neg c14] at H
              exact absurd H (by simp)
            ·rw [if_neg c13] at H
             exact absurd H (by simp)
           ·rw [if_neg c12] at H
            exact absurd H (by simp)
          ·rw [if_neg c11] at H
           exact absurd H (by simp)
         ·rw [if_neg c10] at H
          have c10b0 : decide (x8_3 < (l0_0.length : Int)) = false := decide_eq_false c10
          clear c10
          have H' := Aside0.mk H
          clear H
          obtain ⟨hcz37_0, hcz37_1, hcz37_2, hfz37_0, hfz37_1, hfz37_2⟩ := b3 BK273
          go_wp2
          go_roundg k3
          case measure => have := HK1.out; have := HK2.out; have := HK3.out; omega
          case rel => exact ⟨(x5_3), (wrap64 (x7_2 - 1)), (by first | rfl | (simp; done) | (simp [*]; done)), H', ⟨by have := HK1.out; have := HK2.out; have := HK3.out; omega⟩, ⟨by (with_reducible repeat (first | apply Kd.S_alloc | apply Kd.S_drewN | apply Kd.S_drew)); exact HO_5.out⟩, ⟨bm BK273⟩, ⟨bw1 HB GE273⟩⟩
      ·rw [if_neg c9] at H
       have c9b0 : decide (0 ≤ x7_2) = false := decide_eq_false c9
       clear c9
       have H' := Aside0.mk H
       clear H
       go_wp2
       go_roundg k2
       case measure => have := HK1.out; have := HK2.out; omega
       case rel => exact ⟨(x5_2), (wrap64 (x6_1 + 1)), (by first | rfl | (simp; done) | (simp [*]; done)), H', ⟨by have := HK1.out; have := HK2.out; omega⟩, ⟨by (with_reducible repeat (first | apply Kd.S_alloc | apply Kd.S_drewN | apply Kd.S_drew)); exact HO_5.out⟩, ⟨bm BK273⟩, ⟨bw1 HB GE273⟩⟩
   ·rw [if_neg c6] at H
    have c6b0 : decide (x6_1 < (l0_1.length : Int)) = false := decide_eq_false c6
    clear c6
    obtain rfl := Option.some.inj H
    obtain ⟨hcz38_0, hcz38_1, hcz38_2, hfz38_0, hfz38_1, hfz38_2⟩ := b3 BK273
    go_wp2
    go_ret
    exact ⟨_, by first | rfl | (simp [errW_none, errW_some] <;> rfl) | (simp [*, errW_none, errW_some] <;> rfl), by (with_reducible repeat (first | apply Kd.S_alloc | apply Kd.S_drewN | apply Kd.S_drew)); exact HO_5.out, bw1 HB GE273⟩
end Go.Proofs.YtikfghnkbgdbgaaDoor.Q
end
section
namespace Go.Proofs.YtikfghnkbgdbgaaDoor.Q
open Go.RowKit Go.Proofs.YtikfghnkbgdbgaaDoorW.PrintWords Go.Proofs.YtikfghnkbgdbgaaDoorW.PrintLast Go.Proofs.YtikfghnkbgdbgaaDoorW.PrintMore
attribute [local go_sem] max2_int min2_int max_two min_two max_three min_three max_four min_four   -- for this text's walks alone
set_option linter.unusedVariables false
set_option linter.unusedSimpArgs false
mutual
def macadamref04_plans.l0 : Nat → Int → List (List (S59)) → Int → List (S66) → List (S63) → Int → Option ((List (List (S59))))
 | 0, _, _, _, _, _, _ => none
 | k + 1, x1, x5, x6, x292000, x292001, x292002 => if x6 < x1 then ((macadamref04_nights.f k x292000 x292001 x292002 x6).bind fun t295 => (macadamref04_plans.l1 k x1 x5 x6 t295 ([] : List (List (S59))) 0 x292000 x292001 x292002)) else (some x5)
def macadamref04_plans.l1 : Nat → Int → List (List (S59)) → Int → List (List (S59)) → List (List (S59)) → Int → List (S66) → List (S63) → Int → Option ((List (List (S59))))
 | 0, _, _, _, _, _, _, _, _, _ => none
 | k + 1, x1, x5, x6, x7, x8, x9, x292000, x292001, x292002 => if x9 < (x5.length : Int) then (macadamref04_plans.l2 k x1 x5 x6 x7 x8 x9 0 x292000 x292001 x292002) else (macadamref04_plans.l0 k x1 x8 (wrap64 (x6 + 1)) x292000 x292001 x292002)
def macadamref04_plans.l2 : Nat → Int → List (List (S59)) → Int → List (List (S59)) → List (List (S59)) → Int → Int → List (S66) → List (S63) → Int → Option ((List (List (S59))))
 | 0, _, _, _, _, _, _, _, _, _, _ => none
 | k + 1, x1, x5, x6, x7, x8, x9, x10, x292000, x292001, x292002 => if x10 < (x7.length : Int) then ((some (([] : List (S59)) : List (S59))).bind fun y298 => (if 0 ≤ x9 then (if x9 < (x5.length : Int) then (if y298.length + (rd_L5 x5 x9).length < 5864062014805 then ((some (y298 ++ (rd_L5 x5 x9) : List (S59))).bind fun y302 => (if 0 ≤ x10 then (if y302.length + (rd_L5 x7 x10).length < 5864062014805 then (if x8.length < 5864062014805 then (macadamref04_plans.l2 k x1 x5 x6 x7 (x8 ++ [(y302 ++ (rd_L5 x7 x10))]) x9 (wrap64 (x10 + 1)) x292000 x292001 x292002) else (none)) else (none)) else (none))) else (none)) else (none)) else (none))) else (macadamref04_plans.l1 k x1 x5 x6 x7 x8 (wrap64 (x9 + 1)) x292000 x292001 x292002)
end
def macadamref04_plans.f (k : Nat) (l0_0 : List (S66)) (l0_1 : List (S63)) (a0_2 : Int) (a1 : Int) : Option ((List (List (S59)))) := macadamref04_plans.l0 k a1 (([[]] : List (List (S59)))) 0 l0_0 l0_1 a0_2
def macadamref04_plans.T13 : Bool × List (List Nat × List Nat) := (true, [([], []), ([], []), ([], []), ([], []), ([2, 3], [2, 3]), ([4], [4]), ([1, 5], [1, 5]), ([], []), ([], []), ([7, 8], [7, 8]), ([9], [9]), ([6, 10, 6], [6, 10]), ([11], [11]), ([0, 12, 11], [0, 12]), ([13, 13, 0, 1, 2, 3, 4, 5, 6, 7, 8, 9, 10, 11, 12, 13], [0, 13])])
def macadamref04_plans.B13 : List Nat := [0, 0, 0, 0, 12, 28, 62, 0, 0, 384, 896, 2046, 4094, 8191, 16383]
theorem macadamref04_plans.tab13 : rtab .any (opsOf Tryd.f82 13) = macadamref04_plans.T13 := by kernel_rfl
theorem macadamref04_plans.bits13 : waitsOk macadamref04_plans.T13.2 macadamref04_plans.B13 = true := by kernel_rfl
set_option maxHeartbeats 8000000 in
set_option maxRecDepth 100000 in
theorem macadamref04_plans.calls (k : Nat) (A0_0 : Option Addr) (c0_0 : Nat) (l0_0 : List (S66)) (A0_1 : Option Addr) (c0_1 : Nat) (l0_1 : List (S63)) (a0_2 : Int) (a1 : Int) (r : List (List (S59))) (w : World) (hr0_0 : Kd.C k66 w A0_0 l0_0.length l0_0) (hc0_0 : l0_0.length ≤ c0_0) (hr0_1 : Kd.C k63 w A0_1 l0_1.length l0_1) (hc0_1 : l0_1.length ≤ c0_1) (h : macadamref04_plans.f k l0_0 l0_1 a0_2 a1 = some r) :
  Calls Tryd.prog 82 #[.agg #[.slice A0_0 l0_0.length c0_0, .slice A0_1 l0_1.length c0_1, .int .i64 a0_2], .int .i64 a1] w fun e w' => ∃ v0_ : Value, e = .returned (v0_) ∧ Kd.S (Kd.slice 59 k59) 26 w' w.heap.size (fun _ => True) v0_ r ∧ Below w.heap.size w w' := by
 have hu25 := Tryd.underlying25
 have HR0_0 := Aside0.mk hr0_0
 have HC0_0 := Aside0.mk hc0_0
 clear hr0_0 hc0_0
 have HR0_1 := Aside0.mk hr0_1
 have HC0_1 := Aside0.mk hc0_1
 clear hr0_1 hc0_1
 have HB := Aside0.mk (Below.refl w.heap.size w)
 have H : (macadamref04_plans.l0 k a1 (([[]] : List (List (S59)))) 0 l0_0 l0_1 a0_2) = some r := h
 clear h
 obtain ⟨y292, hy292⟩ : ∃ y_ : List (List (S59)), y_ = (([[]] : List (List (S59)))) := ⟨_, rfl⟩
 replace H : (macadamref04_plans.l0 k a1 y292 0 l0_0 l0_1 a0_2) = some r := by first | (rw [hy292]; with_reducible exact H) | (have H2_ := (Option.bind_some _ _).symm.trans H; rw [hy292]; with_reducible exact H2_) | (have H2_ := (Option.bind_some _ _).symm.trans H; with_reducible exact H2_) | with_reducible exact H | (rw [hy292]; exact H) | exact H
 have Ny292 := Aside0.mk hy292
 clear hy292
 have H' := Aside0.mk H
 clear H
 go_enter Tryd.func82, Tryd.ntmps82
 go_wp2_with (first | ((with_reducible refine gate_dst (N := 2) rfl ?_); refine bx 2 #[.slice A0_0 l0_0.length c0_0, .slice A0_1 l0_1.length c0_1, .int .i64 a0_2] 25 ?_; intro gb291 hg w3 hbox hb; have n0_ := Aside0.mk (below_step (bw HB) hb); have n1_ := Aside0.mk (hbox); have n2_ := Aside0.mk (bz (bw HB) hg); have n3_ := Aside0.mk (bz (bw HB) hg); clear HB; have HB := n0_; have BK291 := n1_; have GW291 := n2_; have GE291 := n3_; clear n0_ n1_ n2_ n3_; clear hb hbox hg) | ((with_reducible refine gate_dst (N := 11) rfl ?_); refine Kd.S_lit (Kd.slice 59 k59) _ 26 ?hg (N := 11) ?hd (xs := ([[]] : List (List (S59)))) (inner := [.slice none 0 0]) (ok := fun _ => True) (okp := fun _ => True) ?hr ?hp (fun _ hk => hk) trivial (Below.refl _ _) (Nat.le_refl _) (by simp) ?_; (case hd => rfl); (case hg => rfl); (case hr => first | (go_simp; done) | (go_simp; rfl)); (case hp => exact (Reps.one (show Kd.M (Kd.slice 59 k59) _ _ _ [] [.slice none 0 0] from ⟨_, rfl, Kd.R_nil _ _ _ _ _⟩) (Reps.none _ _))); intro v293 w4 ho5 hb hg_ hnew_; clear hg_ hnew_; (first | rw [← Ny292.out] at ho5 | (simp only [Int.reduceToNat] at ho5; rw [← Ny292.out] at ho5)); have n0_ := Aside0.mk (Kd.S_lower ho5 (below_size (bw1 HB GE291))); have n1_ := Aside0.mk (blk_below (bm BK291) hb); have n2_ := Aside0.mk (below_step (bw1 HB GE291) hb); clear BK291; clear HB; have HO294 := n0_; have BK291 := n1_; have HB := n2_; clear n0_ n1_ n2_; clear hb ho5))
 go_loopg [5, 6] k (fun kq v5 v6 w' => ∃ (x5_1 : List (List (S59))) (x6_1 : Int), v6 = .int .i64 x6_1 ∧ Aside0 (macadamref04_plans.l0 kq a1 x5_1 x6_1 l0_0 l0_1 a0_2 = some r) ∧ Aside0 (kq ≤ k) ∧ Aside0 (Kd.S (Kd.slice 59 k59) 26 w' w.heap.size (fun _ => True) v5 x5_1) ∧ Aside0 (w'.heap[gb291]? = some (.cells #[(.slice A0_0 l0_0.length c0_0), (.slice A0_1 l0_1.length c0_1), .int .i64 a0_2] 25 (0, 0))) ∧ Aside0 (Below w.heap.size w w'))
 case atStart => exact ⟨(y292), (0), (by first | rfl | (simp; done) | (simp [*]; done)), H', ⟨Nat.le_refl _⟩, ⟨by (with_reducible repeat (first | apply Kd.S_alloc | apply Kd.S_drewN | apply Kd.S_drew)); exact HO294.out⟩, ⟨bm BK291⟩, ⟨bw1 HB GE291⟩⟩
 case round =>
  clear H'
  try clear p2
  obtain ⟨x5_1, x6_1, rfl, HA, HK1, HO_5, BK291, HB⟩ := hrel
  cases gk with
  | zero => exact absurd HA.out (by simp [macadamref04_plans.l0])
  | succ k1 =>
   have H := HA.out
   clear HA
   simp only [macadamref04_plans.l0] at H
   by_cases c6 : x6_1 < a1
   ·rw [if_pos c6] at H
    have c6b0 : decide (x6_1 < a1) = true := decide_eq_true c6
    clear c6
    replace H := Option.bind_eq_some_iff.mp H
    obtain ⟨t295, A70, H⟩ := H
    replace H : (macadamref04_plans.l1 k1 a1 x5_1 x6_1 t295 ([] : List (List (S59))) 0 l0_0 l0_1 a0_2) = some r := H
    have A7 := Aside0.mk A70
    clear A70
    have H' := Aside0.mk H
    clear H
    obtain ⟨hcz8_0, hcz8_1, hcz8_2, hfz8_0, hfz8_1, hfz8_2⟩ := b3 BK291
    go_wp2_with (first | ((with_reducible refine gate_callee (f := 102) rfl ?_); refine gL (some 19) Tryd.func102 #[.agg #[.slice A0_0 l0_0.length c0_0, .slice A0_1 l0_1.length c0_1, .int .i64 a0_2], .int .i64 x6_1] ?_; (with_reducible refine (macadamref04_nights.calls k1 _ _ l0_0 _ _ l0_1 a0_2 x6_1 t295 _ ?side1 ?side2 ?side3 ?side4 A7.out).mono ?_); (case side1 => repeat (first | exact (Kd.C_below HR0_0.out HB.out) | (with_reducible refine Kd.C_alloc ?_ _) | (with_reducible refine Kd.C_drewN ?_ _) | (with_reducible refine Kd.C_drew ?_))); (case side2 => exact HC0_0.out); (case side3 => repeat (first | exact (Kd.C_below HR0_1.out HB.out) | (with_reducible refine Kd.C_alloc ?_ _) | (with_reducible refine Kd.C_drewN ?_ _) | (with_reducible refine Kd.C_drew ?_))); (case side4 => exact HC0_1.out); rintro e w9 ⟨v296, rfl, ho0, hb⟩; refine ⟨_, rfl, ?_⟩; have n0_ := Aside0.mk (Kd.S_elder' (by (with_reducible repeat (first | apply Kd.S_alloc | apply Kd.S_drewN | apply Kd.S_drew)); exact HO_5.out) (Kd.S_base ho0) hb); have n1_ := Aside0.mk (Kd.S_lower (Kd.S_new' ho0 (Kd.S_lt (by (with_reducible repeat (first | apply Kd.S_alloc | apply Kd.S_drewN | apply Kd.S_drew)); exact HO_5.out))) (below_size (bw1 HB GE291))); have n2_ := Aside0.mk (blk_below (bm BK291) hb); have n3_ := Aside0.mk (below_step (bw1 HB GE291) hb); clear HO_5; clear BK291; clear HB; have HO_5 := n0_; have HO297 := n1_; have BK291 := n2_; have HB := n3_; clear n0_ n1_ n2_ n3_; (try clear hb); (try clear hb2); (try clear hk); (try clear hi); (try clear ho0)))
    go_loopg [8, 9] k1 (fun kq v8 v9 w' => ∃ (x8_2 : List (List (S59))) (x9_2 : Int), v9 = .int .i64 x9_2 ∧ Aside0 (macadamref04_plans.l1 kq a1 x5_1 x6_1 t295 x8_2 x9_2 l0_0 l0_1 a0_2 = some r) ∧ Aside0 (kq ≤ k1) ∧ Aside0 (Kd.S (Kd.slice 59 k59) 26 w' w.heap.size (fun k_ => some k_ ≠ (v296 : Value).ownBlock ∧ some k_ ≠ (v8 : Value).ownBlock) u5 x5_1) ∧ Aside0 (Kd.S (Kd.slice 59 k59) 26 w' w.heap.size (fun k_ => some k_ ≠ (u5 : Value).ownBlock ∧ some k_ ≠ (v8 : Value).ownBlock) v296 t295) ∧ Aside0 (Kd.S (Kd.slice 59 k59) 26 w' w.heap.size (fun k_ => some k_ ≠ (u5 : Value).ownBlock ∧ some k_ ≠ (v296 : Value).ownBlock) v8 x8_2) ∧ Aside0 (w'.heap[gb291]? = some (.cells #[(.slice A0_0 l0_0.length c0_0), (.slice A0_1 l0_1.length c0_1), .int .i64 a0_2] 25 (0, 0))) ∧ Aside0 (Below w.heap.size w w'))
    case atStart => exact ⟨(([] : List (List (S59)))), (0), (by first | rfl | (simp; done) | (simp [*]; done)), H', ⟨Nat.le_refl _⟩, ⟨by (with_reducible repeat (first | apply Kd.S_alloc | apply Kd.S_drewN | apply Kd.S_drew)); exact Kd.S_mono HO_5.out (fun _ hk => ⟨hk.2, (by simp [Value.ownBlock])⟩)⟩, ⟨by (with_reducible repeat (first | apply Kd.S_alloc | apply Kd.S_drewN | apply Kd.S_drew)); exact Kd.S_mono HO297.out (fun _ hk => ⟨hk.2, (by simp [Value.ownBlock])⟩)⟩, ⟨by first | exact Kd.S_nil _ _ _ _ _ | exact Kd.N_nil _ _ _ _ _ | exact Kd.V_nil _ _ _ _ _ | exact Kd.Q_nil _ _ _ _ _ | exact Kd.R_nil _ _ _ _ _⟩, ⟨bm BK291⟩, ⟨bw1 HB GE291⟩⟩
    case round =>
     clear H'
     try clear c1
     try clear p2
     try clear c6
     try clear c6b0
     try clear c8
     try clear hcz8_0
     try clear hcz8_1
     try clear hcz8_2
     try clear hfz8_0
     try clear hfz8_1
     try clear hfz8_2
     try clear p2
     obtain ⟨x8_2, x9_2, rfl, HA, HK2, HO_5, HO_7, HO_8, BK291, HB⟩ := hrel
     cases gk with
     | zero => exact absurd HA.out (by simp [macadamref04_plans.l1])
     | succ k2 =>
      have H := HA.out
      clear HA
      simp only [macadamref04_plans.l1] at H
      by_cases c10 : x9_2 < (x5_1.length : Int)
      ·rw [if_pos c10] at H
       have c10b0 : decide (x9_2 < (x5_1.length : Int)) = true := decide_eq_true c10
       clear c10
       have H' := Aside0.mk H
       clear H
       obtain ⟨Ao11, co11, eo11⟩ := Kd.S_slice HO_5.out
       subst eo11
       go_wp2
       go_loopg [8, 10] k2 (fun kq v8 v10 w' => ∃ (x8_3 : List (List (S59))) (x10_3 : Int), v10 = .int .i64 x10_3 ∧ Aside0 (macadamref04_plans.l2 kq a1 x5_1 x6_1 t295 x8_3 x9_2 x10_3 l0_0 l0_1 a0_2 = some r) ∧ Aside0 (kq ≤ k2) ∧ Aside0 (Kd.S (Kd.slice 59 k59) 26 w' w.heap.size (fun k_ => some k_ ≠ (v296 : Value).ownBlock ∧ some k_ ≠ (v8 : Value).ownBlock) (.slice Ao11 x5_1.length co11) x5_1) ∧ Aside0 (Kd.S (Kd.slice 59 k59) 26 w' w.heap.size (fun k_ => some k_ ≠ ((.slice Ao11 x5_1.length co11) : Value).ownBlock ∧ some k_ ≠ (v8 : Value).ownBlock) v296 t295) ∧ Aside0 (Kd.S (Kd.slice 59 k59) 26 w' w.heap.size (fun k_ => some k_ ≠ ((.slice Ao11 x5_1.length co11) : Value).ownBlock ∧ some k_ ≠ (v296 : Value).ownBlock) v8 x8_3) ∧ Aside0 (w'.heap[gb291]? = some (.cells #[(.slice A0_0 l0_0.length c0_0), (.slice A0_1 l0_1.length c0_1), .int .i64 a0_2] 25 (0, 0))) ∧ Aside0 (Below w.heap.size w w'))
       case atStart => exact ⟨(x8_2), (0), (by first | rfl | (simp; done) | (simp [*]; done)), H', ⟨Nat.le_refl _⟩, ⟨by (with_reducible repeat (first | apply Kd.S_alloc | apply Kd.S_drewN | apply Kd.S_drew)); exact HO_5.out⟩, ⟨by (with_reducible repeat (first | apply Kd.S_alloc | apply Kd.S_drewN | apply Kd.S_drew)); exact HO_7.out⟩, ⟨by (with_reducible repeat (first | apply Kd.S_alloc | apply Kd.S_drewN | apply Kd.S_drew)); exact HO_8.out⟩, ⟨bm BK291⟩, ⟨bw1 HB GE291⟩⟩
       case round =>
        clear H'
        try clear c1
        try clear p2
        try clear c6
        try clear c6b0
        try clear c8
        try clear c10
        try clear c10b0
        try clear hcz8_0
        try clear hcz8_1
        try clear hcz8_2
        try clear hfz8_0
        try clear hfz8_1
        try clear hfz8_2
        try clear p2
        obtain ⟨x8_3, x10_3, rfl, HA, HK3, HO_5, HO_7, HO_8, BK291, HB⟩ := hrel
        cases gk with
        | zero => exact absurd HA.out (by simp [macadamref04_plans.l2])
        | succ k3 =>
         have H := HA.out
         clear HA
         simp only [macadamref04_plans.l2] at H
         by_cases c12 : x10_3 < (t295.length : Int)
         ·rw [if_pos c12] at H
          have c12b0 : decide (x10_3 < (t295.length : Int)) = true := decide_eq_true c12
          clear c12
          obtain ⟨y298, hy298⟩ : ∃ y_ : List (S59), y_ = (([] : List (S59))) := ⟨_, rfl⟩
          replace H : (if 0 ≤ x9_2 then (if x9_2 < (x5_1.length : Int) then (if y298.length + (rd_L5 x5_1 x9_2).length < 5864062014805 then ((some (y298 ++ (rd_L5 x5_1 x9_2) : List (S59))).bind fun y302 => (if 0 ≤ x10_3 then (if y302.length + (rd_L5 t295 x10_3).length < 5864062014805 then (if x8_3.length < 5864062014805 then (macadamref04_plans.l2 k3 a1 x5_1 x6_1 t295 (x8_3 ++ [(y302 ++ (rd_L5 t295 x10_3))]) x9_2 (wrap64 (x10_3 + 1)) l0_0 l0_1 a0_2) else (none)) else (none)) else (none))) else (none)) else (none)) else (none)) = some r := by first | (rw [hy298]; with_reducible exact H) | (have H2_ := (Option.bind_some _ _).symm.trans H; rw [hy298]; with_reducible exact H2_) | (have H2_ := (Option.bind_some _ _).symm.trans H; with_reducible exact H2_) | with_reducible exact H | (rw [hy298]; exact H) | exact H
          have Ny298 := Aside0.mk hy298
          clear hy298
          by_cases c13 : 0 ≤ x9_2
          ·rw [if_pos c13] at H
           have c13b0 : decide (0 ≤ x9_2) = true := decide_eq_true c13
           clear c13
           by_cases c14 : x9_2 < (x5_1.length : Int)
           ·rw [if_pos c14] at H
            have c14b0 : decide (x9_2 < (x5_1.length : Int)) = true := decide_eq_true c14
            clear c14
            by_cases c15 : y298.length + (rd_L5 x5_1 x9_2).length < 5864062014805
            ·rw [if_pos c15] at H
             have LMc15 := Aside0.mk c15
             clear c15
             obtain ⟨y302, hy302⟩ : ∃ y_ : List (S59), y_ = (y298 ++ (rd_L5 x5_1 x9_2)) := ⟨_, rfl⟩
             replace H : (if 0 ≤ x10_3 then (if y302.length + (rd_L5 t295 x10_3).length < 5864062014805 then (if x8_3.length < 5864062014805 then (macadamref04_plans.l2 k3 a1 x5_1 x6_1 t295 (x8_3 ++ [(y302 ++ (rd_L5 t295 x10_3))]) x9_2 (wrap64 (x10_3 + 1)) l0_0 l0_1 a0_2) else (none)) else (none)) else (none)) = some r := by first | (rw [hy302]; with_reducible exact H) | (have H2_ := (Option.bind_some _ _).symm.trans H; rw [hy302]; with_reducible exact H2_) | (have H2_ := (Option.bind_some _ _).symm.trans H; with_reducible exact H2_) | with_reducible exact H | (rw [hy302]; exact H) | exact H
             have Ny302 := Aside0.mk hy302
             clear hy302
             by_cases c16 : 0 ≤ x10_3
             ·rw [if_pos c16] at H
              have c16b0 : decide (0 ≤ x10_3) = true := decide_eq_true c16
              clear c16
              by_cases c17 : y302.length + (rd_L5 t295 x10_3).length < 5864062014805
              ·rw [if_pos c17] at H
               have LMc17 := Aside0.mk c17
               clear c17
               obtain ⟨y306, hy306⟩ : ∃ y_ : List (S59), y_ = (y302 ++ (rd_L5 t295 x10_3)) := ⟨_, rfl⟩
               replace H : (if x8_3.length < 5864062014805 then (macadamref04_plans.l2 k3 a1 x5_1 x6_1 t295 (x8_3 ++ [y306]) x9_2 (wrap64 (x10_3 + 1)) l0_0 l0_1 a0_2) else (none)) = some r := by first | (rw [hy306]; with_reducible exact H) | (have H2_ := (Option.bind_some _ _).symm.trans H; rw [hy306]; with_reducible exact H2_) | (have H2_ := (Option.bind_some _ _).symm.trans H; with_reducible exact H2_) | with_reducible exact H | (rw [hy306]; exact H) | exact H
               have Ny306 := Aside0.mk hy306
               clear hy306
               by_cases c18 : x8_3.length < 5864062014805
               ·rw [if_pos c18] at H
                have LMc18 := Aside0.mk c18
                clear c18
                obtain ⟨y309, hy309⟩ : ∃ y_ : List (List (S59)), y_ = (x8_3 ++ [y306]) := ⟨_, rfl⟩
                replace H : (macadamref04_plans.l2 k3 a1 x5_1 x6_1 t295 y309 x9_2 (wrap64 (x10_3 + 1)) l0_0 l0_1 a0_2) = some r := by first | (rw [hy309]; with_reducible exact H) | (have H2_ := (Option.bind_some _ _).symm.trans H; rw [hy309]; with_reducible exact H2_) | (have H2_ := (Option.bind_some _ _).symm.trans H; with_reducible exact H2_) | with_reducible exact H | (rw [hy309]; exact H) | exact H
                have Ny309 := Aside0.mk hy309
                clear hy309
                have H' := Aside0.mk H
                clear H
                obtain ⟨Ao19, co19, eo19⟩ := Kd.S_slice HO_7.out
                subst eo19
                try go_wp2
                have n0_ := Aside0.mk (Kd.S_drew HO_5.out)
                have n1_ := Aside0.mk (Kd.S_drew HO_7.out)
                have n2_ := Aside0.mk (Kd.S_drew HO_8.out)
                have n3_ := Aside0.mk (blk_drew BK291.out)
                have n4_ := Aside0.mk (below_drew1 HB.out)
                clear HO_5
                clear HO_7
                clear HO_8
                clear BK291
                clear HB
                have HO_5 := n0_
                have HO_7 := n1_
                have HO_8 := n2_
                have BK291 := n3_
                have HB := n4_
                clear n0_ n1_ n2_ n3_ n4_
                have p301 : 0 ≤ (x9_2 : Int) := of_decide_eq_true (by first | (with_reducible assumption) | assumption)
                have q301 : x9_2 < (x5_1.length : Int) := of_decide_eq_true (by first | (with_reducible assumption) | assumption)
                obtain ⟨ad301, A301_0, c301_0, e301, hx301_0, hl301_0, hi301_0⟩ := at_L5 (Kd.S_reads' HO_5.out).2.2 x9_2 p301 q301
                cases e301
                obtain ⟨ce301, hce301, hMe301, hcc301⟩ := Kd.S_get HO_5.out [] x9_2 p301 (by first | exact q301 | exact of_decide_eq_true (by first | (with_reducible assumption) | assumption) | (have e_ := (Kd.S_reads' HO_5.out).1; omega))
                obtain ⟨ve301_0, rfl, ge301_0⟩ := hMe301
                have hv301_0 := hcc301 0 _ rfl
                rw [Nat.add_zero, show ((Kd.slice 59 k59)).sz = 1 from rfl, Nat.mul_one] at hv301_0
                replace hv301_0 := Option.some.inj (hv301_0.symm.trans hx301_0)
                rw [hv301_0] at ge301_0
                have HL301_0 := Aside0.mk (show Kd.R k59 59 _ _ _ _ (rd_L5 x5_1 x9_2) from ge301_0)
                clear hv301_0 ge301_0
                clear hcc301 hce301
                have HR301_0 := Aside0.mk hi301_0
                have HC301_0 := Aside0.mk hl301_0
                clear hi301_0 hl301_0
                replace p301 := eq_true p301
                replace q301 := eq_true q301
                have p305 : 0 ≤ (x10_3 : Int) := of_decide_eq_true (by first | (with_reducible assumption) | assumption)
                have q305 : x10_3 < (t295.length : Int) := of_decide_eq_true (by first | (with_reducible assumption) | assumption)
                obtain ⟨ad305, A305_0, c305_0, e305, hx305_0, hl305_0, hi305_0⟩ := at_L5 (Kd.S_reads' HO_7.out).2.2 x10_3 p305 q305
                cases e305
                obtain ⟨ce305, hce305, hMe305, hcc305⟩ := Kd.S_get HO_7.out [] x10_3 p305 (by first | exact q305 | exact of_decide_eq_true (by first | (with_reducible assumption) | assumption) | (have e_ := (Kd.S_reads' HO_7.out).1; omega))
                obtain ⟨ve305_0, rfl, ge305_0⟩ := hMe305
                have hv305_0 := hcc305 0 _ rfl
                rw [Nat.add_zero, show ((Kd.slice 59 k59)).sz = 1 from rfl, Nat.mul_one] at hv305_0
                replace hv305_0 := Option.some.inj (hv305_0.symm.trans hx305_0)
                rw [hv305_0] at ge305_0
                have HL305_0 := Aside0.mk (show Kd.R k59 59 _ _ _ _ (rd_L5 t295 x10_3) from ge305_0)
                clear hv305_0 ge305_0
                clear hcc305 hce305
                have HR305_0 := Aside0.mk hi305_0
                have HC305_0 := Aside0.mk hl305_0
                clear hi305_0 hl305_0
                replace p305 := eq_true p305
                replace q305 := eq_true q305
                refine start_ (n := 15) (S := fun w' => w'.cell? (ad301.add (x9_2).toNat) = some (.slice A301_0 (rd_L5 x5_1 x9_2).length c301_0) ∧ w'.cell? (ad305.add (x10_3).toNat) = some (.slice A305_0 (rd_L5 t295 x10_3).length c305_0)) (ds := [11, 12, 13]) (bs 15 0) (by kernel_rfl) rfl rfl ⟨hx301_0, hx305_0⟩ (fun hHeld => ?_); refine with_tabW macadamref04_plans.tab13 macadamref04_plans.bits13 (fun HT_ HW_ => ?_)
                generalize wr.drew = w20 at HO_5 HO_7 HO_8 BK291 HB HL301_0 HL305_0 HR301_0 HR305_0 hx301_0 hx305_0 hHeld ⊢
                refine pu HT_ 0 (some 32) (bs 15 1) ?_
                refine pu HT_ 2 (some 34) (bs 15 5) ?_
                refine pu HT_ 3 (some 35) (bs 15 13) ?_
                refine pu HT_ 4 (some 36) (bs 15 29) ?_
                refine pu HT_ 7 (some 39) (bs 15 157) ?_
                refine pu HT_ 8 (some 40) (bs 15 413) ?_
                refine pu HT_ 9 (some 41) (bs 15 925) ?_
                refine tk2 HT_ HW_ hHeld 5 (some 37) (bs 15 957) ?_
                refine tk2 HT_ HW_ hHeld 10 (some 42) (bs 15 1981) ?_
                refine on HT_ 1 (some 33) (bs 15 1983) (fun K hK => ?_)
                refine Kd.R_lit_step k59 _ 59 ?hg (N := 33) ?hd (xs := ([] : List (S59))) (inner := []) (ok := fun _ => True) (okp := fun _ => True) ?hr ?hp (fun _ hk => hk) trivial (Below.refl _ _) (Nat.le_refl _) (by simp) ?_; (case hd => rfl); (case hg => rfl); (case hr => first | (go_simp; done) | (go_simp; rfl)); (case hp => exact (Reps.none _ _))
                intro v299 w21 ho22 hb hg_ hnew_
                have HS0_ := (hb.cell (World.block_lt_of_cell? _ _ (hHeld.1))).trans (hHeld.1)
                have HS1_ := (hb.cell (World.block_lt_of_cell? _ _ (hHeld.2))).trans (hHeld.2)
                clear hg_ hnew_
                (first | rw [← Ny298.out] at ho22 | (simp only [Int.reduceToNat] at ho22; rw [← Ny298.out] at ho22))
                have n0_ := Aside0.mk (Kd.S_elder' (by (with_reducible repeat (first | apply Kd.S_alloc | apply Kd.S_drewN | apply Kd.S_drew)); exact HO_5.out) (Kd.R_base ho22) hb)
                have n1_ := Aside0.mk (Kd.S_elder' (by (with_reducible repeat (first | apply Kd.S_alloc | apply Kd.S_drewN | apply Kd.S_drew)); exact HO_7.out) (Kd.R_base ho22) hb)
                have n2_ := Aside0.mk (Kd.S_elder' (by (with_reducible repeat (first | apply Kd.S_alloc | apply Kd.S_drewN | apply Kd.S_drew)); exact HO_8.out) (Kd.R_base ho22) hb)
                have n3_ := Aside0.mk (Kd.R_elder' (by (with_reducible repeat (first | apply Kd.R_alloc | apply Kd.R_drewN | apply Kd.R_drew)); exact HL301_0.out) (Kd.R_base ho22) hb)
                have n4_ := Aside0.mk (Kd.R_elder' (by (with_reducible repeat (first | apply Kd.R_alloc | apply Kd.R_drewN | apply Kd.R_drew)); exact HL305_0.out) (Kd.R_base ho22) hb)
                have n5_ := Aside0.mk (Kd.R_lower (Kd.R_new' (Kd.R_new' ho22 (Kd.R_lt (by (with_reducible repeat (first | apply Kd.R_alloc | apply Kd.R_drewN | apply Kd.R_drew)); exact HL301_0.out))) (Kd.R_lt (by (with_reducible repeat (first | apply Kd.R_alloc | apply Kd.R_drewN | apply Kd.R_drew)); exact HL305_0.out))) (below_size (bw1 HB GE291)))
                have n6_ := Aside0.mk (blk_below (bm BK291) hb)
                have n7_ := Aside0.mk (Kd.C_below (by repeat (first | (with_reducible exact HR301_0.out) | (with_reducible refine Kd.C_alloc ?_ _) | (with_reducible refine Kd.C_drewN ?_ _) | (with_reducible refine Kd.C_drew ?_) | exact HR301_0.out)) hb)
                have n8_ := Aside0.mk (Kd.C_below (by repeat (first | (with_reducible exact HR305_0.out) | (with_reducible refine Kd.C_alloc ?_ _) | (with_reducible refine Kd.C_drewN ?_ _) | (with_reducible refine Kd.C_drew ?_) | exact HR305_0.out)) hb)
                have n9_ := Aside0.mk (below_step (bw1 HB GE291) hb)
                clear HO_5
                clear HO_7
                clear HO_8
                clear HL301_0
                clear HL305_0
                clear BK291
                clear HR301_0
                clear HR305_0
                clear HB
                have HO_5 := n0_
                have HO_7 := n1_
                have HO_8 := n2_
                have HL301_0 := n3_
                have HL305_0 := n4_
                have HO300 := n5_
                have BK291 := n6_
                have HR301_0 := n7_
                have HR305_0 := n8_
                have HB := n9_
                clear n0_ n1_ n2_ n3_ n4_ n5_ n6_ n7_ n8_ n9_
                clear hb ho22
                refine hK.out _ _ ⟨HS0_, HS1_⟩ (fun hHeld => ?_)
                clear hK K
                refine nm 33 ?_
                refine on HT_ 6 (some 38) (bs 15 2047) (fun K hK => ?_)
                refine Kd.R_append_rows_step k59 (w0 := w) w.heap.size (by rfl) (.tmp 33) (.tmp 37) 26 59 (.agg #[(.int .i64 0), (.int .i64 0), (.int .i64 0)]) 24 rfl Tryd.underlying26 info59 rfl (by decide) (by omega) v299 y298 (rd_L5 x5_1 x9_2) _ _ _ (fun k_ => some k_ ≠ (.slice A301_0 (rd_L5 x5_1 x9_2).length c301_0 : Value).ownBlock ∧ some k_ ≠ (.slice A305_0 (rd_L5 t295 x10_3).length c305_0 : Value).ownBlock) (fun _ => False) rfl rfl ?aO ?aR (fun _ _ h => h) (fun _ h => h.elim) ?aF ?aB ?aS ?aL ?_
                (case aR => repeat (first | exact (by repeat (first | (with_reducible exact HR301_0.out) | (with_reducible refine Kd.C_alloc ?_ _) | (with_reducible refine Kd.C_drewN ?_ _) | (with_reducible refine Kd.C_drew ?_) | exact HR301_0.out)) | (with_reducible refine Kd.C_alloc ?_ _) | (with_reducible refine Kd.C_drewN ?_ _) | (with_reducible refine Kd.C_drew ?_)))
                (case aB => exact (bw1 HB GE291))
                (case aF => exact (fun k_ hk => ⟨Kd.fresh' (Kd.R_lt (by (with_reducible repeat (first | apply Kd.R_alloc | apply Kd.R_drewN | apply Kd.R_drew)); exact HL301_0.out)) k_ hk, Kd.fresh' (Kd.R_lt (by (with_reducible repeat (first | apply Kd.R_alloc | apply Kd.R_drewN | apply Kd.R_drew)); exact HL305_0.out)) k_ hk⟩))
                (case aO => exact (by (with_reducible repeat (first | apply Kd.R_alloc | apply Kd.R_drewN | apply Kd.R_drew)); exact Kd.R_mono HO300.out (fun _ hk => ⟨hk.1.2, hk.2⟩)))
                (case aS => exact (below_size (bw1 HB GE291)))
                (case aL => have := LMc15.out; omega)
                intro v303 w23 ho hb hg hat
                have HS0_ := cell_grown hg (hHeld.1) (by rw [add_block]; obtain ⟨_, _, ho_, _⟩ := Kd.S_R HO_5.out; obtain ⟨cs_, hc_⟩ := own_typed ho_ _ (by rfl); exact Kd.R_ne HO300.out hc_ (by decide))
                have HS1_ := cell_grown hg (hHeld.2) (by rw [add_block]; obtain ⟨_, _, ho_, _⟩ := Kd.S_R HO_7.out; obtain ⟨cs_, hc_⟩ := own_typed ho_ _ (by rfl); exact Kd.R_ne HO300.out hc_ (by decide))
                rw [← Ny302.out] at ho
                have n0_ := Aside0.mk (Kd.S_after (ok := (fun k_ => some k_ ≠ (.slice (some ad305) t295.length co19 : Value).ownBlock ∧ some k_ ≠ (u8 : Value).ownBlock)) (by (with_reducible repeat (first | apply Kd.S_alloc | apply Kd.S_drewN | apply Kd.S_drew)); exact HO_5.out) hg hat)
                have n1_ := Aside0.mk (Kd.S_after (ok := (fun k_ => some k_ ≠ (.slice (some ad301) x5_1.length co11 : Value).ownBlock ∧ some k_ ≠ (u8 : Value).ownBlock)) (by (with_reducible repeat (first | apply Kd.S_alloc | apply Kd.S_drewN | apply Kd.S_drew)); exact HO_7.out) hg hat)
                have n2_ := Aside0.mk (Kd.S_after (ok := (fun k_ => some k_ ≠ (.slice (some ad301) x5_1.length co11 : Value).ownBlock ∧ some k_ ≠ (.slice (some ad305) t295.length co19 : Value).ownBlock)) (by (with_reducible repeat (first | apply Kd.S_alloc | apply Kd.S_drewN | apply Kd.S_drew)); exact HO_8.out) hg hat)
                have n3_ := Aside0.mk (blk_grown (g := gb291) (o := .cells #[.slice A0_0 l0_0.length c0_0, .slice A0_1 l0_1.length c0_1, .int .i64 a0_2] 25 (0, 0)) (bm BK291) hg (Kd.R_ne HO300.out BK291.out (by decide)))
                have n4_ := Aside0.mk (Kd.R_after (ok := (fun k_ => some k_ ≠ (.slice (some ad301) x5_1.length co11 : Value).ownBlock ∧ some k_ ≠ (.slice (some ad305) t295.length co19 : Value).ownBlock ∧ some k_ ≠ (u8 : Value).ownBlock)) (by (with_reducible repeat (first | apply Kd.R_alloc | apply Kd.R_drewN | apply Kd.R_drew)); exact Kd.R_mono HL301_0.out (fun _ hk => ⟨⟨hk.1.2, ⟨hk.1.1.1, hk.1.1.2⟩⟩, hk.2⟩)) hg hat)
                have n5_ := Aside0.mk (Kd.R_after (ok := (fun k_ => some k_ ≠ (.slice (some ad301) x5_1.length co11 : Value).ownBlock ∧ some k_ ≠ (.slice (some ad305) t295.length co19 : Value).ownBlock ∧ some k_ ≠ (u8 : Value).ownBlock)) (by (with_reducible repeat (first | apply Kd.R_alloc | apply Kd.R_drewN | apply Kd.R_drew)); exact Kd.R_mono HL305_0.out (fun _ hk => ⟨⟨hk.1.1.1, ⟨hk.1.2, hk.1.1.2⟩⟩, hk.2⟩)) hg hat)
                have n6_ := Aside0.mk (hb)
                have n7_ := Aside0.mk (ho)
                clear HO_5
                clear HO_7
                clear HO_8
                clear BK291
                clear HL301_0
                clear HL305_0
                clear HB
                clear HO300
                have HO_5 := n0_
                have HO_7 := n1_
                have HO_8 := n2_
                have BK291 := n3_
                have HL301_0 := n4_
                have HL305_0 := n5_
                have HB := n6_
                have HO304 := n7_
                clear n0_ n1_ n2_ n3_ n4_ n5_ n6_ n7_
                clear ho hb hg hat
                refine hK.out _ _ ⟨HS0_, HS1_⟩ (fun hHeld => ?_)
                clear hK K
                refine nm 38 ?_
                refine last_ (i := 11) (N := some 43) (bs 15 4095) rfl rfl (one_of HT_.out (by kernel_rfl)) (by decide) (fun K hK => ?_)
                refine Kd.R_append_rows_step k59 (w0 := w) w.heap.size (by rfl) (.tmp 38) (.tmp 42) 26 59 (.agg #[(.int .i64 0), (.int .i64 0), (.int .i64 0)]) 24 rfl Tryd.underlying26 info59 rfl (by decide) (by omega) v303 y302 (rd_L5 t295 x10_3) _ _ _ (fun k_ => some k_ ≠ (.slice A301_0 (rd_L5 x5_1 x9_2).length c301_0 : Value).ownBlock ∧ some k_ ≠ (.slice A305_0 (rd_L5 t295 x10_3).length c305_0 : Value).ownBlock) (fun _ => False) rfl rfl ?aO ?aR (fun _ _ h => h) (fun _ h => h.elim) ?aF ?aB ?aS ?aL ?_
                (case aR => repeat (first | exact ((Kd.R_reads' (by (with_reducible repeat (first | apply Kd.R_alloc | apply Kd.R_drewN | apply Kd.R_drew)); exact HL305_0.out)).2.2) | (with_reducible refine Kd.C_alloc ?_ _) | (with_reducible refine Kd.C_drewN ?_ _) | (with_reducible refine Kd.C_drew ?_)))
                (case aB => exact (bw1 HB GE291))
                (case aF => exact (fun k_ hk => ⟨Kd.fresh' (Kd.R_lt (by (with_reducible repeat (first | apply Kd.R_alloc | apply Kd.R_drewN | apply Kd.R_drew)); exact HL301_0.out)) k_ hk, Kd.fresh' (Kd.R_lt (by (with_reducible repeat (first | apply Kd.R_alloc | apply Kd.R_drewN | apply Kd.R_drew)); exact HL305_0.out)) k_ hk⟩))
                (case aO => exact (by (with_reducible repeat (first | apply Kd.R_alloc | apply Kd.R_drewN | apply Kd.R_drew)); exact HO304.out))
                (case aS => exact (below_size (bw1 HB GE291)))
                (case aL => have := LMc17.out; omega)
                intro v307 w24 ho hb hg hat
                rw [← Ny306.out] at ho
                have n0_ := Aside0.mk (Kd.S_after (ok := (fun k_ => some k_ ≠ (.slice (some ad305) t295.length co19 : Value).ownBlock ∧ some k_ ≠ (u8 : Value).ownBlock)) (by (with_reducible repeat (first | apply Kd.S_alloc | apply Kd.S_drewN | apply Kd.S_drew)); exact HO_5.out) hg hat)
                have n1_ := Aside0.mk (Kd.S_after (ok := (fun k_ => some k_ ≠ (.slice (some ad301) x5_1.length co11 : Value).ownBlock ∧ some k_ ≠ (u8 : Value).ownBlock)) (by (with_reducible repeat (first | apply Kd.S_alloc | apply Kd.S_drewN | apply Kd.S_drew)); exact HO_7.out) hg hat)
                have n2_ := Aside0.mk (Kd.S_after (ok := (fun k_ => some k_ ≠ (.slice (some ad301) x5_1.length co11 : Value).ownBlock ∧ some k_ ≠ (.slice (some ad305) t295.length co19 : Value).ownBlock)) (by (with_reducible repeat (first | apply Kd.S_alloc | apply Kd.S_drewN | apply Kd.S_drew)); exact HO_8.out) hg hat)
                have n3_ := Aside0.mk (blk_grown (g := gb291) (o := .cells #[.slice A0_0 l0_0.length c0_0, .slice A0_1 l0_1.length c0_1, .int .i64 a0_2] 25 (0, 0)) (bm BK291) hg (Kd.R_ne HO304.out BK291.out (by decide)))
                have n4_ := Aside0.mk (Kd.R_after (ok := (fun k_ => some k_ ≠ (.slice (some ad301) x5_1.length co11 : Value).ownBlock ∧ some k_ ≠ (.slice (some ad305) t295.length co19 : Value).ownBlock ∧ some k_ ≠ (u8 : Value).ownBlock)) (by (with_reducible repeat (first | apply Kd.R_alloc | apply Kd.R_drewN | apply Kd.R_drew)); exact HL301_0.out) hg hat)
                have n5_ := Aside0.mk (Kd.R_after (ok := (fun k_ => some k_ ≠ (.slice (some ad301) x5_1.length co11 : Value).ownBlock ∧ some k_ ≠ (.slice (some ad305) t295.length co19 : Value).ownBlock ∧ some k_ ≠ (u8 : Value).ownBlock)) (by (with_reducible repeat (first | apply Kd.R_alloc | apply Kd.R_drewN | apply Kd.R_drew)); exact HL305_0.out) hg hat)
                have n6_ := Aside0.mk (hb)
                have n7_ := Aside0.mk (ho)
                clear HO_5
                clear HO_7
                clear HO_8
                clear BK291
                clear HL301_0
                clear HL305_0
                clear HB
                clear HO304
                have HO_5 := n0_
                have HO_7 := n1_
                have HO_8 := n2_
                have BK291 := n3_
                have HL301_0 := n4_
                have HL305_0 := n5_
                have HB := n6_
                have HO308 := n7_
                clear n0_ n1_ n2_ n3_ n4_ n5_ n6_ n7_
                clear ho hb hg hat
                obtain ⟨Ao26, co26, eo26⟩ := Kd.R_slice HO308.out
                (first | subst eo26 | (injection eo26 with f1_ f2_ f3_; have f4_ := f1_.symm; have f5_ := f3_.symm; clear f1_ f2_ f3_; subst f4_; subst f5_))
                refine hK.out _ _ ?_
                clear hK K
                refine nm 43 ?_
                refine last_ (i := 12) (N := some 44) (bs 15 8191) rfl rfl (one_of HT_.out (by kernel_rfl)) (by decide) (fun K hK => ?_)
                refine value_ (w1 := ?_) (v := ?_) (by rfl) rfl ?_ ?_
                rotate_left 2
                ·go_simp
                 constructor
                 ·rfl
                 ·rfl
                refine hK.out _ _ ?_
                clear hK K
                refine nm 44 ?_
                refine last_ (i := 13) (N := some 45) (bs 15 16383) rfl rfl (one_of HT_.out (by kernel_rfl)) (by decide) (fun K hK => ?_)
                refine Kd.S_append_step (Kd.slice 59 k59) (w0 := w) w.heap.size (by rfl) (.tmp 32) (.tmp 44) 83 26 (.slice none 0 0) 24 rfl Tryd.underlying83 info26 rfl (by decide) (by omega) u8 x8_3 y306 [.slice Ao26 y306.length co26] (fun k_ => some k_ ≠ (.slice (some ad301) x5_1.length co11 : Value).ownBlock ∧ some k_ ≠ (.slice (some ad305) t295.length co19 : Value).ownBlock) (fun k_ => some k_ = (.slice Ao26 y306.length co26 : Value).ownBlock) rfl rfl ?aP (fun k_ hk_ => ((Kd.R_mono (ok' := fun k_ => ((fun k_ => some k_ ≠ (.slice (some ad301) x5_1.length co11 : Value).ownBlock ∧ some k_ ≠ (.slice (some ad305) t295.length co19 : Value).ownBlock)) k_ ∧ some k_ ≠ (u8 : Value).ownBlock) (Kd.R_apart' (Kd.R_apart' (Kd.R_apart' (HO308.out) (Kd.S_typed HO_5.out) (by decide)) (Kd.S_typed HO_7.out) (by decide)) (Kd.S_typed HO_8.out) (by decide)) (fun k_ hk => ⟨⟨hk.1.1.2, hk.1.2⟩, hk.2⟩))).1 k_ hk_.symm) ?aF ?aO ?aB ?aS ?aL ?_
                (case aP => exact Kd.M_row (Kd.R_mono (Kd.R_tight rfl (Kd.R_mono (ok' := fun k_ => ((fun k_ => some k_ ≠ (.slice (some ad301) x5_1.length co11 : Value).ownBlock ∧ some k_ ≠ (.slice (some ad305) t295.length co19 : Value).ownBlock)) k_ ∧ some k_ ≠ (u8 : Value).ownBlock) (Kd.R_apart' (Kd.R_apart' (Kd.R_apart' (HO308.out) (Kd.S_typed HO_5.out) (by decide)) (Kd.S_typed HO_7.out) (by decide)) (Kd.S_typed HO_8.out) (by decide)) (fun k_ hk => ⟨⟨hk.1.1.2, hk.1.2⟩, hk.2⟩))) (fun _ h_ => h_)))
                (case aB => exact (bw1 HB GE291))
                (case aF => exact (fun k_ hk => ⟨Kd.fresh' (Kd.S_lt (by (with_reducible repeat (first | apply Kd.S_alloc | apply Kd.S_drewN | apply Kd.S_drew)); exact HO_5.out)) k_ hk, Kd.fresh' (Kd.S_lt (by (with_reducible repeat (first | apply Kd.S_alloc | apply Kd.S_drewN | apply Kd.S_drew)); exact HO_7.out)) k_ hk⟩))
                (case aO => exact (by (with_reducible repeat (first | apply Kd.S_alloc | apply Kd.S_drewN | apply Kd.S_drew)); exact Kd.S_mono HO_8.out (fun k_ hk => ⟨⟨hk.1.1, hk.1.2⟩, fun e_ => hk.2 e_⟩)))
                (case aS => exact (below_size (bw1 HB GE291)))
                (case aL => have := LMc18.out; omega)
                intro v310 w25 ho hb hg hat
                rw [← Ny309.out] at ho
                have n0_ := Aside0.mk (Kd.S_after (ok := (fun k_ => some k_ ≠ (.slice (some ad305) t295.length co19 : Value).ownBlock ∧ some k_ ≠ (.slice Ao26 y306.length co26 : Value).ownBlock)) (by (with_reducible repeat (first | apply Kd.S_alloc | apply Kd.S_drewN | apply Kd.S_drew)); exact Kd.S_mono HO_5.out (fun _ hk => ⟨⟨hk.1.1, hk.2⟩, hk.1.2⟩)) hg hat)
                have n1_ := Aside0.mk (Kd.S_after (ok := (fun k_ => some k_ ≠ (.slice (some ad301) x5_1.length co11 : Value).ownBlock ∧ some k_ ≠ (.slice Ao26 y306.length co26 : Value).ownBlock)) (by (with_reducible repeat (first | apply Kd.S_alloc | apply Kd.S_drewN | apply Kd.S_drew)); exact Kd.S_mono HO_7.out (fun _ hk => ⟨⟨hk.1.1, hk.2⟩, hk.1.2⟩)) hg hat)
                have n2_ := Aside0.mk (blk_grown (g := gb291) (o := .cells #[.slice A0_0 l0_0.length c0_0, .slice A0_1 l0_1.length c0_1, .int .i64 a0_2] 25 (0, 0)) (bm BK291) hg (Kd.S_ne HO_8.out BK291.out (by decide)))
                have n3_ := Aside0.mk (Kd.R_after (ok := (fun k_ => some k_ ≠ (.slice (some ad301) x5_1.length co11 : Value).ownBlock ∧ some k_ ≠ (.slice (some ad305) t295.length co19 : Value).ownBlock ∧ some k_ ≠ (.slice Ao26 y306.length co26 : Value).ownBlock)) (by (with_reducible repeat (first | apply Kd.R_alloc | apply Kd.R_drewN | apply Kd.R_drew)); exact Kd.R_mono HL301_0.out (fun _ hk => ⟨⟨hk.1.1, ⟨hk.1.2.1, hk.2⟩⟩, hk.1.2.2⟩)) hg hat)
                have n4_ := Aside0.mk (Kd.R_after (ok := (fun k_ => some k_ ≠ (.slice (some ad301) x5_1.length co11 : Value).ownBlock ∧ some k_ ≠ (.slice (some ad305) t295.length co19 : Value).ownBlock ∧ some k_ ≠ (.slice Ao26 y306.length co26 : Value).ownBlock)) (by (with_reducible repeat (first | apply Kd.R_alloc | apply Kd.R_drewN | apply Kd.R_drew)); exact Kd.R_mono HL305_0.out (fun _ hk => ⟨⟨hk.1.1, ⟨hk.1.2.1, hk.2⟩⟩, hk.1.2.2⟩)) hg hat)
                have n5_ := Aside0.mk (hb)
                have n6_ := Aside0.mk (ho)
                clear HO_5
                clear HO_7
                clear BK291
                clear HL301_0
                clear HL305_0
                clear HB
                clear HO_8
                clear HO308
                have HO_5 := n0_
                have HO_7 := n1_
                have BK291 := n2_
                have HL301_0 := n3_
                have HL305_0 := n4_
                have HB := n5_
                have HO311 := n6_
                clear n0_ n1_ n2_ n3_ n4_ n5_ n6_
                clear ho hb hg hat
                refine hK.out _ _ ?_
                clear hK K
                refine nm 45 ?_
                refine pu HT_ 14 (some 8) (bs 15 32767) ?_
                refine done_ (done_of HT_.out (by kernel_rfl)) ?_
                try go_wp2
                go_roundg k3
                case measure => have := HK1.out; have := HK2.out; have := HK3.out; omega
                case rel => exact ⟨(y309), (wrap64 (x10_3 + 1)), (by first | rfl | (simp; done) | (simp [*]; done)), H', ⟨by have := HK1.out; have := HK2.out; have := HK3.out; omega⟩, ⟨by (with_reducible repeat (first | apply Kd.S_alloc | apply Kd.S_drewN | apply Kd.S_drew)); exact Kd.S_mono HO_5.out (fun _ hk => ⟨hk.1.1, hk.2⟩)⟩, ⟨by (with_reducible repeat (first | apply Kd.S_alloc | apply Kd.S_drewN | apply Kd.S_drew)); exact Kd.S_mono HO_7.out (fun _ hk => ⟨hk.1.1, hk.2⟩)⟩, ⟨by (with_reducible repeat (first | apply Kd.S_alloc | apply Kd.S_drewN | apply Kd.S_drew)); exact HO311.out⟩, ⟨bm BK291⟩, ⟨bw1 HB GE291⟩⟩
               ·rw [if_neg c18] at H
                exact absurd H (by simp)
              ·rw [if_neg c17] at H
               exact absurd H (by simp)
             ·rw [if_neg c16] at H
              exact absurd H (by simp)
            ·rw [if_neg c15] at H
             exact absurd H (by simp)
           ·rw [if_neg c14] at H
            exact absurd H (by simp)
          ·rw [if_neg c13] at H
           exact absurd H (by simp)
         ·rw [if_neg c12] at H
          have c12b0 : decide (x10_3 < (t295.length : Int)) = false := decide_eq_false c12
          clear c12
          have H' := Aside0.mk H
          clear H
          obtain ⟨Ao27, co27, eo27⟩ := Kd.S_slice HO_7.out
          subst eo27
          go_wp2
          go_roundg k3
          case measure => have := HK1.out; have := HK2.out; have := HK3.out; omega
          case rel => exact ⟨(x8_3), (wrap64 (x9_2 + 1)), (by first | rfl | (simp; done) | (simp [*]; done)), H', ⟨by have := HK1.out; have := HK2.out; have := HK3.out; omega⟩, ⟨by (with_reducible repeat (first | apply Kd.S_alloc | apply Kd.S_drewN | apply Kd.S_drew)); exact HO_5.out⟩, ⟨by (with_reducible repeat (first | apply Kd.S_alloc | apply Kd.S_drewN | apply Kd.S_drew)); exact HO_7.out⟩, ⟨by (with_reducible repeat (first | apply Kd.S_alloc | apply Kd.S_drewN | apply Kd.S_drew)); exact HO_8.out⟩, ⟨bm BK291⟩, ⟨bw1 HB GE291⟩⟩
      ·rw [if_neg c10] at H
       have c10b0 : decide (x9_2 < (x5_1.length : Int)) = false := decide_eq_false c10
       clear c10
       have H' := Aside0.mk H
       clear H
       obtain ⟨Ao28, co28, eo28⟩ := Kd.S_slice HO_5.out
       subst eo28
       go_wp2
       go_roundg k2
       case measure => have := HK1.out; have := HK2.out; omega
       case rel => exact ⟨(x8_2), (wrap64 (x6_1 + 1)), (by first | rfl | (simp; done) | (simp [*]; done)), H', ⟨by have := HK1.out; have := HK2.out; omega⟩, ⟨by (with_reducible repeat (first | apply Kd.S_alloc | apply Kd.S_drewN | apply Kd.S_drew)); exact Kd.S_mono HO_8.out (fun _ hk => trivial)⟩, ⟨bm BK291⟩, ⟨bw1 HB GE291⟩⟩
   ·rw [if_neg c6] at H
    have c6b0 : decide (x6_1 < a1) = false := decide_eq_false c6
    clear c6
    obtain rfl := Option.some.inj H
    go_wp2
    go_ret
    exact ⟨_, by first | rfl | (simp [errW_none, errW_some] <;> rfl) | (simp [*, errW_none, errW_some] <;> rfl), by (with_reducible repeat (first | apply Kd.S_alloc | apply Kd.S_drewN | apply Kd.S_drew)); exact HO_5.out, bw1 HB GE291⟩
end Go.Proofs.YtikfghnkbgdbgaaDoor.Q
end
section
namespace Go.Proofs.YtikfghnkbgdbgaaDoor.Q
set_option linter.unusedSimpArgs false
set_option linter.unusedVariables false
open Go.RowKit Go.Proofs.YtikfghnkbgdbgaaDoorW.PrintWords Go.Proofs.YtikfghnkbgdbgaaDoorW.PrintLast Go.Proofs.YtikfghnkbgdbgaaDoorW.PrintMore
def nightRow (ms : List M) (gs : List G) (n t g : Int) (js : List Int) (q : List Wk) : List (List Wk) := (js.map (fun m => q ++ [(⟨t, g, m⟩ : Wk)])).filter (fun p => planB ms gs n p)
def nightsFrom (ms : List M) (gs : List G) (n t : Int) : Nat → Nat → List (List Wk) → List (List Wk)
  | 0, _, out => out
  | d + 1, g, out => nightsFrom ms gs n t d (g + 1) (out ++ out.reverse.flatMap (nightRow ms gs n t g (upTo ms.length)))
def nightsT (ms : List M) (gs : List G) (n t : Int) : List (List Wk) := nightsFrom ms gs n t gs.length 0 [[]]
theorem rdL_pre (a b : List (List Wk)) (i : Nat) (h : i < a.length) : rd_L5 (a ++ b) (i : Int) = rd_L5 a i := by
  simp [rd_L5, List.getD_eq_getElem?_getD, List.getElem?_append_left h]
theorem rdL_mem {a : List (List Wk)} {i : Nat} (h : i < a.length) : rd_L5 a (i : Int) ∈ a := by
  simp [rd_L5, List.getD_eq_getElem?_getD, List.getElem?_eq_getElem h]
theorem rdL_drop (a : List (List Wk)) (i : Nat) (h : i < a.length) : a.drop i = rd_L5 a i :: a.drop (i + 1) := by
  rw [List.drop_eq_getElem_cons h]; simp [rd_L5, List.getD_eq_getElem?_getD, List.getElem?_eq_getElem h]
theorem rdL_take (a : List (List Wk)) (i : Nat) (h : i < a.length) : (a.take (i + 1)).reverse = rd_L5 a i :: (a.take i).reverse := by
  rw [List.take_succ_eq_append_getElem h, List.reverse_append]; simp [rd_L5, List.getD_eq_getElem?_getD, List.getElem?_eq_getElem h]
theorem nightRow_len (ms : List M) (gs : List G) (n t g : Int) (js : List Int) (q : List Wk) : (nightRow ms gs n t g js q).length ≤ js.length := by
  unfold nightRow; refine Nat.le_trans (List.length_filter_le _ _) ?_; simp
section
variable {ms : List M} {gs : List G} {n : Int}
theorem nights_l2 (ok : okB ms gs n = true) {t : Int} (ht : -9223372036854775808 ≤ t ∧ t ≤ 9223372036854775807) (g : Nat) (out : List (List Wk)) (hq : ∀ q ∈ out, planB ms gs n q = true) (i : Nat) (hi : i < out.length) {r : List (List Wk)} (d : Nat) :
    ∀ (j : Nat) (add : List (List Wk)), ms.length - j = d → j ≤ ms.length → out.length + add.length + d ≤ 1000 →
      Ev (fun k => macadamref04_nights.l1 k t (out ++ (add ++ nightRow ms gs n t g ((upTo ms.length).drop j) (rd_L5 out i))) g (wrap64 ((i : Int) - 1)) ms gs n) r →
      Ev (fun k => macadamref04_nights.l2 k t (out ++ add) g i j ms gs n) r := by
  have hm4 := (okB_sizes ok).1.2
  have hp := hq _ (rdL_mem hi)
  have hp8 := plan_len ok hp
  induction d with
  | zero =>
    intro j add hd hj hl h
    refine Ev.step (fun k => ?_) h
    simp only [macadamref04_nights.l2]
    rw [if_neg (by omega), List.drop_of_length_le (by rw [upTo_length]; omega)]
    simp [nightRow]
  | succ d ih =>
    intro j add hd hj hl h
    have hlt : j < ms.length := by omega
    have hq2 : ∀ x ∈ rd_L5 out (i : Int) ++ [(⟨t, g, (j : Int)⟩ : Wk)], -9223372036854775808 ≤ x.f0 ∧ x.f0 ≤ 9223372036854775807 := by
      intro x hx
      rcases List.mem_append.1 hx with hx | hx
      · have := (canB_iff.1 (((planB_iff _ _ _ _).1 hp).1 x hx)).1
        have := (okB_sizes ok).2.2
        omega
      · rw [List.mem_singleton] at hx; subst hx; exact ht
    refine Ev.step (f := fun k => (macadamref04_isPlan.f k ms gs n (rd_L5 out i ++ [⟨t, g, j⟩])).bind fun b => if b = true then macadamref04_nights.l2 k t (out ++ (add ++ [rd_L5 out i ++ [⟨t, g, j⟩]])) g i ((j + 1 : Nat) : Int) ms gs n else macadamref04_nights.l2 k t (out ++ add) g i ((j + 1 : Nat) : Int) ms gs n) (fun k => ?_) ?_
    · simp only [macadamref04_nights.l2, Option.bind_some, List.nil_append, rdL_pre out add i hi, show wrap64 ((j : Int) + 1) = ((j + 1 : Nat) : Int) by unfold wrap64; omega, List.append_assoc]
      rw [if_pos (by omega), if_pos (by omega), if_pos (by rw [List.length_append]; omega), if_pos (by simp only [List.length_nil]; omega), if_pos (by omega), if_pos (by rw [List.length_append]; omega)]
    · refine Ev.bind (isPlan_ev ok _ (by simp; omega) hq2) ?_
      rw [upTo_drop (by omega)] at h
      cases hb : planB ms gs n (rd_L5 out i ++ [⟨t, g, j⟩]) with
      | true =>
        refine Ev.pos rfl (ih (j + 1) _ (by omega) (by omega) (by simp; omega) ?_)
        have e : nightRow ms gs n t g ((j : Int) :: (upTo ms.length).drop (j + 1)) (rd_L5 out i) = (rd_L5 out i ++ [⟨t, g, j⟩]) :: nightRow ms gs n t g ((upTo ms.length).drop (j + 1)) (rd_L5 out i) := by
          simp [nightRow, hb]
        rw [e] at h
        simpa using h
      | false =>
        refine Ev.neg (by simp) (ih (j + 1) _ (by omega) (by omega) (by omega) ?_)
        have e : nightRow ms gs n t g ((j : Int) :: (upTo ms.length).drop (j + 1)) (rd_L5 out i) = nightRow ms gs n t g ((upTo ms.length).drop (j + 1)) (rd_L5 out i) := by
          simp [nightRow, hb]
        rw [e] at h
        exact h
theorem nights_l1 (ok : okB ms gs n = true) {t : Int} (ht : -9223372036854775808 ≤ t ∧ t ≤ 9223372036854775807) (g : Nat) (out : List (List Wk)) (hq : ∀ q ∈ out, planB ms gs n q = true) {r : List (List Wk)} :
    ∀ (i : Nat) (add : List (List Wk)), i ≤ out.length → out.length + add.length + 4 * i ≤ 900 →
      Ev (fun k => macadamref04_nights.l0 k t (out ++ (add ++ (out.take i).reverse.flatMap (nightRow ms gs n t g (upTo ms.length)))) (wrap64 ((g : Int) + 1)) ms gs n) r →
      Ev (fun k => macadamref04_nights.l1 k t (out ++ add) g ((i : Int) - 1) ms gs n) r := by
  have hm4 := (okB_sizes ok).1.2
  intro i
  induction i with
  | zero =>
    intro add hi hl h
    refine Ev.step (fun k => ?_) h
    simp only [macadamref04_nights.l1]
    rw [if_neg (by omega)]
    simp
  | succ i ih =>
    intro add hi hl h
    have hrl := nightRow_len ms gs n t g (upTo ms.length) (rd_L5 out i)
    rw [upTo_length] at hrl
    refine Ev.step (f := fun k => macadamref04_nights.l2 k t (out ++ add) g (i : Int) ((0 : Nat) : Int) ms gs n) (fun k => ?_) (nights_l2 ok ht g out hq i (by omega) ms.length 0 add (by omega) (by omega) (by omega) ?_)
    · simp only [macadamref04_nights.l1]
      rw [if_pos (by omega)]
      congr 1
      omega
    · rw [List.drop_zero, show wrap64 ((i : Int) - 1) = (i : Int) - 1 by unfold wrap64; omega]
      refine ih _ (by omega) (by rw [List.length_append]; omega) ?_
      rw [rdL_take out i (by omega)] at h
      simpa [List.append_assoc] using h
theorem nightRow_plan {t g : Int} {js : List Int} {q p : List Wk} (h : p ∈ nightRow ms gs n t g js q) : planB ms gs n p = true := (List.mem_filter.1 h).2
theorem nights_l0 (ok : okB ms gs n = true) {t : Int} (ht : -9223372036854775808 ≤ t ∧ t ≤ 9223372036854775807) : ∀ (d g : Nat) (out : List (List Wk)), gs.length - g = d → g ≤ gs.length → out.length * 5 ^ d ≤ 100 → (∀ q ∈ out, planB ms gs n q = true) →
    Ev (fun k => macadamref04_nights.l0 k t out g ms gs n) (nightsFrom ms gs n t d g out) := by
  have hm4 := (okB_sizes ok).1.2
  have hg2 := (okB_sizes ok).2.1.2
  intro d
  induction d with
  | zero =>
    intro g out hd hg hl hq
    refine Ev.step (f := fun _ => some out) (fun k => ?_) (Ev.now _)
    simp only [macadamref04_nights.l0]
    rw [if_neg (by omega)]
  | succ d ih =>
    intro g out hd hg hl hq
    have h5 : 1 ≤ 5 ^ d := Nat.pow_pos (by omega)
    have hpow : 5 ^ (d + 1) = 5 * 5 ^ d := by rw [Nat.pow_succ, Nat.mul_comm]
    have hl1 : out.length * 5 ≤ 100 := by
      have : out.length * 5 ≤ out.length * 5 ^ (d + 1) := Nat.mul_le_mul_left _ (by omega)
      omega
    have hlen : (out.reverse.flatMap (nightRow ms gs n t g (upTo ms.length))).length ≤ out.length * 4 := by
      rw [List.length_flatMap]
      have : ∀ (l : List (List Wk)), (l.map (fun a => (nightRow ms gs n t g (upTo ms.length) a).length)).sum ≤ l.length * 4 := by
        intro l
        induction l with
        | nil => simp
        | cons a l ihl =>
          have h1 := nightRow_len ms gs n t g (upTo ms.length) a
          rw [upTo_length] at h1
          simp only [List.map_cons, List.sum_cons, List.length_cons]
          omega
      have h2 := this out.reverse
      rwa [List.length_reverse] at h2
    refine Ev.step (f := fun k => macadamref04_nights.l1 k t (out ++ []) g ((out.length : Int) - 1) ms gs n) (fun k => ?_) (nights_l1 ok ht g out hq out.length [] (by omega) (by simp; omega) ?_)
    · simp only [macadamref04_nights.l0]
      rw [if_pos (by omega), show wrap64 ((out.length : Int) - 1) = (out.length : Int) - 1 by unfold wrap64; omega]
      simp
    · rw [show wrap64 ((g : Int) + 1) = ((g + 1 : Nat) : Int) by unfold wrap64; omega, List.take_length]
      refine ih (g + 1) _ (by omega) (by omega) ?_ ?_
      · rw [List.nil_append, List.length_append]
        have : (out.length + (out.reverse.flatMap (nightRow ms gs n t g (upTo ms.length))).length) * 5 ^ d ≤ (out.length * 5) * 5 ^ d := Nat.mul_le_mul_right _ (by omega)
        rw [Nat.mul_assoc, ← hpow] at this
        omega
      · intro q hqm
        rw [List.nil_append] at hqm
        rcases List.mem_append.1 hqm with h | h
        · exact hq q h
        · obtain ⟨a, _, ha⟩ := List.mem_flatMap.1 h
          exact nightRow_plan ha
theorem nights_ev (ok : okB ms gs n = true) {t : Int} (ht : -9223372036854775808 ≤ t ∧ t ≤ 9223372036854775807) : Ev (fun k => macadamref04_nights.f k ms gs n t) (nightsT ms gs n t) := by
  have hg2 := (okB_sizes ok).2.1.2
  refine nights_l0 ok ht gs.length 0 [[]] (by omega) (by omega) ?_ (by simp [planB, planFrom])
  have : gs.length = 0 ∨ gs.length = 1 ∨ gs.length = 2 := by omega
  rcases this with h | h | h <;> simp [h]
theorem nightsFrom_len (t : Int) (hm4 : ms.length ≤ 4) : ∀ (d g : Nat) (out : List (List Wk)), (nightsFrom ms gs n t d g out).length ≤ out.length * 5 ^ d := by
  intro d
  induction d with
  | zero => intro g out; simp [nightsFrom]
  | succ d ih =>
    intro g out
    have hlen : (out.reverse.flatMap (nightRow ms gs n t g (upTo ms.length))).length ≤ out.length * 4 := by
      rw [List.length_flatMap]
      have : ∀ (l : List (List Wk)), (l.map (fun a => (nightRow ms gs n t g (upTo ms.length) a).length)).sum ≤ l.length * 4 := by
        intro l
        induction l with
        | nil => simp
        | cons a l ihl =>
          have h1 := nightRow_len ms gs n t g (upTo ms.length) a
          rw [upTo_length] at h1
          simp only [List.map_cons, List.sum_cons, List.length_cons]
          omega
      have h2 := this out.reverse
      rwa [List.length_reverse] at h2
    refine Nat.le_trans (ih (g + 1) _) ?_
    rw [List.length_append, Nat.pow_succ, Nat.mul_comm (5 ^ d) 5, ← Nat.mul_assoc]
    exact Nat.mul_le_mul_right _ (by omega)
theorem mem_nightsFrom (ok : okB ms gs n = true) {t : Int} : ∀ (d g : Nat) (out : List (List Wk)), (∀ q, q ∈ out ↔ planB ms gs n q = true ∧ ∀ x ∈ q, x.f0 = t ∧ x.f1 < (g : Int)) →
    ∀ q, q ∈ nightsFrom ms gs n t d g out ↔ planB ms gs n q = true ∧ ∀ x ∈ q, x.f0 = t ∧ x.f1 < ((g + d : Nat) : Int) := by
  intro d
  induction d with
  | zero => intro g out h q; exact h q
  | succ d ih =>
    intro g out h q
    simp only [nightsFrom]
    rw [ih (g + 1) _ ?_ q, show g + 1 + d = g + (d + 1) by omega]
    intro q
    rw [List.mem_append, h q, List.mem_flatMap]
    constructor
    · rintro (⟨h1, h2⟩ | ⟨a, ha, hr⟩)
      · exact ⟨h1, fun x hx => ⟨(h2 x hx).1, by have := (h2 x hx).2; omega⟩⟩
      · have hp := nightRow_plan hr
        rw [List.mem_reverse, h a] at ha
        obtain ⟨m, hm, rfl⟩ := List.mem_map.1 (List.mem_filter.1 hr).1
        refine ⟨hp, fun x hx => ?_⟩
        rcases List.mem_append.1 hx with hx | hx
        · exact ⟨(ha.2 x hx).1, by have := (ha.2 x hx).2; omega⟩
        · rw [List.mem_singleton] at hx; subst hx; exact ⟨rfl, by show (g : Int) < _; omega⟩
    · rintro ⟨hp, hall⟩
      rcases List.eq_nil_or_concat q with rfl | ⟨q0, x, rfl⟩
      · exact Or.inl ⟨hp, fun x hx => absurd hx List.not_mem_nil⟩
      · rw [List.concat_eq_append] at *
        obtain ⟨hc, hpw⟩ := (planB_iff _ _ _ _).1 hp
        have hx := hall x (by simp)
        have hcx := canB_iff.1 (hc x (by simp))
        have hb : ∀ y ∈ q0, behindB y x = true := fun y hy => (List.pairwise_append.1 hpw).2.2 y hy x (by simp)
        have hlt : ∀ y ∈ q0, y.f1 < x.f1 := fun y hy => by
          have h1 := behindB_iff.1 (hb y hy)
          have h2 := (hall y (by simp [hy])).1
          omega
        by_cases hg : x.f1 < (g : Int)
        · refine Or.inl ⟨hp, fun y hy => ⟨(hall y hy).1, ?_⟩⟩
          rcases List.mem_append.1 hy with hy | hy
          · have := hlt y hy; omega
          · rw [List.mem_singleton] at hy; subst hy; exact hg
        · right
          have hxg : x.f1 = (g : Int) := by have := hx.2; omega
          refine ⟨q0, List.mem_reverse.2 ((h q0).2 ⟨planB_sub hp (List.sublist_append_left _ _), fun y hy => ⟨(hall y (by simp [hy])).1, by have := hlt y hy; omega⟩⟩), ?_⟩
          refine List.mem_filter.2 ⟨List.mem_map.2 ⟨x.f2, mem_upTo.2 hcx.2.1, ?_⟩, hp⟩
          congr 1
          obtain ⟨a, b, c⟩ := x
          simp only at hx hxg
          rw [hx.1, hxg]
theorem mem_nightsT (ok : okB ms gs n = true) {t : Int} (q : List Wk) : q ∈ nightsT ms gs n t ↔ planB ms gs n q = true ∧ ∀ x ∈ q, x.f0 = t := by
  unfold nightsT
  rw [mem_nightsFrom ok gs.length 0 [[]] ?_ q]
  · constructor
    · rintro ⟨h1, h2⟩; exact ⟨h1, fun x hx => (h2 x hx).1⟩
    · rintro ⟨h1, h2⟩
      refine ⟨h1, fun x hx => ⟨h2 x hx, ?_⟩⟩
      have := (canB_iff.1 (((planB_iff _ _ _ _).1 h1).1 x hx)).2.2.2.1
      omega
  · intro q
    rw [List.mem_singleton]
    constructor
    · rintro rfl; exact ⟨rfl, fun x hx => absurd hx List.not_mem_nil⟩
    · rintro ⟨h1, h2⟩
      cases q with
      | nil => rfl
      | cons x r =>
        have h3 := (canB_iff.1 (((planB_iff _ _ _ _).1 h1).1 x (by simp))).2.2.2.1
        have h4 := (h2 x (by simp)).2
        exact absurd h4 (by simp; omega)
def plansFrom (ms : List M) (gs : List G) (n : Int) : Nat → Nat → List (List Wk) → List (List Wk)
  | 0, _, out => out
  | d + 1, t, out => plansFrom ms gs n d (t + 1) (out.flatMap (fun p => (nightsT ms gs n t).map (fun q => p ++ q)))
def plansR (ms : List M) (gs : List G) (n : Int) (many : Nat) : List (List Wk) := plansFrom ms gs n many 0 [[]]
theorem plans_l2 (ok : okB ms gs n = true) (many : Int) (out own : List (List Wk)) (hW : own.length ≤ 1000) (t : Nat) (i : Nat) (hi : i < out.length) (ho : ∀ q ∈ out, q.length ≤ 100) (hn : ∀ q ∈ own, q.length ≤ 100) {r : List (List Wk)} (d : Nat) :
    ∀ (j : Nat) (more : List (List Wk)), own.length - j = d → j ≤ own.length → more.length + d ≤ 1000000000000 →
      Ev (fun k => macadamref04_plans.l1 k many out t own (more ++ (own.drop j).map (fun q => rd_L5 out i ++ q)) (wrap64 ((i : Int) + 1)) ms gs n) r →
      Ev (fun k => macadamref04_plans.l2 k many out t own more i j ms gs n) r := by
  have hp := ho _ (rdL_mem hi)
  induction d with
  | zero =>
    intro j more hd hj hl h
    refine Ev.step (fun k => ?_) h
    simp only [macadamref04_plans.l2]
    rw [if_neg (by omega), List.drop_of_length_le (by omega)]
    simp
  | succ d ih =>
    intro j more hd hj hl h
    have hlt : j < own.length := by omega
    have hq := hn _ (rdL_mem hlt)
    refine Ev.step (fun k => ?_) (ih (j + 1) (more ++ [rd_L5 out i ++ rd_L5 own j]) (by omega) (by omega) (by simp; omega) ?_)
    · simp only [macadamref04_plans.l2, Option.bind_some, List.nil_append]
      rw [if_pos (by omega), if_pos (by omega), if_pos (by omega), if_pos (by simp only [List.length_nil]; omega), if_pos (by omega), if_pos (by omega), if_pos (by omega), show wrap64 ((j : Int) + 1) = ((j + 1 : Nat) : Int) by unfold wrap64; omega]
    · rw [rdL_drop own j hlt, List.map_cons] at h
      simpa [List.append_assoc] using h
theorem plans_l1 (ok : okB ms gs n = true) (many : Int) (out own : List (List Wk)) (t : Nat) (ho : ∀ q ∈ out, q.length ≤ 100) (hn : ∀ q ∈ own, q.length ≤ 100) (hB : out.length ≤ 1000000) (hW : own.length ≤ 1000) {r : List (List Wk)} (d : Nat) :
    ∀ (i : Nat) (more : List (List Wk)), out.length - i = d → i ≤ out.length → more.length + d * 1000 ≤ 1000000000 →
      Ev (fun k => macadamref04_plans.l0 k many (more ++ (out.drop i).flatMap (fun p => own.map (fun q => p ++ q))) (wrap64 ((t : Int) + 1)) ms gs n) r →
      Ev (fun k => macadamref04_plans.l1 k many out t own more i ms gs n) r := by
  induction d with
  | zero =>
    intro i more hd hi hl h
    refine Ev.step (fun k => ?_) h
    simp only [macadamref04_plans.l1]
    rw [if_neg (by omega), List.drop_of_length_le (by omega)]
    simp
  | succ d ih =>
    intro i more hd hi hl h
    refine Ev.step (f := fun k => macadamref04_plans.l2 k many out t own more i ((0 : Nat) : Int) ms gs n) (fun k => ?_) (plans_l2 ok many out own hW t i (by omega) ho hn own.length 0 more (by omega) (by omega) (by omega) ?_)
    · simp only [macadamref04_plans.l1]
      rw [if_pos (by omega)]
      rfl
    · rw [List.drop_zero, show wrap64 ((i : Int) + 1) = ((i + 1 : Nat) : Int) by unfold wrap64; omega]
      refine ih (i + 1) _ (by omega) (by omega) (by simp; omega) ?_
      rw [rdL_drop out i (by omega), List.flatMap_cons] at h
      simpa [List.append_assoc] using h
theorem flat_len {α β : Type} (l : List α) (f : α → List β) (c : Nat) (h : ∀ a ∈ l, (f a).length ≤ c) : (l.flatMap f).length ≤ l.length * c := by
  induction l with
  | nil => simp
  | cons a l ih =>
    rw [List.flatMap_cons, List.length_append, List.length_cons, Nat.add_mul]
    have := h a (by simp)
    have := ih (fun b hb => h b (by simp [hb]))
    omega
theorem plans_app {p q : List Wk} {t : Int} (hp : planB ms gs n p = true) (hq : planB ms gs n q = true) (h1 : ∀ x ∈ p, x.f0 < t) (h2 : ∀ x ∈ q, x.f0 = t) : planB ms gs n (p ++ q) = true := by
  obtain ⟨a1, a2⟩ := (planB_iff _ _ _ _).1 hp
  obtain ⟨b1, b2⟩ := (planB_iff _ _ _ _).1 hq
  refine (planB_iff _ _ _ _).2 ⟨fun x hx => ?_, List.pairwise_append.2 ⟨a2, b2, fun y hy x hx => behindB_iff.2 (Or.inl (by have := h1 y hy; have := h2 x hx; omega))⟩⟩
  rcases List.mem_append.1 hx with hx | hx
  · exact a1 x hx
  · exact b1 x hx
theorem nightsT_len (ok : okB ms gs n = true) (t : Int) : (nightsT ms gs n t).length ≤ 25 := by
  have hm4 := (okB_sizes ok).1.2
  have hg2 := (okB_sizes ok).2.1.2
  refine Nat.le_trans (nightsFrom_len t hm4 gs.length 0 [[]]) ?_
  have : gs.length = 0 ∨ gs.length = 1 ∨ gs.length = 2 := by omega
  rcases this with h | h | h <;> simp [h]
theorem plans_l0 (ok : okB ms gs n = true) (many : Nat) (hm : many ≤ 4) : ∀ (d t : Nat) (out : List (List Wk)), many - t = d → t ≤ many → out.length * 25 ^ d ≤ 390625 → (∀ q ∈ out, planB ms gs n q = true ∧ ∀ x ∈ q, x.f0 < (t : Int)) →
    Ev (fun k => macadamref04_plans.l0 k many out t ms gs n) (plansFrom ms gs n d t out) := by
  intro d
  induction d with
  | zero =>
    intro t out hd ht hl hq
    refine Ev.step (f := fun _ => some out) (fun k => ?_) (Ev.now _)
    simp only [macadamref04_plans.l0]
    rw [if_neg (by omega)]
  | succ d ih =>
    intro t out hd ht hl hq
    have h5 : 1 ≤ 25 ^ d := Nat.pow_pos (by omega)
    have hpow : 25 ^ (d + 1) = 25 * 25 ^ d := by rw [Nat.pow_succ, Nat.mul_comm]
    have hl1 : out.length * 25 ≤ 390625 := by
      have : out.length * 25 ≤ out.length * 25 ^ (d + 1) := Nat.mul_le_mul_left _ (by omega)
      omega
    have hN := nightsT_len ok (t : Int)
    have h8 : ∀ q, planB ms gs n q = true → q.length ≤ 100 := fun q h => by have := plan_len ok h; omega
    refine Ev.step (f := fun k => (macadamref04_nights.f k ms gs n t).bind fun own => macadamref04_plans.l1 k many out t own [] ((0 : Nat) : Int) ms gs n) (fun k => ?_) (Ev.bind (nights_ev ok (by omega)) (plans_l1 ok many out _ t (fun q h => h8 q (hq q h).1) (fun q h => h8 q ((mem_nightsT ok q).1 h).1) (by omega) (by omega) out.length 0 [] (by omega) (by omega) (by simp; omega) ?_))
    · simp only [macadamref04_plans.l0]
      rw [if_pos (by omega)]
      rfl
    · rw [List.drop_zero, List.nil_append, show wrap64 ((t : Int) + 1) = ((t + 1 : Nat) : Int) by unfold wrap64; omega]
      refine ih (t + 1) _ (by omega) (by omega) ?_ ?_
      · have := flat_len out (fun p => (nightsT ms gs n t).map (fun q => p ++ q)) 25 (fun a _ => by simpa using hN)
        have h2 : (out.flatMap (fun p => (nightsT ms gs n t).map (fun q => p ++ q))).length * 25 ^ d ≤ (out.length * 25) * 25 ^ d := Nat.mul_le_mul_right _ this
        rw [Nat.mul_assoc, ← hpow] at h2
        omega
      · intro q hqm
        obtain ⟨p, hp, hr⟩ := List.mem_flatMap.1 hqm
        obtain ⟨b, hb, rfl⟩ := List.mem_map.1 hr
        obtain ⟨hb1, hb2⟩ := (mem_nightsT ok b).1 hb
        obtain ⟨hp1, hp2⟩ := hq p hp
        refine ⟨plans_app hp1 hb1 hp2 hb2, fun x hx => ?_⟩
        rcases List.mem_append.1 hx with hx | hx
        · have := hp2 x hx; omega
        · have := hb2 x hx; omega
theorem plans_ev (ok : okB ms gs n = true) (many : Nat) (hm : many ≤ 4) : Ev (fun k => macadamref04_plans.f k ms gs n many) (plansR ms gs n many) := by
  refine plans_l0 ok many hm many 0 [[]] (by omega) (by omega) ?_ ?_
  · have : many = 0 ∨ many = 1 ∨ many = 2 ∨ many = 3 ∨ many = 4 := by omega
    rcases this with h | h | h | h | h <;> simp [h]
  · intro q hq
    rw [List.mem_singleton] at hq
    subst hq
    exact ⟨rfl, fun x hx => absurd hx List.not_mem_nil⟩
theorem night_split (t : Int) : ∀ (p : List Wk), p.Pairwise (fun y x => behindB y x = true) → p = p.filter (fun x => decide (x.f0 < t)) ++ p.filter (fun x => !decide (x.f0 < t))
  | [], _ => rfl
  | x :: r, h => by
    obtain ⟨h1, h2⟩ := List.pairwise_cons.1 h
    by_cases hx : x.f0 < t
    · have := night_split t r h2
      rw [List.filter_cons_of_pos (by simpa using hx), List.filter_cons_of_neg (by simpa using hx), List.cons_append, ← this]
    · have hall : ∀ y ∈ x :: r, ¬ y.f0 < t := by
        intro y hy
        rcases List.mem_cons.1 hy with rfl | hy
        · exact hx
        · have := behindB_iff.1 (h1 y hy); omega
      rw [List.filter_eq_nil_iff.2 (fun y hy => by simpa using hall y hy), List.nil_append, List.filter_eq_self.2 (fun y hy => by simpa using hall y hy)]
theorem mem_plansFrom (ok : okB ms gs n = true) : ∀ (d t : Nat) (out : List (List Wk)), (∀ q, q ∈ out ↔ planB ms gs n q = true ∧ ∀ x ∈ q, x.f0 < (t : Int)) →
    ∀ q, q ∈ plansFrom ms gs n d t out ↔ planB ms gs n q = true ∧ ∀ x ∈ q, x.f0 < ((t + d : Nat) : Int) := by
  intro d
  induction d with
  | zero => intro t out h q; exact h q
  | succ d ih =>
    intro t out h q
    simp only [plansFrom]
    rw [ih (t + 1) _ ?_ q, show t + 1 + d = t + (d + 1) by omega]
    intro q
    rw [List.mem_flatMap]
    constructor
    · rintro ⟨p, hp, hr⟩
      obtain ⟨b, hb, rfl⟩ := List.mem_map.1 hr
      obtain ⟨hb1, hb2⟩ := (mem_nightsT ok b).1 hb
      obtain ⟨hp1, hp2⟩ := (h p).1 hp
      refine ⟨plans_app hp1 hb1 hp2 hb2, fun x hx => ?_⟩
      rcases List.mem_append.1 hx with hx | hx
      · have := hp2 x hx; omega
      · have := hb2 x hx; omega
    · rintro ⟨hp, hall⟩
      have hs := night_split (t : Int) q ((planB_iff _ _ _ _).1 hp).2
      refine ⟨q.filter (fun x => decide (x.f0 < (t : Int))), (h _).2 ⟨planB_sub hp List.filter_sublist, fun x hx => by simpa using (List.mem_filter.1 hx).2⟩, List.mem_map.2 ⟨q.filter (fun x => !decide (x.f0 < (t : Int))), (mem_nightsT ok _).2 ⟨planB_sub hp List.filter_sublist, fun x hx => ?_⟩, hs.symm⟩⟩
      obtain ⟨h1, h2⟩ := List.mem_filter.1 hx
      have h3 := hall x h1
      have h4 : ¬ x.f0 < (t : Int) := by simpa using h2
      omega
theorem mem_plansR (ok : okB ms gs n = true) (many : Nat) (q : List Wk) : q ∈ plansR ms gs n many ↔ q ∈ plansL ms gs n many := by
  have hg := (okB_sizes ok).2.1
  rw [mem_plansL hg.1 hg.2 (by omega)]
  unfold plansR
  rw [mem_plansFrom ok many 0 [[]] ?_ q]
  · simp
  · intro q
    rw [List.mem_singleton]
    constructor
    · rintro rfl; exact ⟨rfl, fun x hx => absurd hx List.not_mem_nil⟩
    · rintro ⟨h1, h2⟩
      cases q with
      | nil => rfl
      | cons x r =>
        have h3 := (canB_iff.1 (((planB_iff _ _ _ _).1 h1).1 x (by simp))).1
        have h4 := h2 x (by simp)
        exact absurd h4 (by simp; omega)
end
end Go.Proofs.YtikfghnkbgdbgaaDoor.Q
end
section
namespace Go.Proofs.YtikfghnkbgdbgaaDoor.Q
set_option linter.unusedSimpArgs false
set_option linter.unusedVariables false
open Go.RowKit Go.Proofs.YtikfghnkbgdbgaaDoorW.PrintWords Go.Proofs.YtikfghnkbgdbgaaDoorW.PrintLast Go.Proofs.YtikfghnkbgdbgaaDoorW.PrintMore
theorem plan_f {ms : List M} {gs : List G} {n : Int} (ok : okB ms gs n = true) : (∃ p, planL ms gs n = some p ∧ gang_Plan.f ms gs n = some (p, 0)) ∨ (planL ms gs n = none ∧ gang_Plan.f ms gs n = some ([], 4)) := by
  unfold gang_Plan.f
  rw [if_pos ok]
  cases planL ms gs n with
  | some p => exact Or.inl ⟨p, rfl, rfl⟩
  | none => exact Or.inr ⟨rfl, rfl⟩
theorem plan_bad {ms : List M} {gs : List G} {n : Int} (ok : ¬ okB ms gs n = true) : gang_Plan.f ms gs n = some ([], 40) := by
  unfold gang_Plan.f; rw [if_neg ok]
theorem same_ev (p : List Wk) (hp : p.length ≤ 9223372036854775807) : Ev (fun k => macadamlaw04_same.f k p p) true := by
  have h : ∀ d i, p.length - i = d → i ≤ p.length → Ev (fun k => macadamlaw04_same.l0 k p p (i : Nat)) true := by
    intro d
    induction d with
    | zero => intro i hd hi; exact Ev.step (f := fun _ => some true) (fun k => by simp only [macadamlaw04_same.l0]; rw [if_neg (by omega)]) (Ev.now _)
    | succ d ih =>
      intro i hd hi
      exact Ev.step (f := fun k => macadamlaw04_same.l0 k p p ((i + 1 : Nat) : Int)) (fun k => by
        simp only [macadamlaw04_same.l0]
        rw [if_pos (by omega), if_pos (by omega), if_pos (by omega), if_neg (by simp), show wrap64 ((i : Int) + 1) = ((i + 1 : Nat) : Int) by unfold wrap64; omega]) (ih (i + 1) (by omega) (by omega))
  unfold macadamlaw04_same.f
  exact Ev.pos rfl (h p.length 0 (by omega) (by omega))
theorem sooner_l (l m : List Int) (hl : l.length ≤ 9223372036854775807) (hm : m.length ≤ 9223372036854775807) (d : Nat) : ∀ (i : Nat), l.length - i = d → i ≤ l.length → i ≤ m.length → l.take i = m.take i → Ev (fun k => macadamref00_Sooner.l0 k l m i) (decide (cmpIL (l.drop i) (m.drop i) < 0)) := by
  induction d with
  | zero =>
    intro i hd hi hi2 he
    have e : i = l.length := by omega
    subst e
    rw [List.drop_of_length_le (Nat.le_refl _)]
    refine Ev.step (f := fun k => macadamref00_Sooner.j1 k l m l.length false) (fun k => by simp only [macadamref00_Sooner.l0]; rw [if_neg (by omega)]) ?_
    refine Ev.step (f := fun _ => some (decide ((l.length : Int) < (m.length : Int)))) (fun k => by simp only [macadamref00_Sooner.j1]; rw [if_neg (by simp)]) (Ev.some ?_)
    congr 1
    rw [decide_eq_decide]
    cases hdm : m.drop l.length with
    | nil => rw [List.drop_eq_nil_iff] at hdm; simp [cmpIL]; omega
    | cons y r =>
      have : (m.drop l.length).length = r.length + 1 := by rw [hdm]; rfl
      rw [List.length_drop] at this
      simp [cmpIL]; omega
  | succ d ih =>
    intro i hd hi hi2 he
    have hlt : i < l.length := by omega
    have hw : wrap64 ((i : Int) + 1) = ((i + 1 : Nat) : Int) := by unfold wrap64; omega
    rw [rd_drop_I l i hlt]
    by_cases hm2 : i < m.length
    · rw [rd_drop_I m i hm2]
      refine Ev.step (f := fun k => macadamref00_Sooner.j1 k l m i true) (fun k => by simp only [macadamref00_Sooner.l0]; rw [if_pos (by omega), show decide ((i : Int) < (m.length : Int)) = true by simp; omega]) ?_
      refine Ev.step (f := fun k => if rd l i = rd m i then macadamref00_Sooner.l0 k l m ((i + 1 : Nat) : Int) else some (decide (rd l i < rd m i))) (fun k => by simp only [macadamref00_Sooner.j1]; rw [if_pos trivial, if_pos (by omega), if_pos (by omega), if_pos (by omega), hw]) ?_
      have hcc := @cmpIL_cons_lt (rd l i) (rd m i) (l.drop (i + 1)) (m.drop (i + 1))
      by_cases h : rd l i = rd m i
      · have hI := ih (i + 1) (by omega) (by omega) (by omega) (by
          rw [List.take_succ_eq_append_getElem hlt, List.take_succ_eq_append_getElem hm2, he]
          congr 2
          have h' := h
          unfold rd at h'
          rw [List.getD_eq_getElem?_getD, List.getD_eq_getElem?_getD] at h'
          simpa [List.getElem?_eq_getElem hlt, List.getElem?_eq_getElem hm2] using h')
        have e : decide (cmpIL (rd l i :: l.drop (i + 1)) (rd m i :: m.drop (i + 1)) < 0) = decide (cmpIL (l.drop (i + 1)) (m.drop (i + 1)) < 0) := by
          rw [decide_eq_decide, hcc]; simp [h]
        rw [e]
        exact Ev.pos h hI
      · have e : decide (cmpIL (rd l i :: l.drop (i + 1)) (rd m i :: m.drop (i + 1)) < 0) = decide (rd l i < rd m i) := by
          rw [decide_eq_decide, hcc]; simp [h]
        rw [e]
        exact Ev.neg h (Ev.now _)
    · have e : i = m.length := by omega
      rw [List.drop_of_length_le (l := m) (by omega)]
      refine Ev.step (f := fun k => macadamref00_Sooner.j1 k l m i false) (fun k => by simp only [macadamref00_Sooner.l0]; rw [if_pos (by omega), show decide ((i : Int) < (m.length : Int)) = false by simp; omega]) ?_
      refine Ev.step (f := fun _ => some (decide ((l.length : Int) < (m.length : Int)))) (fun k => by simp only [macadamref00_Sooner.j1]; rw [if_neg (by simp)]) (Ev.some ?_)
      congr 1
      rw [decide_eq_decide]
      simp [cmpIL]; omega
theorem sooner_ev (l m : List Int) (hl : l.length ≤ 9223372036854775807) (hm : m.length ≤ 9223372036854775807) : Ev (fun k => macadamref00_Sooner.f k l m) (decide (cmpIL l m < 0)) := by
  have := sooner_l l m hl hm l.length 0 (by omega) (by omega) (by omega) (by simp)
  rw [List.drop_zero, List.drop_zero] at this
  exact this
end Go.Proofs.YtikfghnkbgdbgaaDoor.Q
end
section
namespace Go.Proofs.YtikfghnkbgdbgaaDoor.Q
open Go.RowKit Go.Proofs.YtikfghnkbgdbgaaDoorW.PrintWords Go.Proofs.YtikfghnkbgdbgaaDoorW.PrintLast Go.Proofs.YtikfghnkbgdbgaaDoorW.PrintMore
attribute [local go_sem] max2_int min2_int max_two min_two max_three min_three max_four min_four   -- for this text's walks alone
set_option linter.unusedVariables false
set_option linter.unusedSimpArgs false
def macadamref04_Most.l0 : Nat → List (List (S59)) → List Int → Int → List (S66) → List (S63) → Int → Option (List Int × Int)
 | 0, _, _, _, _, _, _ => none
 | k + 1, x5, x6, x7, x337000, x337001, x337002 => if x7 < (x5.length : Int) then (if 0 ≤ x7 then ((macadamref04_mended.f k x337000 x337001 x337002 (rd_L5 x5 x7)).bind fun t345 => ((macadamref00_All.f k t345 4).bind fun t346 => (if (t346.length : Int) > (x6.length : Int) then (macadamref04_Most.l0 k x5 t346 (wrap64 (x7 + 1)) x337000 x337001 x337002) else (if (t346.length : Int) = (x6.length : Int) then ((macadamref00_Sooner.f k t346 x6).bind fun t349 => (if t349 = true then (macadamref04_Most.l0 k x5 t346 (wrap64 (x7 + 1)) x337000 x337001 x337002) else (macadamref04_Most.l0 k x5 x6 (wrap64 (x7 + 1)) x337000 x337001 x337002))) else (macadamref04_Most.l0 k x5 x6 (wrap64 (x7 + 1)) x337000 x337001 x337002))))) else (none)) else (some (x6, 0))
def macadamref04_Most.f (k : Nat) (l0_0 : List (S66)) (l0_1 : List (S63)) (a0_2 : Int) : Option (List Int × Int) := (macadamref04_Check.f k l0_0 l0_1 a0_2).bind fun t337 => (if t337 = 0 then ((macadamref04_plans.f k l0_0 l0_1 a0_2 a0_2).bind fun t338 => (macadamref04_Most.l0 k t338 (([] : List Int)) 0 l0_0 l0_1 a0_2)) else (some (([] : List Int), t337)))
def macadamref04_Most.T8 : Bool × List (List Nat × List Nat) := (true, [([], []), ([], []), ([], []), ([1, 2], [1, 2]), ([3], [3]), ([0, 4], [0, 4]), ([5, 5], [5]), ([6, 6, 0, 1, 2, 3, 4, 5, 6], [6])])
def macadamref04_Most.B8 : List Nat := [0, 0, 0, 6, 14, 31, 63, 127]
theorem macadamref04_Most.tab8 : rtab .any (opsOf Tryd.f35 8) = macadamref04_Most.T8 := by kernel_rfl
theorem macadamref04_Most.bits8 : waitsOk macadamref04_Most.T8.2 macadamref04_Most.B8 = true := by kernel_rfl
set_option maxHeartbeats 8000000 in
set_option maxRecDepth 100000 in
theorem macadamref04_Most.calls (k : Nat) (A0_0 : Option Addr) (c0_0 : Nat) (l0_0 : List (S66)) (A0_1 : Option Addr) (c0_1 : Nat) (l0_1 : List (S63)) (a0_2 : Int) (r1 : List Int) (r2 : Int) (w : World) (hr0_0 : Kd.C k66 w A0_0 l0_0.length l0_0) (hc0_0 : l0_0.length ≤ c0_0) (hr0_1 : Kd.C k63 w A0_1 l0_1.length l0_1) (hc0_1 : l0_1.length ≤ c0_1) (h : macadamref04_Most.f k l0_0 l0_1 a0_2 = some (r1, r2)) :
  Calls Tryd.prog 35 #[.agg #[.slice A0_0 l0_0.length c0_0, .slice A0_1 l0_1.length c0_1, .int .i64 a0_2]] w fun e w' => ∃ v0_ : Value, e = .returned (.tuple #[v0_, .int .i64 r2]) ∧ Kd.R (Kd.int .i64) 3 w' w.heap.size (fun _ => True) v0_ r1 ∧ Below w.heap.size w w' := by
 have hu25 := Tryd.underlying25
 have HR0_0 := Aside0.mk hr0_0
 have HC0_0 := Aside0.mk hc0_0
 clear hr0_0 hc0_0
 have HR0_1 := Aside0.mk hr0_1
 have HC0_1 := Aside0.mk hc0_1
 clear hr0_1 hc0_1
 have HB := Aside0.mk (Below.refl w.heap.size w)
 have H : ((macadamref04_Check.f k l0_0 l0_1 a0_2).bind fun t337 => (if t337 = 0 then ((macadamref04_plans.f k l0_0 l0_1 a0_2 a0_2).bind fun t338 => (macadamref04_Most.l0 k t338 (([] : List Int)) 0 l0_0 l0_1 a0_2)) else (some (([] : List Int), t337)))) = some (r1, r2) := h
 clear h
 replace H := Option.bind_eq_some_iff.mp H
 obtain ⟨t337, A20, H⟩ := H
 replace H : (if t337 = 0 then ((macadamref04_plans.f k l0_0 l0_1 a0_2 a0_2).bind fun t338 => (macadamref04_Most.l0 k t338 (([] : List Int)) 0 l0_0 l0_1 a0_2)) else (some (([] : List Int), t337))) = some (r1, r2) := H
 have A2 := Aside0.mk A20
 clear A20
 by_cases c3 : t337 = 0
 ·rw [if_pos c3] at H
  have c3b0 : (t337 == 0) = true := beq_iff_eq.mpr c3
  have c3b1 : (t337 != 0) = false := bne_eq_false_iff_eq.mpr c3
  clear c3
  replace H := Option.bind_eq_some_iff.mp H
  obtain ⟨t338, A40, H⟩ := H
  replace H : (macadamref04_Most.l0 k t338 (([] : List Int)) 0 l0_0 l0_1 a0_2) = some (r1, r2) := H
  have A4 := Aside0.mk A40
  clear A40
  obtain ⟨y341, hy341⟩ : ∃ y_ : List Int, y_ = (([] : List Int)) := ⟨_, rfl⟩
  replace H : (macadamref04_Most.l0 k t338 y341 0 l0_0 l0_1 a0_2) = some (r1, r2) := by first | (rw [hy341]; with_reducible exact H) | (have H2_ := (Option.bind_some _ _).symm.trans H; rw [hy341]; with_reducible exact H2_) | (have H2_ := (Option.bind_some _ _).symm.trans H; with_reducible exact H2_) | with_reducible exact H | (rw [hy341]; exact H) | exact H
  have Ny341 := Aside0.mk hy341
  clear hy341
  have H' := Aside0.mk H
  clear H
  go_enter Tryd.func35, Tryd.ntmps35
  go_wp2_with (first | ((with_reducible refine gate_dst (N := 1) rfl ?_); (try (refine gate_guard (by rfl) ?_; dsimp only)); refine bx 1 #[.slice A0_0 l0_0.length c0_0, .slice A0_1 l0_1.length c0_1, .int .i64 a0_2] 25 ?_; intro gb336 hg w5 hbox hb; have n0_ := Aside0.mk (below_step (bw HB) hb); have n1_ := Aside0.mk (hbox); have n2_ := Aside0.mk (bz (bw HB) hg); have n3_ := Aside0.mk (bz (bw HB) hg); clear HB; have HB := n0_; have BK336 := n1_; have GW336 := n2_; have GE336 := n3_; clear n0_ n1_ n2_ n3_; clear hb hbox hg; obtain ⟨hcz6_0, hcz6_1, hcz6_2, hfz6_0, hfz6_1, hfz6_2⟩ := b3 BK336) | ((with_reducible refine gate_callee (f := 19) rfl ?_); refine gL (some 10) Tryd.func19 #[.agg #[.slice A0_0 l0_0.length c0_0, .slice A0_1 l0_1.length c0_1, .int .i64 a0_2]] ?_; (with_reducible refine (macadamref04_Check.calls k _ _ l0_0 _ _ l0_1 a0_2 t337 _ ?side1 ?side2 ?side3 ?side4 A2.out).mono ?_); (case side1 => repeat (first | exact (Kd.C_below HR0_0.out HB.out) | (with_reducible refine Kd.C_alloc ?_ _) | (with_reducible refine Kd.C_drewN ?_ _) | (with_reducible refine Kd.C_drew ?_))); (case side2 => exact HC0_0.out); (case side3 => repeat (first | exact (Kd.C_below HR0_1.out HB.out) | (with_reducible refine Kd.C_alloc ?_ _) | (with_reducible refine Kd.C_drewN ?_ _) | (with_reducible refine Kd.C_drew ?_))); (case side4 => exact HC0_1.out); rintro e w7 ⟨rfl, hb⟩; refine ⟨_, rfl, ?_⟩; have n0_ := Aside0.mk (blk_below (bm BK336) hb); have n1_ := Aside0.mk (below_step (bw1 HB GE336) hb); clear BK336; clear HB; have BK336 := n0_; have HB := n1_; clear n0_ n1_; (try clear hb); (try clear hb2); (try clear hk); (try clear hi); obtain ⟨hcz8_0, hcz8_1, hcz8_2, hfz8_0, hfz8_1, hfz8_2⟩ := b3 BK336) | ((with_reducible refine gate_callee (f := 82) rfl ?_); refine gL (some 17) Tryd.func82 #[.agg #[.slice A0_0 l0_0.length c0_0, .slice A0_1 l0_1.length c0_1, .int .i64 a0_2], .int .i64 a0_2] ?_; (with_reducible refine (macadamref04_plans.calls k _ _ l0_0 _ _ l0_1 a0_2 a0_2 t338 _ ?side1 ?side2 ?side3 ?side4 A4.out).mono ?_); (case side1 => repeat (first | exact (Kd.C_below HR0_0.out HB.out) | (with_reducible refine Kd.C_alloc ?_ _) | (with_reducible refine Kd.C_drewN ?_ _) | (with_reducible refine Kd.C_drew ?_))); (case side2 => exact HC0_0.out); (case side3 => repeat (first | exact (Kd.C_below HR0_1.out HB.out) | (with_reducible refine Kd.C_alloc ?_ _) | (with_reducible refine Kd.C_drewN ?_ _) | (with_reducible refine Kd.C_drew ?_))); (case side4 => exact HC0_1.out); rintro e w9 ⟨v339, rfl, ho0, hb⟩; refine ⟨_, rfl, ?_⟩; have n0_ := Aside0.mk (Kd.S_lower ho0 (below_size (bw1 HB GE336))); have n1_ := Aside0.mk (blk_below (bm BK336) hb); have n2_ := Aside0.mk (below_step (bw1 HB GE336) hb); clear BK336; clear HB; have HO340 := n0_; have BK336 := n1_; have HB := n2_; clear n0_ n1_ n2_; (try clear hb); (try clear hb2); (try clear hk); (try clear hi); (try clear ho0)) | ((with_reducible refine gate_dst (N := 18) rfl ?_); (try (refine gate_guard (by rfl) ?_; dsimp only)); refine Kd.R_lit (Kd.int .i64) _ 3 ?hg (N := 18) ?hd (xs := ([] : List Int)) (inner := []) (ok := fun _ => True) (okp := fun _ => True) ?hr ?hp (fun _ hk => hk) trivial (Below.refl _ _) (Nat.le_refl _) (by simp) ?_; (case hd => rfl); (case hg => rfl); (case hr => first | (go_simp; done) | (go_simp; rfl)); (case hp => exact (Reps.none _ _)); intro v342 w10 ho11 hb hg_ hnew_; clear hg_ hnew_; (first | rw [← Ny341.out] at ho11 | (simp only [Int.reduceToNat] at ho11; rw [← Ny341.out] at ho11)); have n0_ := Aside0.mk (Kd.S_below (by (with_reducible repeat (first | apply Kd.S_alloc | apply Kd.S_drewN | apply Kd.S_drew)); exact HO340.out) hb); have n1_ := Aside0.mk (Kd.R_lower ho11 (below_size (bw1 HB GE336))); have n2_ := Aside0.mk (blk_below (bm BK336) hb); have n3_ := Aside0.mk (below_step (bw1 HB GE336) hb); clear HO340; clear BK336; clear HB; have HO340 := n0_; have HO343 := n1_; have BK336 := n2_; have HB := n3_; clear n0_ n1_ n2_ n3_; clear hb ho11))
  go_loopg [6, 7] k (fun kq v6 v7 w' => ∃ (x6_1 : List Int) (x7_1 : Int), v7 = .int .i64 x7_1 ∧ Aside0 (macadamref04_Most.l0 kq t338 x6_1 x7_1 l0_0 l0_1 a0_2 = some (r1, r2)) ∧ Aside0 (kq ≤ k) ∧ Aside0 (Kd.S (Kd.slice 59 k59) 26 w' w.heap.size (fun _ => True) v339 t338) ∧ Aside0 (Kd.R (Kd.int .i64) 3 w' w.heap.size (fun _ => True) v6 x6_1) ∧ Aside0 (w'.heap[gb336]? = some (.cells #[(.slice A0_0 l0_0.length c0_0), (.slice A0_1 l0_1.length c0_1), .int .i64 a0_2] 25 (0, 0))) ∧ Aside0 (Below w.heap.size w w'))
  case atStart => exact ⟨(y341), (0), (by first | rfl | (simp; done) | (simp [*]; done)), H', ⟨Nat.le_refl _⟩, ⟨by (with_reducible repeat (first | apply Kd.S_alloc | apply Kd.S_drewN | apply Kd.S_drew)); exact HO340.out⟩, ⟨by (with_reducible repeat (first | apply Kd.R_alloc | apply Kd.R_drewN | apply Kd.R_drew)); exact HO343.out⟩, ⟨bm BK336⟩, ⟨bw1 HB GE336⟩⟩
  case round =>
   clear H'
   try clear c1
   try clear p2
   try clear c3
   try clear c3b0
   try clear c3b1
   try clear c8
   try clear hcz6_0
   try clear hcz6_1
   try clear hcz6_2
   try clear hcz8_0
   try clear hcz8_1
   try clear hcz8_2
   try clear hfz6_0
   try clear hfz6_1
   try clear hfz6_2
   try clear hfz8_0
   try clear hfz8_1
   try clear hfz8_2
   obtain ⟨x6_1, x7_1, rfl, HA, HK1, HO_5, HO_6, BK336, HB⟩ := hrel
   cases gk with
   | zero => exact absurd HA.out (by simp [macadamref04_Most.l0])
   | succ k1 =>
    have H := HA.out
    clear HA
    simp only [macadamref04_Most.l0] at H
    by_cases c12 : x7_1 < (t338.length : Int)
    ·rw [if_pos c12] at H
     have c12b0 : decide (x7_1 < (t338.length : Int)) = true := decide_eq_true c12
     clear c12
     by_cases c13 : 0 ≤ x7_1
     ·rw [if_pos c13] at H
      have c13b0 : decide (0 ≤ x7_1) = true := decide_eq_true c13
      clear c13
      replace H := Option.bind_eq_some_iff.mp H
      obtain ⟨t345, A140, H⟩ := H
      replace H : ((macadamref00_All.f k1 t345 4).bind fun t346 => (if (t346.length : Int) > (x6_1.length : Int) then (macadamref04_Most.l0 k1 t338 t346 (wrap64 (x7_1 + 1)) l0_0 l0_1 a0_2) else (if (t346.length : Int) = (x6_1.length : Int) then ((macadamref00_Sooner.f k1 t346 x6_1).bind fun t349 => (if t349 = true then (macadamref04_Most.l0 k1 t338 t346 (wrap64 (x7_1 + 1)) l0_0 l0_1 a0_2) else (macadamref04_Most.l0 k1 t338 x6_1 (wrap64 (x7_1 + 1)) l0_0 l0_1 a0_2))) else (macadamref04_Most.l0 k1 t338 x6_1 (wrap64 (x7_1 + 1)) l0_0 l0_1 a0_2)))) = some (r1, r2) := H
      have A14 := Aside0.mk A140
      clear A140
      replace H := Option.bind_eq_some_iff.mp H
      obtain ⟨t346, A150, H⟩ := H
      replace H : (if (t346.length : Int) > (x6_1.length : Int) then (macadamref04_Most.l0 k1 t338 t346 (wrap64 (x7_1 + 1)) l0_0 l0_1 a0_2) else (if (t346.length : Int) = (x6_1.length : Int) then ((macadamref00_Sooner.f k1 t346 x6_1).bind fun t349 => (if t349 = true then (macadamref04_Most.l0 k1 t338 t346 (wrap64 (x7_1 + 1)) l0_0 l0_1 a0_2) else (macadamref04_Most.l0 k1 t338 x6_1 (wrap64 (x7_1 + 1)) l0_0 l0_1 a0_2))) else (macadamref04_Most.l0 k1 t338 x6_1 (wrap64 (x7_1 + 1)) l0_0 l0_1 a0_2))) = some (r1, r2) := H
      have A15 := Aside0.mk A150
      clear A150
      by_cases c16 : (t346.length : Int) > (x6_1.length : Int)
      ·rw [if_pos c16] at H
       have c16b0 : decide ((x6_1.length : Int) < (t346.length : Int)) = true := decide_eq_true c16
       have c16b1 : decide (x6_1.length < t346.length) = true := decide_eq_true (Int.ofNat_lt.mp c16)
       clear c16
       have H' := Aside0.mk H
       clear H
       obtain ⟨Ao17, co17, eo17⟩ := Kd.S_slice HO_5.out
       subst eo17
       try go_wp2
       have n0_ := Aside0.mk (Kd.S_drew HO_5.out)
       have n1_ := Aside0.mk (Kd.R_drew HO_6.out)
       have n2_ := Aside0.mk (blk_drew BK336.out)
       have n3_ := Aside0.mk (below_drew1 HB.out)
       clear HO_5
       clear HO_6
       clear BK336
       clear HB
       have HO_5 := n0_
       have HO_6 := n1_
       have BK336 := n2_
       have HB := n3_
       clear n0_ n1_ n2_ n3_
       have p344 : 0 ≤ (x7_1 : Int) := of_decide_eq_true (by first | (with_reducible assumption) | assumption)
       have q344 : x7_1 < (t338.length : Int) := of_decide_eq_true (by first | (with_reducible assumption) | assumption)
       obtain ⟨ad344, A344_0, c344_0, e344, hx344_0, hl344_0, hi344_0⟩ := at_L5 (Kd.S_reads' HO_5.out).2.2 x7_1 p344 q344
       cases e344
       obtain ⟨ce344, hce344, hMe344, hcc344⟩ := Kd.S_get HO_5.out [] x7_1 p344 (by first | exact q344 | exact of_decide_eq_true (by first | (with_reducible assumption) | assumption) | (have e_ := (Kd.S_reads' HO_5.out).1; omega))
       obtain ⟨ve344_0, rfl, ge344_0⟩ := hMe344
       have hv344_0 := hcc344 0 _ rfl
       rw [Nat.add_zero, show ((Kd.slice 59 k59)).sz = 1 from rfl, Nat.mul_one] at hv344_0
       replace hv344_0 := Option.some.inj (hv344_0.symm.trans hx344_0)
       rw [hv344_0] at ge344_0
       have HL344_0 := Aside0.mk (show Kd.R k59 59 _ _ _ _ (rd_L5 t338 x7_1) from ge344_0)
       clear hv344_0 ge344_0
       clear hcc344 hce344
       have HR344_0 := Aside0.mk hi344_0
       have HC344_0 := Aside0.mk hl344_0
       clear hi344_0 hl344_0
       replace p344 := eq_true p344
       replace q344 := eq_true q344
       refine start_ (n := 8) (S := fun w' => w'.cell? ⟨gb336, 0, none⟩ = some (.slice A0_0 l0_0.length c0_0) ∧ w'.cell? ⟨gb336, 1, none⟩ = some (.slice A0_1 l0_1.length c0_1) ∧ w'.cell? ⟨gb336, 2, none⟩ = some (.int .i64 a0_2) ∧ w'.cell? (ad344.add (x7_1).toNat) = some (.slice A344_0 (rd_L5 t338 x7_1).length c344_0)) (ds := []) (bs 8 0) (by kernel_rfl) rfl rfl ⟨(blk_cell BK336.out 0).trans rfl, (blk_cell BK336.out 1).trans rfl, (blk_cell BK336.out 2).trans rfl, hx344_0⟩ (fun hHeld => ?_); refine with_tabW macadamref04_Most.tab8 macadamref04_Most.bits8 (fun HT_ HW_ => ?_)
       generalize wr.drew = w18 at HO_5 HO_6 BK336 HB HL344_0 HR344_0 hx344_0 hHeld ⊢
       refine pu HT_ 1 (some 26) (bs 8 2) ?_
       refine pu HT_ 2 (some 27) (bs 8 6) ?_
       refine pu HT_ 3 (some 28) (bs 8 14) ?_
       refine tk4 HT_ HW_ hHeld 0 (some 25) (bs 8 15) ?_
       refine tk4 HT_ HW_ hHeld 4 (some 29) (bs 8 31) ?_
       refine on HT_ 5 (some 30) (bs 8 63) (fun K hK => ?_)
       refine goes_ Tryd.func78 (by kernel_rfl) rfl #[.agg #[.slice A0_0 l0_0.length c0_0, .slice A0_1 l0_1.length c0_1, .int .i64 a0_2], .slice A344_0 (rd_L5 t338 x7_1).length c344_0] (by rfl) rfl rfl (by (try simp only [List.map_toArray, List.map_cons, List.map_nil]); first | done | rfl | (simp only [List.length_drop, List.length_take]; rfl)) ?_
       with_reducible refine (macadamref04_mended.calls k1 _ _ l0_0 _ _ l0_1 a0_2 _ _ (rd_L5 t338 x7_1) t345 _ ?side1 ?side2 ?side3 ?side4 ?side5 ?side6 A14.out).mono ?_
       (case side1 => repeat (first | exact (Kd.C_below HR0_0.out HB.out) | (with_reducible refine Kd.C_alloc ?_ _) | (with_reducible refine Kd.C_drewN ?_ _) | (with_reducible refine Kd.C_drew ?_)))
       (case side2 => exact HC0_0.out)
       (case side3 => repeat (first | exact (Kd.C_below HR0_1.out HB.out) | (with_reducible refine Kd.C_alloc ?_ _) | (with_reducible refine Kd.C_drewN ?_ _) | (with_reducible refine Kd.C_drew ?_)))
       (case side4 => exact HC0_1.out)
       (case side5 => repeat (first | exact (by repeat (first | (with_reducible exact HR344_0.out) | (with_reducible refine Kd.C_alloc ?_ _) | (with_reducible refine Kd.C_drewN ?_ _) | (with_reducible refine Kd.C_drew ?_) | exact HR344_0.out)) | (with_reducible refine Kd.C_alloc ?_ _) | (with_reducible refine Kd.C_drewN ?_ _) | (with_reducible refine Kd.C_drew ?_)))
       (case side6 => exact HC344_0.out)
       rintro e w19 ⟨rfl, hb⟩
       have HS3_ := (hb.cell (World.block_lt_of_cell? _ _ (hHeld.2.2.2))).trans (hHeld.2.2.2)
       refine ⟨_, rfl, ?_⟩
       have n0_ := Aside0.mk (Kd.S_below (by (with_reducible repeat (first | apply Kd.S_alloc | apply Kd.S_drewN | apply Kd.S_drew)); exact HO_5.out) hb)
       have n1_ := Aside0.mk (Kd.R_below (by (with_reducible repeat (first | apply Kd.R_alloc | apply Kd.R_drewN | apply Kd.R_drew)); exact HO_6.out) hb)
       have n2_ := Aside0.mk (Kd.R_below (by (with_reducible repeat (first | apply Kd.R_alloc | apply Kd.R_drewN | apply Kd.R_drew)); exact HL344_0.out) hb)
       have n3_ := Aside0.mk (blk_below (bm BK336) hb)
       have n4_ := Aside0.mk (Kd.C_below (by repeat (first | (with_reducible exact HR344_0.out) | (with_reducible refine Kd.C_alloc ?_ _) | (with_reducible refine Kd.C_drewN ?_ _) | (with_reducible refine Kd.C_drew ?_) | exact HR344_0.out)) hb)
       have n5_ := Aside0.mk (below_step (bw1 HB GE336) hb)
       clear HO_5
       clear HO_6
       clear HL344_0
       clear BK336
       clear HR344_0
       clear HB
       have HO_5 := n0_
       have HO_6 := n1_
       have HL344_0 := n2_
       have BK336 := n3_
       have HR344_0 := n4_
       have HB := n5_
       clear n0_ n1_ n2_ n3_ n4_ n5_
       (try clear hb)
       (try clear hb2)
       (try clear hk)
       (try clear hi)
       refine hK.out _ _ ⟨(blk_cell BK336.out 0).trans rfl, (blk_cell BK336.out 1).trans rfl, (blk_cell BK336.out 2).trans rfl, HS3_⟩ (fun hHeld => ?_)
       clear hK K
       refine nm 30 ?_
       refine on HT_ 6 (some 31) (bs 8 127) (fun K hK => ?_)
       refine goes_ Tryd.func73 (by kernel_rfl) rfl #[.int .i64 t345, .int .i64 4] (by rfl) rfl rfl (by (try simp only [List.map_toArray, List.map_cons, List.map_nil]); first | done | rfl | (simp only [List.length_drop, List.length_take]; rfl)) ?_
       with_reducible refine (macadamref00_All.calls k1 t345 4 t346 _ A15.out).mono ?_
       rintro e w20 ⟨v347, rfl, ho0, hb⟩
       have HS3_ := (hb.cell (World.block_lt_of_cell? _ _ (hHeld.2.2.2))).trans (hHeld.2.2.2)
       refine ⟨_, rfl, ?_⟩
       have n0_ := Aside0.mk (Kd.S_below (by (with_reducible repeat (first | apply Kd.S_alloc | apply Kd.S_drewN | apply Kd.S_drew)); exact HO_5.out) hb)
       have n1_ := Aside0.mk (Kd.R_elder' (by (with_reducible repeat (first | apply Kd.R_alloc | apply Kd.R_drewN | apply Kd.R_drew)); exact HO_6.out) (Kd.R_base ho0) hb)
       have n2_ := Aside0.mk (Kd.R_below (by (with_reducible repeat (first | apply Kd.R_alloc | apply Kd.R_drewN | apply Kd.R_drew)); exact HL344_0.out) hb)
       have n3_ := Aside0.mk (Kd.R_lower (Kd.R_new' ho0 (Kd.R_lt (by (with_reducible repeat (first | apply Kd.R_alloc | apply Kd.R_drewN | apply Kd.R_drew)); exact HO_6.out))) (below_size (bw1 HB GE336)))
       have n4_ := Aside0.mk (blk_below (bm BK336) hb)
       have n5_ := Aside0.mk (Kd.C_below (by repeat (first | (with_reducible exact HR344_0.out) | (with_reducible refine Kd.C_alloc ?_ _) | (with_reducible refine Kd.C_drewN ?_ _) | (with_reducible refine Kd.C_drew ?_) | exact HR344_0.out)) hb)
       have n6_ := Aside0.mk (below_step (bw1 HB GE336) hb)
       clear HO_5
       clear HO_6
       clear HL344_0
       clear BK336
       clear HR344_0
       clear HB
       have HO_5 := n0_
       have HO_6 := n1_
       have HL344_0 := n2_
       have HO348 := n3_
       have BK336 := n4_
       have HR344_0 := n5_
       have HB := n6_
       clear n0_ n1_ n2_ n3_ n4_ n5_ n6_
       (try clear hb)
       (try clear hb2)
       (try clear hk)
       (try clear hi)
       (try clear ho0)
       refine hK.out _ _ ⟨(blk_cell BK336.out 0).trans rfl, (blk_cell BK336.out 1).trans rfl, (blk_cell BK336.out 2).trans rfl, HS3_⟩ (fun hHeld => ?_)
       clear hK K
       refine nm 31 ?_
       refine pu HT_ 7 (some 8) (bs 8 255) ?_
       refine done_ (done_of HT_.out (by kernel_rfl)) ?_
       obtain ⟨Ao21, co21, eo21⟩ := Kd.R_slice HO348.out
       subst eo21
       obtain ⟨Ao22, co22, eo22⟩ := Kd.R_slice HO_6.out
       subst eo22
       try go_wp2
       go_roundg k1
       case measure => have := HK1.out; omega
       case rel => exact ⟨(t346), (wrap64 (x7_1 + 1)), (by first | rfl | (simp; done) | (simp [*]; done)), H', ⟨by have := HK1.out; omega⟩, ⟨by (with_reducible repeat (first | apply Kd.S_alloc | apply Kd.S_drewN | apply Kd.S_drew)); exact HO_5.out⟩, ⟨by (with_reducible repeat (first | apply Kd.R_alloc | apply Kd.R_drewN | apply Kd.R_drew)); exact Kd.R_mono HO348.out (fun _ hk => trivial)⟩, ⟨bm BK336⟩, ⟨bw1 HB GE336⟩⟩
      ·rw [if_neg c16] at H
       have c16b0 : decide ((x6_1.length : Int) < (t346.length : Int)) = false := decide_eq_false c16
       have c16b1 : decide (x6_1.length < t346.length) = false := decide_eq_false (fun h => c16 (Int.ofNat_lt.mpr h))
       clear c16
       by_cases c23 : (t346.length : Int) = (x6_1.length : Int)
       ·rw [if_pos c23] at H
        have c23b0 : ((t346.length : Int) == (x6_1.length : Int)) = true := beq_iff_eq.mpr c23
        have c23b1 : ((t346.length : Int) != (x6_1.length : Int)) = false := bne_eq_false_iff_eq.mpr c23
        have c23b2 : (t346.length == x6_1.length) = true := by first | simpa using c23 | (simp at c23 ⊢; omega)
        clear c23
        replace H := Option.bind_eq_some_iff.mp H
        obtain ⟨t349, A240, H⟩ := H
        replace H : (if t349 = true then (macadamref04_Most.l0 k1 t338 t346 (wrap64 (x7_1 + 1)) l0_0 l0_1 a0_2) else (macadamref04_Most.l0 k1 t338 x6_1 (wrap64 (x7_1 + 1)) l0_0 l0_1 a0_2)) = some (r1, r2) := H
        have A24 := Aside0.mk A240
        clear A240
        by_cases c25 : t349 = true
        ·subst c25
         have H1 : (macadamref04_Most.l0 k1 t338 t346 (wrap64 (x7_1 + 1)) l0_0 l0_1 a0_2) = some (r1, r2) := by rw [if_pos rfl] at H; exact H
         clear H
         have H := H1
         clear H1
         have H' := Aside0.mk H
         clear H
         obtain ⟨Ao26, co26, eo26⟩ := Kd.S_slice HO_5.out
         subst eo26
         try go_wp2
         have n0_ := Aside0.mk (Kd.S_drew HO_5.out)
         have n1_ := Aside0.mk (Kd.R_drew HO_6.out)
         have n2_ := Aside0.mk (blk_drew BK336.out)
         have n3_ := Aside0.mk (below_drew1 HB.out)
         clear HO_5
         clear HO_6
         clear BK336
         clear HB
         have HO_5 := n0_
         have HO_6 := n1_
         have BK336 := n2_
         have HB := n3_
         clear n0_ n1_ n2_ n3_
         have p344 : 0 ≤ (x7_1 : Int) := of_decide_eq_true (by first | (with_reducible assumption) | assumption)
         have q344 : x7_1 < (t338.length : Int) := of_decide_eq_true (by first | (with_reducible assumption) | assumption)
         obtain ⟨ad344, A344_0, c344_0, e344, hx344_0, hl344_0, hi344_0⟩ := at_L5 (Kd.S_reads' HO_5.out).2.2 x7_1 p344 q344
         cases e344
         obtain ⟨ce344, hce344, hMe344, hcc344⟩ := Kd.S_get HO_5.out [] x7_1 p344 (by first | exact q344 | exact of_decide_eq_true (by first | (with_reducible assumption) | assumption) | (have e_ := (Kd.S_reads' HO_5.out).1; omega))
         obtain ⟨ve344_0, rfl, ge344_0⟩ := hMe344
         have hv344_0 := hcc344 0 _ rfl
         rw [Nat.add_zero, show ((Kd.slice 59 k59)).sz = 1 from rfl, Nat.mul_one] at hv344_0
         replace hv344_0 := Option.some.inj (hv344_0.symm.trans hx344_0)
         rw [hv344_0] at ge344_0
         have HL344_0 := Aside0.mk (show Kd.R k59 59 _ _ _ _ (rd_L5 t338 x7_1) from ge344_0)
         clear hv344_0 ge344_0
         clear hcc344 hce344
         have HR344_0 := Aside0.mk hi344_0
         have HC344_0 := Aside0.mk hl344_0
         clear hi344_0 hl344_0
         replace p344 := eq_true p344
         replace q344 := eq_true q344
         refine start_ (n := 8) (S := fun w' => w'.cell? ⟨gb336, 0, none⟩ = some (.slice A0_0 l0_0.length c0_0) ∧ w'.cell? ⟨gb336, 1, none⟩ = some (.slice A0_1 l0_1.length c0_1) ∧ w'.cell? ⟨gb336, 2, none⟩ = some (.int .i64 a0_2) ∧ w'.cell? (ad344.add (x7_1).toNat) = some (.slice A344_0 (rd_L5 t338 x7_1).length c344_0)) (ds := []) (bs 8 0) (by kernel_rfl) rfl rfl ⟨(blk_cell BK336.out 0).trans rfl, (blk_cell BK336.out 1).trans rfl, (blk_cell BK336.out 2).trans rfl, hx344_0⟩ (fun hHeld => ?_); refine with_tabW macadamref04_Most.tab8 macadamref04_Most.bits8 (fun HT_ HW_ => ?_)
         generalize wr.drew = w27 at HO_5 HO_6 BK336 HB HL344_0 HR344_0 hx344_0 hHeld ⊢
         refine pu HT_ 1 (some 26) (bs 8 2) ?_
         refine pu HT_ 2 (some 27) (bs 8 6) ?_
         refine pu HT_ 3 (some 28) (bs 8 14) ?_
         refine tk4 HT_ HW_ hHeld 0 (some 25) (bs 8 15) ?_
         refine tk4 HT_ HW_ hHeld 4 (some 29) (bs 8 31) ?_
         refine on HT_ 5 (some 30) (bs 8 63) (fun K hK => ?_)
         refine goes_ Tryd.func78 (by kernel_rfl) rfl #[.agg #[.slice A0_0 l0_0.length c0_0, .slice A0_1 l0_1.length c0_1, .int .i64 a0_2], .slice A344_0 (rd_L5 t338 x7_1).length c344_0] (by rfl) rfl rfl (by (try simp only [List.map_toArray, List.map_cons, List.map_nil]); first | done | rfl | (simp only [List.length_drop, List.length_take]; rfl)) ?_
         with_reducible refine (macadamref04_mended.calls k1 _ _ l0_0 _ _ l0_1 a0_2 _ _ (rd_L5 t338 x7_1) t345 _ ?side1 ?side2 ?side3 ?side4 ?side5 ?side6 A14.out).mono ?_
         (case side1 => repeat (first | exact (Kd.C_below HR0_0.out HB.out) | (with_reducible refine Kd.C_alloc ?_ _) | (with_reducible refine Kd.C_drewN ?_ _) | (with_reducible refine Kd.C_drew ?_)))
         (case side2 => exact HC0_0.out)
         (case side3 => repeat (first | exact (Kd.C_below HR0_1.out HB.out) | (with_reducible refine Kd.C_alloc ?_ _) | (with_reducible refine Kd.C_drewN ?_ _) | (with_reducible refine Kd.C_drew ?_)))
         (case side4 => exact HC0_1.out)
         (case side5 => repeat (first | exact (by repeat (first | (with_reducible exact HR344_0.out) | (with_reducible refine Kd.C_alloc ?_ _) | (with_reducible refine Kd.C_drewN ?_ _) | (with_reducible refine Kd.C_drew ?_) | exact HR344_0.out)) | (with_reducible refine Kd.C_alloc ?_ _) | (with_reducible refine Kd.C_drewN ?_ _) | (with_reducible refine Kd.C_drew ?_)))
         (case side6 => exact HC344_0.out)
         rintro e w28 ⟨rfl, hb⟩
         have HS3_ := (hb.cell (World.block_lt_of_cell? _ _ (hHeld.2.2.2))).trans (hHeld.2.2.2)
         refine ⟨_, rfl, ?_⟩
         have n0_ := Aside0.mk (Kd.S_below (by (with_reducible repeat (first | apply Kd.S_alloc | apply Kd.S_drewN | apply Kd.S_drew)); exact HO_5.out) hb)
         have n1_ := Aside0.mk (Kd.R_below (by (with_reducible repeat (first | apply Kd.R_alloc | apply Kd.R_drewN | apply Kd.R_drew)); exact HO_6.out) hb)
         have n2_ := Aside0.mk (Kd.R_below (by (with_reducible repeat (first | apply Kd.R_alloc | apply Kd.R_drewN | apply Kd.R_drew)); exact HL344_0.out) hb)
         have n3_ := Aside0.mk (blk_below (bm BK336) hb)
         have n4_ := Aside0.mk (Kd.C_below (by repeat (first | (with_reducible exact HR344_0.out) | (with_reducible refine Kd.C_alloc ?_ _) | (with_reducible refine Kd.C_drewN ?_ _) | (with_reducible refine Kd.C_drew ?_) | exact HR344_0.out)) hb)
         have n5_ := Aside0.mk (below_step (bw1 HB GE336) hb)
         clear HO_5
         clear HO_6
         clear HL344_0
         clear BK336
         clear HR344_0
         clear HB
         have HO_5 := n0_
         have HO_6 := n1_
         have HL344_0 := n2_
         have BK336 := n3_
         have HR344_0 := n4_
         have HB := n5_
         clear n0_ n1_ n2_ n3_ n4_ n5_
         (try clear hb)
         (try clear hb2)
         (try clear hk)
         (try clear hi)
         refine hK.out _ _ ⟨(blk_cell BK336.out 0).trans rfl, (blk_cell BK336.out 1).trans rfl, (blk_cell BK336.out 2).trans rfl, HS3_⟩ (fun hHeld => ?_)
         clear hK K
         refine nm 30 ?_
         refine on HT_ 6 (some 31) (bs 8 127) (fun K hK => ?_)
         refine goes_ Tryd.func73 (by kernel_rfl) rfl #[.int .i64 t345, .int .i64 4] (by rfl) rfl rfl (by (try simp only [List.map_toArray, List.map_cons, List.map_nil]); first | done | rfl | (simp only [List.length_drop, List.length_take]; rfl)) ?_
         with_reducible refine (macadamref00_All.calls k1 t345 4 t346 _ A15.out).mono ?_
         rintro e w29 ⟨v347, rfl, ho0, hb⟩
         have HS3_ := (hb.cell (World.block_lt_of_cell? _ _ (hHeld.2.2.2))).trans (hHeld.2.2.2)
         refine ⟨_, rfl, ?_⟩
         have n0_ := Aside0.mk (Kd.S_below (by (with_reducible repeat (first | apply Kd.S_alloc | apply Kd.S_drewN | apply Kd.S_drew)); exact HO_5.out) hb)
         have n1_ := Aside0.mk (Kd.R_elder' (by (with_reducible repeat (first | apply Kd.R_alloc | apply Kd.R_drewN | apply Kd.R_drew)); exact HO_6.out) (Kd.R_base ho0) hb)
         have n2_ := Aside0.mk (Kd.R_below (by (with_reducible repeat (first | apply Kd.R_alloc | apply Kd.R_drewN | apply Kd.R_drew)); exact HL344_0.out) hb)
         have n3_ := Aside0.mk (Kd.R_lower (Kd.R_new' ho0 (Kd.R_lt (by (with_reducible repeat (first | apply Kd.R_alloc | apply Kd.R_drewN | apply Kd.R_drew)); exact HO_6.out))) (below_size (bw1 HB GE336)))
         have n4_ := Aside0.mk (blk_below (bm BK336) hb)
         have n5_ := Aside0.mk (Kd.C_below (by repeat (first | (with_reducible exact HR344_0.out) | (with_reducible refine Kd.C_alloc ?_ _) | (with_reducible refine Kd.C_drewN ?_ _) | (with_reducible refine Kd.C_drew ?_) | exact HR344_0.out)) hb)
         have n6_ := Aside0.mk (below_step (bw1 HB GE336) hb)
         clear HO_5
         clear HO_6
         clear HL344_0
         clear BK336
         clear HR344_0
         clear HB
         have HO_5 := n0_
         have HO_6 := n1_
         have HL344_0 := n2_
         have HO348 := n3_
         have BK336 := n4_
         have HR344_0 := n5_
         have HB := n6_
         clear n0_ n1_ n2_ n3_ n4_ n5_ n6_
         (try clear hb)
         (try clear hb2)
         (try clear hk)
         (try clear hi)
         (try clear ho0)
         refine hK.out _ _ ⟨(blk_cell BK336.out 0).trans rfl, (blk_cell BK336.out 1).trans rfl, (blk_cell BK336.out 2).trans rfl, HS3_⟩ (fun hHeld => ?_)
         clear hK K
         refine nm 31 ?_
         refine pu HT_ 7 (some 8) (bs 8 255) ?_
         refine done_ (done_of HT_.out (by kernel_rfl)) ?_
         obtain ⟨Ao30, co30, eo30⟩ := Kd.R_slice HO348.out
         subst eo30
         obtain ⟨Ao31, co31, eo31⟩ := Kd.R_slice HO_6.out
         subst eo31
         try go_wp2_with (first | (go_at_call 54; (with_reducible refine (macadamref00_Sooner.calls k1 _ _ t346 _ _ x6_1 true _ ?side1 ?side2 ?side3 ?side4 A24.out).mono ?_); (case side1 => repeat (first | exact (Kd.R_reads' HO348.out).2.2 | (with_reducible refine Kd.C_alloc ?_ _) | (with_reducible refine Kd.C_drewN ?_ _) | (with_reducible refine Kd.C_drew ?_))); (case side2 => exact (Kd.R_reads' HO348.out).2.1); (case side3 => repeat (first | exact (Kd.R_reads' HO_6.out).2.2 | (with_reducible refine Kd.C_alloc ?_ _) | (with_reducible refine Kd.C_drewN ?_ _) | (with_reducible refine Kd.C_drew ?_))); (case side4 => exact (Kd.R_reads' HO_6.out).2.1); rintro e w' ⟨rfl, ⟨nd, rfl⟩⟩))
         go_roundg k1
         case measure => have := HK1.out; omega
         case rel => exact ⟨(t346), (wrap64 (x7_1 + 1)), (by first | rfl | (simp; done) | (simp [*]; done)), H', ⟨by have := HK1.out; omega⟩, ⟨by (with_reducible repeat (first | apply Kd.S_alloc | apply Kd.S_drewN | apply Kd.S_drew)); exact HO_5.out⟩, ⟨by (with_reducible repeat (first | apply Kd.R_alloc | apply Kd.R_drewN | apply Kd.R_drew)); exact Kd.R_mono HO348.out (fun _ hk => trivial)⟩, ⟨bm BK336⟩, ⟨bw1 HB GE336⟩⟩
        ·replace c25 := Bool.eq_false_iff.mpr c25
         subst c25
         have H1 : (macadamref04_Most.l0 k1 t338 x6_1 (wrap64 (x7_1 + 1)) l0_0 l0_1 a0_2) = some (r1, r2) := by rw [if_neg (show ¬ (false = true) by decide)] at H; exact H
         clear H
         have H := H1
         clear H1
         have H' := Aside0.mk H
         clear H
         obtain ⟨Ao32, co32, eo32⟩ := Kd.S_slice HO_5.out
         subst eo32
         try go_wp2
         have n0_ := Aside0.mk (Kd.S_drew HO_5.out)
         have n1_ := Aside0.mk (Kd.R_drew HO_6.out)
         have n2_ := Aside0.mk (blk_drew BK336.out)
         have n3_ := Aside0.mk (below_drew1 HB.out)
         clear HO_5
         clear HO_6
         clear BK336
         clear HB
         have HO_5 := n0_
         have HO_6 := n1_
         have BK336 := n2_
         have HB := n3_
         clear n0_ n1_ n2_ n3_
         have p344 : 0 ≤ (x7_1 : Int) := of_decide_eq_true (by first | (with_reducible assumption) | assumption)
         have q344 : x7_1 < (t338.length : Int) := of_decide_eq_true (by first | (with_reducible assumption) | assumption)
         obtain ⟨ad344, A344_0, c344_0, e344, hx344_0, hl344_0, hi344_0⟩ := at_L5 (Kd.S_reads' HO_5.out).2.2 x7_1 p344 q344
         cases e344
         obtain ⟨ce344, hce344, hMe344, hcc344⟩ := Kd.S_get HO_5.out [] x7_1 p344 (by first | exact q344 | exact of_decide_eq_true (by first | (with_reducible assumption) | assumption) | (have e_ := (Kd.S_reads' HO_5.out).1; omega))
         obtain ⟨ve344_0, rfl, ge344_0⟩ := hMe344
         have hv344_0 := hcc344 0 _ rfl
         rw [Nat.add_zero, show ((Kd.slice 59 k59)).sz = 1 from rfl, Nat.mul_one] at hv344_0
         replace hv344_0 := Option.some.inj (hv344_0.symm.trans hx344_0)
         rw [hv344_0] at ge344_0
         have HL344_0 := Aside0.mk (show Kd.R k59 59 _ _ _ _ (rd_L5 t338 x7_1) from ge344_0)
         clear hv344_0 ge344_0
         clear hcc344 hce344
         have HR344_0 := Aside0.mk hi344_0
         have HC344_0 := Aside0.mk hl344_0
         clear hi344_0 hl344_0
         replace p344 := eq_true p344
         replace q344 := eq_true q344
         refine start_ (n := 8) (S := fun w' => w'.cell? ⟨gb336, 0, none⟩ = some (.slice A0_0 l0_0.length c0_0) ∧ w'.cell? ⟨gb336, 1, none⟩ = some (.slice A0_1 l0_1.length c0_1) ∧ w'.cell? ⟨gb336, 2, none⟩ = some (.int .i64 a0_2) ∧ w'.cell? (ad344.add (x7_1).toNat) = some (.slice A344_0 (rd_L5 t338 x7_1).length c344_0)) (ds := []) (bs 8 0) (by kernel_rfl) rfl rfl ⟨(blk_cell BK336.out 0).trans rfl, (blk_cell BK336.out 1).trans rfl, (blk_cell BK336.out 2).trans rfl, hx344_0⟩ (fun hHeld => ?_); refine with_tabW macadamref04_Most.tab8 macadamref04_Most.bits8 (fun HT_ HW_ => ?_)
         generalize wr.drew = w33 at HO_5 HO_6 BK336 HB HL344_0 HR344_0 hx344_0 hHeld ⊢
         refine pu HT_ 1 (some 26) (bs 8 2) ?_
         refine pu HT_ 2 (some 27) (bs 8 6) ?_
         refine pu HT_ 3 (some 28) (bs 8 14) ?_
         refine tk4 HT_ HW_ hHeld 0 (some 25) (bs 8 15) ?_
         refine tk4 HT_ HW_ hHeld 4 (some 29) (bs 8 31) ?_
         refine on HT_ 5 (some 30) (bs 8 63) (fun K hK => ?_)
         refine goes_ Tryd.func78 (by kernel_rfl) rfl #[.agg #[.slice A0_0 l0_0.length c0_0, .slice A0_1 l0_1.length c0_1, .int .i64 a0_2], .slice A344_0 (rd_L5 t338 x7_1).length c344_0] (by rfl) rfl rfl (by (try simp only [List.map_toArray, List.map_cons, List.map_nil]); first | done | rfl | (simp only [List.length_drop, List.length_take]; rfl)) ?_
         with_reducible refine (macadamref04_mended.calls k1 _ _ l0_0 _ _ l0_1 a0_2 _ _ (rd_L5 t338 x7_1) t345 _ ?side1 ?side2 ?side3 ?side4 ?side5 ?side6 A14.out).mono ?_
         (case side1 => repeat (first | exact (Kd.C_below HR0_0.out HB.out) | (with_reducible refine Kd.C_alloc ?_ _) | (with_reducible refine Kd.C_drewN ?_ _) | (with_reducible refine Kd.C_drew ?_)))
         (case side2 => exact HC0_0.out)
         (case side3 => repeat (first | exact (Kd.C_below HR0_1.out HB.out) | (with_reducible refine Kd.C_alloc ?_ _) | (with_reducible refine Kd.C_drewN ?_ _) | (with_reducible refine Kd.C_drew ?_)))
         (case side4 => exact HC0_1.out)
         (case side5 => repeat (first | exact (by repeat (first | (with_reducible exact HR344_0.out) | (with_reducible refine Kd.C_alloc ?_ _) | (with_reducible refine Kd.C_drewN ?_ _) | (with_reducible refine Kd.C_drew ?_) | exact HR344_0.out)) | (with_reducible refine Kd.C_alloc ?_ _) | (with_reducible refine Kd.C_drewN ?_ _) | (with_reducible refine Kd.C_drew ?_)))
         (case side6 => exact HC344_0.out)
         rintro e w34 ⟨rfl, hb⟩
         have HS3_ := (hb.cell (World.block_lt_of_cell? _ _ (hHeld.2.2.2))).trans (hHeld.2.2.2)
         refine ⟨_, rfl, ?_⟩
         have n0_ := Aside0.mk (Kd.S_below (by (with_reducible repeat (first | apply Kd.S_alloc | apply Kd.S_drewN | apply Kd.S_drew)); exact HO_5.out) hb)
         have n1_ := Aside0.mk (Kd.R_below (by (with_reducible repeat (first | apply Kd.R_alloc | apply Kd.R_drewN | apply Kd.R_drew)); exact HO_6.out) hb)
         have n2_ := Aside0.mk (Kd.R_below (by (with_reducible repeat (first | apply Kd.R_alloc | apply Kd.R_drewN | apply Kd.R_drew)); exact HL344_0.out) hb)
         have n3_ := Aside0.mk (blk_below (bm BK336) hb)
         have n4_ := Aside0.mk (Kd.C_below (by repeat (first | (with_reducible exact HR344_0.out) | (with_reducible refine Kd.C_alloc ?_ _) | (with_reducible refine Kd.C_drewN ?_ _) | (with_reducible refine Kd.C_drew ?_) | exact HR344_0.out)) hb)
         have n5_ := Aside0.mk (below_step (bw1 HB GE336) hb)
         clear HO_5
         clear HO_6
         clear HL344_0
         clear BK336
         clear HR344_0
         clear HB
         have HO_5 := n0_
         have HO_6 := n1_
         have HL344_0 := n2_
         have BK336 := n3_
         have HR344_0 := n4_
         have HB := n5_
         clear n0_ n1_ n2_ n3_ n4_ n5_
         (try clear hb)
         (try clear hb2)
         (try clear hk)
         (try clear hi)
         refine hK.out _ _ ⟨(blk_cell BK336.out 0).trans rfl, (blk_cell BK336.out 1).trans rfl, (blk_cell BK336.out 2).trans rfl, HS3_⟩ (fun hHeld => ?_)
         clear hK K
         refine nm 30 ?_
         refine on HT_ 6 (some 31) (bs 8 127) (fun K hK => ?_)
         refine goes_ Tryd.func73 (by kernel_rfl) rfl #[.int .i64 t345, .int .i64 4] (by rfl) rfl rfl (by (try simp only [List.map_toArray, List.map_cons, List.map_nil]); first | done | rfl | (simp only [List.length_drop, List.length_take]; rfl)) ?_
         with_reducible refine (macadamref00_All.calls k1 t345 4 t346 _ A15.out).mono ?_
         rintro e w35 ⟨v347, rfl, ho0, hb⟩
         have HS3_ := (hb.cell (World.block_lt_of_cell? _ _ (hHeld.2.2.2))).trans (hHeld.2.2.2)
         refine ⟨_, rfl, ?_⟩
         have n0_ := Aside0.mk (Kd.S_below (by (with_reducible repeat (first | apply Kd.S_alloc | apply Kd.S_drewN | apply Kd.S_drew)); exact HO_5.out) hb)
         have n1_ := Aside0.mk (Kd.R_elder' (by (with_reducible repeat (first | apply Kd.R_alloc | apply Kd.R_drewN | apply Kd.R_drew)); exact HO_6.out) (Kd.R_base ho0) hb)
         have n2_ := Aside0.mk (Kd.R_below (by (with_reducible repeat (first | apply Kd.R_alloc | apply Kd.R_drewN | apply Kd.R_drew)); exact HL344_0.out) hb)
         have n3_ := Aside0.mk (Kd.R_lower (Kd.R_new' ho0 (Kd.R_lt (by (with_reducible repeat (first | apply Kd.R_alloc | apply Kd.R_drewN | apply Kd.R_drew)); exact HO_6.out))) (below_size (bw1 HB GE336)))
         have n4_ := Aside0.mk (blk_below (bm BK336) hb)
         have n5_ := Aside0.mk (Kd.C_below (by repeat (first | (with_reducible exact HR344_0.out) | (with_reducible refine Kd.C_alloc ?_ _) | (with_reducible refine Kd.C_drewN ?_ _) | (with_reducible refine Kd.C_drew ?_) | exact HR344_0.out)) hb)
         have n6_ := Aside0.mk (below_step (bw1 HB GE336) hb)
         clear HO_5
         clear HO_6
         clear HL344_0
         clear BK336
         clear HR344_0
         clear HB
         have HO_5 := n0_
         have HO_6 := n1_
         have HL344_0 := n2_
         have HO348 := n3_
         have BK336 := n4_
         have HR344_0 := n5_
         have HB := n6_
         clear n0_ n1_ n2_ n3_ n4_ n5_ n6_
         (try clear hb)
         (try clear hb2)
         (try clear hk)
         (try clear hi)
         (try clear ho0)
         refine hK.out _ _ ⟨(blk_cell BK336.out 0).trans rfl, (blk_cell BK336.out 1).trans rfl, (blk_cell BK336.out 2).trans rfl, HS3_⟩ (fun hHeld => ?_)
         clear hK K
         refine nm 31 ?_
         refine pu HT_ 7 (some 8) (bs 8 255) ?_
         refine done_ (done_of HT_.out (by kernel_rfl)) ?_
         obtain ⟨Ao36, co36, eo36⟩ := Kd.R_slice HO348.out
         subst eo36
         obtain ⟨Ao37, co37, eo37⟩ := Kd.R_slice HO_6.out
         subst eo37
         try go_wp2_with (first | (go_at_call 54; (with_reducible refine (macadamref00_Sooner.calls k1 _ _ t346 _ _ x6_1 false _ ?side1 ?side2 ?side3 ?side4 A24.out).mono ?_); (case side1 => repeat (first | exact (Kd.R_reads' HO348.out).2.2 | (with_reducible refine Kd.C_alloc ?_ _) | (with_reducible refine Kd.C_drewN ?_ _) | (with_reducible refine Kd.C_drew ?_))); (case side2 => exact (Kd.R_reads' HO348.out).2.1); (case side3 => repeat (first | exact (Kd.R_reads' HO_6.out).2.2 | (with_reducible refine Kd.C_alloc ?_ _) | (with_reducible refine Kd.C_drewN ?_ _) | (with_reducible refine Kd.C_drew ?_))); (case side4 => exact (Kd.R_reads' HO_6.out).2.1); rintro e w' ⟨rfl, ⟨nd, rfl⟩⟩))
         go_roundg k1
         case measure => have := HK1.out; omega
         case rel => exact ⟨(x6_1), (wrap64 (x7_1 + 1)), (by first | rfl | (simp; done) | (simp [*]; done)), H', ⟨by have := HK1.out; omega⟩, ⟨by (with_reducible repeat (first | apply Kd.S_alloc | apply Kd.S_drewN | apply Kd.S_drew)); exact HO_5.out⟩, ⟨by (with_reducible repeat (first | apply Kd.R_alloc | apply Kd.R_drewN | apply Kd.R_drew)); exact Kd.R_mono HO_6.out (fun _ hk => trivial)⟩, ⟨bm BK336⟩, ⟨bw1 HB GE336⟩⟩
       ·rw [if_neg c23] at H
        have c23b0 : ((t346.length : Int) == (x6_1.length : Int)) = false := beq_eq_false_iff_ne.mpr c23
        have c23b1 : ((t346.length : Int) != (x6_1.length : Int)) = true := bne_iff_ne.mpr c23
        have c23b2 : (t346.length == x6_1.length) = false := by first | simpa using c23 | (simp at c23 ⊢; omega)
        have H' := Aside0.mk H
        clear H
        obtain ⟨Ao38, co38, eo38⟩ := Kd.S_slice HO_5.out
        subst eo38
        try go_wp2
        have n0_ := Aside0.mk (Kd.S_drew HO_5.out)
        have n1_ := Aside0.mk (Kd.R_drew HO_6.out)
        have n2_ := Aside0.mk (blk_drew BK336.out)
        have n3_ := Aside0.mk (below_drew1 HB.out)
        clear HO_5
        clear HO_6
        clear BK336
        clear HB
        have HO_5 := n0_
        have HO_6 := n1_
        have BK336 := n2_
        have HB := n3_
        clear n0_ n1_ n2_ n3_
        have p344 : 0 ≤ (x7_1 : Int) := of_decide_eq_true (by first | (with_reducible assumption) | assumption)
        have q344 : x7_1 < (t338.length : Int) := of_decide_eq_true (by first | (with_reducible assumption) | assumption)
        obtain ⟨ad344, A344_0, c344_0, e344, hx344_0, hl344_0, hi344_0⟩ := at_L5 (Kd.S_reads' HO_5.out).2.2 x7_1 p344 q344
        cases e344
        obtain ⟨ce344, hce344, hMe344, hcc344⟩ := Kd.S_get HO_5.out [] x7_1 p344 (by first | exact q344 | exact of_decide_eq_true (by first | (with_reducible assumption) | assumption) | (have e_ := (Kd.S_reads' HO_5.out).1; omega))
        obtain ⟨ve344_0, rfl, ge344_0⟩ := hMe344
        have hv344_0 := hcc344 0 _ rfl
        rw [Nat.add_zero, show ((Kd.slice 59 k59)).sz = 1 from rfl, Nat.mul_one] at hv344_0
        replace hv344_0 := Option.some.inj (hv344_0.symm.trans hx344_0)
        rw [hv344_0] at ge344_0
        have HL344_0 := Aside0.mk (show Kd.R k59 59 _ _ _ _ (rd_L5 t338 x7_1) from ge344_0)
        clear hv344_0 ge344_0
        clear hcc344 hce344
        have HR344_0 := Aside0.mk hi344_0
        have HC344_0 := Aside0.mk hl344_0
        clear hi344_0 hl344_0
        replace p344 := eq_true p344
        replace q344 := eq_true q344
        refine start_ (n := 8) (S := fun w' => w'.cell? ⟨gb336, 0, none⟩ = some (.slice A0_0 l0_0.length c0_0) ∧ w'.cell? ⟨gb336, 1, none⟩ = some (.slice A0_1 l0_1.length c0_1) ∧ w'.cell? ⟨gb336, 2, none⟩ = some (.int .i64 a0_2) ∧ w'.cell? (ad344.add (x7_1).toNat) = some (.slice A344_0 (rd_L5 t338 x7_1).length c344_0)) (ds := []) (bs 8 0) (by kernel_rfl) rfl rfl ⟨(blk_cell BK336.out 0).trans rfl, (blk_cell BK336.out 1).trans rfl, (blk_cell BK336.out 2).trans rfl, hx344_0⟩ (fun hHeld => ?_); refine with_tabW macadamref04_Most.tab8 macadamref04_Most.bits8 (fun HT_ HW_ => ?_)
        generalize wr.drew = w39 at HO_5 HO_6 BK336 HB HL344_0 HR344_0 hx344_0 hHeld ⊢
        refine pu HT_ 1 (some 26) (bs 8 2) ?_
        refine pu HT_ 2 (some 27) (bs 8 6) ?_
        refine pu HT_ 3 (some 28) (bs 8 14) ?_
        refine tk4 HT_ HW_ hHeld 0 (some 25) (bs 8 15) ?_
        refine tk4 HT_ HW_ hHeld 4 (some 29) (bs 8 31) ?_
        refine on HT_ 5 (some 30) (bs 8 63) (fun K hK => ?_)
        refine goes_ Tryd.func78 (by kernel_rfl) rfl #[.agg #[.slice A0_0 l0_0.length c0_0, .slice A0_1 l0_1.length c0_1, .int .i64 a0_2], .slice A344_0 (rd_L5 t338 x7_1).length c344_0] (by rfl) rfl rfl (by (try simp only [List.map_toArray, List.map_cons, List.map_nil]); first | done | rfl | (simp only [List.length_drop, List.length_take]; rfl)) ?_
        with_reducible refine (macadamref04_mended.calls k1 _ _ l0_0 _ _ l0_1 a0_2 _ _ (rd_L5 t338 x7_1) t345 _ ?side1 ?side2 ?side3 ?side4 ?side5 ?side6 A14.out).mono ?_
        (case side1 => repeat (first | exact (Kd.C_below HR0_0.out HB.out) | (with_reducible refine Kd.C_alloc ?_ _) | (with_reducible refine Kd.C_drewN ?_ _) | (with_reducible refine Kd.C_drew ?_)))
        (case side2 => exact HC0_0.out)
        (case side3 => repeat (first | exact (Kd.C_below HR0_1.out HB.out) | (with_reducible refine Kd.C_alloc ?_ _) | (with_reducible refine Kd.C_drewN ?_ _) | (with_reducible refine Kd.C_drew ?_)))
        (case side4 => exact HC0_1.out)
        (case side5 => repeat (first | exact (by repeat (first | (with_reducible exact HR344_0.out) | (with_reducible refine Kd.C_alloc ?_ _) | (with_reducible refine Kd.C_drewN ?_ _) | (with_reducible refine Kd.C_drew ?_) | exact HR344_0.out)) | (with_reducible refine Kd.C_alloc ?_ _) | (with_reducible refine Kd.C_drewN ?_ _) | (with_reducible refine Kd.C_drew ?_)))
        (case side6 => exact HC344_0.out)
        rintro e w40 ⟨rfl, hb⟩
        have HS3_ := (hb.cell (World.block_lt_of_cell? _ _ (hHeld.2.2.2))).trans (hHeld.2.2.2)
        refine ⟨_, rfl, ?_⟩
        have n0_ := Aside0.mk (Kd.S_below (by (with_reducible repeat (first | apply Kd.S_alloc | apply Kd.S_drewN | apply Kd.S_drew)); exact HO_5.out) hb)
        have n1_ := Aside0.mk (Kd.R_below (by (with_reducible repeat (first | apply Kd.R_alloc | apply Kd.R_drewN | apply Kd.R_drew)); exact HO_6.out) hb)
        have n2_ := Aside0.mk (Kd.R_below (by (with_reducible repeat (first | apply Kd.R_alloc | apply Kd.R_drewN | apply Kd.R_drew)); exact HL344_0.out) hb)
        have n3_ := Aside0.mk (blk_below (bm BK336) hb)
        have n4_ := Aside0.mk (Kd.C_below (by repeat (first | (with_reducible exact HR344_0.out) | (with_reducible refine Kd.C_alloc ?_ _) | (with_reducible refine Kd.C_drewN ?_ _) | (with_reducible refine Kd.C_drew ?_) | exact HR344_0.out)) hb)
        have n5_ := Aside0.mk (below_step (bw1 HB GE336) hb)
        clear HO_5
        clear HO_6
        clear HL344_0
        clear BK336
        clear HR344_0
        clear HB
        have HO_5 := n0_
        have HO_6 := n1_
        have HL344_0 := n2_
        have BK336 := n3_
        have HR344_0 := n4_
        have HB := n5_
        clear n0_ n1_ n2_ n3_ n4_ n5_
        (try clear hb)
        (try clear hb2)
        (try clear hk)
        (try clear hi)
        refine hK.out _ _ ⟨(blk_cell BK336.out 0).trans rfl, (blk_cell BK336.out 1).trans rfl, (blk_cell BK336.out 2).trans rfl, HS3_⟩ (fun hHeld => ?_)
        clear hK K
        refine nm 30 ?_
        refine on HT_ 6 (some 31) (bs 8 127) (fun K hK => ?_)
        refine goes_ Tryd.func73 (by kernel_rfl) rfl #[.int .i64 t345, .int .i64 4] (by rfl) rfl rfl (by (try simp only [List.map_toArray, List.map_cons, List.map_nil]); first | done | rfl | (simp only [List.length_drop, List.length_take]; rfl)) ?_
        with_reducible refine (macadamref00_All.calls k1 t345 4 t346 _ A15.out).mono ?_
        rintro e w41 ⟨v347, rfl, ho0, hb⟩
        have HS3_ := (hb.cell (World.block_lt_of_cell? _ _ (hHeld.2.2.2))).trans (hHeld.2.2.2)
        refine ⟨_, rfl, ?_⟩
        have n0_ := Aside0.mk (Kd.S_below (by (with_reducible repeat (first | apply Kd.S_alloc | apply Kd.S_drewN | apply Kd.S_drew)); exact HO_5.out) hb)
        have n1_ := Aside0.mk (Kd.R_elder' (by (with_reducible repeat (first | apply Kd.R_alloc | apply Kd.R_drewN | apply Kd.R_drew)); exact HO_6.out) (Kd.R_base ho0) hb)
        have n2_ := Aside0.mk (Kd.R_below (by (with_reducible repeat (first | apply Kd.R_alloc | apply Kd.R_drewN | apply Kd.R_drew)); exact HL344_0.out) hb)
        have n3_ := Aside0.mk (Kd.R_lower (Kd.R_new' ho0 (Kd.R_lt (by (with_reducible repeat (first | apply Kd.R_alloc | apply Kd.R_drewN | apply Kd.R_drew)); exact HO_6.out))) (below_size (bw1 HB GE336)))
        have n4_ := Aside0.mk (blk_below (bm BK336) hb)
        have n5_ := Aside0.mk (Kd.C_below (by repeat (first | (with_reducible exact HR344_0.out) | (with_reducible refine Kd.C_alloc ?_ _) | (with_reducible refine Kd.C_drewN ?_ _) | (with_reducible refine Kd.C_drew ?_) | exact HR344_0.out)) hb)
        have n6_ := Aside0.mk (below_step (bw1 HB GE336) hb)
        clear HO_5
        clear HO_6
        clear HL344_0
        clear BK336
        clear HR344_0
        clear HB
        have HO_5 := n0_
        have HO_6 := n1_
        have HL344_0 := n2_
        have HO348 := n3_
        have BK336 := n4_
        have HR344_0 := n5_
        have HB := n6_
        clear n0_ n1_ n2_ n3_ n4_ n5_ n6_
        (try clear hb)
        (try clear hb2)
        (try clear hk)
        (try clear hi)
        (try clear ho0)
        refine hK.out _ _ ⟨(blk_cell BK336.out 0).trans rfl, (blk_cell BK336.out 1).trans rfl, (blk_cell BK336.out 2).trans rfl, HS3_⟩ (fun hHeld => ?_)
        clear hK K
        refine nm 31 ?_
        refine pu HT_ 7 (some 8) (bs 8 255) ?_
        refine done_ (done_of HT_.out (by kernel_rfl)) ?_
        obtain ⟨Ao42, co42, eo42⟩ := Kd.R_slice HO348.out
        subst eo42
        obtain ⟨Ao43, co43, eo43⟩ := Kd.R_slice HO_6.out
        subst eo43
        try go_wp2
        go_roundg k1
        case measure => have := HK1.out; omega
        case rel => exact ⟨(x6_1), (wrap64 (x7_1 + 1)), (by first | rfl | (simp; done) | (simp [*]; done)), H', ⟨by have := HK1.out; omega⟩, ⟨by (with_reducible repeat (first | apply Kd.S_alloc | apply Kd.S_drewN | apply Kd.S_drew)); exact HO_5.out⟩, ⟨by (with_reducible repeat (first | apply Kd.R_alloc | apply Kd.R_drewN | apply Kd.R_drew)); exact Kd.R_mono HO_6.out (fun _ hk => trivial)⟩, ⟨bm BK336⟩, ⟨bw1 HB GE336⟩⟩
     ·rw [if_neg c13] at H
      exact absurd H (by simp)
    ·rw [if_neg c12] at H
     have c12b0 : decide (x7_1 < (t338.length : Int)) = false := decide_eq_false c12
     clear c12
     simp only [Option.some.injEq, Prod.mk.injEq] at H
     obtain ⟨rfl, rfl⟩ := H
     obtain ⟨Ao44, co44, eo44⟩ := Kd.S_slice HO_5.out
     subst eo44
     go_wp2
     go_ret2
     exact ⟨_, by first | rfl | (simp [errW_none, errW_some] <;> rfl) | (simp [*, errW_none, errW_some] <;> rfl), by (with_reducible repeat (first | apply Kd.R_alloc | apply Kd.R_drewN | apply Kd.R_drew)); exact HO_6.out, bw1 HB GE336⟩
 ·rw [if_neg c3] at H
  have c3b0 : (t337 == 0) = false := beq_eq_false_iff_ne.mpr c3
  have c3b1 : (t337 != 0) = true := bne_iff_ne.mpr c3
  simp only [Option.some.injEq, Prod.mk.injEq] at H
  obtain ⟨rfl, rfl⟩ := H
  go_enter Tryd.func35, Tryd.ntmps35
  go_wp2_with (first | ((with_reducible refine gate_dst (N := 1) rfl ?_); (try (refine gate_guard (by rfl) ?_; dsimp only)); refine bx 1 #[.slice A0_0 l0_0.length c0_0, .slice A0_1 l0_1.length c0_1, .int .i64 a0_2] 25 ?_; intro gb336 hg w45 hbox hb; have n0_ := Aside0.mk (below_step (bw HB) hb); have n1_ := Aside0.mk (hbox); have n2_ := Aside0.mk (bz (bw HB) hg); have n3_ := Aside0.mk (bz (bw HB) hg); clear HB; have HB := n0_; have BK336 := n1_; have GW336 := n2_; have GE336 := n3_; clear n0_ n1_ n2_ n3_; clear hb hbox hg; obtain ⟨hcz46_0, hcz46_1, hcz46_2, hfz46_0, hfz46_1, hfz46_2⟩ := b3 BK336) | ((with_reducible refine gate_callee (f := 19) rfl ?_); refine gL (some 10) Tryd.func19 #[.agg #[.slice A0_0 l0_0.length c0_0, .slice A0_1 l0_1.length c0_1, .int .i64 a0_2]] ?_; (with_reducible refine (macadamref04_Check.calls k _ _ l0_0 _ _ l0_1 a0_2 t337 _ ?side1 ?side2 ?side3 ?side4 A2.out).mono ?_); (case side1 => repeat (first | exact (Kd.C_below HR0_0.out HB.out) | (with_reducible refine Kd.C_alloc ?_ _) | (with_reducible refine Kd.C_drewN ?_ _) | (with_reducible refine Kd.C_drew ?_))); (case side2 => exact HC0_0.out); (case side3 => repeat (first | exact (Kd.C_below HR0_1.out HB.out) | (with_reducible refine Kd.C_alloc ?_ _) | (with_reducible refine Kd.C_drewN ?_ _) | (with_reducible refine Kd.C_drew ?_))); (case side4 => exact HC0_1.out); rintro e w47 ⟨rfl, hb⟩; refine ⟨_, rfl, ?_⟩; have n0_ := Aside0.mk (blk_below (bm BK336) hb); have n1_ := Aside0.mk (below_step (bw1 HB GE336) hb); clear BK336; clear HB; have BK336 := n0_; have HB := n1_; clear n0_ n1_; (try clear hb); (try clear hb2); (try clear hk); (try clear hi)))
  go_ret2
  exact ⟨_, by first | rfl | (simp [errW_none, errW_some] <;> rfl) | (simp [*, errW_none, errW_some] <;> rfl), by first | exact Kd.R_nil _ _ _ _ _ | exact Kd.N_nil _ _ _ _ _ | exact Kd.V_nil _ _ _ _ _ | exact Kd.Q_nil _ _ _ _ _ | exact Kd.S_nil _ _ _ _ _, bw1 HB GE336⟩
mutual
def macadamref04_First.l0 : Nat → List (List (S59)) → Int → Int → List (S66) → List (S63) → Int → Option (Int × Int)
 | 0, _, _, _, _, _, _ => none
 | k + 1, x5, x6, x7, x351000, x351001, x351002 => if x7 < (x5.length : Int) then (if 0 ≤ x7 then ((macadamref04_mended.f k x351000 x351001 x351002 (rd_L5 x5 x7)).bind fun t356 => (macadamref04_First.l0 k x5 (Go.bits .or .i64 x6 t356) (wrap64 (x7 + 1)) x351000 x351001 x351002)) else (none)) else (macadamref04_First.l1 k x6 0 x351000 x351001 x351002)
def macadamref04_First.l1 : Nat → Int → Int → List (S66) → List (S63) → Int → Option (Int × Int)
 | 0, _, _, _, _, _ => none
 | k + 1, x6, x8, x351000, x351001, x351002 => if x8 < (x351000.length : Int) then ((macadamref00_In.f x6 x8).bind fun t357 => (if t357 = true then (macadamref04_First.l1 k x6 (wrap64 (x8 + 1)) x351000 x351001 x351002) else (some (x8, 0)))) else (some (0, 4))
end
def macadamref04_First.f (k : Nat) (l0_0 : List (S66)) (l0_1 : List (S63)) (a0_2 : Int) : Option (Int × Int) := (macadamref04_Check.f k l0_0 l0_1 a0_2).bind fun t351 => (if t351 = 0 then ((macadamref04_plans.f k l0_0 l0_1 a0_2 a0_2).bind fun t352 => (macadamref04_First.l0 k t352 0 0 l0_0 l0_1 a0_2)) else (some (0, t351)))
def macadamref04_First.T8 : Bool × List (List Nat × List Nat) := (true, [([], []), ([], []), ([], []), ([], []), ([2, 3], [2, 3]), ([4], [4]), ([1, 5], [1, 5]), ([0, 6], [0, 6]), ([7, 6, 0, 1, 2, 3, 4, 5, 6, 7], [0, 7])])
def macadamref04_First.B8 : List Nat := [0, 0, 0, 0, 12, 28, 62, 127, 255]
theorem macadamref04_First.tab8 : rtab .any (opsOf Tryd.f37 8) = macadamref04_First.T8 := by kernel_rfl
theorem macadamref04_First.bits8 : waitsOk macadamref04_First.T8.2 macadamref04_First.B8 = true := by kernel_rfl
set_option maxHeartbeats 8000000 in
set_option maxRecDepth 100000 in
theorem macadamref04_First.calls (k : Nat) (A0_0 : Option Addr) (c0_0 : Nat) (l0_0 : List (S66)) (A0_1 : Option Addr) (c0_1 : Nat) (l0_1 : List (S63)) (a0_2 : Int) (r1 : Int) (r2 : Int) (w : World) (hr0_0 : Kd.C k66 w A0_0 l0_0.length l0_0) (hc0_0 : l0_0.length ≤ c0_0) (hr0_1 : Kd.C k63 w A0_1 l0_1.length l0_1) (hc0_1 : l0_1.length ≤ c0_1) (h : macadamref04_First.f k l0_0 l0_1 a0_2 = some (r1, r2)) :
  Calls Tryd.prog 37 #[.agg #[.slice A0_0 l0_0.length c0_0, .slice A0_1 l0_1.length c0_1, .int .i64 a0_2]] w fun e w' => e = .returned (.tuple #[.int .i64 r1, .int .i64 r2]) ∧ Below w.heap.size w w' := by
 have hu25 := Tryd.underlying25
 have HR0_0 := Aside0.mk hr0_0
 have HC0_0 := Aside0.mk hc0_0
 clear hr0_0 hc0_0
 have HR0_1 := Aside0.mk hr0_1
 have HC0_1 := Aside0.mk hc0_1
 clear hr0_1 hc0_1
 have HB := Aside0.mk (Below.refl w.heap.size w)
 have H : ((macadamref04_Check.f k l0_0 l0_1 a0_2).bind fun t351 => (if t351 = 0 then ((macadamref04_plans.f k l0_0 l0_1 a0_2 a0_2).bind fun t352 => (macadamref04_First.l0 k t352 0 0 l0_0 l0_1 a0_2)) else (some (0, t351)))) = some (r1, r2) := h
 clear h
 replace H := Option.bind_eq_some_iff.mp H
 obtain ⟨t351, A20, H⟩ := H
 replace H : (if t351 = 0 then ((macadamref04_plans.f k l0_0 l0_1 a0_2 a0_2).bind fun t352 => (macadamref04_First.l0 k t352 0 0 l0_0 l0_1 a0_2)) else (some (0, t351))) = some (r1, r2) := H
 have A2 := Aside0.mk A20
 clear A20
 by_cases c3 : t351 = 0
 ·rw [if_pos c3] at H
  have c3b0 : (t351 == 0) = true := beq_iff_eq.mpr c3
  have c3b1 : (t351 != 0) = false := bne_eq_false_iff_eq.mpr c3
  clear c3
  replace H := Option.bind_eq_some_iff.mp H
  obtain ⟨t352, A40, H⟩ := H
  replace H : (macadamref04_First.l0 k t352 0 0 l0_0 l0_1 a0_2) = some (r1, r2) := H
  have A4 := Aside0.mk A40
  clear A40
  have H' := Aside0.mk H
  clear H
  go_enter Tryd.func37, Tryd.ntmps37
  go_wp2_with (first | ((with_reducible refine gate_dst (N := 1) rfl ?_); refine bx 1 #[.slice A0_0 l0_0.length c0_0, .slice A0_1 l0_1.length c0_1, .int .i64 a0_2] 25 ?_; intro gb350 hg w5 hbox hb; have n0_ := Aside0.mk (below_step (bw HB) hb); have n1_ := Aside0.mk (hbox); have n2_ := Aside0.mk (bz (bw HB) hg); have n3_ := Aside0.mk (bz (bw HB) hg); clear HB; have HB := n0_; have BK350 := n1_; have GW350 := n2_; have GE350 := n3_; clear n0_ n1_ n2_ n3_; clear hb hbox hg; obtain ⟨hcz6_0, hcz6_1, hcz6_2, hfz6_0, hfz6_1, hfz6_2⟩ := b3 BK350) | ((with_reducible refine gate_callee (f := 19) rfl ?_); refine gL (some 10) Tryd.func19 #[.agg #[.slice A0_0 l0_0.length c0_0, .slice A0_1 l0_1.length c0_1, .int .i64 a0_2]] ?_; (with_reducible refine (macadamref04_Check.calls k _ _ l0_0 _ _ l0_1 a0_2 t351 _ ?side1 ?side2 ?side3 ?side4 A2.out).mono ?_); (case side1 => repeat (first | exact (Kd.C_below HR0_0.out HB.out) | (with_reducible refine Kd.C_alloc ?_ _) | (with_reducible refine Kd.C_drewN ?_ _) | (with_reducible refine Kd.C_drew ?_))); (case side2 => exact HC0_0.out); (case side3 => repeat (first | exact (Kd.C_below HR0_1.out HB.out) | (with_reducible refine Kd.C_alloc ?_ _) | (with_reducible refine Kd.C_drewN ?_ _) | (with_reducible refine Kd.C_drew ?_))); (case side4 => exact HC0_1.out); rintro e w7 ⟨rfl, hb⟩; refine ⟨_, rfl, ?_⟩; have n0_ := Aside0.mk (blk_below (bm BK350) hb); have n1_ := Aside0.mk (below_step (bw1 HB GE350) hb); clear BK350; clear HB; have BK350 := n0_; have HB := n1_; clear n0_ n1_; (try clear hb); (try clear hb2); (try clear hk); (try clear hi); obtain ⟨hcz8_0, hcz8_1, hcz8_2, hfz8_0, hfz8_1, hfz8_2⟩ := b3 BK350) | ((with_reducible refine gate_callee (f := 82) rfl ?_); refine gL (some 17) Tryd.func82 #[.agg #[.slice A0_0 l0_0.length c0_0, .slice A0_1 l0_1.length c0_1, .int .i64 a0_2], .int .i64 a0_2] ?_; (with_reducible refine (macadamref04_plans.calls k _ _ l0_0 _ _ l0_1 a0_2 a0_2 t352 _ ?side1 ?side2 ?side3 ?side4 A4.out).mono ?_); (case side1 => repeat (first | exact (Kd.C_below HR0_0.out HB.out) | (with_reducible refine Kd.C_alloc ?_ _) | (with_reducible refine Kd.C_drewN ?_ _) | (with_reducible refine Kd.C_drew ?_))); (case side2 => exact HC0_0.out); (case side3 => repeat (first | exact (Kd.C_below HR0_1.out HB.out) | (with_reducible refine Kd.C_alloc ?_ _) | (with_reducible refine Kd.C_drewN ?_ _) | (with_reducible refine Kd.C_drew ?_))); (case side4 => exact HC0_1.out); rintro e w9 ⟨v353, rfl, ho0, hb⟩; refine ⟨_, rfl, ?_⟩; have n0_ := Aside0.mk (Kd.S_lower ho0 (below_size (bw1 HB GE350))); have n1_ := Aside0.mk (blk_below (bm BK350) hb); have n2_ := Aside0.mk (below_step (bw1 HB GE350) hb); clear BK350; clear HB; have HO354 := n0_; have BK350 := n1_; have HB := n2_; clear n0_ n1_ n2_; (try clear hb); (try clear hb2); (try clear hk); (try clear hi); (try clear ho0)))
  go_loopg [6, 7] k (fun kq v6 v7 w' => ∃ (x6_1 : Int) (x7_1 : Int), v6 = .int .i64 x6_1 ∧ v7 = .int .i64 x7_1 ∧ Aside0 (macadamref04_First.l0 kq t352 x6_1 x7_1 l0_0 l0_1 a0_2 = some (r1, r2)) ∧ Aside0 (kq ≤ k) ∧ Aside0 (Kd.S (Kd.slice 59 k59) 26 w' w.heap.size (fun _ => True) v353 t352) ∧ Aside0 (w'.heap[gb350]? = some (.cells #[(.slice A0_0 l0_0.length c0_0), (.slice A0_1 l0_1.length c0_1), .int .i64 a0_2] 25 (0, 0))) ∧ Aside0 (Below w.heap.size w w'))
  case atStart => exact ⟨(0), (0), (by first | rfl | (simp; done) | (simp [*]; done)), (by first | rfl | (simp; done) | (simp [*]; done)), H', ⟨Nat.le_refl _⟩, ⟨by (with_reducible repeat (first | apply Kd.S_alloc | apply Kd.S_drewN | apply Kd.S_drew)); exact HO354.out⟩, ⟨bm BK350⟩, ⟨bw1 HB GE350⟩⟩
  case round =>
   clear H'
   try clear c1
   try clear p2
   try clear c3
   try clear c3b0
   try clear c3b1
   try clear c8
   try clear hcz6_0
   try clear hcz6_1
   try clear hcz6_2
   try clear hcz8_0
   try clear hcz8_1
   try clear hcz8_2
   try clear hfz6_0
   try clear hfz6_1
   try clear hfz6_2
   try clear hfz8_0
   try clear hfz8_1
   try clear hfz8_2
   obtain ⟨x6_1, x7_1, rfl, rfl, HA, HK1, HO_5, BK350, HB⟩ := hrel
   cases gk with
   | zero => exact absurd HA.out (by simp [macadamref04_First.l0])
   | succ k1 =>
    have H := HA.out
    clear HA
    simp only [macadamref04_First.l0] at H
    by_cases c10 : x7_1 < (t352.length : Int)
    ·rw [if_pos c10] at H
     have c10b0 : decide (x7_1 < (t352.length : Int)) = true := decide_eq_true c10
     clear c10
     by_cases c11 : 0 ≤ x7_1
     ·rw [if_pos c11] at H
      have c11b0 : decide (0 ≤ x7_1) = true := decide_eq_true c11
      clear c11
      replace H := Option.bind_eq_some_iff.mp H
      obtain ⟨t356, A120, H⟩ := H
      replace H : (macadamref04_First.l0 k1 t352 (Go.bits .or .i64 x6_1 t356) (wrap64 (x7_1 + 1)) l0_0 l0_1 a0_2) = some (r1, r2) := H
      have A12 := Aside0.mk A120
      clear A120
      have H' := Aside0.mk H
      clear H
      obtain ⟨Ao13, co13, eo13⟩ := Kd.S_slice HO_5.out
      subst eo13
      try go_wp2
      have n0_ := Aside0.mk (Kd.S_drew HO_5.out)
      have n1_ := Aside0.mk (blk_drew BK350.out)
      have n2_ := Aside0.mk (below_drew1 HB.out)
      clear HO_5
      clear BK350
      clear HB
      have HO_5 := n0_
      have BK350 := n1_
      have HB := n2_
      clear n0_ n1_ n2_
      have p355 : 0 ≤ (x7_1 : Int) := of_decide_eq_true (by first | (with_reducible assumption) | assumption)
      have q355 : x7_1 < (t352.length : Int) := of_decide_eq_true (by first | (with_reducible assumption) | assumption)
      obtain ⟨ad355, A355_0, c355_0, e355, hx355_0, hl355_0, hi355_0⟩ := at_L5 (Kd.S_reads' HO_5.out).2.2 x7_1 p355 q355
      cases e355
      obtain ⟨ce355, hce355, hMe355, hcc355⟩ := Kd.S_get HO_5.out [] x7_1 p355 (by first | exact q355 | exact of_decide_eq_true (by first | (with_reducible assumption) | assumption) | (have e_ := (Kd.S_reads' HO_5.out).1; omega))
      obtain ⟨ve355_0, rfl, ge355_0⟩ := hMe355
      have hv355_0 := hcc355 0 _ rfl
      rw [Nat.add_zero, show ((Kd.slice 59 k59)).sz = 1 from rfl, Nat.mul_one] at hv355_0
      replace hv355_0 := Option.some.inj (hv355_0.symm.trans hx355_0)
      rw [hv355_0] at ge355_0
      have HL355_0 := Aside0.mk (show Kd.R k59 59 _ _ _ _ (rd_L5 t352 x7_1) from ge355_0)
      clear hv355_0 ge355_0
      clear hcc355 hce355
      have HR355_0 := Aside0.mk hi355_0
      have HC355_0 := Aside0.mk hl355_0
      clear hi355_0 hl355_0
      replace p355 := eq_true p355
      replace q355 := eq_true q355
      refine start_ (n := 9) (S := fun w' => w'.cell? ⟨gb350, 0, none⟩ = some (.slice A0_0 l0_0.length c0_0) ∧ w'.cell? ⟨gb350, 1, none⟩ = some (.slice A0_1 l0_1.length c0_1) ∧ w'.cell? ⟨gb350, 2, none⟩ = some (.int .i64 a0_2) ∧ w'.cell? (ad355.add (x7_1).toNat) = some (.slice A355_0 (rd_L5 t352 x7_1).length c355_0)) (ds := []) (bs 9 0) (by kernel_rfl) rfl rfl ⟨(blk_cell BK350.out 0).trans rfl, (blk_cell BK350.out 1).trans rfl, (blk_cell BK350.out 2).trans rfl, hx355_0⟩ (fun hHeld => ?_); refine with_tabW macadamref04_First.tab8 macadamref04_First.bits8 (fun HT_ HW_ => ?_)
      generalize wr.drew = w14 at HO_5 BK350 HB HL355_0 HR355_0 hx355_0 hHeld ⊢
      refine pu HT_ 0 (some 24) (bs 9 1) ?_
      refine pu HT_ 2 (some 26) (bs 9 5) ?_
      refine pu HT_ 3 (some 27) (bs 9 13) ?_
      refine pu HT_ 4 (some 28) (bs 9 29) ?_
      refine tk4 HT_ HW_ hHeld 1 (some 25) (bs 9 31) ?_
      refine tk4 HT_ HW_ hHeld 5 (some 29) (bs 9 63) ?_
      refine on HT_ 6 (some 30) (bs 9 127) (fun K hK => ?_)
      refine goes_ Tryd.func78 (by kernel_rfl) rfl #[.agg #[.slice A0_0 l0_0.length c0_0, .slice A0_1 l0_1.length c0_1, .int .i64 a0_2], .slice A355_0 (rd_L5 t352 x7_1).length c355_0] (by rfl) rfl rfl (by (try simp only [List.map_toArray, List.map_cons, List.map_nil]); first | done | rfl | (simp only [List.length_drop, List.length_take]; rfl)) ?_
      with_reducible refine (macadamref04_mended.calls k1 _ _ l0_0 _ _ l0_1 a0_2 _ _ (rd_L5 t352 x7_1) t356 _ ?side1 ?side2 ?side3 ?side4 ?side5 ?side6 A12.out).mono ?_
      (case side1 => repeat (first | exact (Kd.C_below HR0_0.out HB.out) | (with_reducible refine Kd.C_alloc ?_ _) | (with_reducible refine Kd.C_drewN ?_ _) | (with_reducible refine Kd.C_drew ?_)))
      (case side2 => exact HC0_0.out)
      (case side3 => repeat (first | exact (Kd.C_below HR0_1.out HB.out) | (with_reducible refine Kd.C_alloc ?_ _) | (with_reducible refine Kd.C_drewN ?_ _) | (with_reducible refine Kd.C_drew ?_)))
      (case side4 => exact HC0_1.out)
      (case side5 => repeat (first | exact (by repeat (first | (with_reducible exact HR355_0.out) | (with_reducible refine Kd.C_alloc ?_ _) | (with_reducible refine Kd.C_drewN ?_ _) | (with_reducible refine Kd.C_drew ?_) | exact HR355_0.out)) | (with_reducible refine Kd.C_alloc ?_ _) | (with_reducible refine Kd.C_drewN ?_ _) | (with_reducible refine Kd.C_drew ?_)))
      (case side6 => exact HC355_0.out)
      rintro e w15 ⟨rfl, hb⟩
      have HS3_ := (hb.cell (World.block_lt_of_cell? _ _ (hHeld.2.2.2))).trans (hHeld.2.2.2)
      refine ⟨_, rfl, ?_⟩
      have n0_ := Aside0.mk (Kd.S_below (by (with_reducible repeat (first | apply Kd.S_alloc | apply Kd.S_drewN | apply Kd.S_drew)); exact HO_5.out) hb)
      have n1_ := Aside0.mk (Kd.R_below (by (with_reducible repeat (first | apply Kd.R_alloc | apply Kd.R_drewN | apply Kd.R_drew)); exact HL355_0.out) hb)
      have n2_ := Aside0.mk (blk_below (bm BK350) hb)
      have n3_ := Aside0.mk (Kd.C_below (by repeat (first | (with_reducible exact HR355_0.out) | (with_reducible refine Kd.C_alloc ?_ _) | (with_reducible refine Kd.C_drewN ?_ _) | (with_reducible refine Kd.C_drew ?_) | exact HR355_0.out)) hb)
      have n4_ := Aside0.mk (below_step (bw1 HB GE350) hb)
      clear HO_5
      clear HL355_0
      clear BK350
      clear HR355_0
      clear HB
      have HO_5 := n0_
      have HL355_0 := n1_
      have BK350 := n2_
      have HR355_0 := n3_
      have HB := n4_
      clear n0_ n1_ n2_ n3_ n4_
      (try clear hb)
      (try clear hb2)
      (try clear hk)
      (try clear hi)
      refine hK.out _ _ ⟨(blk_cell BK350.out 0).trans rfl, (blk_cell BK350.out 1).trans rfl, (blk_cell BK350.out 2).trans rfl, HS3_⟩ (fun hHeld => ?_)
      clear hK K
      refine nm 30 ?_
      refine pu HT_ 7 (some 31) (bs 9 255) ?_
      refine pu HT_ 8 (some 6) (bs 9 511) ?_
      refine done_ (done_of HT_.out (by kernel_rfl)) ?_
      try go_wp2
      go_roundg k1
      case measure => have := HK1.out; omega
      case rel => exact ⟨(Go.bits .or .i64 x6_1 t356), (wrap64 (x7_1 + 1)), (by first | rfl | (simp; done) | (simp [*]; done)), (by first | rfl | (simp; done) | (simp [*]; done)), H', ⟨by have := HK1.out; omega⟩, ⟨by (with_reducible repeat (first | apply Kd.S_alloc | apply Kd.S_drewN | apply Kd.S_drew)); exact HO_5.out⟩, ⟨bm BK350⟩, ⟨bw1 HB GE350⟩⟩
     ·rw [if_neg c11] at H
      exact absurd H (by simp)
    ·rw [if_neg c10] at H
     have c10b0 : decide (x7_1 < (t352.length : Int)) = false := decide_eq_false c10
     clear c10
     have H' := Aside0.mk H
     clear H
     obtain ⟨Ao16, co16, eo16⟩ := Kd.S_slice HO_5.out
     subst eo16
     go_wp2
     go_loopg [8] k1 (fun kq v8 w' => ∃ (x8_2 : Int), v8 = .int .i64 x8_2 ∧ Aside0 (macadamref04_First.l1 kq x6_1 x8_2 l0_0 l0_1 a0_2 = some (r1, r2)) ∧ Aside0 (kq ≤ k1) ∧ Aside0 (w'.heap[gb350]? = some (.cells #[(.slice A0_0 l0_0.length c0_0), (.slice A0_1 l0_1.length c0_1), .int .i64 a0_2] 25 (0, 0))) ∧ Aside0 (Below w.heap.size w w'))
     case atStart => exact ⟨(0), (by first | rfl | (simp; done) | (simp [*]; done)), H', ⟨Nat.le_refl _⟩, ⟨bm BK350⟩, ⟨bw1 HB GE350⟩⟩
     case round =>
      clear H'
      try clear c1
      try clear p2
      try clear c3
      try clear c3b0
      try clear c3b1
      try clear p3
      try clear q3
      try clear hx3
      try clear p6
      try clear c7
      try clear c8
      try clear c10
      try clear c10b0
      try clear c11
      try clear c11b0
      try clear hcz6_0
      try clear hcz6_1
      try clear hcz6_2
      try clear hcz8_0
      try clear hcz8_1
      try clear hcz8_2
      try clear hfz6_0
      try clear hfz6_1
      try clear hfz6_2
      try clear hfz8_0
      try clear hfz8_1
      try clear hfz8_2
      try clear hx355_0
      try clear p2
      try clear p355
      try clear q355
      obtain ⟨x8_2, rfl, HA, HK2, BK350, HB⟩ := hrel
      cases gk with
      | zero => exact absurd HA.out (by simp [macadamref04_First.l1])
      | succ k2 =>
       have H := HA.out
       clear HA
       simp only [macadamref04_First.l1] at H
       by_cases c17 : x8_2 < (l0_0.length : Int)
       ·rw [if_pos c17] at H
        have c17b0 : decide (x8_2 < (l0_0.length : Int)) = true := decide_eq_true c17
        clear c17
        replace H := Option.bind_eq_some_iff.mp H
        obtain ⟨t357, A180, H⟩ := H
        replace H : (if t357 = true then (macadamref04_First.l1 k2 x6_1 (wrap64 (x8_2 + 1)) l0_0 l0_1 a0_2) else (some (x8_2, 0))) = some (r1, r2) := H
        have A18 := Aside0.mk A180
        clear A180
        by_cases c19 : t357 = true
        ·subst c19
         have H1 : (macadamref04_First.l1 k2 x6_1 (wrap64 (x8_2 + 1)) l0_0 l0_1 a0_2) = some (r1, r2) := by rw [if_pos rfl] at H; exact H
         clear H
         have H := H1
         clear H1
         have H' := Aside0.mk H
         clear H
         obtain ⟨hcz20_0, hcz20_1, hcz20_2, hfz20_0, hfz20_1, hfz20_2⟩ := b3 BK350
         go_wp2_with (first | ((with_reducible refine gate_callee (f := 46) rfl ?_); refine gL (some 41) Tryd.func46 #[.int .i64 x6_1, .int .i64 x8_2] ?_; (with_reducible refine (macadamref00_In.calls x6_1 x8_2 true _ A18.out).mono ?_); rintro e w' ⟨rfl, ⟨nd, rfl⟩⟩; refine ⟨_, rfl, ?_⟩))
         go_roundg k2
         case measure => have := HK1.out; have := HK2.out; omega
         case rel => exact ⟨(wrap64 (x8_2 + 1)), (by first | rfl | (simp; done) | (simp [*]; done)), H', ⟨by have := HK1.out; have := HK2.out; omega⟩, ⟨bm BK350⟩, ⟨bw1 HB GE350⟩⟩
        ·replace c19 := Bool.eq_false_iff.mpr c19
         subst c19
         have H1 : (some (x8_2, 0)) = some (r1, r2) := by rw [if_neg (show ¬ (false = true) by decide)] at H; exact H
         clear H
         have H := H1
         clear H1
         simp only [Option.some.injEq, Prod.mk.injEq] at H
         obtain ⟨rfl, rfl⟩ := H
         obtain ⟨hcz21_0, hcz21_1, hcz21_2, hfz21_0, hfz21_1, hfz21_2⟩ := b3 BK350
         go_wp2_with (first | ((with_reducible refine gate_callee (f := 46) rfl ?_); refine gL (some 41) Tryd.func46 #[.int .i64 x6_1, .int .i64 x8_2] ?_; (with_reducible refine (macadamref00_In.calls x6_1 x8_2 false _ A18.out).mono ?_); rintro e w' ⟨rfl, ⟨nd, rfl⟩⟩; refine ⟨_, rfl, ?_⟩))
         go_ret2
         exact ⟨by first | rfl | (simp [errW_none, errW_some] <;> rfl) | (simp [*, errW_none, errW_some] <;> rfl), bw1 HB GE350⟩
       ·rw [if_neg c17] at H
        have c17b0 : decide (x8_2 < (l0_0.length : Int)) = false := decide_eq_false c17
        clear c17
        simp only [Option.some.injEq, Prod.mk.injEq] at H
        obtain ⟨rfl, rfl⟩ := H
        obtain ⟨hcz22_0, hcz22_1, hcz22_2, hfz22_0, hfz22_1, hfz22_2⟩ := b3 BK350
        go_wp2
        go_ret2
        exact ⟨by first | rfl | (simp [errW_none, errW_some] <;> rfl) | (simp [*, errW_none, errW_some] <;> rfl), bw1 HB GE350⟩
 ·rw [if_neg c3] at H
  have c3b0 : (t351 == 0) = false := beq_eq_false_iff_ne.mpr c3
  have c3b1 : (t351 != 0) = true := bne_iff_ne.mpr c3
  simp only [Option.some.injEq, Prod.mk.injEq] at H
  obtain ⟨rfl, rfl⟩ := H
  go_enter Tryd.func37, Tryd.ntmps37
  go_wp2_with (first | ((with_reducible refine gate_dst (N := 1) rfl ?_); refine bx 1 #[.slice A0_0 l0_0.length c0_0, .slice A0_1 l0_1.length c0_1, .int .i64 a0_2] 25 ?_; intro gb350 hg w23 hbox hb; have n0_ := Aside0.mk (below_step (bw HB) hb); have n1_ := Aside0.mk (hbox); have n2_ := Aside0.mk (bz (bw HB) hg); have n3_ := Aside0.mk (bz (bw HB) hg); clear HB; have HB := n0_; have BK350 := n1_; have GW350 := n2_; have GE350 := n3_; clear n0_ n1_ n2_ n3_; clear hb hbox hg; obtain ⟨hcz24_0, hcz24_1, hcz24_2, hfz24_0, hfz24_1, hfz24_2⟩ := b3 BK350) | ((with_reducible refine gate_callee (f := 19) rfl ?_); refine gL (some 10) Tryd.func19 #[.agg #[.slice A0_0 l0_0.length c0_0, .slice A0_1 l0_1.length c0_1, .int .i64 a0_2]] ?_; (with_reducible refine (macadamref04_Check.calls k _ _ l0_0 _ _ l0_1 a0_2 t351 _ ?side1 ?side2 ?side3 ?side4 A2.out).mono ?_); (case side1 => repeat (first | exact (Kd.C_below HR0_0.out HB.out) | (with_reducible refine Kd.C_alloc ?_ _) | (with_reducible refine Kd.C_drewN ?_ _) | (with_reducible refine Kd.C_drew ?_))); (case side2 => exact HC0_0.out); (case side3 => repeat (first | exact (Kd.C_below HR0_1.out HB.out) | (with_reducible refine Kd.C_alloc ?_ _) | (with_reducible refine Kd.C_drewN ?_ _) | (with_reducible refine Kd.C_drew ?_))); (case side4 => exact HC0_1.out); rintro e w25 ⟨rfl, hb⟩; refine ⟨_, rfl, ?_⟩; have n0_ := Aside0.mk (blk_below (bm BK350) hb); have n1_ := Aside0.mk (below_step (bw1 HB GE350) hb); clear BK350; clear HB; have BK350 := n0_; have HB := n1_; clear n0_ n1_; (try clear hb); (try clear hb2); (try clear hk); (try clear hi)))
  go_ret2
  exact ⟨by first | rfl | (simp [errW_none, errW_some] <;> rfl) | (simp [*, errW_none, errW_some] <;> rfl), bw1 HB GE350⟩
end Go.Proofs.YtikfghnkbgdbgaaDoor.Q
end
section
namespace Go.Proofs.YtikfghnkbgdbgaaDoor.Q
set_option linter.unusedSimpArgs false
set_option linter.unusedVariables false
open Go.RowKit Go.Proofs.YtikfghnkbgdbgaaDoorW.PrintWords Go.Proofs.YtikfghnkbgdbgaaDoorW.PrintLast Go.Proofs.YtikfghnkbgdbgaaDoorW.PrintMore
section
variable {ms : List M} {gs : List G} {n : Int}
theorem mendedL_len (p : List Wk) : (mendedL ms gs p).length ≤ ms.length := rmended_len
theorem rMost_l0 (ok : okB ms gs n = true) (L : List (List Wk)) (hL : L.length ≤ 1000000000) (hp : ∀ q ∈ L, planB ms gs n q = true) (d : Nat) : ∀ (i : Nat) (best : List Int), L.length - i = d → i ≤ L.length → best.length ≤ 4 →
    Ev (fun k => macadamref04_Most.l0 k L best i ms gs n) ((L.drop i).foldl (mostStep ms gs) best, 0) := by
  have hm4 := (okB_sizes ok).1.2
  induction d with
  | zero =>
    intro i best hd hi hb
    refine Ev.step (f := fun _ => some (best, 0)) (fun k => ?_) ?_
    · simp only [macadamref04_Most.l0]; rw [if_neg (by omega)]
    · rw [List.drop_of_length_le (by omega)]; exact Ev.now _
  | succ d ih =>
    intro i best hd hi hb
    have hlt : i < L.length := by omega
    have hpl := hp _ (rdL_mem hlt)
    have h8 := plan_len ok hpl
    obtain ⟨s, hs, hbit, he⟩ := rmended_ev ok (p := rd_L5 L i) (by omega) hpl
    have hset := set_mended ok (p := rd_L5 L i) hbit
    have hall := all_f hs.1 hs.2
    rw [hset] at hall
    have hml := mendedL_len (ms := ms) (gs := gs) (rd_L5 L (i : Int))
    rw [rdL_drop L i hlt, List.foldl_cons]
    refine Ev.step (f := fun k => (macadamref04_mended.f k ms gs n (rd_L5 L i)).bind fun t345 => ((macadamref00_All.f k t345 4).bind fun t346 => (if (t346.length : Int) > (best.length : Int) then (macadamref04_Most.l0 k L t346 ((i + 1 : Nat) : Int) ms gs n) else (if (t346.length : Int) = (best.length : Int) then ((macadamref00_Sooner.f k t346 best).bind fun t349 => (if t349 = true then (macadamref04_Most.l0 k L t346 ((i + 1 : Nat) : Int) ms gs n) else (macadamref04_Most.l0 k L best ((i + 1 : Nat) : Int) ms gs n))) else (macadamref04_Most.l0 k L best ((i + 1 : Nat) : Int) ms gs n))))) (fun k => ?_) (Ev.bind he (Ev.bind hall ?_))
    · simp only [macadamref04_Most.l0]
      rw [if_pos (by omega), if_pos (by omega), show wrap64 ((i : Int) + 1) = ((i + 1 : Nat) : Int) by unfold wrap64; omega]
    · unfold mostStep
      by_cases h1 : ((mendedL ms gs (rd_L5 L i)).length : Int) > (best.length : Int)
      · refine Ev.pos h1 ?_
        rw [if_pos (Or.inl (by omega))]
        exact ih (i + 1) _ (by omega) (by omega) (by omega)
      · refine Ev.neg h1 ?_
        by_cases h2 : ((mendedL ms gs (rd_L5 L i)).length : Int) = (best.length : Int)
        · refine Ev.pos h2 (Ev.bind (sooner_ev _ _ (by omega) (by omega)) ?_)
          by_cases h3 : cmpIL (mendedL ms gs (rd_L5 L i)) best < 0
          · rw [if_pos (Or.inr ⟨by omega, h3⟩)]
            exact Ev.pos (by simpa using h3) (ih (i + 1) _ (by omega) (by omega) (by omega))
          · rw [if_neg (fun h => h.elim (fun h => by omega) (fun h => h3 h.2))]
            exact Ev.neg (by simpa using h3) (ih (i + 1) _ (by omega) (by omega) hb)
        · refine Ev.neg h2 ?_
          rw [if_neg (fun h => h.elim (fun h => by omega) (fun h => h2 (by omega)))]
          exact ih (i + 1) _ (by omega) (by omega) hb
theorem plansR_len (ok : okB ms gs n = true) (many : Nat) (hm : many ≤ 4) : (plansR ms gs n many).length ≤ 390625 := by
  have key : ∀ (d t : Nat) (out : List (List Wk)), (plansFrom ms gs n d t out).length ≤ out.length * 25 ^ d := by
    intro d
    induction d with
    | zero => intro t out; simp [plansFrom]
    | succ d ih =>
      intro t out
      refine Nat.le_trans (ih (t + 1) _) ?_
      have := flat_len out (fun p => (nightsT ms gs n t).map (fun q => p ++ q)) 25 (fun a _ => by simpa using nightsT_len ok (t : Int))
      rw [Nat.pow_succ, Nat.mul_comm (25 ^ d) 25, ← Nat.mul_assoc]
      exact Nat.mul_le_mul_right _ this
  refine Nat.le_trans (key many 0 [[]]) ?_
  have : many = 0 ∨ many = 1 ∨ many = 2 ∨ many = 3 ∨ many = 4 := by omega
  rcases this with h | h | h | h | h <;> simp [h]
theorem most_same (ok : okB ms gs n = true) (L : List (List Wk)) (hp : ∀ q, q ∈ L ↔ q ∈ plansL ms gs n n) : L.foldl (mostStep ms gs) [] = mostL ms gs n := by
  obtain ⟨a1, a2, a3⟩ := most_fold ms gs L []
  obtain ⟨b1, b2, b3⟩ := most_fold ms gs (plansL ms gs n n) []
  unfold mostL
  refine moreI_total ?_ ?_
  · rcases a1 with h | ⟨p, hm, h⟩
    · rw [h]; exact b3
    · rw [h]; exact b2 p ((hp p).1 hm)
  · rcases b1 with h | ⟨p, hm, h⟩
    · rw [h]; exact a3
    · rw [h]; exact a2 p ((hp p).2 hm)
theorem rMost_ev (hm : ms.length ≤ 9223372036854775807) (hg : gs.length ≤ 9223372036854775807) : ∃ r, gang_Most.f ms gs n = some r ∧ Ev (fun k => macadamref04_Most.f k ms gs n) r := by
  have hc := rcheck_ev ms gs n hm hg
  unfold gang_Most.f macadamref04_Most.f
  by_cases ok : okB ms gs n = true
  · rw [if_pos ok] at hc ⊢
    obtain ⟨hn1, hn2⟩ := (okB_sizes ok).2.2
    obtain ⟨N, rfl⟩ : ∃ N : Nat, n = (N : Int) := ⟨n.toNat, by omega⟩
    refine ⟨_, rfl, Ev.bind hc (Ev.pos rfl (Ev.bind (plans_ev ok N (by omega)) ?_))⟩
    have h := rMost_l0 ok (plansR ms gs N N) (by have := plansR_len ok N (by omega); omega) (fun q hq => ((mem_plansL (okB_sizes ok).2.1.1 (okB_sizes ok).2.1.2 (by omega) q).1 ((mem_plansR ok N q).1 hq)).1) _ 0 [] rfl (by omega) (by simp)
    rw [List.drop_zero, most_same ok _ (fun q => mem_plansR ok N q)] at h
    exact h
  · rw [if_neg ok] at hc ⊢
    exact ⟨_, rfl, Ev.bind hc (Ev.neg (by decide) (Ev.now _))⟩
theorem or2_small : ∀ (a b : Fin 16), 0 ≤ Go.bits .or .i64 ((a : Nat) : Int) ((b : Nat) : Int) ∧ Go.bits .or .i64 ((a : Nat) : Int) ((b : Nat) : Int) ≤ 15 ∧
    ∀ j : Fin 4, bitB (Go.bits .or .i64 ((a : Nat) : Int) ((b : Nat) : Int)) ((j : Nat) : Int) = (bitB ((a : Nat) : Int) ((j : Nat) : Int) || bitB ((b : Nat) : Int) ((j : Nat) : Int)) := by decide +kernel
theorem or2_bit {a b : Int} (h0 : 0 ≤ a ∧ a ≤ 15) (h1 : 0 ≤ b ∧ b ≤ 15) : (0 ≤ Go.bits .or .i64 a b ∧ Go.bits .or .i64 a b ≤ 15) ∧ ∀ j, 0 ≤ j → j ≤ 3 → bitB (Go.bits .or .i64 a b) j = (bitB a j || bitB b j) := by
  obtain ⟨a, rfl⟩ := toFin (n := 16) h0.1 (by omega)
  obtain ⟨b, rfl⟩ := toFin (n := 16) h1.1 (by omega)
  refine ⟨⟨(or2_small a b).1, (or2_small a b).2.1⟩, fun j hj0 hj1 => ?_⟩
  obtain ⟨j, rfl⟩ := toFin (n := 4) hj0 (by omega)
  exact (or2_small a b).2.2 j
theorem rFirst_l1 {s : Int} (hm : ms.length ≤ 4) (hs : 0 ≤ s ∧ s ≤ 15) (P : Int → Bool) (hb : ∀ j : Int, 0 ≤ j → j ≤ 3 → bitB s j = P j) (d : Nat) : ∀ (i : Nat), ms.length - i = d → i ≤ ms.length →
    Ev (fun k => macadamref04_First.l1 k s i ms gs n) (match ((upTo ms.length).drop i).find? (fun j => !P j) with | some j => (j, 0) | none => (0, 4)) := by
  induction d with
  | zero =>
    intro i hd hi
    refine Ev.step (f := fun _ => some (0, 4)) (fun k => ?_) ?_
    · simp only [macadamref04_First.l1]; rw [if_neg (by omega)]
    · rw [List.drop_of_length_le (by rw [upTo_length]; omega)]; exact Ev.now _
  | succ d ih =>
    intro i hd hi
    rw [upTo_drop (by omega)]
    refine Ev.step (f := fun k => if P (i : Int) = true then macadamref04_First.l1 k s ((i + 1 : Nat) : Int) ms gs n else some ((i : Int), 0)) (fun k => ?_) ?_
    · simp only [macadamref04_First.l1]
      rw [if_pos (by omega), in_f hs.1 hs.2 (by omega) (by omega), hb i (by omega) (by omega), show wrap64 ((i : Int) + 1) = ((i + 1 : Nat) : Int) by unfold wrap64; omega]
      rfl
    · rw [List.find?_cons]
      cases hP : P (i : Int) with
      | true => exact Ev.pos rfl (ih (i + 1) (by omega) (by omega))
      | false => exact Ev.neg (by simp) (Ev.now _)
theorem rFirst_l0 (ok : okB ms gs n = true) (L : List (List Wk)) (hL : L.length ≤ 1000000000) (hp : ∀ q ∈ L, planB ms gs n q = true) (d : Nat) : ∀ (i : Nat) (s : Int), L.length - i = d → i ≤ L.length → (0 ≤ s ∧ s ≤ 15) →
    ∃ s', (0 ≤ s' ∧ s' ≤ 15) ∧ (∀ j : Int, 0 ≤ j → j ≤ 3 → bitB s' j = (bitB s j || (L.drop i).any (fun p => decide (j ∈ mendedL ms gs p)))) ∧ ∀ r, Ev (fun k => macadamref04_First.l1 k s' ((0 : Nat) : Int) ms gs n) r → Ev (fun k => macadamref04_First.l0 k L s i ms gs n) r := by
  induction d with
  | zero =>
    intro i s hd hi hs
    refine ⟨s, hs, fun j _ _ => ?_, fun r hr => Ev.step (fun k => ?_) hr⟩
    · rw [List.drop_of_length_le (by omega)]; simp
    · simp only [macadamref04_First.l0]; rw [if_neg (by omega)]; rfl
  | succ d ih =>
    intro i s hd hi hs
    have hlt : i < L.length := by omega
    have hpl := hp _ (rdL_mem hlt)
    have h8 := plan_len ok hpl
    obtain ⟨t, ht, hbit, he⟩ := rmended_ev ok (p := rd_L5 L i) (by omega) hpl
    obtain ⟨ho, hob⟩ := or2_bit hs ht
    obtain ⟨s', h1, h2, h3⟩ := ih (i + 1) (Go.bits .or .i64 s t) (by omega) (by omega) ho
    refine ⟨s', h1, fun j hj0 hj1 => ?_, fun r hr => Ev.step (f := fun k => (macadamref04_mended.f k ms gs n (rd_L5 L i)).bind fun t356 => macadamref04_First.l0 k L (Go.bits .or .i64 s t356) ((i + 1 : Nat) : Int) ms gs n) (fun k => ?_) (Ev.bind he (h3 r hr))⟩
    · rw [h2 j hj0 hj1, hob j hj0 hj1, hbit j hj0 hj1, rdL_drop L i hlt, List.any_cons, Bool.or_assoc]
    · simp only [macadamref04_First.l0]
      rw [if_pos (by omega), if_pos (by omega), show wrap64 ((i : Int) + 1) = ((i + 1 : Nat) : Int) by unfold wrap64; omega]
theorem rFirst_ev (hm : ms.length ≤ 9223372036854775807) (hg : gs.length ≤ 9223372036854775807) : ∃ r, gang_First.f ms gs n = some r ∧ Ev (fun k => macadamref04_First.f k ms gs n) r := by
  have hc := rcheck_ev ms gs n hm hg
  unfold gang_First.f macadamref04_First.f
  by_cases ok : okB ms gs n = true
  · rw [if_pos ok] at hc ⊢
    obtain ⟨hn1, hn2⟩ := (okB_sizes ok).2.2
    have hm4 := (okB_sizes ok).1.2
    obtain ⟨N, rfl⟩ : ∃ N : Nat, n = (N : Int) := ⟨n.toNat, by omega⟩
    obtain ⟨s, hs, hb, he⟩ := rFirst_l0 ok (plansR ms gs N N) (by have := plansR_len ok N (by omega); omega) (fun q hq => ((mem_plansL (okB_sizes ok).2.1.1 (okB_sizes ok).2.1.2 (by omega) q).1 ((mem_plansR ok N q).1 hq)).1) _ 0 0 rfl (by omega) (by omega)
    have h1 := rFirst_l1 (gs := gs) (n := (N : Int)) hm4 hs (fun j => hadAny ms gs N j) (fun j h0 h1 => by
      rw [hb j h0 h1, bit0 h0 h1, Bool.false_or, List.drop_zero, Bool.eq_iff_iff]
      unfold hadAny
      simp only [List.any_eq_true, decide_eq_true_eq, List.contains_iff_mem]
      constructor
      · rintro ⟨p, hp, h⟩; exact ⟨p, (mem_plansR ok N p).1 hp, h⟩
      · rintro ⟨p, hp, h⟩; exact ⟨p, (mem_plansR ok N p).2 hp, h⟩) _ 0 rfl (by omega)
    rw [List.drop_zero] at h1
    refine ⟨_, ?_, Ev.bind hc (Ev.pos rfl (Ev.bind (plans_ev ok N (by omega)) (he _ h1)))⟩
    cases (upTo ms.length).find? (fun i => !hadAny ms gs N i) <;> rfl
  · rw [if_neg ok] at hc ⊢
    exact ⟨_, rfl, Ev.bind hc (Ev.neg (by decide) (Ev.now _))⟩
end
theorem best_same {ms : List M} {gs : List G} {A B : List (List Wk)} (h : ∀ q, q ∈ A ↔ q ∈ B) : bestOf ms gs A = bestOf ms gs B := by
  cases ha : bestOf ms gs A with
  | none =>
    cases hb : bestOf ms gs B with
    | none => rfl
    | some b =>
      obtain ⟨h1, h2, _⟩ := bestOf_some hb
      exact absurd h2 (bestOf_none ha b ((h b).2 h1))
  | some a =>
    obtain ⟨a1, a2, a3⟩ := bestOf_some ha
    cases hb : bestOf ms gs B with
    | none => exact absurd a2 (bestOf_none hb a ((h a).1 a1))
    | some b =>
      obtain ⟨b1, b2, b3⟩ := bestOf_some hb
      rw [betterB_total (b3 a ((h a).1 a1) a2) (a3 b ((h b).2 b1) b2)]
end Go.Proofs.YtikfghnkbgdbgaaDoor.Q
end
section
namespace Go.Proofs.YtikfghnkbgdbgaaDoor.Q
set_option linter.unusedSimpArgs false
set_option linter.unusedVariables false
open Go.RowKit Go.Proofs.YtikfghnkbgdbgaaDoorW.PrintWords Go.Proofs.YtikfghnkbgdbgaaDoorW.PrintLast Go.Proofs.YtikfghnkbgdbgaaDoorW.PrintMore
theorem cmpL_step {x y : Wk} {r s : List Wk} : decide (cmpL (x :: r) (y :: s) < 0) = (if x.f0 = y.f0 then (if x.f1 = y.f1 then (if x.f2 = y.f2 then decide (cmpL r s < 0) else decide (x.f2 < y.f2)) else decide (x.f1 < y.f1)) else decide (x.f0 < y.f0)) := by
  rw [Bool.eq_iff_iff, decide_eq_true_iff, cmpL_cons_lt, cmpW_lt]
  by_cases h0 : x.f0 = y.f0
  · rw [if_pos h0]
    by_cases h1 : x.f1 = y.f1
    · rw [if_pos h1]
      by_cases h2 : x.f2 = y.f2
      · rw [if_pos h2, decide_eq_true_iff]
        have e : x = y := by cases x; cases y; simp_all
        constructor
        · rintro (h | h)
          · omega
          · exact h.2
        · exact fun h => Or.inr ⟨e, h⟩
      · rw [if_neg h2, decide_eq_true_iff]
        constructor
        · rintro (h | h)
          · omega
          · exact absurd (congrArg (·.f2) h.1) h2
        · exact fun h => Or.inl (by omega)
    · rw [if_neg h1, decide_eq_true_iff]
      constructor
      · rintro (h | h)
        · omega
        · exact absurd (congrArg (·.f1) h.1) h1
      · exact fun h => Or.inl (by omega)
  · rw [if_neg h0, decide_eq_true_iff]
    constructor
    · rintro (h | h)
      · omega
      · exact absurd (congrArg (·.f0) h.1) h0
    · exact fun h => Or.inl (by omega)
theorem full_small : ∀ (m : Fin 5) (s : Fin 16), (∀ j : Fin 4, bitB ((s : Nat) : Int) ((j : Nat) : Int) = true → (j : Nat) < m) → ((((s : Nat) : Int) = wrap64 (shl .i64 1 ((m : Nat) : Int) - 1)) ↔ ∀ j : Fin 4, (j : Nat) < m → bitB ((s : Nat) : Int) ((j : Nat) : Int) = true) := by decide +kernel
theorem full_set {ms : List M} {gs : List G} {n : Int} (ok : okB ms gs n = true) {p : List Wk} {s : Int} (hs : 0 ≤ s ∧ s ≤ 15) (hb : ∀ j : Int, 0 ≤ j → j ≤ 3 → bitB s j = decide (j ∈ mendedL ms gs p)) : s = wrap64 (shl .i64 1 (ms.length : Int) - 1) ↔ (mendedL ms gs p).length = ms.length := by
  have hm := (okB_sizes ok).1
  obtain ⟨s, rfl⟩ := toFin (n := 16) hs.1 (by omega)
  have h := full_small ⟨ms.length, by omega⟩ s (fun j hj => by
    rw [hb _ (by omega) (by omega), decide_eq_true_iff, mem_mendedL] at hj
    have := hj.1.2
    show (j : Nat) < ms.length
    omega)
  rw [h, show ((mendedL ms gs p).length = ms.length) = fullB ms gs p from rfl, fullB_iff]
  constructor
  · intro hh i h0 h1
    have h2 : bitB ((s : Nat) : Int) ((i.toNat : Nat) : Int) = true := hh ⟨i.toNat, by omega⟩ (show i.toNat < ms.length by omega)
    rw [show ((i.toNat : Nat) : Int) = i by omega, hb _ (by omega) (by omega), decide_eq_true_iff] at h2
    exact h2
  · intro hh j hj
    have hj : (j : Nat) < ms.length := hj
    rw [hb _ (by omega) (by omega), decide_eq_true_iff]
    exact hh _ (by omega) (by omega)
theorem pow_small : ∀ m : Fin 5, wrap64 (wrap64 (2 ^ (m : Nat)) - 1) = wrap64 (shl .i64 1 ((m : Nat) : Int) - 1) := by decide +kernel
theorem full_set2 {ms : List M} {gs : List G} {n : Int} (ok : okB ms gs n = true) {p : List Wk} {s : Int} (hs : 0 ≤ s ∧ s ≤ 15) (hb : ∀ j : Int, 0 ≤ j → j ≤ 3 → bitB s j = decide (j ∈ mendedL ms gs p)) : s = wrap64 (wrap64 (2 ^ ms.length) - 1) ↔ (mendedL ms gs p).length = ms.length := by
  rw [← full_set ok hs hb]
  have hm := (okB_sizes ok).1
  have h := pow_small ⟨ms.length, by omega⟩
  have h : wrap64 (wrap64 (2 ^ ms.length) - 1) = wrap64 (shl .i64 1 (ms.length : Int) - 1) := h
  rw [h]
def BestRef (w W : World) : Option (List Wk) → Value → Value → Prop
  | none, v7, v8 => v7 = .slice none 0 0 ∧ v8 = .bool false
  | some b, v7, v8 => v8 = .bool true ∧ ∃ A c, v7 = .slice A b.length c ∧ b.length ≤ c ∧ Kd.F k59 W (fun k_ => w.heap.size ≤ k_) A b.length b
theorem BestRef.below {w W W' : World} {o : Option (List Wk)} {a b : Value} (h : BestRef w W o a b) (hb : Below W.heap.size W W') : BestRef w W' o a b := by
  cases o with
  | none => exact h
  | some p =>
    obtain ⟨h1, A, c, h2, h3, h4⟩ := h
    exact ⟨h1, A, c, h2, h3, Kd.F_below h4 hb⟩
theorem take_snocL (L : List (List Wk)) (i : Nat) (h : i < L.length) : L.take (i + 1) = L.take i ++ [rd_L5 L i] := by
  rw [List.take_succ_eq_append_getElem h]; simp [rd_L5, List.getD_eq_getElem?_getD, List.getElem?_eq_getElem h]
theorem best_take {ms : List M} {gs : List G} (L : List (List Wk)) (i : Nat) (h : i < L.length) : bestOf ms gs (L.take (i + 1)) = bestStep ms gs (bestOf ms gs (L.take i)) (rd_L5 L i) := by
  rw [take_snocL L i h, bestOf_snoc]
end Go.Proofs.YtikfghnkbgdbgaaDoor.Q
end
section
namespace Go.Proofs.YtikfghnkbgdbgaaDoor.Q
set_option linter.unusedSimpArgs false
set_option linter.unusedVariables false
open Go.RowKit Go.Proofs.YtikfghnkbgdbgaaDoorW.PrintWords Go.Proofs.YtikfghnkbgdbgaaDoorW.PrintLast Go.Proofs.YtikfghnkbgdbgaaDoorW.PrintMore
def X_rsoon : Nat := 0
def X_rsoon.T4 : Bool × List (List Nat × List Nat) := (true, [([], []), ([], []), ([0, 1], [0, 1]), ([2], [2]), ([], []), ([], []), ([4, 5], [4, 5]), ([6], [6]), ([], []), ([], []), ([8, 3, 0, 1, 2, 3, 8, 9], [3, 8]), ([9, 7, 10, 0, 1, 2, 3, 4, 5, 6, 7, 8, 9, 10], [7, 9])])
def X_rsoon.B4 : List Nat := [0, 0, 3, 7, 0, 0, 48, 112, 0, 0, 783, 2047]
theorem X_rsoon.tab4 : rtab .any (opsOf Tryd.f83 4) = X_rsoon.T4 := by kernel_rfl
theorem X_rsoon.bits4 : waitsOk X_rsoon.T4.2 X_rsoon.B4 = true := by kernel_rfl
set_option maxRecDepth 100000 in
set_option maxHeartbeats 4000000 in
theorem rsooner_calls (A0 : Option Addr) (c0 : Nat) (x : List Wk) (A1 : Option Addr) (c1 : Nat) (y : List Wk) (b : Bool) (w : World) (hr0 : Kd.C k59 w A0 x.length x) (hr1 : Kd.C k59 w A1 y.length y) (he : x.length = y.length) (hl : x.length ≤ 8) (hb : decide (cmpL x y < 0) = b) :
    Calls Tryd.prog 83 #[.slice A0 x.length c0, .slice A1 y.length c1] w fun e w' => e = .returned (.bool b) ∧ Below w.heap.size w w' := by
  have HR0 := Aside0.mk hr0
  have HR1 := Aside0.mk hr1
  have HE := Aside0.mk he
  have H0 := Aside0.mk (show decide (cmpL x y < 0) = decide (cmpL (x.drop 0) (y.drop 0) < 0) from by simp)
  have HB := Aside0.mk hb
  have hly : y.length ≤ 8 := by omega
  clear hr0 hr1 hb he
  go_enter Tryd.func83, Tryd.ntmps83
  go_wp2
  go_loopw [5] (fun v5 wr => ∃ i : Nat, i ≤ x.length ∧ v5 = .int .i64 i ∧ Aside0 (Below w.heap.size w wr) ∧ Aside0 (decide (cmpL x y < 0) = decide (cmpL (x.drop i) (y.drop i) < 0))) (fun v5 _ => x.length - (intOf v5).toNat)
  case atStart => exact ⟨0, Nat.zero_le _, rfl, ⟨Below.refl _ _⟩, H0⟩
  case round =>
    obtain ⟨i, hi, rfl, HBr, HCr⟩ := hrel
    by_cases hlt : i < x.length
    · have hlt2 : i < y.length := by rw [← HE.out]; exact hlt
      obtain ⟨ada, rfl, hx0, hx1, hx2⟩ := at_T59 (Kd.C_below HR0.out HBr.out) (i : Int) (by omega) (by omega)
      obtain ⟨adb, rfl, hy0, hy1, hy2⟩ := at_T59 (Kd.C_below HR1.out HBr.out) (i : Int) (by omega) (by omega)
      rw [Int.toNat_natCast] at hx0 hx1 hx2 hy0 hy1 hy2
      have HST := Aside0.mk (show decide (cmpL (x.drop i) (y.drop i) < 0) = (if (W3 x i).f0 = (W3 y i).f0 then (if (W3 x i).f1 = (W3 y i).f1 then (if (W3 x i).f2 = (W3 y i).f2 then decide (cmpL (x.drop (i + 1)) (y.drop (i + 1)) < 0) else decide ((W3 x i).f2 < (W3 y i).f2)) else decide ((W3 x i).f1 < (W3 y i).f1)) else decide ((W3 x i).f0 < (W3 y i).f0)) from by rw [drop_W3 x i hlt, drop_W3 y i hlt2]; exact cmpL_step)
      have HW := Aside0.mk (And.intro (show rd_T59 x (i : Int) = W3 x i from rfl) (show rd_T59 y (i : Int) = W3 y i from rfl))
      rw [HW.out.1] at hx0 hx1 hx2
      rw [HW.out.2] at hy0 hy1 hy2
      go_upto_region 4 with (fail)
      go_cut [6, 7] (fun v6 v7 wc => ∃ p6 p7 : Nat, v6 = .pointer (some ⟨p6, 0, none⟩) ∧ v7 = .pointer (some ⟨p7, 0, none⟩) ∧ Aside0 (wc.heap[p6]? = some (.cells #[.int .i64 (W3 x i).f0, .int .i64 (W3 x i).f1, .int .i64 (W3 x i).f2] 59 (0, 0))) ∧ Aside0 (wc.heap[p7]? = some (.cells #[.int .i64 (W3 y i).f0, .int .i64 (W3 y i).f1, .int .i64 (W3 y i).f2] 59 (0, 0))) ∧ Aside0 (Below w.heap.size w wc))
      case first =>
        have HBd := Aside0.mk ((Below.refl wr.heap.size wr).drew)
        refine start_ (n := 12) (S := fun w' => w'.cell? (ada.add (i * 3)) = some (.int .i64 (W3 x i).f0) ∧ w'.cell? ⟨(ada.add (i * 3)).block, (ada.add (i * 3)).off + 1, none⟩ = some (.int .i64 (W3 x i).f1) ∧ w'.cell? ⟨(ada.add (i * 3)).block, (ada.add (i * 3)).off + 2, none⟩ = some (.int .i64 (W3 x i).f2) ∧ w'.cell? (adb.add (i * 3)) = some (.int .i64 (W3 y i).f0) ∧ w'.cell? ⟨(adb.add (i * 3)).block, (adb.add (i * 3)).off + 1, none⟩ = some (.int .i64 (W3 y i).f1) ∧ w'.cell? ⟨(adb.add (i * 3)).block, (adb.add (i * 3)).off + 2, none⟩ = some (.int .i64 (W3 y i).f2)) (ds := []) (bs 12 0) (by kernel_rfl) rfl rfl ⟨(cB HBd hx0 :), (cB HBd hx1 :), (cB HBd hx2 :), (cB HBd hy0 :), (cB HBd hy1 :), (cB HBd hy2 :)⟩ (fun hHeld => ?_)
        refine with_tabW X_rsoon.tab4 X_rsoon.bits4 (fun HT_ HW_ => ?_)
        have HB0 := HBd
        generalize World.drew _ = w5 at HB0 hHeld ⊢
        refine pu HT_ 0 (some 20) (bs 12 1) ?_
        refine pu HT_ 1 (some 21) (bs 12 3) ?_
        refine pu HT_ 2 (some 22) (bs 12 7) ?_
        refine pu HT_ 4 (some 24) (bs 12 23) ?_
        refine pu HT_ 5 (some 25) (bs 12 55) ?_
        refine pu HT_ 6 (some 26) (bs 12 119) ?_
        refine tk6 HT_ HW_ hHeld 3 (some 23) (bs 12 127) ?_
        refine tk6 HT_ HW_ hHeld 7 (some 27) (bs 12 255) ?_
        refine join_ (σ := Nat × Nat) 2 (bs 12 1023) (fun s => [(6, .pointer (some ⟨s.1, 0, none⟩)), (7, .pointer (some ⟨s.2, 0, none⟩))]) (fun s w' => w'.heap[s.1]? = some (.cells #[.int .i64 0, .int .i64 0, .int .i64 0] 59 (0, 0)) ∧ w'.heap[s.2]? = some (.cells #[.int .i64 0, .int .i64 0, .int .i64 0] 59 (0, 0)) ∧ Below wr.heap.size wr w' ∧ wr.heap.size ≤ s.1 ∧ wr.heap.size ≤ s.2 ∧ s.1 ≠ s.2) ?_ ?_
        rotate_left
        · intro hCont
          refine two_ (i := 8) (j := 9) (Ni := some 6) (Nj := some 7) (bs 12 511) (bs 12 767) rfl rfl rfl rfl (Go.Proofs.YtikfghnkbgdbgaaDoorW.PrintLast.two_of HT_.out (by kernel_rfl)) (by decide) (by decide) (fun K hK => ?_) (fun K hK => ?_)
          · skip
            refine value_ (w1 := w5.alloc (.cells #[.int .i64 0, .int .i64 0, .int .i64 0] 59)) (v := .pointer (some ⟨w5.heap.size, 0, none⟩)) (by rfl) rfl (by go_simp) ?_
            have hbn : Below w5.heap.size w5 (w5.alloc (.cells #[.int .i64 0, .int .i64 0, .int .i64 0] 59)) := (Below.refl _ _).alloc (Nat.le_refl _) _
            have hnn := World.alloc_heap_new w5 (.cells #[.int .i64 0, .int .i64 0, .int .i64 0] 59)
            have hsz : (w5.alloc (.cells #[.int .i64 0, .int .i64 0, .int .i64 0] 59)).heap.size = w5.heap.size + 1 := World.size_alloc _ _
            generalize w5.alloc (.cells #[.int .i64 0, .int .i64 0, .int .i64 0] 59) = w5_8 at hbn hnn hsz ⊢
            have HZ8 := Aside0.mk HB0.out.size
            have HQ8 := Aside0.mk hsz
            replace HB0 := Aside0.mk (HB0.out.trans (hbn.mono HB0.out.size))
            have HN8 := Aside0.mk hnn
            clear hnn
            clear hbn hsz
            refine hK.out _ _ ⟨(cB HB0 hx0 :), (cB HB0 hx1 :), (cB HB0 hx2 :), (cB HB0 hy0 :), (cB HB0 hy1 :), (cB HB0 hy2 :)⟩ (fun hHeld => ?_)
            clear hK K
            refine nm 6 ?_
            refine on HT_ 9 (some 7) (bs 12 1023) (fun K hK => ?_)
            refine value_ (w1 := w5_8.alloc (.cells #[.int .i64 0, .int .i64 0, .int .i64 0] 59)) (v := .pointer (some ⟨w5_8.heap.size, 0, none⟩)) (by rfl) rfl (by go_simp) ?_
            have hbn : Below w5_8.heap.size w5_8 (w5_8.alloc (.cells #[.int .i64 0, .int .i64 0, .int .i64 0] 59)) := (Below.refl _ _).alloc (Nat.le_refl _) _
            have hnn := World.alloc_heap_new w5_8 (.cells #[.int .i64 0, .int .i64 0, .int .i64 0] 59)
            have hsz : (w5_8.alloc (.cells #[.int .i64 0, .int .i64 0, .int .i64 0] 59)).heap.size = w5_8.heap.size + 1 := World.size_alloc _ _
            generalize w5_8.alloc (.cells #[.int .i64 0, .int .i64 0, .int .i64 0] 59) = w5_8_9 at hbn hnn hsz ⊢
            have HZ9 := Aside0.mk HB0.out.size
            have HQ9 := Aside0.mk hsz
            replace HB0 := Aside0.mk (HB0.out.trans (hbn.mono HB0.out.size))
            replace HN8 := Aside0.mk ((hbn.block _ (Array.getElem?_eq_some_iff.1 HN8.out).1).trans HN8.out)
            have HN9 := Aside0.mk hnn
            clear hnn
            clear hbn hsz
            refine hK.out _ _ ⟨(cB HB0 hx0 :), (cB HB0 hx1 :), (cB HB0 hx2 :), (cB HB0 hy0 :), (cB HB0 hy1 :), (cB HB0 hy2 :)⟩ (fun hHeld => ?_)
            clear hK K
            refine nm 7 ?_
            exact norm_ (by simp only [putAll, Act.put, List.setIfInBounds_toArray, List.set_cons_zero, List.set_cons_succ]) (hCont ⟨w5.heap.size, w5_8.heap.size⟩ _ ⟨HN8.out, HN9.out, HB0.out, HZ8.out, HZ9.out, by have := HQ8.out; have := HQ9.out; dsimp only; omega⟩)
          · skip
            refine value_ (w1 := w5.alloc (.cells #[.int .i64 0, .int .i64 0, .int .i64 0] 59)) (v := .pointer (some ⟨w5.heap.size, 0, none⟩)) (by rfl) rfl (by go_simp) ?_
            have hbn : Below w5.heap.size w5 (w5.alloc (.cells #[.int .i64 0, .int .i64 0, .int .i64 0] 59)) := (Below.refl _ _).alloc (Nat.le_refl _) _
            have hnn := World.alloc_heap_new w5 (.cells #[.int .i64 0, .int .i64 0, .int .i64 0] 59)
            have hsz : (w5.alloc (.cells #[.int .i64 0, .int .i64 0, .int .i64 0] 59)).heap.size = w5.heap.size + 1 := World.size_alloc _ _
            generalize w5.alloc (.cells #[.int .i64 0, .int .i64 0, .int .i64 0] 59) = w5_9 at hbn hnn hsz ⊢
            have HZ9 := Aside0.mk HB0.out.size
            have HQ9 := Aside0.mk hsz
            replace HB0 := Aside0.mk (HB0.out.trans (hbn.mono HB0.out.size))
            have HN9 := Aside0.mk hnn
            clear hnn
            clear hbn hsz
            refine hK.out _ _ ⟨(cB HB0 hx0 :), (cB HB0 hx1 :), (cB HB0 hx2 :), (cB HB0 hy0 :), (cB HB0 hy1 :), (cB HB0 hy2 :)⟩ (fun hHeld => ?_)
            clear hK K
            refine nm 7 ?_
            refine on HT_ 8 (some 6) (bs 12 1023) (fun K hK => ?_)
            refine value_ (w1 := w5_9.alloc (.cells #[.int .i64 0, .int .i64 0, .int .i64 0] 59)) (v := .pointer (some ⟨w5_9.heap.size, 0, none⟩)) (by rfl) rfl (by go_simp) ?_
            have hbn : Below w5_9.heap.size w5_9 (w5_9.alloc (.cells #[.int .i64 0, .int .i64 0, .int .i64 0] 59)) := (Below.refl _ _).alloc (Nat.le_refl _) _
            have hnn := World.alloc_heap_new w5_9 (.cells #[.int .i64 0, .int .i64 0, .int .i64 0] 59)
            have hsz : (w5_9.alloc (.cells #[.int .i64 0, .int .i64 0, .int .i64 0] 59)).heap.size = w5_9.heap.size + 1 := World.size_alloc _ _
            generalize w5_9.alloc (.cells #[.int .i64 0, .int .i64 0, .int .i64 0] 59) = w5_9_8 at hbn hnn hsz ⊢
            have HZ8 := Aside0.mk HB0.out.size
            have HQ8 := Aside0.mk hsz
            replace HB0 := Aside0.mk (HB0.out.trans (hbn.mono HB0.out.size))
            replace HN9 := Aside0.mk ((hbn.block _ (Array.getElem?_eq_some_iff.1 HN9.out).1).trans HN9.out)
            have HN8 := Aside0.mk hnn
            clear hnn
            clear hbn hsz
            refine hK.out _ _ ⟨(cB HB0 hx0 :), (cB HB0 hx1 :), (cB HB0 hx2 :), (cB HB0 hy0 :), (cB HB0 hy1 :), (cB HB0 hy2 :)⟩ (fun hHeld => ?_)
            clear hK K
            refine nm 6 ?_
            exact norm_ (by simp only [putAll, Act.put, List.setIfInBounds_toArray, List.set_cons_zero, List.set_cons_succ]) (hCont ⟨w5_9.heap.size, w5.heap.size⟩ _ ⟨HN8.out, HN9.out, HB0.out, HZ8.out, HZ9.out, by have := HQ8.out; have := HQ9.out; dsimp only; omega⟩)
        rintro ⟨p6, p7⟩ w6 ⟨h6, h7, hB6, hz6, hz7, hne⟩
        dsimp only at h6 h7 hz6 hz7 hne ⊢
        have HB6 := Aside0.mk hB6
        have hHeld : w6.cell? (ada.add (i * 3)) = some (.int .i64 (W3 x i).f0) ∧ w6.cell? ⟨(ada.add (i * 3)).block, (ada.add (i * 3)).off + 1, none⟩ = some (.int .i64 (W3 x i).f1) ∧ w6.cell? ⟨(ada.add (i * 3)).block, (ada.add (i * 3)).off + 2, none⟩ = some (.int .i64 (W3 x i).f2) ∧ w6.cell? (adb.add (i * 3)) = some (.int .i64 (W3 y i).f0) ∧ w6.cell? ⟨(adb.add (i * 3)).block, (adb.add (i * 3)).off + 1, none⟩ = some (.int .i64 (W3 y i).f1) ∧ w6.cell? ⟨(adb.add (i * 3)).block, (adb.add (i * 3)).off + 2, none⟩ = some (.int .i64 (W3 y i).f2) := ⟨cB HB6 hx0, cB HB6 hx1, cB HB6 hx2, cB HB6 hy0, cB HB6 hy1, cB HB6 hy2⟩
        refine norm_ (a' := ?_) ?_ ?_
        rotate_left
        · simp only [putAll, Act.put, List.setIfInBounds_toArray, List.set_cons_zero, List.set_cons_succ]
          rfl
        refine on HT_ 10 none (bs 12 2047) (fun K hK => ?_)
        have hs0 := (blk_cell h6 0).trans rfl
        have hs1 := (blk_cell h6 1).trans rfl
        have hs2 := (blk_cell h6 2).trans rfl
        have hf0 := blk_frozen h6 0
        have hf1 := blk_frozen h6 1
        have hf2 := blk_frozen h6 2
        have HBs := Aside0.mk (((hB6.setCell (p := ⟨p6, 0, none⟩) hz6 (.int .i64 (W3 x i).f0)).setCell (p := ⟨p6, 1, none⟩) hz6 (.int .i64 (W3 x i).f1)).setCell (p := ⟨p6, 2, none⟩) hz6 (.int .i64 (W3 x i).f2))
        refine skip_ (w1 := ?_) (by rfl) rfl ?_ ?_
        rotate_left
        · go_simp
          rfl
        refine hK.out _ _ ⟨(cB HBs hx0 :), (cB HBs hx1 :), (cB HBs hx2 :), (cB HBs hy0 :), (cB HBs hy1 :), (cB HBs hy2 :)⟩ (fun hHeld => ?_)
        clear hK K
        refine on HT_ 11 none (bs 12 4095) (fun K hK => ?_)
        have h8 := blk_far (blk_far (blk_far h7 (p := ⟨p6, 0, none⟩) (Ne.symm hne) (.int .i64 (W3 x i).f0)) (p := ⟨p6, 1, none⟩) (Ne.symm hne) (.int .i64 (W3 x i).f1)) (p := ⟨p6, 2, none⟩) (Ne.symm hne) (.int .i64 (W3 x i).f2)
        have hs3 := (blk_cell h8 0).trans rfl
        have hs4 := (blk_cell h8 1).trans rfl
        have hs5 := (blk_cell h8 2).trans rfl
        have hf3 := blk_frozen h8 0
        have hf4 := blk_frozen h8 1
        have hf5 := blk_frozen h8 2
        have HBt := Aside0.mk (((HBs.out.setCell (p := ⟨p7, 0, none⟩) hz7 (.int .i64 (W3 y i).f0)).setCell (p := ⟨p7, 1, none⟩) hz7 (.int .i64 (W3 y i).f1)).setCell (p := ⟨p7, 2, none⟩) hz7 (.int .i64 (W3 y i).f2))
        refine skip_ (w1 := ?_) (by rfl) rfl ?_ ?_
        rotate_left
        · go_simp
          rfl
        refine hK.out _ _ ⟨(cB HBt hx0 :), (cB HBt hx1 :), (cB HBt hx2 :), (cB HBt hy0 :), (cB HBt hy1 :), (cB HBt hy2 :)⟩ (fun hHeld => ?_)
        clear hK K
        refine done_ (done_of HT_.out (by kernel_rfl)) ?_
        clear hHeld hs0 hs1 hs2 hs3 hs4 hs5 hf0 hf1 hf2 hf3 hf4 hf5 hx0 hx1 hx2 hy0 hy1 hy2
        have HE6 := Aside0.mk (blk_far (blk_far (blk_far (blk_set (blk_set (blk_set h6 0 (.int .i64 (W3 x i).f0)) 1 (.int .i64 (W3 x i).f1)) 2 (.int .i64 (W3 x i).f2)) (p := ⟨p7, 0, none⟩) hne (.int .i64 (W3 y i).f0)) (p := ⟨p7, 1, none⟩) hne (.int .i64 (W3 y i).f1)) (p := ⟨p7, 2, none⟩) hne (.int .i64 (W3 y i).f2))
        have HE7 := Aside0.mk (blk_set (blk_set (blk_set h8 0 (.int .i64 (W3 y i).f0)) 1 (.int .i64 (W3 y i).f1)) 2 (.int .i64 (W3 y i).f2))
        have HB9 := Aside0.mk (HBr.out.trans (HBt.out.mono HBr.out.size))
        clear h6 h7 h8 HBt HBs HB6 hB6
        generalize World.setCell _ _ _ = w9 at HE6 HE7 HB9 ⊢
        go_wp2
        go_meet
        case rel => exact ⟨p6, p7, rfl, rfl, ⟨HE6.out⟩, ⟨HE7.out⟩, HB9⟩
      case rest =>
        obtain ⟨p6, p7, rfl, rfl, H6, H7, HBw⟩ := hcut
        clear hx0 hx1 hx2 hy0 hy1 hy2
        have a0 := (blk_cell H6.out 0).trans rfl
        have a1 := (blk_cell H6.out 1).trans rfl
        have a2 := (blk_cell H6.out 2).trans rfl
        have b0 := (blk_cell H7.out 0).trans rfl
        have b1 := (blk_cell H7.out 1).trans rfl
        have b2 := (blk_cell H7.out 2).trans rfl
        by_cases e0 : (W3 x i).f0 = (W3 y i).f0
        · have q0 : ((W3 x i).f0 != (W3 y i).f0) = false := bne_eq_false_iff_eq.2 e0
          by_cases e1 : (W3 x i).f1 = (W3 y i).f1
          · have q1 : ((W3 x i).f1 != (W3 y i).f1) = false := bne_eq_false_iff_eq.2 e1
            by_cases e2 : (W3 x i).f2 = (W3 y i).f2
            · have q2 : ((W3 x i).f2 != (W3 y i).f2) = false := bne_eq_false_iff_eq.2 e2
              have HN := Aside0.mk (show decide (cmpL x y < 0) = decide (cmpL (x.drop (i + 1)) (y.drop (i + 1)) < 0) from by rw [HCr.out, HST.out, if_pos e0, if_pos e1, if_pos e2])
              clear e0 e1 e2
              go_wp2
              go_roundw
              case rel => exact ⟨i + 1, by omega, by go_num, HBw, HN⟩
              case measure => simp [intOf]; omega
            · have q2 : ((W3 x i).f2 != (W3 y i).f2) = true := bne_iff_ne.2 e2
              have HN := Aside0.mk (show decide ((W3 x i).f2 < (W3 y i).f2) = b from by rw [← HB.out, HCr.out, HST.out, if_pos e0, if_pos e1, if_neg e2])
              clear e0 e1 e2
              go_wp2
              go_ret
              exact ⟨by rw [← HN.out]; rfl, HBw.out⟩
          · have q1 : ((W3 x i).f1 != (W3 y i).f1) = true := bne_iff_ne.2 e1
            have HN := Aside0.mk (show decide ((W3 x i).f1 < (W3 y i).f1) = b from by rw [← HB.out, HCr.out, HST.out, if_pos e0, if_neg e1])
            clear e0 e1
            go_wp2
            go_ret
            exact ⟨by rw [← HN.out]; rfl, HBw.out⟩
        · have q0 : ((W3 x i).f0 != (W3 y i).f0) = true := bne_iff_ne.2 e0
          have HN := Aside0.mk (show decide ((W3 x i).f0 < (W3 y i).f0) = b from by rw [← HB.out, HCr.out, HST.out, if_neg e0])
          clear e0
          go_wp2
          go_ret
          exact ⟨by rw [← HN.out]; rfl, HBw.out⟩
    · have hb : b = false := by
        rw [← HB.out, HCr.out, List.drop_of_length_le (by omega), List.drop_of_length_le (by rw [← HE.out]; omega)]
        simp [cmpL]
      have hlt3 : ¬ x.length < y.length := by rw [HE.out]; omega
      have d1 : decide (x.length < y.length) = false := decide_eq_false hlt3
      have d2 : decide ((x.length : Int) < (y.length : Int)) = false := decide_eq_false (by omega)
      subst hb
      clear hlt3
      go_wp2
      go_ret
      exact ⟨rfl, HBr.out⟩
end Go.Proofs.YtikfghnkbgdbgaaDoor.Q
end
section
namespace Go.Proofs.YtikfghnkbgdbgaaDoor.Q
set_option linter.unusedSimpArgs false
set_option linter.unusedVariables false
open Go.RowKit Go.Proofs.YtikfghnkbgdbgaaDoorW.PrintWords Go.Proofs.YtikfghnkbgdbgaaDoorW.PrintLast Go.Proofs.YtikfghnkbgdbgaaDoorW.PrintMore
def macadamref04_Plan.f (ms : List M) (gs : List G) (n : Int) : Option (List Wk × Int) := gang_Plan.f ms gs n
def X_rplan : Nat := 0
def X_rplan.T13 : Bool × List (List Nat × List Nat) := (true, [([], []), ([], []), ([], []), ([1, 2], [1, 2]), ([3], [3]), ([0, 4], [0, 4]), ([], []), ([6], [6]), ([7], [7]), ([8], [8]), ([9], [9]), ([5, 10], [5, 10])])
def X_rplan.B13 : List Nat := [0, 0, 0, 6, 14, 31, 0, 64, 192, 448, 960, 2047]
theorem X_rplan.tab13 : rtab .any (opsOf Tryd.f32 13) = X_rplan.T13 := by kernel_rfl
theorem X_rplan.bits13 : waitsOk X_rplan.T13.2 X_rplan.B13 = true := by kernel_rfl
set_option maxRecDepth 100000 in
set_option maxHeartbeats 8000000 in
theorem macadamref04_Plan.calls (A0_0 : Option Addr) (c0_0 : Nat) (l0_0 : List (M)) (A0_1 : Option Addr) (c0_1 : Nat) (l0_1 : List (G)) (a0_2 : Int) (r1 : List (Wk)) (r2 : Int) (w : World) (hr0_0 : Kd.C k66 w A0_0 l0_0.length l0_0) (hc0_0 : l0_0.length ≤ c0_0) (hr0_1 : Kd.C k63 w A0_1 l0_1.length l0_1) (hc0_1 : l0_1.length ≤ c0_1) (h : macadamref04_Plan.f l0_0 l0_1 a0_2 = some (r1, r2)) :
    Calls Tryd.prog 32 #[.agg #[.slice A0_0 l0_0.length c0_0, .slice A0_1 l0_1.length c0_1, .int .i64 a0_2]] w fun e w' => ∃ v0_ : Value, e = .returned (.tuple #[v0_, .int .i64 r2]) ∧ Kd.V k59 59 w' w.heap.size (fun k_ => (w.heap.size ≤ k_)) v0_ r1 ∧ Below w.heap.size w w' := by
  obtain ⟨K, hK⟩ := Ev.rounds (rcheck_ev l0_0 l0_1 a0_2 hr0_0.2.1 hr0_1.2.1)
  have HR0 := Aside0.mk hr0_0
  have HR1 := Aside0.mk hr0_1
  have HCK := Aside0.mk hK
  have H := Aside0.mk h
  have hB := ((Below.refl w.heap.size w).alloc (Nat.le_refl _) (.cells #[.slice A0_0 l0_0.length c0_0, .slice A0_1 l0_1.length c0_1, .int .i64 a0_2] 25))
  have HB := Aside0.mk hB
  have HX := Aside0.mk (World.alloc_heap_new w (.cells #[.slice A0_0 l0_0.length c0_0, .slice A0_1 l0_1.length c0_1, .int .i64 a0_2] 25))
  clear hr0_0 hr0_1 hB h hK
  by_cases ok : okB l0_0 l0_1 a0_2 = true
  · rw [if_pos ok] at HCK
    have HOK := Aside0.mk ok
    have hn1 := (okB_sizes ok).2.2.1
    have hn4 := (okB_sizes ok).2.2.2
    have hm4 := (okB_sizes ok).1.2
    clear ok
    go_enter Tryd.func32, Tryd.ntmps32
    go_wp2_with (first | (go_at_call 19; (with_reducible refine (macadamref04_Check.calls K _ _ l0_0 _ _ l0_1 a0_2 0 _ ?s1 hc0_0 ?s2 hc0_1 HCK.out).mono ?_); (case s1 => exact Kd.C_below HR0.out HB.out); (case s2 => exact Kd.C_below HR1.out HB.out); rintro e w7 ⟨rfl, hb⟩; have HB1 := Aside0.mk (below_then HB.out HB.out.size hb); have HX1 := Aside0.mk ((hb.block _ (Array.getElem?_eq_some_iff.1 HX.out).1).trans HX.out); clear hb))
    go_loopw [5] (fun v5 wr => ∃ k : Nat, 1 ≤ k ∧ (k : Int) ≤ a0_2 + 1 ∧ v5 = .int .i64 k ∧ Aside0 (Below w.heap.size w wr) ∧ Aside0 (wr.heap[w.heap.size]? = some (.cells #[.slice A0_0 l0_0.length c0_0, .slice A0_1 l0_1.length c0_1, .int .i64 a0_2] 25 (0, 0))) ∧ Aside0 (planL l0_0 l0_1 a0_2 = planAt l0_0 l0_1 a0_2 (a0_2.toNat + 1 - k) ((k : Int) - 1))) (fun v5 _ => a0_2.toNat + 1 - (intOf v5).toNat)
    case atStart => exact ⟨1, by omega, by omega, rfl, HB1, HX1, ⟨by unfold planL; simp⟩⟩
    case round =>
      obtain ⟨k, hk1, hk2, rfl, HBr, HXr, HPr⟩ := hrel
      have hx0 := (blk_cell HXr.out 0).trans rfl
      have hx1 := (blk_cell HXr.out 1).trans rfl
      have hx2 := (blk_cell HXr.out 2).trans rfl
      by_cases hlt : (k : Int) ≤ a0_2
      · obtain ⟨K2, hK2⟩ := Ev.rounds (plans_ev HOK.out k (by omega))
        have HP2 := Aside0.mk hK2
        obtain ⟨L, hL⟩ : ∃ L, plansR l0_0 l0_1 a0_2 k = L := ⟨_, rfl⟩
        have HL := Aside0.mk hL
        rw [hL] at HP2
        clear hK2 hL
        go_wp2_with (first | (go_at_call 82; (with_reducible refine (macadamref04_plans.calls K2 _ _ l0_0 _ _ l0_1 a0_2 k L _ ?s1 hc0_0 ?s2 hc0_1 HP2.out).mono ?_); (case s1 => exact Kd.C_below HR0.out HBr.out); (case s2 => exact Kd.C_below HR1.out HBr.out); rintro e w8 ⟨v6, rfl, hS, hb⟩; have HB2 := Aside0.mk (below_then HBr.out HBr.out.size hb); have HX2 := Aside0.mk ((hb.block _ (Array.getElem?_eq_some_iff.1 HXr.out).1).trans HXr.out); have HS := Aside0.mk hS; clear hb hS))
        clear hx0 hx1 hx2
        obtain ⟨A6, c6, e6⟩ := Kd.S_slice HS.out
        subst e6
        go_loopw [7, 8, 9] (fun v7 v8 v9 wr => ∃ x9 : Int, 0 ≤ x9 ∧ x9 ≤ L.length ∧ v9 = .int .i64 x9 ∧ Aside0 (Below w8.heap.size w8 wr) ∧ Aside0 (BestRef w wr (bestOf l0_0 l0_1 (L.take x9.toNat)) v7 v8)) (fun _ _ v9 _ => L.length - (intOf v9).toNat)
        case atStart => exact ⟨0, Int.le_refl _, by omega, rfl, ⟨Below.refl _ _⟩, ⟨⟨rfl, rfl⟩⟩⟩
        case round =>
          obtain ⟨x9, hx9, hx9', rfl, HBw, HBest⟩ := hrel
          by_cases hlt2 : x9 < (L.length : Int)
          · have HBW := Aside0.mk (below_then HB2.out HB2.out.size HBw.out)
            have HXw := Aside0.mk ((HBw.out.block _ (Array.getElem?_eq_some_iff.1 HX2.out).1).trans HX2.out)
            have HSw := Aside0.mk (Kd.S_below HS.out HBw.out)
            obtain ⟨ad, A0, c0, e0, hxe, hle, hie⟩ := at_L5 (Kd.S_reads' HSw.out).2.2 x9 hx9 hlt2
            cases e0
            obtain ⟨ce, hce, hMe, hcc⟩ := Kd.S_get HSw.out [] x9 hx9 hlt2
            obtain ⟨ve, rfl, hge⟩ := hMe
            have hve := hcc 0 _ rfl
            rw [Nat.add_zero, show ((Kd.slice 59 k59)).sz = 1 from rfl, Nat.mul_one] at hve
            replace hve := Option.some.inj (hve.symm.trans hxe)
            rw [hve] at hge
            have HGE := Aside0.mk (show Kd.R k59 59 _ _ _ _ (rd_L5 L x9) from hge)
            have HIE := Aside0.mk hie
            have HPL := Aside0.mk (show planB l0_0 l0_1 a0_2 (rd_L5 L x9) = true from by
              have hm : rd_L5 L x9 ∈ L := by have := rdL_mem (a := L) (i := x9.toNat) (by omega); rwa [show ((x9.toNat : Nat) : Int) = x9 by omega] at this
              have hm : rd_L5 L x9 ∈ plansR l0_0 l0_1 a0_2 k := by rw [HL.out]; exact hm
              exact ((mem_plansL (okB_sizes HOK.out).2.1.1 (okB_sizes HOK.out).2.1.2 (by omega) _).1 ((mem_plansR HOK.out k _).1 hm)).1)
            have h8 := plan_len HOK.out HPL.out
            have hLl : (L.length : Int) ≤ 390625 := by have := plansR_len HOK.out k (by omega); rw [HL.out] at this; omega
            obtain ⟨s, hs, hbit, he⟩ := rmended_ev HOK.out (p := rd_L5 L x9) (by omega) HPL.out
            obtain ⟨K3, hK3⟩ := Ev.rounds he
            have HME := Aside0.mk hK3
            have HFS := Aside0.mk (full_set2 HOK.out hs hbit)
            have HTK := Aside0.mk (show bestOf l0_0 l0_1 (L.take (x9 + 1).toNat) = bestStep l0_0 l0_1 (bestOf l0_0 l0_1 (L.take x9.toNat)) (rd_L5 L x9) from by
              have := best_take (ms := l0_0) (gs := l0_1) L x9.toNat (by omega)
              rwa [show ((x9.toNat : Nat) : Int) = x9 by omega, show x9.toNat + 1 = (x9 + 1).toNat by omega] at this)
            clear hcc hce hve hge hie he hbit hK3 hs
            go_wp2_with (fail)
            have HXd := Aside0.mk (show wr.drew.heap[w.heap.size]? = _ from HXw.out)
            have HBd := Aside0.mk ((Below.refl wr.heap.size wr).drew)
            have HGd := Aside0.mk (Kd.R_below HGE.out HBd.out)
            have HId := Aside0.mk (Kd.C_below HIE.out HBd.out)
            refine start_ (n := 12) (S := fun w' => w'.cell? ⟨w.heap.size, 0, none⟩ = some (.slice A0_0 l0_0.length c0_0) ∧ w'.cell? ⟨w.heap.size, 1, none⟩ = some (.slice A0_1 l0_1.length c0_1) ∧ w'.cell? ⟨w.heap.size, 2, none⟩ = some (.int .i64 a0_2) ∧ w'.cell? (ad.add (x9).toNat) = some (.slice A0 (rd_L5 L x9).length c0)) (ds := []) (bs 12 0) (by kernel_rfl) rfl rfl ⟨(blk_cell HXd.out 0).trans rfl, (blk_cell HXd.out 1).trans rfl, (blk_cell HXd.out 2).trans rfl, (cB HBd hxe :)⟩ (fun hHeld => ?_)
            refine with_tabW X_rplan.tab13 X_rplan.bits13 (fun HT_ HW_ => ?_)
            generalize World.drew _ = w5 at HXd HBd HGd HId hHeld ⊢
            refine pu HT_ 1 (some 31) (bs 12 2) ?_
            refine pu HT_ 2 (some 32) (bs 12 6) ?_
            refine pu HT_ 3 (some 33) (bs 12 14) ?_
            refine pu HT_ 6 (some 36) (bs 12 78) ?_
            refine tk4 HT_ HW_ hHeld 0 (some 30) (bs 12 79) ?_
            refine tk4 HT_ HW_ hHeld 4 (some 34) (bs 12 95) ?_
            refine tk4 HT_ HW_ hHeld 7 (some 37) (bs 12 223) ?_
            refine pu HT_ 8 (some 38) (bs 12 479) ?_
            refine pu HT_ 9 (some 39) (bs 12 991) ?_
            refine pu HT_ 10 (some 40) (bs 12 2015) ?_
            refine on HT_ 5 (some 35) (bs 12 2047) (fun K hK => ?_)
            refine goes_ Tryd.func78 (by kernel_rfl) rfl #[.agg #[.slice A0_0 l0_0.length c0_0, .slice A0_1 l0_1.length c0_1, .int .i64 a0_2], .slice A0 (rd_L5 L x9).length c0] (by rfl) rfl rfl (by (try simp only [List.map_toArray, List.map_cons, List.map_nil]); rfl) ?_
            refine (macadamref04_mended.calls K3 _ _ l0_0 _ _ l0_1 a0_2 _ _ (rd_L5 L x9) s _ (Kd.C_below HR0.out (below_then HBW.out HBW.out.size HBd.out)) hc0_0 (Kd.C_below HR1.out (below_then HBW.out HBW.out.size HBd.out)) hc0_1 HId.out hle HME.out).mono ?_
            rintro e w6 ⟨rfl, hb⟩
            refine ⟨_, rfl, ?_⟩
            replace HXd := Aside0.mk ((hb.block _ (Array.getElem?_eq_some_iff.1 HXd.out).1).trans HXd.out)
            replace HBd := Aside0.mk (below_then HBd.out HBd.out.size hb)
            replace HGd := Aside0.mk (Kd.R_below HGd.out hb)
            replace HId := Aside0.mk (Kd.C_below HId.out hb)
            clear hb
            refine hK.out _ _ ⟨(blk_cell HXd.out 0).trans rfl, (blk_cell HXd.out 1).trans rfl, (blk_cell HXd.out 2).trans rfl, (cB HBd hxe :)⟩ (fun hHeld => ?_)
            clear hK K
            refine nm 35 ?_
            refine pu HT_ 11 (some 41) (bs 12 4095) ?_
            refine done_ (done_of HT_.out (by kernel_rfl)) ?_
            clear hHeld
            have hxe6 := cB HBd hxe
            have HB6 := Aside0.mk (below_then HBw.out HBw.out.size HBd.out)
            have HBE6 := Aside0.mk (HBest.out.below HBd.out)
            have HF6 := Aside0.mk (show Kd.F k59 w6 (fun k_ => w.heap.size ≤ k_) A0 (rd_L5 L x9).length (rd_L5 L x9) from Kd.F_mono (Kd.R_F (Kd.R_bound HGd.out)) (fun k_ hk => Nat.le_trans HBr.out.size hk.2.1))
            have HC6 := Aside0.mk (Kd.F_now HF6.out)
            clear hxe HBest HBd HGd HId HXd
            by_cases hfull : (mendedL l0_0 l0_1 (rd_L5 L x9)).length = l0_0.length
            · have hq : (s != wrap64 (wrap64 (2 ^ l0_0.length) - 1)) = false := bne_eq_false_iff_eq.2 (HFS.out.2 hfull)
              rw [hq]
              clear hq
              go_upto_region 14 with (fail)
              go_cut [71] (fun v71 wc => ∃ c : Bool, v71 = .bool c ∧ Aside0 (bestOf l0_0 l0_1 (L.take (x9 + 1).toNat) = if c = true then some (rd_L5 L x9) else bestOf l0_0 l0_1 (L.take x9.toNat)) ∧ Aside0 (Below w6.heap.size w6 wc))
              case first =>
                cases hbo : bestOf l0_0 l0_1 (L.take x9.toNat) with
                | none =>
                  rw [hbo] at HBE6
                  obtain ⟨rfl, rfl⟩ := HBE6.out
                  have HNB := Aside0.mk (show bestOf l0_0 l0_1 (L.take (x9 + 1).toNat) = if true = true then some (rd_L5 L x9) else none by rw [HTK.out, hbo]; unfold bestStep; rw [if_pos (by simp [hfull])]; rfl)
                  clear hbo hfull HBE6
                  go_wp2
                  go_meet
                  case rel => exact ⟨true, rfl, HNB, ⟨Below.refl _ _⟩⟩
                | some b =>
                  rw [hbo] at HBE6
                  obtain ⟨rfl, Ab, cb, rfl, hlb, hFb⟩ := HBE6.out
                  have HFB := Aside0.mk hFb
                  clear HBE6 hFb
                  by_cases hl1 : (rd_L5 L x9).length < b.length
                  · have d1 : decide ((rd_L5 L x9).length < b.length) = true := decide_eq_true hl1
                    have d2 : decide (((rd_L5 L x9).length : Int) < (b.length : Int)) = true := decide_eq_true (by omega)
                    have HNB := Aside0.mk (show bestOf l0_0 l0_1 (L.take (x9 + 1).toNat) = if true = true then some (rd_L5 L x9) else some b by rw [HTK.out, hbo]; unfold bestStep; rw [if_pos (by simp [hfull, betterB, hl1])]; rfl)
                    clear hbo hfull hl1
                    go_wp2
                    go_meet
                    case rel => exact ⟨true, rfl, HNB, ⟨Below.refl _ _⟩⟩
                  · have d1 : decide ((rd_L5 L x9).length < b.length) = false := decide_eq_false hl1
                    have d2 : decide (((rd_L5 L x9).length : Int) < (b.length : Int)) = false := decide_eq_false (by omega)
                    by_cases hl2 : (rd_L5 L x9).length = b.length
                    · have d3 : ((rd_L5 L x9).length == b.length) = true := beq_iff_eq.2 hl2
                      have d4 : (((rd_L5 L x9).length : Int) == (b.length : Int)) = true := beq_iff_eq.2 (by omega)
                      have HL2 := Aside0.mk hl2
                      cases hc : decide (cmpL (rd_L5 L x9) b < 0) with
                      | true =>
                        have HCM := Aside0.mk hc
                        have HNB := Aside0.mk (show bestOf l0_0 l0_1 (L.take (x9 + 1).toNat) = if true = true then some (rd_L5 L x9) else some b by rw [HTK.out, hbo]; unfold bestStep; rw [if_pos (by simp [hfull, betterB, hl2, of_decide_eq_true hc])]; rfl)
                        clear hbo hfull hl1 hl2 hc
                        go_wp2_with (first | (go_at_call 83; (with_reducible refine (rsooner_calls _ _ (rd_L5 L x9) _ _ b true _ HC6.out (Kd.F_now HFB.out) HL2.out (by omega) HCM.out).mono ?_); rintro e w9 ⟨rfl, hb⟩; have HB7 := Aside0.mk hb; clear hb))
                        go_meet
                        case rel => exact ⟨true, rfl, HNB, HB7⟩
                      | false =>
                        have HCM := Aside0.mk hc
                        have HNB := Aside0.mk (show bestOf l0_0 l0_1 (L.take (x9 + 1).toNat) = if false = true then some (rd_L5 L x9) else bestOf l0_0 l0_1 (L.take x9.toNat) by rw [HTK.out, hbo]; unfold bestStep; rw [if_neg (by simp [betterB, hl2, of_decide_eq_false hc])]; rfl)
                        clear hbo hfull hl1 hl2 hc
                        go_wp2_with (first | (go_at_call 83; (with_reducible refine (rsooner_calls _ _ (rd_L5 L x9) _ _ b false _ HC6.out (Kd.F_now HFB.out) HL2.out (by omega) HCM.out).mono ?_); rintro e w9 ⟨rfl, hb⟩; have HB7 := Aside0.mk hb; clear hb))
                        go_meet
                        case rel => exact ⟨false, rfl, HNB, HB7⟩
                    · have d3 : ((rd_L5 L x9).length == b.length) = false := beq_eq_false_iff_ne.2 hl2
                      have d4 : (((rd_L5 L x9).length : Int) == (b.length : Int)) = false := beq_eq_false_iff_ne.2 (by omega)
                      have HNB := Aside0.mk (show bestOf l0_0 l0_1 (L.take (x9 + 1).toNat) = if false = true then some (rd_L5 L x9) else bestOf l0_0 l0_1 (L.take x9.toNat) by rw [HTK.out, hbo]; unfold bestStep; rw [if_neg (by simp [betterB, hl1, hl2])]; rfl)
                      clear hbo hfull hl1 hl2
                      go_wp2
                      go_meet
                      case rel => exact ⟨false, rfl, HNB, ⟨Below.refl _ _⟩⟩
              case rest =>
                obtain ⟨c, rfl, HNB, HB7⟩ := hcut
                have hxe7 := (HB7.out.cell (World.block_lt_of_cell? _ _ hxe6)).trans hxe6
                have HB8 := Aside0.mk (below_then HB6.out HB6.out.size HB7.out)
                clear hxe6
                cases c with
                | true =>
                  go_wp2
                  go_roundw
                  case rel => exact ⟨x9 + 1, by omega, by omega, by first | rfl | (congr 1; unfold wrap64; omega), HB8, ⟨by rw [HNB.out, if_pos rfl]; exact ⟨rfl, A0, c0, rfl, hle, Kd.F_below HF6.out HB7.out⟩⟩⟩
                  case measure => simp [intOf]; omega
                | false =>
                  go_wp2
                  go_roundw
                  case rel => exact ⟨x9 + 1, by omega, by omega, by first | rfl | (congr 1; unfold wrap64; omega), HB8, ⟨by rw [HNB.out, if_neg (by simp)]; exact HBE6.out.below HB7.out⟩⟩
                  case measure => simp [intOf]; omega
            · have hq : (s != wrap64 (wrap64 (2 ^ l0_0.length) - 1)) = true := bne_iff_ne.2 (fun h => hfull (HFS.out.1 h))
              have HNB := Aside0.mk (show bestOf l0_0 l0_1 (L.take (x9 + 1).toNat) = bestOf l0_0 l0_1 (L.take x9.toNat) by rw [HTK.out]; rcases bestStep_cases l0_0 l0_1 (bestOf l0_0 l0_1 (L.take x9.toNat)) (rd_L5 L x9) with ⟨_, h⟩ | h; exact absurd h hfull; exact h)
              clear hfull
              rw [hq]
              clear hq
              go_wp2
              go_roundw
              case rel => exact ⟨x9 + 1, by omega, by omega, by first | rfl | (congr 1; unfold wrap64; omega), HB6, ⟨by rw [HNB.out]; exact HBE6.out⟩⟩
              case measure => simp [intOf]; omega
          · have hbest : bestOf l0_0 l0_1 (L.take x9.toNat) = bestOf l0_0 l0_1 (plansL l0_0 l0_1 a0_2 k) := by
              rw [List.take_of_length_le (by omega)]
              exact best_same (fun q => by rw [← HL.out]; exact mem_plansR HOK.out k q)
            have hpl := HPr.out
            rw [show a0_2.toNat + 1 - k = (a0_2.toNat - k) + 1 by omega] at hpl
            simp only [planAt] at hpl
            rw [show (k : Int) - 1 + 1 = (k : Int) by omega, ← hbest] at hpl
            have HBW := Aside0.mk (below_then HB2.out HB2.out.size HBw.out)
            have HXw := Aside0.mk ((HBw.out.block _ (Array.getElem?_eq_some_iff.1 HX2.out).1).trans HX2.out)
            cases hbo : bestOf l0_0 l0_1 (L.take x9.toNat) with
            | none =>
              rw [hbo] at HBest hpl
              obtain ⟨rfl, rfl⟩ := HBest.out
              have HPN := Aside0.mk hpl
              clear hbo hpl hbest HBest
              go_wp2
              go_roundw
              case rel => exact ⟨k + 1, by omega, by omega, by first | rfl | go_num, HBW, HXw, ⟨by rw [HPN.out, show a0_2.toNat + 1 - (k + 1) = a0_2.toNat - k by omega, show ((k + 1 : Nat) : Int) - 1 = (k : Int) by omega]⟩⟩
              case measure => simp [intOf]; omega
            | some b =>
              rw [hbo] at HBest hpl
              obtain ⟨rfl, Ab, cb, rfl, hlb, hFb⟩ := HBest.out
              have hr : r1 = b ∧ r2 = 0 := by
                have h := H.out
                unfold macadamref04_Plan.f gang_Plan.f at h
                rw [if_pos HOK.out, hpl] at h
                injection h with h
                injection h with h1 h2
                exact ⟨h1.symm, h2.symm⟩
              obtain ⟨rfl, rfl⟩ := hr
              have HFB := Aside0.mk hFb
              clear hbo hpl hbest HBest hFb H
              go_wp2
              go_ret2
              exact ⟨_, rfl, ⟨Ab, cb, rfl, hlb, HFB.out⟩, HBW.out⟩
      · have hpl := HPr.out
        rw [show a0_2.toNat + 1 - k = 0 by omega] at hpl
        simp only [planAt] at hpl
        have hr : r1 = [] ∧ r2 = 4 := by
          have h := H.out
          unfold macadamref04_Plan.f gang_Plan.f at h
          rw [if_pos HOK.out, hpl] at h
          injection h with h
          injection h with h1 h2
          exact ⟨h1.symm, h2.symm⟩
        obtain ⟨rfl, rfl⟩ := hr
        clear hpl H
        go_wp2
        go_ret2
        exact ⟨_, rfl, ⟨none, 0, rfl, Nat.le_refl _, Kd.F_nil _ _ _⟩, HBr.out⟩
  · rw [if_neg ok] at HCK
    have hr : r1 = [] ∧ r2 = 40 := by
      have := H.out
      unfold macadamref04_Plan.f gang_Plan.f at this
      rw [if_neg ok] at this
      injection this with this
      injection this with h1 h2
      exact ⟨h1.symm, h2.symm⟩
    obtain ⟨rfl, rfl⟩ := hr
    clear H ok
    go_enter Tryd.func32, Tryd.ntmps32
    go_wp2_with (first | (go_at_call 19; (with_reducible refine (macadamref04_Check.calls K _ _ l0_0 _ _ l0_1 a0_2 40 _ ?s1 hc0_0 ?s2 hc0_1 HCK.out).mono ?_); (case s1 => exact Kd.C_below HR0.out HB.out); (case s2 => exact Kd.C_below HR1.out HB.out); rintro e w7 ⟨rfl, hb⟩; have HB1 := Aside0.mk (below_then HB.out HB.out.size hb); clear hb))
    go_ret2
    exact ⟨_, rfl, ⟨none, 0, rfl, Nat.le_refl _, Kd.F_nil _ _ _⟩, HB1.out⟩
end Go.Proofs.YtikfghnkbgdbgaaDoor.Q
end
section
namespace Go.Proofs.YtikfghnkbgdbgaaDoor.Q
open Go.RowKit Go.Proofs.YtikfghnkbgdbgaaDoorW.PrintWords Go.Proofs.YtikfghnkbgdbgaaDoorW.PrintLast Go.Proofs.YtikfghnkbgdbgaaDoorW.PrintMore
attribute [local go_sem] max2_int min2_int max_two min_two max_three min_three max_four min_four   -- for this text's walks alone
set_option linter.unusedVariables false
set_option linter.unusedSimpArgs false
mutual
def macadamlaw04_GangPlans.j0 : Nat → Bool → List (S66) → List (S63) → Int → Option (Bool)
 | 0, _, _, _, _ => none
 | k + 1, x29, x341000, x341001, x341002 => if x29 = true then (some false) else ((gang_Most.f x341000 x341001 x341002).bind fun bt350 => ((macadamref04_Most.f k x341000 x341001 x341002).bind fun bt354 => ((macadamref00_Like.f k bt350.1 bt354.1).bind fun t358 => (if t358 = true then (macadamlaw04_GangPlans.j1 k (bt350.2 != bt354.2) x341000 x341001 x341002) else (macadamlaw04_GangPlans.j1 k true x341000 x341001 x341002)))))
def macadamlaw04_GangPlans.j1 : Nat → Bool → List (S66) → List (S63) → Int → Option (Bool)
 | 0, _, _, _, _ => none
 | k + 1, x48, x341000, x341001, x341002 => if x48 = true then (some false) else ((gang_First.f x341000 x341001 x341002).bind fun bt359 => ((macadamref04_First.f k x341000 x341001 x341002).bind fun bt361 => (if bt359.1 = bt361.1 then (if bt359.2 = bt361.2 then ((macadamlaw04_shovelled.f).bind fun t363 => (some t363)) else (some false)) else (some false))))
end
def macadamlaw04_GangPlans.f (k : Nat) (l0_0 : List (S66)) (l0_1 : List (S63)) (a0_2 : Int) : Option (Bool) := (gang_Plan.f l0_0 l0_1 a0_2).bind fun bt341 => ((macadamref04_Plan.f l0_0 l0_1 a0_2).bind fun bt345 => ((macadamlaw04_same.f k bt341.1 bt345.1).bind fun t349 => (if t349 = true then (macadamlaw04_GangPlans.j0 k (bt341.2 != bt345.2) l0_0 l0_1 a0_2) else (macadamlaw04_GangPlans.j0 k true l0_0 l0_1 a0_2))))
set_option maxHeartbeats 8000000 in
set_option maxRecDepth 100000 in
theorem macadamlaw04_GangPlans.calls (k : Nat) (A0_0 : Option Addr) (c0_0 : Nat) (l0_0 : List (S66)) (A0_1 : Option Addr) (c0_1 : Nat) (l0_1 : List (S63)) (a0_2 : Int) (r : Bool) (w : World) (hr0_0 : Kd.C k66 w A0_0 l0_0.length l0_0) (hc0_0 : l0_0.length ≤ c0_0) (hr0_1 : Kd.C k63 w A0_1 l0_1.length l0_1) (hc0_1 : l0_1.length ≤ c0_1) (hG : GV w) (h : macadamlaw04_GangPlans.f k l0_0 l0_1 a0_2 = some r) :
  Calls Tryd.prog 5 #[.agg #[.slice A0_0 l0_0.length c0_0, .slice A0_1 l0_1.length c0_1, .int .i64 a0_2]] w fun e w' => e = .returned (.bool r) ∧ Below w.heap.size w w' := by
 have hu25 := Tryd.underlying25
 have HR0_0 := Aside0.mk hr0_0
 have HC0_0 := Aside0.mk hc0_0
 clear hr0_0 hc0_0
 have HR0_1 := Aside0.mk hr0_1
 have HC0_1 := Aside0.mk hc0_1
 clear hr0_1 hc0_1
 have HB := Aside0.mk (Below.refl w.heap.size w)
 have HG := Aside0.mk hG
 clear hG
 have H : ((gang_Plan.f l0_0 l0_1 a0_2).bind fun bt341 => ((macadamref04_Plan.f l0_0 l0_1 a0_2).bind fun bt345 => ((macadamlaw04_same.f k bt341.1 bt345.1).bind fun t349 => (if t349 = true then (macadamlaw04_GangPlans.j0 k (bt341.2 != bt345.2) l0_0 l0_1 a0_2) else (macadamlaw04_GangPlans.j0 k true l0_0 l0_1 a0_2))))) = some r := h
 clear h
 replace H := Option.bind_eq_some_iff.mp H
 obtain ⟨⟨t341, t344⟩, A20, H⟩ := H
 replace H : ((macadamref04_Plan.f l0_0 l0_1 a0_2).bind fun bt345 => ((macadamlaw04_same.f k t341 bt345.1).bind fun t349 => (if t349 = true then (macadamlaw04_GangPlans.j0 k (t344 != bt345.2) l0_0 l0_1 a0_2) else (macadamlaw04_GangPlans.j0 k true l0_0 l0_1 a0_2)))) = some r := H
 have A2 := Aside0.mk A20
 clear A20
 replace H := Option.bind_eq_some_iff.mp H
 obtain ⟨⟨t345, t348⟩, A30, H⟩ := H
 replace H : ((macadamlaw04_same.f k t341 t345).bind fun t349 => (if t349 = true then (macadamlaw04_GangPlans.j0 k (t344 != t348) l0_0 l0_1 a0_2) else (macadamlaw04_GangPlans.j0 k true l0_0 l0_1 a0_2))) = some r := H
 have A3 := Aside0.mk A30
 clear A30
 have HC4 := Aside0.mk H
 clear H
 go_enter Tryd.func5, Tryd.ntmps5
 go_upto_region 3 with (first | ((with_reducible refine gate_dst (N := 1) rfl ?_); refine bx 1 #[.slice A0_0 l0_0.length c0_0, .slice A0_1 l0_1.length c0_1, .int .i64 a0_2] 25 ?_; intro gb340 hg w5 hbox hb; have n0_ := Aside0.mk (below_step (bw HB) hb); have n1_ := Aside0.mk (hbox); have n2_ := Aside0.mk (bz (bw HB) hg); have n3_ := Aside0.mk (bz (bw HB) hg); clear HB; have HB := n0_; have BK340 := n1_; have GW340 := n2_; have GE340 := n3_; clear n0_ n1_ n2_ n3_; clear hb hbox hg; obtain ⟨hcz6_0, hcz6_1, hcz6_2, hfz6_0, hfz6_1, hfz6_2⟩ := b3 BK340) | ((with_reducible refine gate_callee (f := 31) rfl ?_); refine gL (some 13) Tryd.func31 #[.agg #[.slice A0_0 l0_0.length c0_0, .slice A0_1 l0_1.length c0_1, .int .i64 a0_2]] ?_; (with_reducible refine (gang_Plan.calls _ _ l0_0 _ _ l0_1 a0_2 t341 t344 _ ?side1 ?side2 ?side3 ?side4 ?side5 A2.out).mono ?_); (case side1 => repeat (first | exact (Kd.C_below HR0_0.out HB.out) | (with_reducible refine Kd.C_alloc ?_ _) | (with_reducible refine Kd.C_drewN ?_ _) | (with_reducible refine Kd.C_drew ?_))); (case side2 => exact HC0_0.out); (case side3 => repeat (first | exact (Kd.C_below HR0_1.out HB.out) | (with_reducible refine Kd.C_alloc ?_ _) | (with_reducible refine Kd.C_drewN ?_ _) | (with_reducible refine Kd.C_drew ?_))); (case side4 => exact HC0_1.out); (case side5 => exact gv_below HG.out (bw1 HB GE340)); rintro e w7 ⟨v342, rfl, ho0, hb⟩; refine ⟨_, rfl, ?_⟩; have n0_ := Aside0.mk (Kd.V_lower (Kd.V_mono (ok' := fun k_ => k_ ≠ gb340) ho0 (fun k_ hk_ => (Kd.freshB (g := gb340) (o := .cells #[.slice A0_0 l0_0.length c0_0, .slice A0_1 l0_1.length c0_1, .int .i64 a0_2] 25 (0, 0)) (bm BK340) k_ hk_))) (below_size (bw1 HB GE340))); have n1_ := Aside0.mk (blk_below (bm BK340) hb); have n2_ := Aside0.mk (below_step (bw1 HB GE340) hb); clear BK340; clear HB; have HO343 := n0_; have BK340 := n1_; have HB := n2_; clear n0_ n1_ n2_; (try clear hb); (try clear hb2); (try clear hk); (try clear hi); (try clear ho0); obtain ⟨hcz8_0, hcz8_1, hcz8_2, hfz8_0, hfz8_1, hfz8_2⟩ := b3 BK340) | ((with_reducible refine gate_callee (f := 32) rfl ?_); refine gL (some 18) Tryd.func32 #[.agg #[.slice A0_0 l0_0.length c0_0, .slice A0_1 l0_1.length c0_1, .int .i64 a0_2]] ?_; (with_reducible refine (macadamref04_Plan.calls _ _ l0_0 _ _ l0_1 a0_2 t345 t348 _ ?side1 ?side2 ?side3 ?side4 A3.out).mono ?_); (case side1 => repeat (first | exact (Kd.C_below HR0_0.out HB.out) | (with_reducible refine Kd.C_alloc ?_ _) | (with_reducible refine Kd.C_drewN ?_ _) | (with_reducible refine Kd.C_drew ?_))); (case side2 => exact HC0_0.out); (case side3 => repeat (first | exact (Kd.C_below HR0_1.out HB.out) | (with_reducible refine Kd.C_alloc ?_ _) | (with_reducible refine Kd.C_drewN ?_ _) | (with_reducible refine Kd.C_drew ?_))); (case side4 => exact HC0_1.out); rintro e w9 ⟨v346, rfl, ho0, hb⟩; refine ⟨_, rfl, ?_⟩; have n0_ := Aside0.mk (Kd.V_below (by (with_reducible repeat (first | apply Kd.V_alloc | apply Kd.V_drewN | apply Kd.V_drew)); exact HO343.out) hb); have n1_ := Aside0.mk (Kd.V_lower (Kd.V_mono (ok' := fun k_ => k_ ≠ gb340) ho0 (fun k_ hk_ => (Kd.freshB (g := gb340) (o := .cells #[.slice A0_0 l0_0.length c0_0, .slice A0_1 l0_1.length c0_1, .int .i64 a0_2] 25 (0, 0)) (bm BK340) k_ hk_))) (below_size (bw1 HB GE340))); have n2_ := Aside0.mk (blk_below (bm BK340) hb); have n3_ := Aside0.mk (below_step (bw1 HB GE340) hb); clear HO343; clear BK340; clear HB; have HO343 := n0_; have HO347 := n1_; have BK340 := n2_; have HB := n3_; clear n0_ n1_ n2_ n3_; (try clear hb); (try clear hb2); (try clear hk); (try clear hi); (try clear ho0)))
 (try simp only [Act.put, List.setIfInBounds_toArray, List.set_cons_zero, List.set_cons_succ])
 go_cut [29] (fun v29 wc => ∃ (kq : Nat) (x29_3 : Bool), v29 = .bool x29_3 ∧ Aside0 (macadamlaw04_GangPlans.j0 kq x29_3 l0_0 l0_1 a0_2 = some r) ∧ Aside0 (kq ≤ k) ∧ Aside0 (wc.heap[gb340]? = some (.cells #[(.slice A0_0 l0_0.length c0_0), (.slice A0_1 l0_1.length c0_1), .int .i64 a0_2] 25 (0, 0))) ∧ Aside0 (Below w.heap.size w wc))
 case first =>
  have H := HC4.out
  clear HC4
  replace H := Option.bind_eq_some_iff.mp H
  obtain ⟨t349, A100, H⟩ := H
  replace H : (if t349 = true then (macadamlaw04_GangPlans.j0 k (t344 != t348) l0_0 l0_1 a0_2) else (macadamlaw04_GangPlans.j0 k true l0_0 l0_1 a0_2)) = some r := H
  have A10 := Aside0.mk A100
  clear A100
  by_cases c11 : t349 = true
  ·subst c11
   have H1 : (macadamlaw04_GangPlans.j0 k (t344 != t348) l0_0 l0_1 a0_2) = some r := by rw [if_pos rfl] at H; exact H
   clear H
   have H := H1
   clear H1
   have H' := Aside0.mk H
   clear H
   obtain ⟨Ao12, co12, eo12⟩ := Kd.V_slice HO343.out
   subst eo12
   obtain ⟨Ao13, co13, eo13⟩ := Kd.V_slice HO347.out
   subst eo13
   go_wp2_with (first | ((with_reducible refine gate_callee (f := 33) rfl ?_); refine gL (some 23) Tryd.func33 #[.slice Ao12 t341.length co12, .slice Ao13 t345.length co13] ?_; (with_reducible refine (macadamlaw04_same.calls k _ _ t341 _ _ t345 true _ ?side1 ?side2 ?side3 ?side4 A10.out).mono ?_); (case side1 => repeat (first | exact (Kd.V_reads' HO343.out).2.2 | (with_reducible refine Kd.C_alloc ?_ _) | (with_reducible refine Kd.C_drewN ?_ _) | (with_reducible refine Kd.C_drew ?_))); (case side2 => exact (Kd.V_reads' HO343.out).2.1); (case side3 => repeat (first | exact (Kd.V_reads' HO347.out).2.2 | (with_reducible refine Kd.C_alloc ?_ _) | (with_reducible refine Kd.C_drewN ?_ _) | (with_reducible refine Kd.C_drew ?_))); (case side4 => exact (Kd.V_reads' HO347.out).2.1); rintro e w' ⟨rfl, ⟨nd, rfl⟩⟩; refine ⟨_, rfl, ?_⟩))
   go_meet
   case rel => exact ⟨_, ((t344 != t348)), (by first | rfl | (simp; done) | (simp [*]; done)), H', ⟨by first | omega | exact Nat.le_refl _⟩, ⟨bm BK340⟩, ⟨bw1 HB GE340⟩⟩
  ·replace c11 := Bool.eq_false_iff.mpr c11
   subst c11
   have H1 : (macadamlaw04_GangPlans.j0 k true l0_0 l0_1 a0_2) = some r := by rw [if_neg (show ¬ (false = true) by decide)] at H; exact H
   clear H
   have H := H1
   clear H1
   have H' := Aside0.mk H
   clear H
   obtain ⟨Ao14, co14, eo14⟩ := Kd.V_slice HO343.out
   subst eo14
   obtain ⟨Ao15, co15, eo15⟩ := Kd.V_slice HO347.out
   subst eo15
   go_wp2_with (first | ((with_reducible refine gate_callee (f := 33) rfl ?_); refine gL (some 23) Tryd.func33 #[.slice Ao14 t341.length co14, .slice Ao15 t345.length co15] ?_; (with_reducible refine (macadamlaw04_same.calls k _ _ t341 _ _ t345 false _ ?side1 ?side2 ?side3 ?side4 A10.out).mono ?_); (case side1 => repeat (first | exact (Kd.V_reads' HO343.out).2.2 | (with_reducible refine Kd.C_alloc ?_ _) | (with_reducible refine Kd.C_drewN ?_ _) | (with_reducible refine Kd.C_drew ?_))); (case side2 => exact (Kd.V_reads' HO343.out).2.1); (case side3 => repeat (first | exact (Kd.V_reads' HO347.out).2.2 | (with_reducible refine Kd.C_alloc ?_ _) | (with_reducible refine Kd.C_drewN ?_ _) | (with_reducible refine Kd.C_drew ?_))); (case side4 => exact (Kd.V_reads' HO347.out).2.1); rintro e w' ⟨rfl, ⟨nd, rfl⟩⟩; refine ⟨_, rfl, ?_⟩))
   go_meet
   case rel => exact ⟨_, (true), (by first | rfl | (simp; done) | (simp [*]; done)), H', ⟨by first | omega | exact Nat.le_refl _⟩, ⟨bm BK340⟩, ⟨bw1 HB GE340⟩⟩
 case rest =>
  clear HC4
  try clear c1
  try clear p2
  try clear c3
  try clear c5
  try clear c11
  try clear hcz6_0
  try clear hcz6_1
  try clear hcz6_2
  try clear hcz8_0
  try clear hcz8_1
  try clear hcz8_2
  try clear hfz6_0
  try clear hfz6_1
  try clear hfz6_2
  try clear hfz8_0
  try clear hfz8_1
  try clear hfz8_2
  obtain ⟨kq, x29_3, rfl, HA, HJ3, BK340, HB⟩ := hcut
  cases kq with
  | zero => exact absurd HA.out (by simp [macadamlaw04_GangPlans.j0])
  | succ kj3 =>
   have H := HA.out
   clear HA
   simp only [macadamlaw04_GangPlans.j0] at H
   by_cases c16 : x29_3 = true
   ·subst c16
    have H1 : (some false) = some r := by rw [if_pos rfl] at H; exact H
    clear H
    have H := H1
    clear H1
    obtain rfl := Option.some.inj H
    go_wp2
    go_ret
    exact ⟨by first | rfl | (simp [errW_none, errW_some] <;> rfl) | (simp [*, errW_none, errW_some] <;> rfl), bw1 HB GE340⟩
   ·replace c16 := Bool.eq_false_iff.mpr c16
    subst c16
    have H1 : ((gang_Most.f l0_0 l0_1 a0_2).bind fun bt350 => ((macadamref04_Most.f kj3 l0_0 l0_1 a0_2).bind fun bt354 => ((macadamref00_Like.f kj3 bt350.1 bt354.1).bind fun t358 => (if t358 = true then (macadamlaw04_GangPlans.j1 kj3 (bt350.2 != bt354.2) l0_0 l0_1 a0_2) else (macadamlaw04_GangPlans.j1 kj3 true l0_0 l0_1 a0_2))))) = some r := by rw [if_neg (show ¬ (false = true) by decide)] at H; exact H
    clear H
    have H := H1
    clear H1
    replace H := Option.bind_eq_some_iff.mp H
    obtain ⟨⟨t350, t353⟩, A170, H⟩ := H
    replace H : ((macadamref04_Most.f kj3 l0_0 l0_1 a0_2).bind fun bt354 => ((macadamref00_Like.f kj3 t350 bt354.1).bind fun t358 => (if t358 = true then (macadamlaw04_GangPlans.j1 kj3 (t353 != bt354.2) l0_0 l0_1 a0_2) else (macadamlaw04_GangPlans.j1 kj3 true l0_0 l0_1 a0_2)))) = some r := H
    have A17 := Aside0.mk A170
    clear A170
    replace H := Option.bind_eq_some_iff.mp H
    obtain ⟨⟨t354, t357⟩, A180, H⟩ := H
    replace H : ((macadamref00_Like.f kj3 t350 t354).bind fun t358 => (if t358 = true then (macadamlaw04_GangPlans.j1 kj3 (t353 != t357) l0_0 l0_1 a0_2) else (macadamlaw04_GangPlans.j1 kj3 true l0_0 l0_1 a0_2))) = some r := H
    have A18 := Aside0.mk A180
    clear A180
    have HC19 := Aside0.mk H
    clear H
    obtain ⟨hcz20_0, hcz20_1, hcz20_2, hfz20_0, hfz20_1, hfz20_2⟩ := b3 BK340
    go_upto_region 7 with (first | ((with_reducible refine gate_callee (f := 34) rfl ?_); refine gL (some 32) Tryd.func34 #[.agg #[.slice A0_0 l0_0.length c0_0, .slice A0_1 l0_1.length c0_1, .int .i64 a0_2]] ?_; (with_reducible refine (gang_Most.calls _ _ l0_0 _ _ l0_1 a0_2 t350 t353 _ ?side1 ?side2 ?side3 ?side4 ?side5 A17.out).mono ?_); (case side1 => repeat (first | exact (Kd.C_below HR0_0.out HB.out) | (with_reducible refine Kd.C_alloc ?_ _) | (with_reducible refine Kd.C_drewN ?_ _) | (with_reducible refine Kd.C_drew ?_))); (case side2 => exact HC0_0.out); (case side3 => repeat (first | exact (Kd.C_below HR0_1.out HB.out) | (with_reducible refine Kd.C_alloc ?_ _) | (with_reducible refine Kd.C_drewN ?_ _) | (with_reducible refine Kd.C_drew ?_))); (case side4 => exact HC0_1.out); (case side5 => exact gv_below HG.out (bw1 HB GE340)); rintro e w21 ⟨v351, rfl, ho0, hb⟩; refine ⟨_, rfl, ?_⟩; have n0_ := Aside0.mk (Kd.V_lower (Kd.V_mono (ok' := fun k_ => k_ ≠ gb340) ho0 (fun k_ hk_ => (Kd.freshB (g := gb340) (o := .cells #[.slice A0_0 l0_0.length c0_0, .slice A0_1 l0_1.length c0_1, .int .i64 a0_2] 25 (0, 0)) (bm BK340) k_ hk_))) (below_size (bw1 HB GE340))); have n1_ := Aside0.mk (blk_below (bm BK340) hb); have n2_ := Aside0.mk (below_step (bw1 HB GE340) hb); clear BK340; clear HB; have HO352 := n0_; have BK340 := n1_; have HB := n2_; clear n0_ n1_ n2_; (try clear hb); (try clear hb2); (try clear hk); (try clear hi); (try clear ho0); obtain ⟨hcz22_0, hcz22_1, hcz22_2, hfz22_0, hfz22_1, hfz22_2⟩ := b3 BK340) | ((with_reducible refine gate_callee (f := 35) rfl ?_); refine gL (some 37) Tryd.func35 #[.agg #[.slice A0_0 l0_0.length c0_0, .slice A0_1 l0_1.length c0_1, .int .i64 a0_2]] ?_; (with_reducible refine (macadamref04_Most.calls kj3 _ _ l0_0 _ _ l0_1 a0_2 t354 t357 _ ?side1 ?side2 ?side3 ?side4 A18.out).mono ?_); (case side1 => repeat (first | exact (Kd.C_below HR0_0.out HB.out) | (with_reducible refine Kd.C_alloc ?_ _) | (with_reducible refine Kd.C_drewN ?_ _) | (with_reducible refine Kd.C_drew ?_))); (case side2 => exact HC0_0.out); (case side3 => repeat (first | exact (Kd.C_below HR0_1.out HB.out) | (with_reducible refine Kd.C_alloc ?_ _) | (with_reducible refine Kd.C_drewN ?_ _) | (with_reducible refine Kd.C_drew ?_))); (case side4 => exact HC0_1.out); rintro e w23 ⟨v355, rfl, ho0, hb⟩; refine ⟨_, rfl, ?_⟩; have n0_ := Aside0.mk (Kd.V_elder' (by (with_reducible repeat (first | apply Kd.V_alloc | apply Kd.V_drewN | apply Kd.V_drew)); exact HO352.out) (Kd.R_base ho0) hb); have n1_ := Aside0.mk (Kd.R_lower ho0 (below_size (bw1 HB GE340))); have n2_ := Aside0.mk (blk_below (bm BK340) hb); have n3_ := Aside0.mk (below_step (bw1 HB GE340) hb); clear HO352; clear BK340; clear HB; have HO352 := n0_; have HO356 := n1_; have BK340 := n2_; have HB := n3_; clear n0_ n1_ n2_ n3_; (try clear hb); (try clear hb2); (try clear hk); (try clear hi); (try clear ho0)))
    (try simp only [Act.put, List.setIfInBounds_toArray, List.set_cons_zero, List.set_cons_succ])
    go_cut [48] (fun v48 wc => ∃ (kq : Nat) (x48_18 : Bool), v48 = .bool x48_18 ∧ Aside0 (macadamlaw04_GangPlans.j1 kq x48_18 l0_0 l0_1 a0_2 = some r) ∧ Aside0 (kq ≤ kj3) ∧ Aside0 (wc.heap[gb340]? = some (.cells #[(.slice A0_0 l0_0.length c0_0), (.slice A0_1 l0_1.length c0_1), .int .i64 a0_2] 25 (0, 0))) ∧ Aside0 (Below w.heap.size w wc))
    case first =>
     have H := HC19.out
     clear HC19
     replace H := Option.bind_eq_some_iff.mp H
     obtain ⟨t358, A240, H⟩ := H
     replace H : (if t358 = true then (macadamlaw04_GangPlans.j1 kj3 (t353 != t357) l0_0 l0_1 a0_2) else (macadamlaw04_GangPlans.j1 kj3 true l0_0 l0_1 a0_2)) = some r := H
     have A24 := Aside0.mk A240
     clear A240
     by_cases c25 : t358 = true
     ·subst c25
      have H1 : (macadamlaw04_GangPlans.j1 kj3 (t353 != t357) l0_0 l0_1 a0_2) = some r := by rw [if_pos rfl] at H; exact H
      clear H
      have H := H1
      clear H1
      have H' := Aside0.mk H
      clear H
      obtain ⟨Ao26, co26, eo26⟩ := Kd.V_slice HO352.out
      subst eo26
      obtain ⟨Ao27, co27, eo27⟩ := Kd.R_slice HO356.out
      subst eo27
      go_wp2_with (first | ((with_reducible refine gate_callee (f := 17) rfl ?_); refine gL (some 42) Tryd.func17 #[.slice Ao26 t350.length co26, .slice Ao27 t354.length co27] ?_; (with_reducible refine (macadamref00_Like.calls kj3 _ _ t350 _ _ t354 true _ ?side1 ?side2 ?side3 ?side4 A24.out).mono ?_); (case side1 => repeat (first | exact (Kd.V_reads' HO352.out).2.2 | (with_reducible refine Kd.C_alloc ?_ _) | (with_reducible refine Kd.C_drewN ?_ _) | (with_reducible refine Kd.C_drew ?_))); (case side2 => exact (Kd.V_reads' HO352.out).2.1); (case side3 => repeat (first | exact (Kd.R_reads' HO356.out).2.2 | (with_reducible refine Kd.C_alloc ?_ _) | (with_reducible refine Kd.C_drewN ?_ _) | (with_reducible refine Kd.C_drew ?_))); (case side4 => exact (Kd.R_reads' HO356.out).2.1); rintro e w' ⟨rfl, ⟨nd, rfl⟩⟩; refine ⟨_, rfl, ?_⟩))
      go_meet
      case rel => exact ⟨_, ((t353 != t357)), (by first | rfl | (simp; done) | (simp [*]; done)), H', ⟨by have := HJ3.out; first | omega | exact Nat.le_refl _⟩, ⟨bm BK340⟩, ⟨bw1 HB GE340⟩⟩
     ·replace c25 := Bool.eq_false_iff.mpr c25
      subst c25
      have H1 : (macadamlaw04_GangPlans.j1 kj3 true l0_0 l0_1 a0_2) = some r := by rw [if_neg (show ¬ (false = true) by decide)] at H; exact H
      clear H
      have H := H1
      clear H1
      have H' := Aside0.mk H
      clear H
      obtain ⟨Ao28, co28, eo28⟩ := Kd.V_slice HO352.out
      subst eo28
      obtain ⟨Ao29, co29, eo29⟩ := Kd.R_slice HO356.out
      subst eo29
      go_wp2_with (first | ((with_reducible refine gate_callee (f := 17) rfl ?_); refine gL (some 42) Tryd.func17 #[.slice Ao28 t350.length co28, .slice Ao29 t354.length co29] ?_; (with_reducible refine (macadamref00_Like.calls kj3 _ _ t350 _ _ t354 false _ ?side1 ?side2 ?side3 ?side4 A24.out).mono ?_); (case side1 => repeat (first | exact (Kd.V_reads' HO352.out).2.2 | (with_reducible refine Kd.C_alloc ?_ _) | (with_reducible refine Kd.C_drewN ?_ _) | (with_reducible refine Kd.C_drew ?_))); (case side2 => exact (Kd.V_reads' HO352.out).2.1); (case side3 => repeat (first | exact (Kd.R_reads' HO356.out).2.2 | (with_reducible refine Kd.C_alloc ?_ _) | (with_reducible refine Kd.C_drewN ?_ _) | (with_reducible refine Kd.C_drew ?_))); (case side4 => exact (Kd.R_reads' HO356.out).2.1); rintro e w' ⟨rfl, ⟨nd, rfl⟩⟩; refine ⟨_, rfl, ?_⟩))
      go_meet
      case rel => exact ⟨_, (true), (by first | rfl | (simp; done) | (simp [*]; done)), H', ⟨by have := HJ3.out; first | omega | exact Nat.le_refl _⟩, ⟨bm BK340⟩, ⟨bw1 HB GE340⟩⟩
    case rest =>
     clear HC19
     try clear c1
     try clear c2
     try clear p2
     try clear c3
     try clear c5
     try clear c11
     try clear c16
     try clear c17
     try clear c25
     try clear hcz20_0
     try clear hcz20_1
     try clear hcz20_2
     try clear hcz22_0
     try clear hcz22_1
     try clear hcz22_2
     try clear hcz6_0
     try clear hcz6_1
     try clear hcz6_2
     try clear hcz8_0
     try clear hcz8_1
     try clear hcz8_2
     try clear hfz20_0
     try clear hfz20_1
     try clear hfz20_2
     try clear hfz22_0
     try clear hfz22_1
     try clear hfz22_2
     try clear hfz6_0
     try clear hfz6_1
     try clear hfz6_2
     try clear hfz8_0
     try clear hfz8_1
     try clear hfz8_2
     try clear p2
     obtain ⟨kq, x48_18, rfl, HA, HJ18, BK340, HB⟩ := hcut
     cases kq with
     | zero => exact absurd HA.out (by simp [macadamlaw04_GangPlans.j1])
     | succ kj18 =>
      have H := HA.out
      clear HA
      simp only [macadamlaw04_GangPlans.j1] at H
      by_cases c30 : x48_18 = true
      ·subst c30
       have H1 : (some false) = some r := by rw [if_pos rfl] at H; exact H
       clear H
       have H := H1
       clear H1
       obtain rfl := Option.some.inj H
       go_wp2
       go_ret
       exact ⟨by first | rfl | (simp [errW_none, errW_some] <;> rfl) | (simp [*, errW_none, errW_some] <;> rfl), bw1 HB GE340⟩
      ·replace c30 := Bool.eq_false_iff.mpr c30
       subst c30
       have H1 : ((gang_First.f l0_0 l0_1 a0_2).bind fun bt359 => ((macadamref04_First.f kj18 l0_0 l0_1 a0_2).bind fun bt361 => (if bt359.1 = bt361.1 then (if bt359.2 = bt361.2 then ((macadamlaw04_shovelled.f).bind fun t363 => (some t363)) else (some false)) else (some false)))) = some r := by rw [if_neg (show ¬ (false = true) by decide)] at H; exact H
       clear H
       have H := H1
       clear H1
       replace H := Option.bind_eq_some_iff.mp H
       obtain ⟨⟨t359, t360⟩, A310, H⟩ := H
       replace H : ((macadamref04_First.f kj18 l0_0 l0_1 a0_2).bind fun bt361 => (if t359 = bt361.1 then (if t360 = bt361.2 then ((macadamlaw04_shovelled.f).bind fun t363 => (some t363)) else (some false)) else (some false))) = some r := H
       have A31 := Aside0.mk A310
       clear A310
       replace H := Option.bind_eq_some_iff.mp H
       obtain ⟨⟨t361, t362⟩, A320, H⟩ := H
       replace H : (if t359 = t361 then (if t360 = t362 then ((macadamlaw04_shovelled.f).bind fun t363 => (some t363)) else (some false)) else (some false)) = some r := H
       have A32 := Aside0.mk A320
       clear A320
       by_cases c33 : t359 = t361
       ·rw [if_pos c33] at H
        have c33b0 : (t359 == t361) = true := beq_iff_eq.mpr c33
        have c33b1 : (t359 != t361) = false := bne_eq_false_iff_eq.mpr c33
        clear c33
        by_cases c34 : t360 = t362
        ·rw [if_pos c34] at H
         have c34b0 : (t360 == t362) = true := beq_iff_eq.mpr c34
         have c34b1 : (t360 != t362) = false := bne_eq_false_iff_eq.mpr c34
         clear c34
         replace H := Option.bind_eq_some_iff.mp H
         obtain ⟨t363, A350, H⟩ := H
         replace H : (some t363) = some r := H
         have A35 := Aside0.mk A350
         clear A350
         obtain rfl := Option.some.inj H
         obtain ⟨hcz36_0, hcz36_1, hcz36_2, hfz36_0, hfz36_1, hfz36_2⟩ := b3 BK340
         go_wp2_with (first | ((with_reducible refine gate_callee (f := 36) rfl ?_); refine gL (some 51) Tryd.func36 #[.agg #[.slice A0_0 l0_0.length c0_0, .slice A0_1 l0_1.length c0_1, .int .i64 a0_2]] ?_; (with_reducible refine (gang_First.calls _ _ l0_0 _ _ l0_1 a0_2 t359 t360 _ ?side1 ?side2 ?side3 ?side4 ?side5 A31.out).mono ?_); (case side1 => repeat (first | exact (Kd.C_below HR0_0.out HB.out) | (with_reducible refine Kd.C_alloc ?_ _) | (with_reducible refine Kd.C_drewN ?_ _) | (with_reducible refine Kd.C_drew ?_))); (case side2 => exact HC0_0.out); (case side3 => repeat (first | exact (Kd.C_below HR0_1.out HB.out) | (with_reducible refine Kd.C_alloc ?_ _) | (with_reducible refine Kd.C_drewN ?_ _) | (with_reducible refine Kd.C_drew ?_))); (case side4 => exact HC0_1.out); (case side5 => exact gv_below HG.out (bw1 HB GE340)); rintro e w37 ⟨rfl, hb⟩; refine ⟨_, rfl, ?_⟩; have n0_ := Aside0.mk (blk_below (bm BK340) hb); have n1_ := Aside0.mk (below_step (bw1 HB GE340) hb); clear BK340; clear HB; have BK340 := n0_; have HB := n1_; clear n0_ n1_; (try clear hb); (try clear hb2); (try clear hk); (try clear hi); obtain ⟨hcz38_0, hcz38_1, hcz38_2, hfz38_0, hfz38_1, hfz38_2⟩ := b3 BK340) | ((with_reducible refine gate_callee (f := 37) rfl ?_); refine gL (some 56) Tryd.func37 #[.agg #[.slice A0_0 l0_0.length c0_0, .slice A0_1 l0_1.length c0_1, .int .i64 a0_2]] ?_; (with_reducible refine (macadamref04_First.calls kj18 _ _ l0_0 _ _ l0_1 a0_2 t361 t362 _ ?side1 ?side2 ?side3 ?side4 A32.out).mono ?_); (case side1 => repeat (first | exact (Kd.C_below HR0_0.out HB.out) | (with_reducible refine Kd.C_alloc ?_ _) | (with_reducible refine Kd.C_drewN ?_ _) | (with_reducible refine Kd.C_drew ?_))); (case side2 => exact HC0_0.out); (case side3 => repeat (first | exact (Kd.C_below HR0_1.out HB.out) | (with_reducible refine Kd.C_alloc ?_ _) | (with_reducible refine Kd.C_drewN ?_ _) | (with_reducible refine Kd.C_drew ?_))); (case side4 => exact HC0_1.out); rintro e w39 ⟨rfl, hb⟩; refine ⟨_, rfl, ?_⟩; have n0_ := Aside0.mk (blk_below (bm BK340) hb); have n1_ := Aside0.mk (below_step (bw1 HB GE340) hb); clear BK340; clear HB; have BK340 := n0_; have HB := n1_; clear n0_ n1_; (try clear hb); (try clear hb2); (try clear hk); (try clear hi)) | (go_at_call 24; (with_reducible refine (macadamlaw04_shovelled.calls  t363 _ ?side1 A35.out).mono ?_); (case side1 => exact gv_below HG.out (bw1 HB GE340)); rintro e w40 ⟨rfl, hb⟩; have n0_ := Aside0.mk (blk_below (bm BK340) hb); have n1_ := Aside0.mk (below_step (bw1 HB GE340) hb); clear BK340; clear HB; have BK340 := n0_; have HB := n1_; clear n0_ n1_; (try clear hb); (try clear hb2); (try clear hk); (try clear hi)))
         go_ret
         exact ⟨by first | rfl | (simp [errW_none, errW_some] <;> rfl) | (simp [*, errW_none, errW_some] <;> rfl), bw1 HB GE340⟩
        ·rw [if_neg c34] at H
         have c34b0 : (t360 == t362) = false := beq_eq_false_iff_ne.mpr c34
         have c34b1 : (t360 != t362) = true := bne_iff_ne.mpr c34
         obtain rfl := Option.some.inj H
         obtain ⟨hcz41_0, hcz41_1, hcz41_2, hfz41_0, hfz41_1, hfz41_2⟩ := b3 BK340
         go_wp2_with (first | ((with_reducible refine gate_callee (f := 36) rfl ?_); refine gL (some 51) Tryd.func36 #[.agg #[.slice A0_0 l0_0.length c0_0, .slice A0_1 l0_1.length c0_1, .int .i64 a0_2]] ?_; (with_reducible refine (gang_First.calls _ _ l0_0 _ _ l0_1 a0_2 t359 t360 _ ?side1 ?side2 ?side3 ?side4 ?side5 A31.out).mono ?_); (case side1 => repeat (first | exact (Kd.C_below HR0_0.out HB.out) | (with_reducible refine Kd.C_alloc ?_ _) | (with_reducible refine Kd.C_drewN ?_ _) | (with_reducible refine Kd.C_drew ?_))); (case side2 => exact HC0_0.out); (case side3 => repeat (first | exact (Kd.C_below HR0_1.out HB.out) | (with_reducible refine Kd.C_alloc ?_ _) | (with_reducible refine Kd.C_drewN ?_ _) | (with_reducible refine Kd.C_drew ?_))); (case side4 => exact HC0_1.out); (case side5 => exact gv_below HG.out (bw1 HB GE340)); rintro e w42 ⟨rfl, hb⟩; refine ⟨_, rfl, ?_⟩; have n0_ := Aside0.mk (blk_below (bm BK340) hb); have n1_ := Aside0.mk (below_step (bw1 HB GE340) hb); clear BK340; clear HB; have BK340 := n0_; have HB := n1_; clear n0_ n1_; (try clear hb); (try clear hb2); (try clear hk); (try clear hi); obtain ⟨hcz43_0, hcz43_1, hcz43_2, hfz43_0, hfz43_1, hfz43_2⟩ := b3 BK340) | ((with_reducible refine gate_callee (f := 37) rfl ?_); refine gL (some 56) Tryd.func37 #[.agg #[.slice A0_0 l0_0.length c0_0, .slice A0_1 l0_1.length c0_1, .int .i64 a0_2]] ?_; (with_reducible refine (macadamref04_First.calls kj18 _ _ l0_0 _ _ l0_1 a0_2 t361 t362 _ ?side1 ?side2 ?side3 ?side4 A32.out).mono ?_); (case side1 => repeat (first | exact (Kd.C_below HR0_0.out HB.out) | (with_reducible refine Kd.C_alloc ?_ _) | (with_reducible refine Kd.C_drewN ?_ _) | (with_reducible refine Kd.C_drew ?_))); (case side2 => exact HC0_0.out); (case side3 => repeat (first | exact (Kd.C_below HR0_1.out HB.out) | (with_reducible refine Kd.C_alloc ?_ _) | (with_reducible refine Kd.C_drewN ?_ _) | (with_reducible refine Kd.C_drew ?_))); (case side4 => exact HC0_1.out); rintro e w44 ⟨rfl, hb⟩; refine ⟨_, rfl, ?_⟩; have n0_ := Aside0.mk (blk_below (bm BK340) hb); have n1_ := Aside0.mk (below_step (bw1 HB GE340) hb); clear BK340; clear HB; have BK340 := n0_; have HB := n1_; clear n0_ n1_; (try clear hb); (try clear hb2); (try clear hk); (try clear hi)))
         go_ret
         exact ⟨by first | rfl | (simp [errW_none, errW_some] <;> rfl) | (simp [*, errW_none, errW_some] <;> rfl), bw1 HB GE340⟩
       ·rw [if_neg c33] at H
        have c33b0 : (t359 == t361) = false := beq_eq_false_iff_ne.mpr c33
        have c33b1 : (t359 != t361) = true := bne_iff_ne.mpr c33
        obtain rfl := Option.some.inj H
        obtain ⟨hcz45_0, hcz45_1, hcz45_2, hfz45_0, hfz45_1, hfz45_2⟩ := b3 BK340
        go_wp2_with (first | ((with_reducible refine gate_callee (f := 36) rfl ?_); refine gL (some 51) Tryd.func36 #[.agg #[.slice A0_0 l0_0.length c0_0, .slice A0_1 l0_1.length c0_1, .int .i64 a0_2]] ?_; (with_reducible refine (gang_First.calls _ _ l0_0 _ _ l0_1 a0_2 t359 t360 _ ?side1 ?side2 ?side3 ?side4 ?side5 A31.out).mono ?_); (case side1 => repeat (first | exact (Kd.C_below HR0_0.out HB.out) | (with_reducible refine Kd.C_alloc ?_ _) | (with_reducible refine Kd.C_drewN ?_ _) | (with_reducible refine Kd.C_drew ?_))); (case side2 => exact HC0_0.out); (case side3 => repeat (first | exact (Kd.C_below HR0_1.out HB.out) | (with_reducible refine Kd.C_alloc ?_ _) | (with_reducible refine Kd.C_drewN ?_ _) | (with_reducible refine Kd.C_drew ?_))); (case side4 => exact HC0_1.out); (case side5 => exact gv_below HG.out (bw1 HB GE340)); rintro e w46 ⟨rfl, hb⟩; refine ⟨_, rfl, ?_⟩; have n0_ := Aside0.mk (blk_below (bm BK340) hb); have n1_ := Aside0.mk (below_step (bw1 HB GE340) hb); clear BK340; clear HB; have BK340 := n0_; have HB := n1_; clear n0_ n1_; (try clear hb); (try clear hb2); (try clear hk); (try clear hi); obtain ⟨hcz47_0, hcz47_1, hcz47_2, hfz47_0, hfz47_1, hfz47_2⟩ := b3 BK340) | ((with_reducible refine gate_callee (f := 37) rfl ?_); refine gL (some 56) Tryd.func37 #[.agg #[.slice A0_0 l0_0.length c0_0, .slice A0_1 l0_1.length c0_1, .int .i64 a0_2]] ?_; (with_reducible refine (macadamref04_First.calls kj18 _ _ l0_0 _ _ l0_1 a0_2 t361 t362 _ ?side1 ?side2 ?side3 ?side4 A32.out).mono ?_); (case side1 => repeat (first | exact (Kd.C_below HR0_0.out HB.out) | (with_reducible refine Kd.C_alloc ?_ _) | (with_reducible refine Kd.C_drewN ?_ _) | (with_reducible refine Kd.C_drew ?_))); (case side2 => exact HC0_0.out); (case side3 => repeat (first | exact (Kd.C_below HR0_1.out HB.out) | (with_reducible refine Kd.C_alloc ?_ _) | (with_reducible refine Kd.C_drewN ?_ _) | (with_reducible refine Kd.C_drew ?_))); (case side4 => exact HC0_1.out); rintro e w48 ⟨rfl, hb⟩; refine ⟨_, rfl, ?_⟩; have n0_ := Aside0.mk (blk_below (bm BK340) hb); have n1_ := Aside0.mk (below_step (bw1 HB GE340) hb); clear BK340; clear HB; have BK340 := n0_; have HB := n1_; clear n0_ n1_; (try clear hb); (try clear hb2); (try clear hk); (try clear hi)))
        go_ret
        exact ⟨by first | rfl | (simp [errW_none, errW_some] <;> rfl) | (simp [*, errW_none, errW_some] <;> rfl), bw1 HB GE340⟩
end Go.Proofs.YtikfghnkbgdbgaaDoor.Q
end
section
namespace Go.Proofs.YtikfghnkbgdbgaaDoor.Q
set_option linter.unusedSimpArgs false
set_option linter.unusedVariables false
open Go.RowKit Go.Proofs.YtikfghnkbgdbgaaDoorW.PrintWords Go.Proofs.YtikfghnkbgdbgaaDoorW.PrintLast Go.Proofs.YtikfghnkbgdbgaaDoorW.PrintMore
theorem plan_told (ms : List M) (gs : List G) (n : Int) : ∃ p e, gang_Plan.f ms gs n = some (p, e) ∧ p.length ≤ 8 := by
  by_cases ok : okB ms gs n = true
  · rcases plan_f ok with ⟨p, hp, e⟩ | ⟨hp, e⟩
    · exact ⟨p, 0, e, plan_len ok (planL_some ok hp).1⟩
    · exact ⟨[], 4, e, by simp⟩
  · exact ⟨[], 40, plan_bad ok, by simp⟩
theorem most_told (ms : List M) (gs : List G) (n : Int) : ∀ r, gang_Most.f ms gs n = some r → r.1.length ≤ ms.length := by
  intro r h
  unfold gang_Most.f at h
  by_cases ok : okB ms gs n = true
  · rw [if_pos ok] at h
    injection h with h
    obtain ⟨⟨p, hp, hl⟩, _⟩ := mostL_spec ok
    rw [← h]
    show (mostL ms gs n).length ≤ _
    rw [hl]
    exact rmended_len
  · rw [if_neg ok] at h
    injection h with h
    rw [← h]
    simp
theorem gangPlans_pure (ms : List M) (gs : List G) (n : Int) (ok0 : OkBook ms gs n) :
    ∃ k, macadamlaw04_GangPlans.f k ms gs n = some true := by
  have hm : ms.length ≤ 9223372036854775807 := ok0.1.1
  have hg : gs.length ≤ 9223372036854775807 := ok0.2.1.1
  obtain ⟨p, e, hp, hp8⟩ := plan_told ms gs n
  obtain ⟨r2, e2, v2⟩ := rMost_ev (n := n) hm hg
  obtain ⟨r3, e3, v3⟩ := rFirst_ev (n := n) hm hg
  have hl2 := most_told ms gs n r2 e2
  refine Ev.rounds ?_
  unfold macadamlaw04_GangPlans.f
  refine Ev.bind (Ev.some hp) (Ev.bind (Ev.some hp) (Ev.bind (same_ev p (by omega)) ?_))
  refine Ev.pos rfl (Ev.step (f := fun k => (gang_Most.f ms gs n).bind fun bt350 => ((macadamref04_Most.f k ms gs n).bind fun bt354 => ((macadamref00_Like.f k bt350.1 bt354.1).bind fun t358 => (if t358 = true then (macadamlaw04_GangPlans.j1 k (bt350.2 != bt354.2) ms gs n) else (macadamlaw04_GangPlans.j1 k true ms gs n))))) (fun k => by simp only [macadamlaw04_GangPlans.j0]; rw [if_neg (by simp)]) ?_)
  refine Ev.bind (Ev.some e2) (Ev.bind v2 (Ev.bind (like_same _ (by omega)) (Ev.pos rfl ?_)))
  refine Ev.step (f := fun k => (gang_First.f ms gs n).bind fun bt359 => ((macadamref04_First.f k ms gs n).bind fun bt361 => (if bt359.1 = bt361.1 then (if bt359.2 = bt361.2 then ((macadamlaw04_shovelled.f).bind fun t363 => (some t363)) else (some false)) else (some false)))) (fun k => by simp only [macadamlaw04_GangPlans.j1]; rw [if_neg (by simp)]) ?_
  exact Ev.bind (Ev.some e3) (Ev.bind v3 (Ev.pos rfl (Ev.pos rfl (Ev.now _))))
end Go.Proofs.YtikfghnkbgdbgaaDoor.Q
end
section
namespace Go.Proofs.YtikfghnkbgdbgaaDoor.Q
open Go.ChangeShapes Go.WideShapes Go.ChangeAt Go.RowKit
set_option linter.unusedVariables false
set_option maxRecDepth 100000 in
theorem gangPlans_lifted (os : Os) (started : os.Started) (H : Type) (enc : TypeId × Value → H) :
    ReturnsInHanded {} Tryd.checked os 5 .any (fun w args => (Rows.gangPlansSpec.pre enc Tryd.prog Tryd.f5 [] false w args ∧ laidMetH Tryd.prog laidV w) ∧ sizedMet enc Tryd.prog Tryd.f5 (OpenSpec.ofChange Rows.gangPlansSpec) false w args)
      (Rows.gangPlansSpec.post enc Tryd.prog Tryd.f5 false true false false) := by
  refine returnsInHanded_of_change_and (C := Tryd.checked) (X := fun w _ => laidMetH Tryd.prog laidV w) (fun _ _ _ hh h => h.of_heap hh) ownK started (by kernel_rfl) Tryd.func5
    (ChangeSpec.witness_shaped (enc := enc) (C := Tryd.checked) (os := os) (X := fun w _ => laidMetH Tryd.prog laidV w) false (World.doorLaid Tryd.prog 19 os) #[.agg #[.slice none 0 0, .slice none 0 0, .int .i64 0]] 8 rfl (World.shaped_of_RefB (by kernel_rfl) (by kernel_rfl)) (by kernel_rfl) (by kernel_rfl) (by kernel_rfl) (door_met os _)) ?_
  intro W base args ds gs before hval0 hW _ hsz0 hL _
  have hval : ∀ (j : Nat) t v, Tryd.f5.params[j]? = some t → args[j]? = some v → Value.okWide Tryd.prog W .any base t v := hval0
  have hsz : (DataW.weightsEach Tryd.prog (Tryd.f5.params.toList ++ Rows.gangPlansSpec.plain.varTypes Tryd.prog) (ds ++ gs)).all (· ≤ reachBytes) = true := hsz0
  have hW' := hW
  obtain ⟨p, q, hA0, hV, rfl, hfz, hnd⟩ := hW
  have hA : DataW.TrodAll enc Tryd.prog W 0 (fun _ => true) true Tryd.f5.params.toList args.toList ds p := hA0
  rw [Tryd.params5] at hA hval hsz
  obtain ⟨v0, vs0, d0, ds0, p0, q0, hargs, rfl, rfl, h0, r0⟩ := trodAll_cons hA
  obtain ⟨rfl, rfl, rfl⟩ := trodAll_nil r0
  obtain rfl : args = #[v0] := by cases args; simp_all
  obtain ⟨rfl, rfl⟩ := trodVars_none hV
  have lt0 : ∀ x ∈ p0, x.block < W.heap.size := by obtain ⟨m, hm⟩ := h0; exact DataW.trod_lt m _ _ _ hm
  obtain ⟨y0, K0, ok0⟩ := opens_book.arg h0
  obtain ⟨A0_0, c0_0, A0_1, c0_1, e0, hc0_0, hr0_0, hc0_1, hr0_1⟩ := k25_open K0
  obtain rfl := cells_many e0
  have hG := gv_of_laid hL
  obtain ⟨k_, h_⟩ := gangPlans_pure y0.f0 y0.f1 y0.f2 ok0
  clear hA0 hval0 hsz0 hsz
  refine (macadamlaw04_GangPlans.calls k_ A0_0 c0_0 y0.f0 A0_1 c0_1 y0.f1 y0.f2 true W hr0_0 hc0_0 hr0_1 hc0_1 hG h_).mono fun e W' ⟨he, bel⟩ => ?_
  subst he
  exact ⟨_, rfl, _, _, _, [], _, [], hW', trodAll_mk1 (shut_bool Tryd.underlying4 _), (trodAll_cons_mk (Below.trod laidOut (by kernel_rfl) (of_decide_eq_true (by kernel_rfl)) h0 bel lt0) trodAll_mk0), rfl, bel.frame _, fun h => by cases h⟩
theorem gangPlans_over : Rows.gangPlansRow.holds Tryd.pinned (OpenSpec.ofChange Rows.gangPlansSpec) :=
  OpenClaim.holds_of_wide 5 Tryd.f5 rfl rfl rfl rfl rfl rfl rfl ⟨rfl, rfl, rfl, rfl, rfl⟩ rfl rfl rfl rfl rfl (by kernel_rfl) Tryd.func5 (by kernel_rfl)
    (of_decide_eq_true (by kernel_rfl)) (by unfold Func.isWrapper; first | (rw [if_pos (by decide +kernel)]; kernel_rfl) | (rw [if_neg (by decide +kernel)]; exact ⟨rfl, rfl⟩))
    (fun os started H enc _ => gangPlans_lifted os started H enc)
end Go.Proofs.YtikfghnkbgdbgaaDoor.Q
namespace Go.Proofs.YtikfghnkbgdbgaaDoor
set_option maxRecDepth 100000 in
/-- THE CARD. -/
theorem gangPlans_holds : Rows.GangPlansCardSaid :=
  Claim7.holds_tied_plain_at .later [] [.data, .funcs] true (true, "88f50df5e688c53fcba80ffbc790cc1082a54a252ac4bc190e21b1a8f43ba8e5") false
    Q.gangPlans_over (fun _ h => by cases h) (by kernel_rfl) (fun _ h => by cases h) gangPlans_row_tie rfl ⟨rfl, rfl⟩ (by kernel_rfl) rfl
    (fun f fn hf hfn => by
      obtain rfl : f = 5 := Option.some.inj ((show Tryd.prog.funcNamed "macadam/macadamlaw04.GangPlans" = some 5 by kernel_rfl).symm.trans hf) |>.symm
      obtain rfl : fn = Tryd.f5 := (Option.some.inj (Tryd.func5.symm.trans hfn)).symm
      exact ⟨by kernel_rfl, fun j t ht => by
        rw [Tryd.params5] at ht
        have hm : t ∈ [25] := by simpa using Array.mem_of_getElem? ht
        have hall : ([25].all fun u => !Tryd.prog.wantsStandIn u) = true := by kernel_rfl
        exact (show Tryd.prog.wantsStandIn t = false by simpa using List.all_eq_true.1 hall t hm)⟩)
    (by kernel_rfl)
end Go.Proofs.YtikfghnkbgdbgaaDoor
end
