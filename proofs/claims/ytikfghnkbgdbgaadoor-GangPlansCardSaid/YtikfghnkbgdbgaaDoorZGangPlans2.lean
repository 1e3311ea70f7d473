/- A part of the proof of the statement GangPlans: For any book the statement GangPlans holds: Plan, Most and First return what the chapter says. -/
import Derived.Test.YtikfghnkbgdbgaaDoorZGangPlans1
import Derived.ChangeKeysEq
import Derived.RangeFuncCalls
import Derived.RangeFuncLeaves
import Derived.OwnWalkIn
import Derived.TacticsInMore
import Derived.LoopNIn
import Derived.LoopIn
import Derived.OrdersIn
import Derived.WalkMore
set_option linter.unusedSimpArgs false
set_option linter.unusedVariables false
section
namespace Go.Proofs.YtikfghnkbgdbgaaDoor.Q
set_option linter.unusedSimpArgs false
set_option linter.unusedVariables false
open Go.RowKit Go.Proofs.YtikfghnkbgdbgaaDoorW.PrintWords Go.Proofs.YtikfghnkbgdbgaaDoorW.PrintLast Go.Proofs.YtikfghnkbgdbgaaDoorW.PrintMore
theorem isMile_f (ms : List M) (gs : List G) (n i : Int) (hm : ms.length ≤ 9223372036854775807) : macadamref04_isMile.f ms gs n i = some (decide (0 ≤ i) && decide (i < (ms.length : Int))) := by
  unfold macadamref04_isMile.f
  rw [amid_f, show wrap64 ((ms.length : Int) - 1) = (ms.length : Int) - 1 by unfold wrap64; omega]
  simp only [Option.bind_some, within]
  congr 2
  rw [decide_eq_decide]; omega
theorem isGang_f (ms : List M) (gs : List G) (n i : Int) (hm : gs.length ≤ 9223372036854775807) : macadamref04_isGang.f ms gs n i = some (decide (0 ≤ i) && decide (i < (gs.length : Int))) := by
  unfold macadamref04_isGang.f
  rw [amid_f, show wrap64 ((gs.length : Int) - 1) = (gs.length : Int) - 1 by unfold wrap64; omega]
  simp only [Option.bind_some, within]
  congr 2
  rw [decide_eq_decide]; omega
theorem isNight_f (ms : List M) (gs : List G) (n i : Int) (hn : 1 ≤ n ∧ n ≤ 4) : macadamref04_isNight.f ms gs n i = some (decide (0 ≤ i) && decide (i < n)) := by
  unfold macadamref04_isNight.f
  rw [amid_f, show wrap64 (n - 1) = n - 1 by unfold wrap64; omega]
  simp only [Option.bind_some, within]
  congr 2
  rw [decide_eq_decide]; omega
theorem rcheck_l1 (ms : List M) (gs : List G) (n : Int) (hm : ms.length ≤ 9223372036854775807) (hg : gs.length ≤ 9223372036854775807) (d : Nat) : ∀ (k j : Nat) (b : Bool), gs.length - j = d → j ≤ gs.length → 2 * d + 2 ≤ k →
    macadamref04_Check.l1 k b j ms gs n = some (if b && (gs.drop j).all (gangB ms.length) then 0 else 40) := by
  induction d with
  | zero =>
    intro k j b hd hj hk
    obtain ⟨k, rfl⟩ : ∃ m, k = m + 2 := ⟨k - 2, by omega⟩
    obtain rfl : j = gs.length := by omega
    simp only [macadamref04_Check.l1, macadamref04_Check.j4]
    cases b <;> simp
  | succ d ih =>
    intro k j b hd hj hk
    obtain ⟨k, rfl⟩ : ∃ m, k = m + 2 := ⟨k - 2, by omega⟩
    have hlt : j < gs.length := by omega
    have hr := rd_drop_G gs j hlt
    have I := fun b => ih k (j + 1) b (by omega) (by omega) (by omega)
    simp only [macadamref04_Check.l1, macadamref04_Check.j4]
    cases b with
    | false => rw [if_neg (by simp), if_neg (by simp), if_neg (by simp)]; simp
    | true =>
      rw [if_pos rfl, if_pos (by rw [decide_eq_true_eq]; omega), if_pos (by omega), if_pos (by omega), wrap_up hlt hg, hr, isMile_f _ _ _ _ hm, isMile_f _ _ _ _ hm]
      simp only [Option.bind_some, List.all_cons, gangB, I, sane_f _ _ 3 (by omega), Bool.true_and]
      by_cases h1 : 0 ≤ (rd_T63 gs j).f0 <;> by_cases h2 : (rd_T63 gs j).f0 ≤ (rd_T63 gs j).f1 <;> by_cases h3 : (rd_T63 gs j).f1 < (ms.length : Int) <;>
        by_cases h4 : (rd_T63 gs j).f0 < (ms.length : Int) <;> by_cases h5 : 0 ≤ (rd_T63 gs j).f1 <;> first | (exfalso; omega) | simp [h1, h2, h3, h4, h5]
theorem rcheck_l0 (ms : List M) (gs : List G) (n : Int) (hm : ms.length ≤ 9223372036854775807) (hg : gs.length ≤ 9223372036854775807) (d : Nat) : ∀ (k j : Nat) (b : Bool), ms.length - j = d → j ≤ ms.length → 2 * d + 2 + 2 * gs.length + 2 ≤ k →
    macadamref04_Check.l0 k b j ms gs n = some (if b && (ms.drop j).all mileB && gs.all (gangB ms.length) then 0 else 40) := by
  induction d with
  | zero =>
    intro k j b hd hj hk
    obtain ⟨k, rfl⟩ : ∃ m, k = m + 2 := ⟨k - 2, by omega⟩
    obtain rfl : j = ms.length := by omega
    have I := rcheck_l1 ms gs n hm hg gs.length k 0 b (by omega) (by omega) (by omega)
    simp only [macadamref04_Check.l0, macadamref04_Check.j2]
    have I' : macadamref04_Check.l1 k b 0 ms gs n = some (if b && gs.all (gangB ms.length) then 0 else 40) := by simpa using I
    cases b <;> simp [I']
  | succ d ih =>
    intro k j b hd hj hk
    obtain ⟨k, rfl⟩ : ∃ m, k = m + 2 := ⟨k - 2, by omega⟩
    have hlt : j < ms.length := by omega
    have hr := rd_drop_M ms j hlt
    have I := fun b => ih k (j + 1) b (by omega) (by omega) (by omega)
    simp only [macadamref04_Check.l0, macadamref04_Check.j2]
    cases b with
    | false =>
      have I1 := rcheck_l1 ms gs n hm hg gs.length k 0 false (by omega) (by omega) (by omega)
      rw [if_neg (by simp), if_neg (by simp)]
      simpa using I1
    | true =>
      rw [if_pos rfl, if_pos (by rw [decide_eq_true_eq]; omega), if_pos (by omega), if_pos (by omega), wrap_up hlt hm, hr, sane_f _ _ 6 (by omega), amid_f]
      simp only [Option.bind_some, List.all_cons, mileB, I, Bool.true_and]
      by_cases h1 : spanB (rd_T66 ms j).f0 6 = true
      · rw [if_pos h1]; simp [h1, within]
      · rw [if_neg h1]; simp [h1]
theorem rcheck_ev (ms : List M) (gs : List G) (n : Int) (hm : ms.length ≤ 9223372036854775807) (hg : gs.length ≤ 9223372036854775807) : Ev (fun k => macadamref04_Check.f k ms gs n) (if okB ms gs n = true then 0 else 40) := by
  refine ⟨2 * ms.length + 2 * gs.length + 5, fun k hk => ?_⟩
  have J : ∀ b, macadamref04_Check.j0 k b ms gs n = some (if b && ms.all mileB && gs.all (gangB ms.length) then 0 else 40) := fun b => by
    obtain ⟨k, rfl⟩ : ∃ m, k = m + 1 := ⟨k - 1, by omega⟩
    simp only [macadamref04_Check.j0]
    refine (rcheck_l0 ms gs n hm hg ms.length k 0 b (by omega) (by omega) (by omega)).trans ?_
    simp
  show macadamref04_Check.f k ms gs n = _
  unfold macadamref04_Check.f
  rw [amid_f, amid_f, amid_f]
  simp only [Option.bind_some, J]
  have e : okB ms gs n = (within ms.length 1 4 && within gs.length 1 2 && within n 1 4 && (ms.all mileB && gs.all (gangB ms.length))) := by
    have a1 : decide ((1 : Nat) ≤ ms.length) = decide ((1 : Int) ≤ (ms.length : Int)) := by congr 1; simp; omega
    have a2 : decide (ms.length ≤ 4) = decide ((ms.length : Int) ≤ 4) := by congr 1; simp; omega
    have a3 : decide ((1 : Nat) ≤ gs.length) = decide ((1 : Int) ≤ (gs.length : Int)) := by congr 1; simp; omega
    have a4 : decide (gs.length ≤ 2) = decide ((gs.length : Int) ≤ 2) := by congr 1; simp; omega
    unfold okB within
    rw [a1, a2, a3, a4, show (fun x : M => spanB x.f0 6 && decide (0 ≤ x.f1) && decide (x.f1 ≤ 15)) = mileB from rfl, show (fun x : G => decide (0 ≤ x.f0) && decide (x.f0 ≤ x.f1) && decide (x.f1 < (ms.length : Int)) && spanB x.f2 3) = gangB ms.length from rfl]
    simp only [Bool.and_assoc]
  rw [e]
  cases within (ms.length : Int) 1 4 <;> cases within (gs.length : Int) 1 2 <;> cases within n 1 4 <;> simp
theorem rcan_f {ms : List M} {gs : List G} {n : Int} (ok : okB ms gs n = true) {x : Wk} (h0 : 0 ≤ x.f0 ∧ x.f0 < n) (h1 : 0 ≤ x.f1 ∧ x.f1 < (gs.length : Int)) (h2 : 0 ≤ x.f2 ∧ x.f2 < (ms.length : Int)) :
    macadamref04_can.f ms gs n x.f1 x.f2 x.f0 = some (canB ms gs n x) := by
  have hn := (okB_sizes ok).2.2
  have hb := (okB_mile ok _ (rd_mem h2.1 h2.2)).2
  unfold macadamref04_can.f
  rw [if_pos h1.1, if_pos h1.2, amid_f, in_f hb.1 hb.2 h0.1 (by omega)]
  simp only [Option.bind_some, if_pos h2.1, if_pos h2.2]
  unfold canB openB within
  simp only [h0.1, h0.2, h1.1, h1.2, h2.1, h2.2, decide_true, Bool.true_and, Bool.and_true]
  cases (decide ((rd_T63 gs x.f1).f0 ≤ x.f2) && decide (x.f2 ≤ (rd_T63 gs x.f1).f1)) <;> simp
theorem behind_last {ms : List M} {gs : List G} {n : Int} (hg : gs.length ≤ 2) {had : List Wk} {x y : Wk} (hp : planB ms gs n had = true) (hx : canB ms gs n x = true) (hl : had.getLast? = some y) (h : behindB y x = true) : ∀ z ∈ had, behindB z x = true := by
  intro z hz
  have hp' := (planB_iff _ _ _ _).1 hp
  obtain ⟨s, rfl⟩ := List.getLast?_eq_some_iff.1 hl
  rcases List.mem_append.1 hz with hz | hz
  · have h1 := behindB_iff.1 ((List.pairwise_append.1 hp'.2).2.2 z hz y (by simp))
    have h2 := behindB_iff.1 h
    have c1 := (canB_iff.1 (hp'.1 z (by simp [hz]))).2.2.2.1
    have c2 := (canB_iff.1 hx).2.2.2.1
    rw [behindB_iff]
    omega
  · rw [List.mem_singleton.1 hz]; exact h
theorem isPlan_l0 {ms : List M} {gs : List G} {n : Int} (ok : okB ms gs n = true) (p : List Wk) (hp : p.length ≤ 9223372036854775807) (hw : ∀ x ∈ p, -9223372036854775808 ≤ x.f0 ∧ x.f0 ≤ 9223372036854775807) (d : Nat) : ∀ (k j : Nat), p.length - j = d → j ≤ p.length → 3 * d + 1 ≤ k → planB ms gs n (p.take j) = true →
    macadamref04_isPlan.l0 k p j ms gs n = some (planFrom ms gs n (p.take j) (p.drop j)) := by
  obtain ⟨⟨hm1, hm2⟩, ⟨hg1, hg2⟩, hn1, hn2⟩ := okB_sizes ok
  induction d with
  | zero =>
    intro k j hd hj hk _
    obtain ⟨k, rfl⟩ : ∃ m, k = m + 1 := ⟨k - 1, by omega⟩
    obtain rfl : j = p.length := by omega
    simp only [macadamref04_isPlan.l0]
    rw [if_neg (by omega)]
    simp [planFrom]
  | succ d ih =>
    intro k j hd hj hk hpl
    obtain ⟨k, rfl⟩ : ∃ m, k = m + 3 := ⟨k - 3, by omega⟩
    have hlt : j < p.length := by omega
    have I := ih k (j + 1) (by omega) (by omega) (by omega)
    have hx : rd_T59 p (j : Int) = W3 p j := rfl
    rw [drop_W3 p j hlt]
    rw [take_W3 p j hlt] at I
    simp only [macadamref04_isPlan.l0]
    rw [if_pos (by omega), if_pos (by omega), isNight_f _ _ _ _ ⟨hn1, hn2⟩, isGang_f _ _ _ _ (by omega), isMile_f _ _ _ _ (by omega), hx]
    simp only [Option.bind_some]
    generalize hW : W3 p j = x at I ⊢
    have hxp : x ∈ p := by rw [← hW]; unfold W3 rd_T59; rw [List.getD_eq_getElem?_getD]; simp [List.getElem?_eq_getElem hlt]
    -- what stands behind the first questions
    have step : ∀ c : Bool, c = canB ms gs n x → macadamref04_isPlan.j1 (k + 2) p j (!c) ms gs n x.f0 x.f1 x.f2 = some (planFrom ms gs n (p.take j) (x :: p.drop (j + 1))) := by
      intro c hc
      subst hc
      simp only [macadamref04_isPlan.j1]
      cases hcan : canB ms gs n x with
      | false => simp [planFrom, hcan]
      | true =>
        rw [if_neg (by simp)]
        have hb := canB_iff.1 hcan
        have hsnoc : ∀ (hall : (p.take j).all (fun y => behindB y x) = true), planB ms gs n (p.take j ++ [x]) = true := fun hall => by
          have hp' := (planB_iff _ _ _ _).1 hpl
          rw [planB_iff, List.pairwise_append]
          refine ⟨fun z hz => ?_, hp'.2, List.pairwise_singleton _ _, fun a ha b hb' => ?_⟩
          · rcases List.mem_append.1 hz with hz | hz
            · exact hp'.1 z hz
            · rw [List.mem_singleton.1 hz]; exact hcan
          · rw [List.mem_singleton.1 hb']; exact List.all_eq_true.1 hall a ha
        by_cases hj0 : j = 0
        · subst hj0
          rw [if_pos (show ((0 : Nat) : Int) = 0 from rfl), wrap_up hlt hp]
          have hall : (p.take 0).all (fun y => behindB y x) = true := by simp
          have I' := ih (k + 1) 1 (by omega) (by omega) (by omega)
          rw [take_W3 p 0 hlt, hW] at I'
          rw [show ((0 + 1 : Nat) : Int) = ((1 : Nat) : Int) from rfl, I' (hsnoc hall)]
          simp only [planFrom, hcan, hall, Bool.true_and]
        · have hw1 : wrap64 ((j : Int) - 1) = ((j - 1 : Nat) : Int) := by unfold wrap64; omega
          have hy : rd_T59 p ((j - 1 : Nat) : Int) = W3 p (j - 1) := rfl
          rw [if_neg (by omega), hw1, if_pos (by omega), if_pos (by omega), hy]
          generalize hY : W3 p (j - 1) = y
          have hlast : (p.take j).getLast? = some y := by
            rw [show j = (j - 1) + 1 by omega, take_W3 p (j - 1) (by omega), hY]; simp
          have hcy : canB ms gs n y = true := ((planB_iff _ _ _ _).1 hpl).1 y (List.mem_of_getLast? hlast)
          have hby := canB_iff.1 hcy
          have hd' : wrap64 (x.f2 - y.f2) = x.f2 - y.f2 := by unfold wrap64; omega
          have hallY : (p.take j).all (fun y => behindB y x) = behindB y x := by
            cases hbh : behindB y x with
            | true => rw [List.all_eq_true]; exact behind_last hg2 hpl hcan hlast hbh
            | false =>
              rw [Bool.eq_false_iff]
              intro h
              have := List.all_eq_true.1 h y (List.mem_of_getLast? hlast)
              rw [hbh] at this; cases this
          have fin : macadamref04_isPlan.l0 k p ((j + 1 : Nat) : Int) ms gs n = some (planFrom ms gs n (p.take j ++ [x]) (p.drop (j + 1))) ∨ behindB y x = false := by
            cases hbh : behindB y x with
            | true => left; exact I (hsnoc (by rw [hallY, hbh]))
            | false => right; rfl
          simp only [planFrom, hcan, hallY, Bool.true_and]
          simp only [macadamref04_isPlan.j2, wrap_up hlt hp, hd', amid_f, Option.bind_some]
          have hB := @behindB_iff y x
          have hwin : within (x.f2 - y.f2) (-1) 1 = true ↔ -1 ≤ x.f2 - y.f2 ∧ x.f2 - y.f2 ≤ 1 := by simp [within]
          cases hbh : behindB y x with
          | true =>
            rw [hbh] at hB fin
            have hB' := hB.1 rfl
            have fin' := fin.resolve_right (by simp)
            by_cases h1 : x.f0 < y.f0
            · omega
            · by_cases h2 : x.f0 = y.f0
              · rw [if_neg h1, if_pos h2, if_neg (by rw [decide_eq_true_eq]; omega), if_pos h2, if_neg (fun h => by have := hwin.1 h; omega), fin', Bool.true_and]
              · rw [if_neg h1, if_neg h2, if_neg (by simp), if_neg h2, fin', Bool.true_and]
          | false =>
            rw [hbh] at hB
            have hB' := mt hB.2 (by simp)
            simp only [Bool.false_and]
            by_cases h1 : x.f0 < y.f0
            · rw [if_pos h1]; exact if_pos trivial
            · by_cases h2 : x.f0 = y.f0
              · by_cases h3 : x.f1 ≤ y.f1
                · rw [if_neg h1, if_pos h2, if_pos (by rw [decide_eq_true_eq]; exact h3)]
                · rw [if_neg h1, if_pos h2, if_neg (by rw [decide_eq_true_eq]; exact h3), if_pos h2, if_pos (hwin.2 (by omega))]
              · omega
    by_cases h0 : 0 ≤ x.f0 ∧ x.f0 < n
    · by_cases h1 : 0 ≤ x.f1 ∧ x.f1 < (gs.length : Int)
      · by_cases h2 : 0 ≤ x.f2 ∧ x.f2 < (ms.length : Int)
        · rw [if_pos (by simp [h0]), if_pos (by simp [h1]), if_pos (by simp [h2]), rcan_f ok h0 h1 h2]
          simp only [Option.bind_some]
          exact step _ rfl
        · rw [if_pos (by simp [h0]), if_pos (by simp [h1]), if_neg (by simp; omega)]
          exact step false (by rw [eq_comm, Bool.eq_false_iff]; intro h; have := canB_iff.1 h; omega)
      · rw [if_pos (by simp [h0]), if_neg (by simp; omega)]
        exact step false (by rw [eq_comm, Bool.eq_false_iff]; intro h; have := canB_iff.1 h; omega)
    · rw [if_neg (by simp; omega)]
      exact step false (by rw [eq_comm, Bool.eq_false_iff]; intro h; have := canB_iff.1 h; omega)
theorem isPlan_ev {ms : List M} {gs : List G} {n : Int} (ok : okB ms gs n = true) (p : List Wk) (hp : p.length ≤ 9223372036854775807) (hw : ∀ x ∈ p, -9223372036854775808 ≤ x.f0 ∧ x.f0 ≤ 9223372036854775807) : Ev (fun k => macadamref04_isPlan.f k ms gs n p) (planB ms gs n p) := by
  refine ⟨3 * p.length + 1, fun k hk => ?_⟩
  show macadamref04_isPlan.f k ms gs n p = _
  unfold macadamref04_isPlan.f
  have := isPlan_l0 ok p hp hw p.length k 0 (by omega) (by omega) (by omega) (by simp [planB, planFrom])
  simpa [planB] using this
end Go.Proofs.YtikfghnkbgdbgaaDoor.Q
end
section
namespace Go.Proofs.YtikfghnkbgdbgaaDoor.Q
set_option linter.unusedSimpArgs false
set_option linter.unusedVariables false
open Go.RowKit Go.Proofs.YtikfghnkbgdbgaaDoorW.PrintWords Go.Proofs.YtikfghnkbgdbgaaDoorW.PrintLast Go.Proofs.YtikfghnkbgdbgaaDoorW.PrintMore
theorem Ev.pos {α : Type} {c : Prop} [Decidable c] {f g : Nat → Option α} {r : α} (h : c) (k : Ev f r) : Ev (fun n => if c then f n else g n) r := by
  obtain ⟨K, k⟩ := k
  exact ⟨K, fun n hn => (if_pos h).trans (k n hn)⟩
theorem Ev.neg {α : Type} {c : Prop} [Decidable c] {f g : Nat → Option α} {r : α} (h : ¬ c) (k : Ev g r) : Ev (fun n => if c then f n else g n) r := by
  obtain ⟨K, k⟩ := k
  exact ⟨K, fun n hn => (if_neg h).trans (k n hn)⟩
theorem Ev.some {α : Type} {x : Option α} {r : α} (h : x = Option.some r) : Ev (fun _ => x) r := ⟨0, fun _ _ => h⟩
theorem upTo_drop {n : Int} {i : Nat} (h : (i : Int) < n) : (upTo n).drop i = (i : Int) :: (upTo n).drop (i + 1) := by
  have hl : i < (upTo n).length := by rw [upTo_length]; omega
  rw [List.drop_eq_getElem_cons hl]
  congr 1
  simp [upTo]
end Go.Proofs.YtikfghnkbgdbgaaDoor.Q
end
section
namespace Go.Proofs.YtikfghnkbgdbgaaDoor.Q
set_option linter.unusedSimpArgs false
set_option linter.unusedVariables false
open Go.RowKit Go.Proofs.YtikfghnkbgdbgaaDoorW.PrintWords Go.Proofs.YtikfghnkbgdbgaaDoorW.PrintLast Go.Proofs.YtikfghnkbgdbgaaDoorW.PrintMore
abbrev OkBook (ms : List M) (gs : List G) (n : Int) : Prop := (ms.length ≤ maxLen ∧ ∀ m ∈ ms, ((Lit.int .i64 m.f0.f0).wf = true ∧ (Lit.int .i64 m.f0.f1).wf = true) ∧ (Lit.int .i64 m.f1).wf = true) ∧
    (gs.length ≤ maxLen ∧ ∀ g ∈ gs, (Lit.int .i64 g.f0).wf = true ∧ (Lit.int .i64 g.f1).wf = true ∧ ((Lit.int .i64 g.f2.f0).wf = true ∧ (Lit.int .i64 g.f2.f1).wf = true)) ∧ (Lit.int .i64 n).wf = true
abbrev OkWorks (p : List Wk) : Prop := p.length ≤ maxLen ∧ ∀ x ∈ p, (Lit.int .i64 x.f0).wf = true ∧ (Lit.int .i64 x.f1).wf = true ∧ (Lit.int .i64 x.f2).wf = true
theorem OkWorks.nights {p : List Wk} (h : OkWorks p) : ∀ x ∈ p, -9223372036854775808 ≤ x.f0 ∧ x.f0 ≤ 9223372036854775807 := fun x hx => bounds_i64 (h.2 x hx).1
theorem like_same (l : List Int) (h : l.length ≤ 9223372036854775807) : Ev (fun k => macadamref00_Like.f k l l) true := by
  have := like_f l l h
  simpa using this
end Go.Proofs.YtikfghnkbgdbgaaDoor.Q
end
section
namespace Go.Proofs.YtikfghnkbgdbgaaDoor.Q
open Go.RowKit Go.Proofs.YtikfghnkbgdbgaaDoorW.PrintWords Go.Proofs.YtikfghnkbgdbgaaDoorW.PrintLast Go.Proofs.YtikfghnkbgdbgaaDoorW.PrintMore
attribute [local go_sem] max2_int min2_int max_two min_two max_three min_three max_four min_four   -- for this text's walks alone
set_option linter.unusedVariables false
set_option linter.unusedSimpArgs false
def macadamref00_Reach.f (a0 : Int) (a1 : Int) : Option (Int × Int) := some (a0, a1)
set_option maxHeartbeats 8000000 in
set_option maxRecDepth 100000 in
theorem macadamref00_Reach.calls (a0 : Int) (a1 : Int) (r1 : Int) (r2 : Int) (w : World) (h : macadamref00_Reach.f a0 a1 = some (r1, r2)) :
  Calls Tryd.prog 50 #[.int .i64 a0, .int .i64 a1] w fun e w' => e = .returned (.agg #[.int .i64 r1, .int .i64 r2]) ∧ Below w.heap.size w w' := by
 have hu40 := Tryd.underlying40
 have HB := Aside0.mk (Below.refl w.heap.size w)
 have H : (some (a0, a1)) = some (r1, r2) := h
 clear h
 simp only [Option.some.injEq, Prod.mk.injEq] at H
 obtain ⟨rfl, rfl⟩ := H
 go_enter Tryd.func50, Tryd.ntmps50
 go_wp2_with (first | ((with_reducible refine gate_dst (N := 4) rfl ?_); refine bx 4 #[.int .i64 0, .int .i64 0] 40 ?_; intro gb211 hg w3 hbox hb; have n0_ := Aside0.mk (below_step (bw HB) hb); have n1_ := Aside0.mk (hbox); have n2_ := Aside0.mk (bz (bw HB) hg); have n3_ := Aside0.mk (bz (bw HB) hg); clear HB; have HB := n0_; have BK211 := n1_; have GW211 := n2_; have GE211 := n3_; clear n0_ n1_ n2_ n3_; clear hb hbox hg; obtain ⟨hcz4_0, hcz4_1, hfz4_0, hfz4_1⟩ := b2 BK211))
 refine bodyPost_ret (results_cell_row rfl _ _ gb211 40 #[.int .i64 a0, .int .i64 a1] (0, 0) _ rfl (by (with_reducible repeat (first | refine blk_drewN ?_ _ | refine blk_drew ?_ | refine blk_alloc ?_ _)); refine blk_put (cs := #[.int .i64 a0, .int .i64 0]) ?_ 1 _ rfl; (with_reducible repeat (first | refine blk_drewN ?_ _ | refine blk_drew ?_ | refine blk_alloc ?_ _)); refine blk_put (cs := #[.int .i64 0, .int .i64 0]) ?_ 0 _ rfl; (with_reducible repeat (first | refine blk_drewN ?_ _ | refine blk_drew ?_ | refine blk_alloc ?_ _)); exact BK211.out) Tryd.underlying40 rfl (by kernel_rfl)) rfl ?_
 exact ⟨by first | rfl | (simp [errW_none, errW_some] <;> rfl) | (simp [*, errW_none, errW_some] <;> rfl), bw1 HB GE211⟩
def macadamref00_Just.f (a0 : Int) : Option (Int × Int) := (macadamref00_Reach.f a0 a0).bind fun bt213 => (some (bt213.1, bt213.2))
set_option maxHeartbeats 8000000 in
set_option maxRecDepth 100000 in
theorem macadamref00_Just.calls (a0 : Int) (r1 : Int) (r2 : Int) (w : World) (h : macadamref00_Just.f a0 = some (r1, r2)) :
  Calls Tryd.prog 58 #[.int .i64 a0] w fun e w' => e = .returned (.agg #[.int .i64 r1, .int .i64 r2]) ∧ Below w.heap.size w w' := by
 have hu40 := Tryd.underlying40
 have HB := Aside0.mk (Below.refl w.heap.size w)
 have H : ((macadamref00_Reach.f a0 a0).bind fun bt213 => (some (bt213.1, bt213.2))) = some (r1, r2) := h
 clear h
 replace H := Option.bind_eq_some_iff.mp H
 obtain ⟨⟨t213, t214⟩, A20, H⟩ := H
 replace H : (some (t213, t214)) = some (r1, r2) := H
 have A2 := Aside0.mk A20
 clear A20
 simp only [Option.some.injEq, Prod.mk.injEq] at H
 obtain ⟨rfl, rfl⟩ := H
 go_enter Tryd.func58, Tryd.ntmps58
 go_wp2_with (first | ((with_reducible refine gate_dst (N := 2) rfl ?_); refine bx 2 #[.int .i64 0, .int .i64 0] 40 ?_; intro gb212 hg w3 hbox hb; have n0_ := Aside0.mk (below_step (bw HB) hb); have n1_ := Aside0.mk (hbox); have n2_ := Aside0.mk (bz (bw HB) hg); have n3_ := Aside0.mk (bz (bw HB) hg); clear HB; have HB := n0_; have BK212 := n1_; have GW212 := n2_; have GE212 := n3_; clear n0_ n1_ n2_ n3_; clear hb hbox hg) | ((with_reducible refine gate_callee (f := 50) rfl ?_); refine gL (some 5) Tryd.func50 #[.int .i64 a0, .int .i64 a0] ?_; (with_reducible refine (macadamref00_Reach.calls a0 a0 t213 t214 _ A2.out).mono ?_); rintro e w4 ⟨rfl, hb⟩; refine ⟨_, rfl, ?_⟩; have n0_ := Aside0.mk (blk_below (bm BK212) hb); have n1_ := Aside0.mk (below_step (bw1 HB GE212) hb); clear BK212; clear HB; have BK212 := n0_; have HB := n1_; clear n0_ n1_; (try clear hb); (try clear hb2); (try clear hk); (try clear hi); obtain ⟨hcz5_0, hcz5_1, hfz5_0, hfz5_1⟩ := b2 BK212))
 refine bodyPost_ret (results_cell_row rfl _ _ gb212 40 #[.int .i64 t213, .int .i64 t214] (0, 0) _ rfl (by (with_reducible repeat (first | refine blk_drewN ?_ _ | refine blk_drew ?_ | refine blk_alloc ?_ _)); refine blk_put (cs := #[.int .i64 t213, .int .i64 0]) ?_ 1 _ rfl; (with_reducible repeat (first | refine blk_drewN ?_ _ | refine blk_drew ?_ | refine blk_alloc ?_ _)); refine blk_put (cs := #[.int .i64 0, .int .i64 0]) ?_ 0 _ rfl; (with_reducible repeat (first | refine blk_drewN ?_ _ | refine blk_drew ?_ | refine blk_alloc ?_ _)); exact BK212.out) Tryd.underlying40 rfl (by kernel_rfl)) rfl ?_
 exact ⟨by first | rfl | (simp [errW_none, errW_some] <;> rfl) | (simp [*, errW_none, errW_some] <;> rfl), bw1 HB GE212⟩
def macadamref00_Sum.f (a0_0 : Int) (a0_1 : Int) (a1_0 : Int) (a1_1 : Int) : Option (Int × Int) := (macadamref00_Reach.f (wrap64 (a0_0 + a1_0)) (wrap64 (a0_1 + a1_1))).bind fun bt218 => (some (bt218.1, bt218.2))
set_option maxHeartbeats 8000000 in
set_option maxRecDepth 100000 in
theorem macadamref00_Sum.calls (a0_0 : Int) (a0_1 : Int) (a1_0 : Int) (a1_1 : Int) (r1 : Int) (r2 : Int) (w : World) (h : macadamref00_Sum.f a0_0 a0_1 a1_0 a1_1 = some (r1, r2)) :
  Calls Tryd.prog 95 #[.agg #[.int .i64 a0_0, .int .i64 a0_1], .agg #[.int .i64 a1_0, .int .i64 a1_1]] w fun e w' => e = .returned (.agg #[.int .i64 r1, .int .i64 r2]) ∧ Below w.heap.size w w' := by
 have hu40 := Tryd.underlying40
 have HB := Aside0.mk (Below.refl w.heap.size w)
 have H : ((macadamref00_Reach.f (wrap64 (a0_0 + a1_0)) (wrap64 (a0_1 + a1_1))).bind fun bt218 => (some (bt218.1, bt218.2))) = some (r1, r2) := h
 clear h
 replace H := Option.bind_eq_some_iff.mp H
 obtain ⟨⟨t218, t219⟩, A30, H⟩ := H
 replace H : (some (t218, t219)) = some (r1, r2) := H
 have A3 := Aside0.mk A30
 clear A30
 simp only [Option.some.injEq, Prod.mk.injEq] at H
 obtain ⟨rfl, rfl⟩ := H
 go_enter Tryd.func95, Tryd.ntmps95
 go_wp2_with (first | ((with_reducible refine gate_dst (N := 2) rfl ?_); refine bx 2 #[.int .i64 a0_0, .int .i64 a0_1] 40 ?_; intro gb215 hg w4 hbox hb; have n0_ := Aside0.mk (below_step (bw HB) hb); have n1_ := Aside0.mk (hbox); have n2_ := Aside0.mk (bz (bw HB) hg); have n3_ := Aside0.mk (bz (bw HB) hg); clear HB; have HB := n0_; have BK215 := n1_; have GW215 := n2_; have GE215 := n3_; clear n0_ n1_ n2_ n3_; clear hb hbox hg) | ((with_reducible refine gate_dst (N := 3) rfl ?_); refine bx 3 #[.int .i64 a1_0, .int .i64 a1_1] 40 ?_; intro gb216 hg w5 hbox hb; have n0_ := Aside0.mk (blk_below (bm BK215) hb); have n1_ := Aside0.mk (below_step (bw1 HB GE215) hb); have n2_ := Aside0.mk (hbox); have n3_ := Aside0.mk (bz (bw1 HB GE215) hg); have n4_ := Aside0.mk (bz (bw1 HB GE215) hg); have n5_ := Aside0.mk (bl (bm BK215) hg); have n6_ := Aside0.mk (bg (bm BK215) hg); clear BK215; clear HB; have BK215 := n0_; have HB := n1_; have BK216 := n2_; have GW216 := n3_; have GE216 := n4_; have NB215_216 := n5_; have NB216_215 := n6_; clear n0_ n1_ n2_ n3_ n4_ n5_ n6_; clear hb hbox hg) | ((with_reducible refine gate_dst (N := 4) rfl ?_); refine bx 4 #[.int .i64 0, .int .i64 0] 40 ?_; intro gb217 hg w6 hbox hb; have n0_ := Aside0.mk (blk_below (bm BK215) hb); have n1_ := Aside0.mk (blk_below (bm BK216) hb); have n2_ := Aside0.mk (below_step (bw2 HB GE215 GE216) hb); have n3_ := Aside0.mk (hbox); have n4_ := Aside0.mk (bz (bw2 HB GE215 GE216) hg); have n5_ := Aside0.mk (bz (bw2 HB GE215 GE216) hg); have n6_ := Aside0.mk (bl (bm BK215) hg); have n7_ := Aside0.mk (bg (bm BK215) hg); have n8_ := Aside0.mk (bl (bm BK216) hg); have n9_ := Aside0.mk (bg (bm BK216) hg); clear BK215; clear BK216; clear HB; have BK215 := n0_; have BK216 := n1_; have HB := n2_; have BK217 := n3_; have GW217 := n4_; have GE217 := n5_; have NB215_217 := n6_; have NB217_215 := n7_; have NB216_217 := n8_; have NB217_216 := n9_; clear n0_ n1_ n2_ n3_ n4_ n5_ n6_ n7_ n8_ n9_; clear hb hbox hg; have hnb7 := NB215_216.out; have hnc7 := NB216_215.out; have hnb8 := NB215_217.out; have hnc8 := NB217_215.out; obtain ⟨hcz9_0, hcz9_1, hfz9_0, hfz9_1⟩ := b2 BK215; have hnb10 := NB216_217.out; have hnc10 := NB217_216.out; obtain ⟨hcz11_0, hcz11_1, hfz11_0, hfz11_1⟩ := b2 BK216) | ((with_reducible refine gate_callee (f := 50) rfl ?_); refine gL (some 15) Tryd.func50 #[.int .i64 (wrap64 (a0_0 + a1_0)), .int .i64 (wrap64 (a0_1 + a1_1))] ?_; (with_reducible refine (macadamref00_Reach.calls (wrap64 (a0_0 + a1_0)) (wrap64 (a0_1 + a1_1)) t218 t219 _ A3.out).mono ?_); rintro e w12 ⟨rfl, hb⟩; refine ⟨_, rfl, ?_⟩; have n0_ := Aside0.mk (blk_below (bm BK215) hb); have n1_ := Aside0.mk (blk_below (bm BK216) hb); have n2_ := Aside0.mk (blk_below (bm BK217) hb); have n3_ := Aside0.mk (below_step (bw3 HB GE215 GE216 GE217) hb); clear BK215; clear BK216; clear BK217; clear HB; have BK215 := n0_; have BK216 := n1_; have BK217 := n2_; have HB := n3_; clear n0_ n1_ n2_ n3_; (try clear hb); (try clear hb2); (try clear hk); (try clear hi); obtain ⟨hcz13_0, hcz13_1, hfz13_0, hfz13_1⟩ := b2 BK217))
 refine bodyPost_ret (results_cell_row rfl _ _ gb217 40 #[.int .i64 t218, .int .i64 t219] (0, 0) _ rfl (by (with_reducible repeat (first | refine blk_drewN ?_ _ | refine blk_drew ?_ | refine blk_alloc ?_ _)); refine blk_put (cs := #[.int .i64 t218, .int .i64 0]) ?_ 1 _ rfl; (with_reducible repeat (first | refine blk_drewN ?_ _ | refine blk_drew ?_ | refine blk_alloc ?_ _)); refine blk_put (cs := #[.int .i64 0, .int .i64 0]) ?_ 0 _ rfl; (with_reducible repeat (first | refine blk_drewN ?_ _ | refine blk_drew ?_ | refine blk_alloc ?_ _)); exact BK217.out) Tryd.underlying40 rfl (by kernel_rfl)) rfl ?_
 exact ⟨by first | rfl | (simp [errW_none, errW_some] <;> rfl) | (simp [*, errW_none, errW_some] <;> rfl), bw3 HB GE215 GE216 GE217⟩
def macadamref04_done.l0 : Nat → List (S59) → Int → Int → List (S66) → List (S63) → Int → Int → Int → Option (Int × Int)
 | 0, _, _, _, _, _, _, _, _ => none
 | k + 1, x1, x2, x8, x221000, x221001, x221002, x225000, x225001 => if x8 < (x1.length : Int) then (if 0 ≤ x8 then (if ((rd_T59 x1 x8).f2) = x2 then (if 0 ≤ ((rd_T59 x1 x8).f1) then (if ((rd_T59 x1 x8).f1) < (x221001.length : Int) then ((macadamref00_Sum.f x225000 x225001 ((rd_T63 x221001 ((rd_T59 x1 x8).f1)).f2.f0) ((rd_T63 x221001 ((rd_T59 x1 x8).f1)).f2.f1)).bind fun bt228 => (macadamref04_done.l0 k x1 x2 (wrap64 (x8 + 1)) x221000 x221001 x221002 bt228.1 bt228.2)) else (none)) else (none)) else (macadamref04_done.l0 k x1 x2 (wrap64 (x8 + 1)) x221000 x221001 x221002 x225000 x225001)) else (none)) else (some (x225000, x225001))
def macadamref04_done.f (k : Nat) (l0_0 : List (S66)) (l0_1 : List (S63)) (a0_2 : Int) (l1 : List (S59)) (a2 : Int) : Option (Int × Int) := (macadamref00_Just.f 0).bind fun bt222 => (macadamref04_done.l0 k l1 a2 0 l0_0 l0_1 a0_2 bt222.1 bt222.2)
def macadamref04_done.T6 : Bool × List (List Nat × List Nat) := (true, [([], []), ([], []), ([1], [1]), ([], []), ([], []), ([3, 4], [3, 4]), ([5], [5]), ([6], [6]), ([2, 7], [2, 7]), ([8], [8]), ([9], [9]), ([0, 10], [0, 10]), ([11, 11, 0, 1, 2, 3, 4, 5, 6, 7, 8, 9, 10, 11], [11])])
def macadamref04_done.B6 : List Nat := [0, 0, 2, 0, 0, 24, 56, 120, 254, 510, 1022, 2047, 4095]
theorem macadamref04_done.tab6 : rtab .any (opsOf Tryd.f76 6) = macadamref04_done.T6 := by kernel_rfl
theorem macadamref04_done.bits6 : waitsOk macadamref04_done.T6.2 macadamref04_done.B6 = true := by kernel_rfl
set_option maxHeartbeats 8000000 in
set_option maxRecDepth 100000 in
theorem macadamref04_done.calls (k : Nat) (A0_0 : Option Addr) (c0_0 : Nat) (l0_0 : List (S66)) (A0_1 : Option Addr) (c0_1 : Nat) (l0_1 : List (S63)) (a0_2 : Int) (A1 : Option Addr) (c1 : Nat) (l1 : List (S59)) (a2 : Int) (r1 : Int) (r2 : Int) (w : World) (hr0_0 : Kd.C k66 w A0_0 l0_0.length l0_0) (hc0_0 : l0_0.length ≤ c0_0) (hr0_1 : Kd.C k63 w A0_1 l0_1.length l0_1) (hc0_1 : l0_1.length ≤ c0_1) (hr1 : Kd.C k59 w A1 l1.length l1) (hc1 : l1.length ≤ c1) (h : macadamref04_done.f k l0_0 l0_1 a0_2 l1 a2 = some (r1, r2)) :
  Calls Tryd.prog 76 #[.agg #[.slice A0_0 l0_0.length c0_0, .slice A0_1 l0_1.length c0_1, .int .i64 a0_2], .slice A1 l1.length c1, .int .i64 a2] w fun e w' => e = .returned (.agg #[.int .i64 r1, .int .i64 r2]) ∧ Below w.heap.size w w' := by
 have hu25 := Tryd.underlying25
 have hu40 := Tryd.underlying40
 have HR0_0 := Aside0.mk hr0_0
 have HC0_0 := Aside0.mk hc0_0
 clear hr0_0 hc0_0
 have HR0_1 := Aside0.mk hr0_1
 have HC0_1 := Aside0.mk hc0_1
 clear hr0_1 hc0_1
 have HR1 := Aside0.mk hr1
 have HC1 := Aside0.mk hc1
 clear hr1 hc1
 have HB := Aside0.mk (Below.refl w.heap.size w)
 have H : ((macadamref00_Just.f 0).bind fun bt222 => (macadamref04_done.l0 k l1 a2 0 l0_0 l0_1 a0_2 bt222.1 bt222.2)) = some (r1, r2) := h
 clear h
 replace H := Option.bind_eq_some_iff.mp H
 obtain ⟨⟨t222, t223⟩, A40, H⟩ := H
 replace H : (macadamref04_done.l0 k l1 a2 0 l0_0 l0_1 a0_2 t222 t223) = some (r1, r2) := H
 have A4 := Aside0.mk A40
 clear A40
 have H' := Aside0.mk H
 clear H
 go_enter Tryd.func76, Tryd.ntmps76
 go_wp2_with (first | ((with_reducible refine gate_dst (N := 3) rfl ?_); refine bx 3 #[.slice A0_0 l0_0.length c0_0, .slice A0_1 l0_1.length c0_1, .int .i64 a0_2] 25 ?_; intro gb220 hg w5 hbox hb; have n0_ := Aside0.mk (below_step (bw HB) hb); have n1_ := Aside0.mk (hbox); have n2_ := Aside0.mk (bz (bw HB) hg); have n3_ := Aside0.mk (bz (bw HB) hg); clear HB; have HB := n0_; have BK220 := n1_; have GW220 := n2_; have GE220 := n3_; clear n0_ n1_ n2_ n3_; clear hb hbox hg) | ((with_reducible refine gate_dst (N := 6) rfl ?_); refine bx 6 #[.int .i64 0, .int .i64 0] 40 ?_; intro gb221 hg w6 hbox hb; have n0_ := Aside0.mk (blk_below (bm BK220) hb); have n1_ := Aside0.mk (below_step (bw1 HB GE220) hb); have n2_ := Aside0.mk (hbox); have n3_ := Aside0.mk (bz (bw1 HB GE220) hg); have n4_ := Aside0.mk (bz (bw1 HB GE220) hg); have n5_ := Aside0.mk (bl (bm BK220) hg); have n6_ := Aside0.mk (bg (bm BK220) hg); clear BK220; clear HB; have BK220 := n0_; have HB := n1_; have BK221 := n2_; have GW221 := n3_; have GE221 := n4_; have NB220_221 := n5_; have NB221_220 := n6_; clear n0_ n1_ n2_ n3_ n4_ n5_ n6_; clear hb hbox hg) | ((with_reducible refine gate_callee (f := 58) rfl ?_); refine gL (some 9) Tryd.func58 #[.int .i64 0] ?_; (with_reducible refine (macadamref00_Just.calls 0 t222 t223 _ A4.out).mono ?_); rintro e w7 ⟨rfl, hb⟩; refine ⟨_, rfl, ?_⟩; have n0_ := Aside0.mk (blk_below (bm BK220) hb); have n1_ := Aside0.mk (blk_below (bm BK221) hb); have n2_ := Aside0.mk (below_step (bw2 HB GE220 GE221) hb); clear BK220; clear BK221; clear HB; have BK220 := n0_; have BK221 := n1_; have HB := n2_; clear n0_ n1_ n2_; (try clear hb); (try clear hb2); (try clear hk); (try clear hi)) | ((with_reducible refine gate_dst (N := 7) rfl ?_); refine bx 7 #[.int .i64 0, .int .i64 0] 40 ?_; intro gb224 hg w8 hbox hb; have n0_ := Aside0.mk (blk_below (bm BK220) hb); have n1_ := Aside0.mk (blk_below (bm BK221) hb); have n2_ := Aside0.mk (below_step (bw2 HB GE220 GE221) hb); have n3_ := Aside0.mk (hbox); have n4_ := Aside0.mk (bz (bw2 HB GE220 GE221) hg); have n5_ := Aside0.mk (bz (bw2 HB GE220 GE221) hg); have n6_ := Aside0.mk (bl (bm BK220) hg); have n7_ := Aside0.mk (bg (bm BK220) hg); have n8_ := Aside0.mk (bl (bm BK221) hg); have n9_ := Aside0.mk (bg (bm BK221) hg); clear BK220; clear BK221; clear HB; have BK220 := n0_; have BK221 := n1_; have HB := n2_; have BK224 := n3_; have GW224 := n4_; have GE224 := n5_; have NB220_224 := n6_; have NB224_220 := n7_; have NB221_224 := n8_; have NB224_221 := n9_; clear n0_ n1_ n2_ n3_ n4_ n5_ n6_ n7_ n8_ n9_; clear hb hbox hg; have hnb9 := NB224_220.out; have hnc9 := NB220_224.out; have hnb10 := NB224_221.out; have hnc10 := NB221_224.out; obtain ⟨hcz11_0, hcz11_1, hfz11_0, hfz11_1⟩ := b2 BK224))
 go_loopg [8] k (fun kq v8 w' => ∃ (x8_1 : Int) (x225000_1 : Int) (x225001_1 : Int), v8 = .int .i64 x8_1 ∧ Aside0 (macadamref04_done.l0 kq l1 a2 x8_1 l0_0 l0_1 a0_2 x225000_1 x225001_1 = some (r1, r2)) ∧ Aside0 (kq ≤ k) ∧ Aside0 (w'.heap[gb220]? = some (.cells #[(.slice A0_0 l0_0.length c0_0), (.slice A0_1 l0_1.length c0_1), .int .i64 a0_2] 25 (0, 0))) ∧ Aside0 (w'.heap[gb221]? = some (.cells #[.int .i64 0, .int .i64 0] 40 (0, 0))) ∧ Aside0 (w'.heap[gb224]? = some (.cells #[.int .i64 x225000_1, .int .i64 x225001_1] 40 (0, 0))) ∧ Aside0 (Below w.heap.size w w'))
 case atStart => exact ⟨(0), (t222), (t223), (by first | rfl | (simp; done) | (simp [*]; done)), H', ⟨Nat.le_refl _⟩, ⟨by (with_reducible repeat (first | refine blk_drewN ?_ _ | refine blk_drew ?_ | refine blk_alloc ?_ _)); refine blk_far ?_ NB220_224.out _; (with_reducible repeat (first | refine blk_drewN ?_ _ | refine blk_drew ?_ | refine blk_alloc ?_ _)); refine blk_far ?_ NB220_224.out _; (with_reducible repeat (first | refine blk_drewN ?_ _ | refine blk_drew ?_ | refine blk_alloc ?_ _)); exact BK220.out⟩, ⟨by (with_reducible repeat (first | refine blk_drewN ?_ _ | refine blk_drew ?_ | refine blk_alloc ?_ _)); refine blk_far ?_ NB221_224.out _; (with_reducible repeat (first | refine blk_drewN ?_ _ | refine blk_drew ?_ | refine blk_alloc ?_ _)); refine blk_far ?_ NB221_224.out _; (with_reducible repeat (first | refine blk_drewN ?_ _ | refine blk_drew ?_ | refine blk_alloc ?_ _)); exact BK221.out⟩, ⟨by (with_reducible repeat (first | refine blk_drewN ?_ _ | refine blk_drew ?_ | refine blk_alloc ?_ _)); refine blk_put (cs := #[.int .i64 t222, .int .i64 0]) ?_ 1 _ rfl; (with_reducible repeat (first | refine blk_drewN ?_ _ | refine blk_drew ?_ | refine blk_alloc ?_ _)); refine blk_put (cs := #[.int .i64 0, .int .i64 0]) ?_ 0 _ rfl; (with_reducible repeat (first | refine blk_drewN ?_ _ | refine blk_drew ?_ | refine blk_alloc ?_ _)); exact BK224.out⟩, ⟨bw3 HB GE220 GE221 GE224⟩⟩
 case round =>
  clear H'
  try clear c1
  try clear p2
  try clear c5
  try clear c7
  try clear c9
  try clear c10
  try clear hcz11_0
  try clear hcz11_1
  try clear hfz11_0
  try clear hfz11_1
  obtain ⟨x8_1, x225000_1, x225001_1, rfl, HA, HK1, BK220, BK221, BK224, HB⟩ := hrel
  cases gk with
  | zero => exact absurd HA.out (by simp [macadamref04_done.l0])
  | succ k1 =>
   have H := HA.out
   clear HA
   simp only [macadamref04_done.l0] at H
   by_cases c12 : x8_1 < (l1.length : Int)
   ·rw [if_pos c12] at H
    have c12b0 : decide (x8_1 < (l1.length : Int)) = true := decide_eq_true c12
    clear c12
    by_cases c13 : 0 ≤ x8_1
    ·rw [if_pos c13] at H
     have c13b0 : decide (0 ≤ x8_1) = true := decide_eq_true c13
     clear c13
     by_cases c14 : ((rd_T59 l1 x8_1).f2) = a2
     ·rw [if_pos c14] at H
      have c14b0 : (((rd_T59 l1 x8_1).f2) == a2) = true := beq_iff_eq.mpr c14
      have c14b1 : (((rd_T59 l1 x8_1).f2) != a2) = false := bne_eq_false_iff_eq.mpr c14
      clear c14
      by_cases c15 : 0 ≤ ((rd_T59 l1 x8_1).f1)
      ·rw [if_pos c15] at H
       have c15b0 : decide (0 ≤ ((rd_T59 l1 x8_1).f1)) = true := decide_eq_true c15
       clear c15
       by_cases c16 : ((rd_T59 l1 x8_1).f1) < (l0_1.length : Int)
       ·rw [if_pos c16] at H
        have c16b0 : decide (((rd_T59 l1 x8_1).f1) < (l0_1.length : Int)) = true := decide_eq_true c16
        clear c16
        replace H := Option.bind_eq_some_iff.mp H
        obtain ⟨⟨t228, t229⟩, A170, H⟩ := H
        replace H : (macadamref04_done.l0 k1 l1 a2 (wrap64 (x8_1 + 1)) l0_0 l0_1 a0_2 t228 t229) = some (r1, r2) := H
        have A17 := Aside0.mk A170
        clear A170
        have H' := Aside0.mk H
        clear H
        have p225 : 0 ≤ (x8_1 : Int) := of_decide_eq_true (by first | (with_reducible assumption) | assumption)
        have q225 : x8_1 < (l1.length : Int) := of_decide_eq_true (by first | (with_reducible assumption) | assumption)
        obtain ⟨ad225, e225, hx225_0, hx225_1, hx225_2⟩ := at_T59 HR1.out x8_1 p225 q225
        cases e225
        replace hx225_0 := cB HB hx225_0
        replace hx225_1 := cB HB hx225_1
        replace hx225_2 := cB HB hx225_2
        replace p225 := eq_true p225
        replace q225 := eq_true q225
        try go_wp2
        have n0_ := Aside0.mk (blk_drew BK220.out)
        have n1_ := Aside0.mk (blk_drew BK221.out)
        have n2_ := Aside0.mk (blk_drew BK224.out)
        have n3_ := Aside0.mk (below_drew1 HB.out)
        clear BK220
        clear BK221
        clear BK224
        clear HB
        have BK220 := n0_
        have BK221 := n1_
        have BK224 := n2_
        have HB := n3_
        clear n0_ n1_ n2_ n3_
        have p226 : 0 ≤ (x8_1 : Int) := of_decide_eq_true (by first | (with_reducible assumption) | assumption)
        have q226 : x8_1 < (l1.length : Int) := of_decide_eq_true (by first | (with_reducible assumption) | assumption)
        obtain ⟨ad226, e226, hx226_0, hx226_1, hx226_2⟩ := at_T59 HR1.out x8_1 p226 q226
        have hw226_2 := hx226_2
        have hw226_1 := hx226_1
        have hw226_0 := hx226_0
        obtain rfl : ad225 = ad226 := (by injection e226)
        replace hx226_0 := cB HB hx226_0
        replace hx226_1 := cB HB hx226_1
        replace hx226_2 := cB HB hx226_2
        replace p226 := eq_true p226
        replace q226 := eq_true q226
        have p227 : 0 ≤ (((rd_T59 l1 x8_1).f1) : Int) := of_decide_eq_true (by first | (with_reducible assumption) | assumption)
        have q227 : ((rd_T59 l1 x8_1).f1) < (l0_1.length : Int) := of_decide_eq_true (by first | (with_reducible assumption) | assumption)
        obtain ⟨ad227, e227, hx227_0, hx227_1, hx227_2, hx227_3⟩ := at_T63 HR0_1.out ((rd_T59 l1 x8_1).f1) p227 q227
        have hw227_3 := hx227_3
        have hw227_2 := hx227_2
        have hw227_1 := hx227_1
        have hw227_0 := hx227_0
        cases e227
        replace hx227_0 := cB HB hx227_0
        replace hx227_1 := cB HB hx227_1
        replace hx227_2 := cB HB hx227_2
        replace hx227_3 := cB HB hx227_3
        replace p227 := eq_true p227
        replace q227 := eq_true q227
        refine start_ (n := 13) (S := fun w' => w'.cell? ⟨gb224, 0, none⟩ = some (.int .i64 x225000_1) ∧ w'.cell? ⟨gb224, 1, none⟩ = some (.int .i64 x225001_1) ∧ w'.cell? ⟨gb220, 0, none⟩ = some (.slice A0_0 l0_0.length c0_0) ∧ w'.cell? ⟨gb220, 1, none⟩ = some (.slice (some ad227) l0_1.length c0_1) ∧ w'.cell? ⟨gb220, 2, none⟩ = some (.int .i64 a0_2) ∧ w'.cell? (ad225.add ((x8_1).toNat * 3)) = some (.int .i64 ((rd_T59 l1 x8_1).f0)) ∧ w'.cell? ⟨(ad225.add ((x8_1).toNat * 3)).block, (ad225.add ((x8_1).toNat * 3)).off + 1, none⟩ = some (.int .i64 ((rd_T59 l1 x8_1).f1)) ∧ w'.cell? ⟨(ad225.add ((x8_1).toNat * 3)).block, (ad225.add ((x8_1).toNat * 3)).off + 2, none⟩ = some (.int .i64 ((rd_T59 l1 x8_1).f2)) ∧ w'.cell? (ad227.add ((((rd_T59 l1 x8_1).f1)).toNat * 4)) = some (.int .i64 ((rd_T63 l0_1 ((rd_T59 l1 x8_1).f1)).f0)) ∧ w'.cell? ⟨(ad227.add ((((rd_T59 l1 x8_1).f1)).toNat * 4)).block, (ad227.add ((((rd_T59 l1 x8_1).f1)).toNat * 4)).off + 1, none⟩ = some (.int .i64 ((rd_T63 l0_1 ((rd_T59 l1 x8_1).f1)).f1)) ∧ w'.cell? ⟨(ad227.add ((((rd_T59 l1 x8_1).f1)).toNat * 4)).block, (ad227.add ((((rd_T59 l1 x8_1).f1)).toNat * 4)).off + 2, none⟩ = some (.int .i64 ((rd_T63 l0_1 ((rd_T59 l1 x8_1).f1)).f2.f0)) ∧ w'.cell? ⟨(ad227.add ((((rd_T59 l1 x8_1).f1)).toNat * 4)).block, (ad227.add ((((rd_T59 l1 x8_1).f1)).toNat * 4)).off + 3, none⟩ = some (.int .i64 ((rd_T63 l0_1 ((rd_T59 l1 x8_1).f1)).f2.f1))) (ds := [12]) (bs 13 0) (by kernel_rfl) rfl rfl ⟨(blk_cell BK224.out 0).trans rfl, (blk_cell BK224.out 1).trans rfl, (blk_cell BK220.out 0).trans rfl, (blk_cell BK220.out 1).trans rfl, (blk_cell BK220.out 2).trans rfl, (cB HB hw226_0 :), (cB HB hw226_1 :), (cB HB hw226_2 :), (cB HB hw227_0 :), (cB HB hw227_1 :), (cB HB hw227_2 :), (cB HB hw227_3 :)⟩ (fun hHeld => ?_); refine with_tabW macadamref04_done.tab6 macadamref04_done.bits6 (fun HT_ HW_ => ?_)
        generalize wr.drew = w18 at BK220 BK221 BK224 HB hx226_0 hx226_1 hx226_2 hx227_0 hx227_1 hx227_2 hx227_3 hHeld ⊢
        refine pu HT_ 1 (some 24) (bs 13 2) ?_
        refine pu HT_ 3 (some 26) (bs 13 10) ?_
        refine pu HT_ 4 (some 27) (bs 13 26) ?_
        refine pu HT_ 5 (some 28) (bs 13 58) ?_
        refine pu HT_ 6 (some 29) (bs 13 122) ?_
        refine tk12 HT_ HW_ hHeld 0 (some 23) (bs 13 123) ?_
        refine tk12 HT_ HW_ hHeld 2 (some 25) (bs 13 127) ?_
        refine tk12 HT_ HW_ hHeld 7 (some 30) (bs 13 255) ?_
        refine pu HT_ 8 (some 31) (bs 13 511) ?_
        refine pu HT_ 9 (some 32) (bs 13 1023) ?_
        refine tk12 HT_ HW_ hHeld 10 (some 33) (bs 13 2047) ?_
        refine on HT_ 11 (some 34) (bs 13 4095) (fun K hK => ?_)
        refine goes_ Tryd.func95 (by kernel_rfl) rfl #[.agg #[.int .i64 x225000_1, .int .i64 x225001_1], .agg #[.int .i64 ((rd_T63 l0_1 ((rd_T59 l1 x8_1).f1)).f2.f0), .int .i64 ((rd_T63 l0_1 ((rd_T59 l1 x8_1).f1)).f2.f1)]] (by rfl) rfl rfl (by (try simp only [List.map_toArray, List.map_cons, List.map_nil]); first | done | rfl | (simp only [List.length_drop, List.length_take]; rfl)) ?_
        with_reducible refine (macadamref00_Sum.calls x225000_1 x225001_1 ((rd_T63 l0_1 ((rd_T59 l1 x8_1).f1)).f2.f0) ((rd_T63 l0_1 ((rd_T59 l1 x8_1).f1)).f2.f1) t228 t229 _ A17.out).mono ?_
        rintro e w19 ⟨rfl, hb⟩
        refine ⟨_, rfl, ?_⟩
        have n0_ := Aside0.mk (blk_below (bm BK220) hb)
        have n1_ := Aside0.mk (blk_below (bm BK221) hb)
        have n2_ := Aside0.mk (blk_below (bm BK224) hb)
        have n3_ := Aside0.mk (below_step (bw3 HB GE220 GE221 GE224) hb)
        clear BK220
        clear BK221
        clear BK224
        clear HB
        have BK220 := n0_
        have BK221 := n1_
        have BK224 := n2_
        have HB := n3_
        clear n0_ n1_ n2_ n3_
        (try clear hb)
        (try clear hb2)
        (try clear hk)
        (try clear hi)
        refine hK.out _ _ ⟨(blk_cell BK224.out 0).trans rfl, (blk_cell BK224.out 1).trans rfl, (blk_cell BK220.out 0).trans rfl, (blk_cell BK220.out 1).trans rfl, (blk_cell BK220.out 2).trans rfl, (cB HB hw226_0 :), (cB HB hw226_1 :), (cB HB hw226_2 :), (cB HB hw227_0 :), (cB HB hw227_1 :), (cB HB hw227_2 :), (cB HB hw227_3 :)⟩ (fun hHeld => ?_)
        clear hK K
        refine nm 34 ?_
        refine last_ (i := 12) (N := none) (bs 13 8191) rfl rfl (one_of HT_.out (by kernel_rfl)) (by decide) (fun K hK => ?_)
        have hs20 : w19.cell? ⟨gb224, 0, none⟩ = some (.int .i64 x225000_1) := (blk_cell BK224.out 0).trans rfl
        have hfs20 := blk_frozen BK224.out 0
        have hns20_0 := NB220_224.out
        have hns20_1 := NB221_224.out
        have hms20_0 := NB224_220.out
        have hms20_1 := NB224_221.out
        have hs21 : w19.cell? ⟨gb224, 1, none⟩ = some (.int .i64 x225001_1) := (blk_cell BK224.out 1).trans rfl
        have hfs21 := blk_frozen BK224.out 1
        have hns21_0 := NB220_224.out
        have hns21_1 := NB221_224.out
        have hms21_0 := NB224_220.out
        have hms21_1 := NB224_221.out
        refine skip_ (w1 := ?_) (by rfl) rfl ?_ ?_
        rotate_left
        ·go_simp
         rfl
        refine hK.out _ _ ?_
        clear hK K
        refine done_ (done_of HT_.out (by kernel_rfl)) ?_
        try go_wp2
        go_roundg k1
        case measure => have := HK1.out; omega
        case rel => exact ⟨(wrap64 (x8_1 + 1)), (t228), (t229), (by first | rfl | (simp; done) | (simp [*]; done)), H', ⟨by have := HK1.out; omega⟩, ⟨by (with_reducible repeat (first | refine blk_drewN ?_ _ | refine blk_drew ?_ | refine blk_alloc ?_ _)); refine blk_far ?_ NB220_224.out _; (with_reducible repeat (first | refine blk_drewN ?_ _ | refine blk_drew ?_ | refine blk_alloc ?_ _)); refine blk_far ?_ NB220_224.out _; (with_reducible repeat (first | refine blk_drewN ?_ _ | refine blk_drew ?_ | refine blk_alloc ?_ _)); exact BK220.out⟩, ⟨by (with_reducible repeat (first | refine blk_drewN ?_ _ | refine blk_drew ?_ | refine blk_alloc ?_ _)); refine blk_far ?_ NB221_224.out _; (with_reducible repeat (first | refine blk_drewN ?_ _ | refine blk_drew ?_ | refine blk_alloc ?_ _)); refine blk_far ?_ NB221_224.out _; (with_reducible repeat (first | refine blk_drewN ?_ _ | refine blk_drew ?_ | refine blk_alloc ?_ _)); exact BK221.out⟩, ⟨by (with_reducible repeat (first | refine blk_drewN ?_ _ | refine blk_drew ?_ | refine blk_alloc ?_ _)); refine blk_put (cs := #[.int .i64 t228, .int .i64 x225001_1]) ?_ 1 _ rfl; (with_reducible repeat (first | refine blk_drewN ?_ _ | refine blk_drew ?_ | refine blk_alloc ?_ _)); refine blk_put (cs := #[.int .i64 x225000_1, .int .i64 x225001_1]) ?_ 0 _ rfl; (with_reducible repeat (first | refine blk_drewN ?_ _ | refine blk_drew ?_ | refine blk_alloc ?_ _)); exact BK224.out⟩, ⟨bw3 HB GE220 GE221 GE224⟩⟩
       ·rw [if_neg c16] at H
        exact absurd H (by simp)
      ·rw [if_neg c15] at H
       exact absurd H (by simp)
     ·rw [if_neg c14] at H
      have c14b0 : (((rd_T59 l1 x8_1).f2) == a2) = false := beq_eq_false_iff_ne.mpr c14
      have c14b1 : (((rd_T59 l1 x8_1).f2) != a2) = true := bne_iff_ne.mpr c14
      have H' := Aside0.mk H
      clear H
      have p225 : 0 ≤ (x8_1 : Int) := of_decide_eq_true (by first | (with_reducible assumption) | assumption)
      have q225 : x8_1 < (l1.length : Int) := of_decide_eq_true (by first | (with_reducible assumption) | assumption)
      obtain ⟨ad225, e225, hx225_0, hx225_1, hx225_2⟩ := at_T59 HR1.out x8_1 p225 q225
      cases e225
      replace hx225_0 := cB HB hx225_0
      replace hx225_1 := cB HB hx225_1
      replace hx225_2 := cB HB hx225_2
      replace p225 := eq_true p225
      replace q225 := eq_true q225
      go_wp2
      go_roundg k1
      case measure => have := HK1.out; omega
      case rel => exact ⟨(wrap64 (x8_1 + 1)), (x225000_1), (x225001_1), (by first | rfl | (simp; done) | (simp [*]; done)), H', ⟨by have := HK1.out; omega⟩, ⟨bm BK220⟩, ⟨bm BK221⟩, ⟨bm BK224⟩, ⟨bw3 HB GE220 GE221 GE224⟩⟩
    ·rw [if_neg c13] at H
     exact absurd H (by simp)
   ·rw [if_neg c12] at H
    have c12b0 : decide (x8_1 < (l1.length : Int)) = false := decide_eq_false c12
    clear c12
    simp only [Option.some.injEq, Prod.mk.injEq] at H
    obtain ⟨rfl, rfl⟩ := H
    have hnb22 := NB224_220.out
    have hnc22 := NB220_224.out
    have hnb23 := NB224_221.out
    have hnc23 := NB221_224.out
    obtain ⟨hcz24_0, hcz24_1, hfz24_0, hfz24_1⟩ := b2 BK224
    have hnb25 := NB221_220.out
    have hnc25 := NB220_221.out
    obtain ⟨hcz26_0, hcz26_1, hfz26_0, hfz26_1⟩ := b2 BK221
    go_wp2
    refine bodyPost_ret (results_cell_row rfl _ _ gb221 40 #[.int .i64 x225000_1, .int .i64 x225001_1] (0, 0) _ rfl (by (with_reducible repeat (first | refine blk_drewN ?_ _ | refine blk_drew ?_ | refine blk_alloc ?_ _)); refine blk_put (cs := #[.int .i64 x225000_1, .int .i64 0]) ?_ 1 _ rfl; (with_reducible repeat (first | refine blk_drewN ?_ _ | refine blk_drew ?_ | refine blk_alloc ?_ _)); refine blk_put (cs := #[.int .i64 0, .int .i64 0]) ?_ 0 _ rfl; (with_reducible repeat (first | refine blk_drewN ?_ _ | refine blk_drew ?_ | refine blk_alloc ?_ _)); exact BK221.out) Tryd.underlying40 rfl (by kernel_rfl)) rfl ?_
    exact ⟨by first | rfl | (simp [errW_none, errW_some] <;> rfl) | (simp [*, errW_none, errW_some] <;> rfl), bw3 HB GE220 GE221 GE224⟩
end Go.Proofs.YtikfghnkbgdbgaaDoor.Q
end
section
namespace Go.Proofs.YtikfghnkbgdbgaaDoor.Q
open Go.RowKit Go.Proofs.YtikfghnkbgdbgaaDoorW.PrintWords Go.Proofs.YtikfghnkbgdbgaaDoorW.PrintLast Go.Proofs.YtikfghnkbgdbgaaDoorW.PrintMore
attribute [local go_sem] max2_int min2_int max_two min_two max_three min_three max_four min_four   -- for this text's walks alone
set_option linter.unusedVariables false
set_option linter.unusedSimpArgs false
def macadamref04_mended.l0 : Nat → List (S59) → Int → Int → List (S66) → List (S63) → Int → Option (Int)
 | 0, _, _, _, _, _, _ => none
 | k + 1, x1, x5, x6, x237000, x237001, x237002 => if x6 < (x237000.length : Int) then ((macadamref04_done.f k x237000 x237001 x237002 x1 x6).bind fun bt237 => (if 0 ≤ x6 then (if bt237.1 ≥ ((rd_T66 x237000 x6).f0.f1) then (macadamref04_mended.l0 k x1 (Go.bits .or .i64 x5 (shl .i64 1 x6)) (wrap64 (x6 + 1)) x237000 x237001 x237002) else (macadamref04_mended.l0 k x1 x5 (wrap64 (x6 + 1)) x237000 x237001 x237002)) else (none))) else (some x5)
def macadamref04_mended.f (k : Nat) (l0_0 : List (S66)) (l0_1 : List (S63)) (a0_2 : Int) (l1 : List (S59)) : Option (Int) := macadamref04_mended.l0 k l1 0 0 l0_0 l0_1 a0_2
def macadamref04_mended.T5 : Bool × List (List Nat × List Nat) := (true, [([], []), ([], []), ([], []), ([0, 1, 2], [0, 1, 2]), ([3], [3]), ([], []), ([5], [5]), ([], []), ([6, 7], [6, 7]), ([8], [8]), ([9], [9]), ([10], [10]), ([4, 11], [4, 11])])
def macadamref04_mended.B5 : List Nat := [0, 0, 0, 7, 15, 0, 32, 0, 224, 480, 992, 2016, 4095]
theorem macadamref04_mended.tab5 : rtab .any (opsOf Tryd.f78 5) = macadamref04_mended.T5 := by kernel_rfl
theorem macadamref04_mended.bits5 : waitsOk macadamref04_mended.T5.2 macadamref04_mended.B5 = true := by kernel_rfl
set_option maxHeartbeats 8000000 in
set_option maxRecDepth 100000 in
theorem macadamref04_mended.calls (k : Nat) (A0_0 : Option Addr) (c0_0 : Nat) (l0_0 : List (S66)) (A0_1 : Option Addr) (c0_1 : Nat) (l0_1 : List (S63)) (a0_2 : Int) (A1 : Option Addr) (c1 : Nat) (l1 : List (S59)) (r : Int) (w : World) (hr0_0 : Kd.C k66 w A0_0 l0_0.length l0_0) (hc0_0 : l0_0.length ≤ c0_0) (hr0_1 : Kd.C k63 w A0_1 l0_1.length l0_1) (hc0_1 : l0_1.length ≤ c0_1) (hr1 : Kd.C k59 w A1 l1.length l1) (hc1 : l1.length ≤ c1) (h : macadamref04_mended.f k l0_0 l0_1 a0_2 l1 = some r) :
  Calls Tryd.prog 78 #[.agg #[.slice A0_0 l0_0.length c0_0, .slice A0_1 l0_1.length c0_1, .int .i64 a0_2], .slice A1 l1.length c1] w fun e w' => e = .returned (.int .i64 r) ∧ Below w.heap.size w w' := by
 have hu25 := Tryd.underlying25
 have hfd40_0 : ∀ (w : World) (x0 x1 : Int), (Instr.field 40 (.agg #[.int .i64 x0, .int .i64 x1]) 0).run Tryd.prog w = .ok (.int .i64 x0) w := fun _ _ _ => by kernel_rfl
 have hu40 := Tryd.underlying40
 have HR0_0 := Aside0.mk hr0_0
 have HC0_0 := Aside0.mk hc0_0
 clear hr0_0 hc0_0
 have HR0_1 := Aside0.mk hr0_1
 have HC0_1 := Aside0.mk hc0_1
 clear hr0_1 hc0_1
 have HR1 := Aside0.mk hr1
 have HC1 := Aside0.mk hc1
 clear hr1 hc1
 have HB := Aside0.mk (Below.refl w.heap.size w)
 have H : (macadamref04_mended.l0 k l1 0 0 l0_0 l0_1 a0_2) = some r := h
 clear h
 have H' := Aside0.mk H
 clear H
 go_enter Tryd.func78, Tryd.ntmps78
 go_wp2_with (first | ((with_reducible refine gate_dst (N := 2) rfl ?_); refine bx 2 #[.slice A0_0 l0_0.length c0_0, .slice A0_1 l0_1.length c0_1, .int .i64 a0_2] 25 ?_; intro gb236 hg w3 hbox hb; have n0_ := Aside0.mk (below_step (bw HB) hb); have n1_ := Aside0.mk (hbox); have n2_ := Aside0.mk (bz (bw HB) hg); have n3_ := Aside0.mk (bz (bw HB) hg); clear HB; have HB := n0_; have BK236 := n1_; have GW236 := n2_; have GE236 := n3_; clear n0_ n1_ n2_ n3_; clear hb hbox hg))
 go_loopg [5, 6] k (fun kq v5 v6 w' => ∃ (x5_1 : Int) (x6_1 : Int), v5 = .int .i64 x5_1 ∧ v6 = .int .i64 x6_1 ∧ Aside0 (macadamref04_mended.l0 kq l1 x5_1 x6_1 l0_0 l0_1 a0_2 = some r) ∧ Aside0 (kq ≤ k) ∧ Aside0 (w'.heap[gb236]? = some (.cells #[(.slice A0_0 l0_0.length c0_0), (.slice A0_1 l0_1.length c0_1), .int .i64 a0_2] 25 (0, 0))) ∧ Aside0 (Below w.heap.size w w'))
 case atStart => exact ⟨(0), (0), (by first | rfl | (simp; done) | (simp [*]; done)), (by first | rfl | (simp; done) | (simp [*]; done)), H', ⟨Nat.le_refl _⟩, ⟨bm BK236⟩, ⟨bw1 HB GE236⟩⟩
 case round =>
  clear H'
  try clear c1
  try clear p2
  obtain ⟨x5_1, x6_1, rfl, rfl, HA, HK1, BK236, HB⟩ := hrel
  cases gk with
  | zero => exact absurd HA.out (by simp [macadamref04_mended.l0])
  | succ k1 =>
   have H := HA.out
   clear HA
   simp only [macadamref04_mended.l0] at H
   by_cases c4 : x6_1 < (l0_0.length : Int)
   ·rw [if_pos c4] at H
    have c4b0 : decide (x6_1 < (l0_0.length : Int)) = true := decide_eq_true c4
    clear c4
    replace H := Option.bind_eq_some_iff.mp H
    obtain ⟨⟨t237, t238⟩, A50, H⟩ := H
    replace H : (if 0 ≤ x6_1 then (if t237 ≥ ((rd_T66 l0_0 x6_1).f0.f1) then (macadamref04_mended.l0 k1 l1 (Go.bits .or .i64 x5_1 (shl .i64 1 x6_1)) (wrap64 (x6_1 + 1)) l0_0 l0_1 a0_2) else (macadamref04_mended.l0 k1 l1 x5_1 (wrap64 (x6_1 + 1)) l0_0 l0_1 a0_2)) else (none)) = some r := H
    have A5 := Aside0.mk A50
    clear A50
    by_cases c6 : 0 ≤ x6_1
    ·rw [if_pos c6] at H
     have c6b0 : decide (0 ≤ x6_1) = true := decide_eq_true c6
     clear c6
     by_cases c7 : t237 ≥ ((rd_T66 l0_0 x6_1).f0.f1)
     ·rw [if_pos c7] at H
      have c7b0 : decide (((rd_T66 l0_0 x6_1).f0.f1) ≤ t237) = true := decide_eq_true c7
      clear c7
      have c8b0 := eq_true (of_decide_eq_true (by first | (with_reducible assumption) | assumption) : 0 ≤ x6_1)
      obtain ⟨ji9, hji9⟩ : ∃ j_ : Int, (shl .i64 1 x6_1) = j_ := ⟨_, rfl⟩
      replace H : (macadamref04_mended.l0 k1 l1 (Go.bits .or .i64 x5_1 (ji9)) (wrap64 (x6_1 + 1)) l0_0 l0_1 a0_2) = some r := by first | (rw [hji9] at H; exact H) | (simp only [hji9] at H ⊢; exact H)
      (try rw [hji9] at A5)
      have hji9_ : (IntKind.i64.wrap (1 * 2 ^ min x6_1.toNat 64)) = ji9 := hji9
      have hji9z : x6_1 ≤ 64 → (IntKind.i64.wrap (1 * 2 ^ x6_1.toNat)) = ji9 := shl_small hji9
      have hji9u : (IntKind.i64.wrap (2 ^ min x6_1.toNat 64)) = ji9 := by have h_ := hji9_; rw [Int.one_mul] at h_; exact h_
      have hji9v : x6_1 ≤ 64 → (IntKind.i64.wrap (2 ^ x6_1.toNat)) = ji9 := fun hle_ => by have h_ := hji9z hle_; rw [Int.one_mul] at h_; exact h_
      have hji9y : (wrap64 (1 * 2 ^ min x6_1.toNat 64)) = ji9 := (i64_w _).symm.trans hji9_
      have hji9x : x6_1 ≤ 64 → (wrap64 (1 * 2 ^ x6_1.toNat)) = ji9 := fun h_ => (i64_w _).symm.trans (hji9z h_)
      have H' := Aside0.mk H
      clear H
      obtain ⟨hcz10_0, hcz10_1, hcz10_2, hfz10_0, hfz10_1, hfz10_2⟩ := b3 BK236
      try go_wp2
      have n0_ := Aside0.mk (blk_drew BK236.out)
      have n1_ := Aside0.mk (below_drew1 HB.out)
      clear BK236
      clear HB
      have BK236 := n0_
      have HB := n1_
      clear n0_ n1_
      have p239 : 0 ≤ (x6_1 : Int) := of_decide_eq_true (by first | (with_reducible assumption) | assumption)
      have q239 : x6_1 < (l0_0.length : Int) := of_decide_eq_true (by first | (with_reducible assumption) | assumption)
      obtain ⟨ad239, e239, hx239_0, hx239_1, hx239_2⟩ := at_T66 HR0_0.out x6_1 p239 q239
      have hw239_2 := hx239_2
      have hw239_1 := hx239_1
      have hw239_0 := hx239_0
      cases e239
      replace hx239_0 := cB HB hx239_0
      replace hx239_1 := cB HB hx239_1
      replace hx239_2 := cB HB hx239_2
      replace p239 := eq_true p239
      replace q239 := eq_true q239
      refine start_ (n := 13) (S := fun w' => w'.cell? ⟨gb236, 0, none⟩ = some (.slice (some ad239) l0_0.length c0_0) ∧ w'.cell? ⟨gb236, 1, none⟩ = some (.slice A0_1 l0_1.length c0_1) ∧ w'.cell? ⟨gb236, 2, none⟩ = some (.int .i64 a0_2) ∧ w'.cell? (ad239.add ((x6_1).toNat * 3)) = some (.int .i64 ((rd_T66 l0_0 x6_1).f0.f0)) ∧ w'.cell? ⟨(ad239.add ((x6_1).toNat * 3)).block, (ad239.add ((x6_1).toNat * 3)).off + 1, none⟩ = some (.int .i64 ((rd_T66 l0_0 x6_1).f0.f1)) ∧ w'.cell? ⟨(ad239.add ((x6_1).toNat * 3)).block, (ad239.add ((x6_1).toNat * 3)).off + 2, none⟩ = some (.int .i64 ((rd_T66 l0_0 x6_1).f1))) (ds := []) (bs 13 0) (by kernel_rfl) rfl rfl ⟨(blk_cell BK236.out 0).trans rfl, (blk_cell BK236.out 1).trans rfl, (blk_cell BK236.out 2).trans rfl, (cB HB hw239_0 :), (cB HB hw239_1 :), (cB HB hw239_2 :)⟩ (fun hHeld => ?_); refine with_tabW macadamref04_mended.tab5 macadamref04_mended.bits5 (fun HT_ HW_ => ?_)
      generalize wr.drew = w11 at BK236 HB hx239_0 hx239_1 hx239_2 hHeld ⊢
      refine pu HT_ 1 (some 15) (bs 13 2) ?_
      refine pu HT_ 2 (some 16) (bs 13 6) ?_
      refine pu HT_ 5 (some 19) (bs 13 38) ?_
      refine pu HT_ 7 (some 21) (bs 13 166) ?_
      refine tk6 HT_ HW_ hHeld 0 (some 14) (bs 13 167) ?_
      refine tk6 HT_ HW_ hHeld 6 (some 20) (bs 13 231) ?_
      refine pu HT_ 8 (some 22) (bs 13 487) ?_
      refine pu HT_ 9 (some 23) (bs 13 999) ?_
      refine pu HT_ 10 (some 24) (bs 13 2023) ?_
      refine tk6 HT_ HW_ hHeld 11 (some 25) (bs 13 4071) ?_
      refine on HT_ 3 (some 17) (bs 13 4079) (fun K hK => ?_)
      refine goes_ Tryd.func76 (by kernel_rfl) rfl #[.agg #[.slice (some ad239) l0_0.length c0_0, .slice A0_1 l0_1.length c0_1, .int .i64 a0_2], .slice A1 l1.length c1, .int .i64 x6_1] (by rfl) rfl rfl (by (try simp only [List.map_toArray, List.map_cons, List.map_nil]); first | done | rfl | (simp only [List.length_drop, List.length_take]; rfl)) ?_
      with_reducible refine (macadamref04_done.calls k1 _ _ l0_0 _ _ l0_1 a0_2 _ _ l1 x6_1 t237 t238 _ ?side1 ?side2 ?side3 ?side4 ?side5 ?side6 A5.out).mono ?_
      (case side1 => repeat (first | exact (Kd.C_below HR0_0.out HB.out) | (with_reducible refine Kd.C_alloc ?_ _) | (with_reducible refine Kd.C_drewN ?_ _) | (with_reducible refine Kd.C_drew ?_)))
      (case side2 => exact HC0_0.out)
      (case side3 => repeat (first | exact (Kd.C_below HR0_1.out HB.out) | (with_reducible refine Kd.C_alloc ?_ _) | (with_reducible refine Kd.C_drewN ?_ _) | (with_reducible refine Kd.C_drew ?_)))
      (case side4 => exact HC0_1.out)
      (case side5 => repeat (first | exact (Kd.C_below HR1.out HB.out) | (with_reducible refine Kd.C_alloc ?_ _) | (with_reducible refine Kd.C_drewN ?_ _) | (with_reducible refine Kd.C_drew ?_)))
      (case side6 => exact HC1.out)
      rintro e w12 ⟨rfl, hb⟩
      refine ⟨_, rfl, ?_⟩
      have n0_ := Aside0.mk (blk_below (bm BK236) hb)
      have n1_ := Aside0.mk (below_step (bw1 HB GE236) hb)
      clear BK236
      clear HB
      have BK236 := n0_
      have HB := n1_
      clear n0_ n1_
      (try clear hb)
      (try clear hb2)
      (try clear hk)
      (try clear hi)
      refine hK.out _ _ ⟨(blk_cell BK236.out 0).trans rfl, (blk_cell BK236.out 1).trans rfl, (blk_cell BK236.out 2).trans rfl, (cB HB hw239_0 :), (cB HB hw239_1 :), (cB HB hw239_2 :)⟩ (fun hHeld => ?_)
      clear hK K
      refine nm 17 ?_
      refine pu HT_ 4 (some 18) (bs 13 4095) ?_
      refine pu HT_ 12 (some 26) (bs 13 8191) ?_
      refine done_ (done_of HT_.out (by kernel_rfl)) ?_
      try go_wp2
      go_roundg k1
      case measure => have := HK1.out; omega
      case rel => exact ⟨(Go.bits .or .i64 x5_1 (ji9)), (wrap64 (x6_1 + 1)), (by first | rfl | (simp; done) | (simp only [← hji9] <;> (first | rfl | simp)) | (simp [*]; done)), (by first | rfl | (simp; done) | (simp [*]; done)), H', ⟨by have := HK1.out; omega⟩, ⟨bm BK236⟩, ⟨bw1 HB GE236⟩⟩
     ·rw [if_neg c7] at H
      have c7b0 : decide (((rd_T66 l0_0 x6_1).f0.f1) ≤ t237) = false := decide_eq_false c7
      clear c7
      have H' := Aside0.mk H
      clear H
      obtain ⟨hcz13_0, hcz13_1, hcz13_2, hfz13_0, hfz13_1, hfz13_2⟩ := b3 BK236
      try go_wp2
      have n0_ := Aside0.mk (blk_drew BK236.out)
      have n1_ := Aside0.mk (below_drew1 HB.out)
      clear BK236
      clear HB
      have BK236 := n0_
      have HB := n1_
      clear n0_ n1_
      have p239 : 0 ≤ (x6_1 : Int) := of_decide_eq_true (by first | (with_reducible assumption) | assumption)
      have q239 : x6_1 < (l0_0.length : Int) := of_decide_eq_true (by first | (with_reducible assumption) | assumption)
      obtain ⟨ad239, e239, hx239_0, hx239_1, hx239_2⟩ := at_T66 HR0_0.out x6_1 p239 q239
      have hw239_2 := hx239_2
      have hw239_1 := hx239_1
      have hw239_0 := hx239_0
      cases e239
      replace hx239_0 := cB HB hx239_0
      replace hx239_1 := cB HB hx239_1
      replace hx239_2 := cB HB hx239_2
      replace p239 := eq_true p239
      replace q239 := eq_true q239
      refine start_ (n := 13) (S := fun w' => w'.cell? ⟨gb236, 0, none⟩ = some (.slice (some ad239) l0_0.length c0_0) ∧ w'.cell? ⟨gb236, 1, none⟩ = some (.slice A0_1 l0_1.length c0_1) ∧ w'.cell? ⟨gb236, 2, none⟩ = some (.int .i64 a0_2) ∧ w'.cell? (ad239.add ((x6_1).toNat * 3)) = some (.int .i64 ((rd_T66 l0_0 x6_1).f0.f0)) ∧ w'.cell? ⟨(ad239.add ((x6_1).toNat * 3)).block, (ad239.add ((x6_1).toNat * 3)).off + 1, none⟩ = some (.int .i64 ((rd_T66 l0_0 x6_1).f0.f1)) ∧ w'.cell? ⟨(ad239.add ((x6_1).toNat * 3)).block, (ad239.add ((x6_1).toNat * 3)).off + 2, none⟩ = some (.int .i64 ((rd_T66 l0_0 x6_1).f1))) (ds := []) (bs 13 0) (by kernel_rfl) rfl rfl ⟨(blk_cell BK236.out 0).trans rfl, (blk_cell BK236.out 1).trans rfl, (blk_cell BK236.out 2).trans rfl, (cB HB hw239_0 :), (cB HB hw239_1 :), (cB HB hw239_2 :)⟩ (fun hHeld => ?_); refine with_tabW macadamref04_mended.tab5 macadamref04_mended.bits5 (fun HT_ HW_ => ?_)
      generalize wr.drew = w14 at BK236 HB hx239_0 hx239_1 hx239_2 hHeld ⊢
      refine pu HT_ 1 (some 15) (bs 13 2) ?_
      refine pu HT_ 2 (some 16) (bs 13 6) ?_
      refine pu HT_ 5 (some 19) (bs 13 38) ?_
      refine pu HT_ 7 (some 21) (bs 13 166) ?_
      refine tk6 HT_ HW_ hHeld 0 (some 14) (bs 13 167) ?_
      refine tk6 HT_ HW_ hHeld 6 (some 20) (bs 13 231) ?_
      refine pu HT_ 8 (some 22) (bs 13 487) ?_
      refine pu HT_ 9 (some 23) (bs 13 999) ?_
      refine pu HT_ 10 (some 24) (bs 13 2023) ?_
      refine tk6 HT_ HW_ hHeld 11 (some 25) (bs 13 4071) ?_
      refine on HT_ 3 (some 17) (bs 13 4079) (fun K hK => ?_)
      refine goes_ Tryd.func76 (by kernel_rfl) rfl #[.agg #[.slice (some ad239) l0_0.length c0_0, .slice A0_1 l0_1.length c0_1, .int .i64 a0_2], .slice A1 l1.length c1, .int .i64 x6_1] (by rfl) rfl rfl (by (try simp only [List.map_toArray, List.map_cons, List.map_nil]); first | done | rfl | (simp only [List.length_drop, List.length_take]; rfl)) ?_
      with_reducible refine (macadamref04_done.calls k1 _ _ l0_0 _ _ l0_1 a0_2 _ _ l1 x6_1 t237 t238 _ ?side1 ?side2 ?side3 ?side4 ?side5 ?side6 A5.out).mono ?_
      (case side1 => repeat (first | exact (Kd.C_below HR0_0.out HB.out) | (with_reducible refine Kd.C_alloc ?_ _) | (with_reducible refine Kd.C_drewN ?_ _) | (with_reducible refine Kd.C_drew ?_)))
      (case side2 => exact HC0_0.out)
      (case side3 => repeat (first | exact (Kd.C_below HR0_1.out HB.out) | (with_reducible refine Kd.C_alloc ?_ _) | (with_reducible refine Kd.C_drewN ?_ _) | (with_reducible refine Kd.C_drew ?_)))
      (case side4 => exact HC0_1.out)
      (case side5 => repeat (first | exact (Kd.C_below HR1.out HB.out) | (with_reducible refine Kd.C_alloc ?_ _) | (with_reducible refine Kd.C_drewN ?_ _) | (with_reducible refine Kd.C_drew ?_)))
      (case side6 => exact HC1.out)
      rintro e w15 ⟨rfl, hb⟩
      refine ⟨_, rfl, ?_⟩
      have n0_ := Aside0.mk (blk_below (bm BK236) hb)
      have n1_ := Aside0.mk (below_step (bw1 HB GE236) hb)
      clear BK236
      clear HB
      have BK236 := n0_
      have HB := n1_
      clear n0_ n1_
      (try clear hb)
      (try clear hb2)
      (try clear hk)
      (try clear hi)
      refine hK.out _ _ ⟨(blk_cell BK236.out 0).trans rfl, (blk_cell BK236.out 1).trans rfl, (blk_cell BK236.out 2).trans rfl, (cB HB hw239_0 :), (cB HB hw239_1 :), (cB HB hw239_2 :)⟩ (fun hHeld => ?_)
      clear hK K
      refine nm 17 ?_
      refine pu HT_ 4 (some 18) (bs 13 4095) ?_
      refine pu HT_ 12 (some 26) (bs 13 8191) ?_
      refine done_ (done_of HT_.out (by kernel_rfl)) ?_
      try go_wp2
      go_roundg k1
      case measure => have := HK1.out; omega
      case rel => exact ⟨(x5_1), (wrap64 (x6_1 + 1)), (by first | rfl | (simp; done) | (simp [*]; done)), (by first | rfl | (simp; done) | (simp [*]; done)), H', ⟨by have := HK1.out; omega⟩, ⟨bm BK236⟩, ⟨bw1 HB GE236⟩⟩
    ·rw [if_neg c6] at H
     exact absurd H (by simp)
   ·rw [if_neg c4] at H
    have c4b0 : decide (x6_1 < (l0_0.length : Int)) = false := decide_eq_false c4
    clear c4
    obtain rfl := Option.some.inj H
    obtain ⟨hcz16_0, hcz16_1, hcz16_2, hfz16_0, hfz16_1, hfz16_2⟩ := b3 BK236
    go_wp2
    go_ret
    exact ⟨by first | rfl | (simp [errW_none, errW_some] <;> rfl) | (simp [*, errW_none, errW_some] <;> rfl), bw1 HB GE236⟩
end Go.Proofs.YtikfghnkbgdbgaaDoor.Q
end
section
namespace Go.Proofs.YtikfghnkbgdbgaaDoor.Q
set_option linter.unusedSimpArgs false
set_option linter.unusedVariables false
open Go.RowKit Go.Proofs.YtikfghnkbgdbgaaDoorW.PrintWords Go.Proofs.YtikfghnkbgdbgaaDoorW.PrintLast Go.Proofs.YtikfghnkbgdbgaaDoorW.PrintMore
theorem just_f (a : Int) : macadamref00_Just.f a = some (a, a) := rfl
theorem sum_f {a b c d : Int} (h0 : 0 ≤ a ∧ a ≤ 100000000000000) (h1 : 0 ≤ b ∧ b ≤ 100000000000000) (h2 : 0 ≤ c ∧ c ≤ 100) (h3 : 0 ≤ d ∧ d ≤ 100) : macadamref00_Sum.f a b c d = some (a + c, b + d) := by
  unfold macadamref00_Sum.f
  rw [show wrap64 (a + c) = a + c by unfold wrap64; omega, show wrap64 (b + d) = b + d by unfold wrap64; omega]
  rfl
theorem W3_mem {p : List Wk} {i : Nat} (h : i < p.length) : W3 p i ∈ p := by
  unfold W3 rd_T59; rw [List.getD_eq_getElem?_getD]; simp [List.getElem?_eq_getElem h]
theorem rdone_l0 {ms : List M} {gs : List G} {n : Int} (ok : okB ms gs n = true) {p : List Wk} (hp : p.length * 24 ≤ 140737488351232) (hpl : planB ms gs n p = true) (m : Int) (d : Nat) : ∀ (k i : Nat) (lo hi : Int), p.length - i = d → i ≤ p.length → d < k → (0 ≤ lo ∧ lo ≤ 3 * i) → (0 ≤ hi ∧ hi ≤ 3 * i) →
    macadamref04_done.l0 k p m i ms gs n lo hi = some (lo + doneAt gs false m (p.drop i), hi + doneAt gs true m (p.drop i)) := by
  induction d with
  | zero =>
    intro k i lo hi hd hi' hk h0 h1
    obtain ⟨k, rfl⟩ : ∃ m, k = m + 1 := ⟨k - 1, by omega⟩
    simp only [macadamref04_done.l0]
    rw [if_neg (by omega), List.drop_of_length_le (by omega)]
    simp [doneAt]
  | succ d ih =>
    intro k i lo hi hd hi' hk h0 h1
    obtain ⟨k, rfl⟩ : ∃ m, k = m + 1 := ⟨k - 1, by omega⟩
    have hlt : i < p.length := by omega
    have hx : rd_T59 p (i : Int) = W3 p i := rfl
    have hc := (canB_iff.1 (((planB_iff _ _ _ _).1 hpl).1 _ (W3_mem hlt))).2.2.2.1
    have hg := (okB_gang ok _ (rd_memG hc.1 hc.2)).2
    simp only [macadamref04_done.l0]
    rw [if_pos (by omega), if_pos (by omega), hx, drop_W3 p i hlt, wrap_up hlt (by omega)]
    simp only [doneAt]
    by_cases hm : (W3 p i).f2 = m
    · rw [if_pos hm, if_pos hc.1, if_pos hc.2, sum_f (by omega) (by omega) (by omega) (by omega)]
      simp only [Option.bind_some, if_pos hm]
      rw [ih k (i + 1) _ _ (by omega) (by omega) (by omega) (by omega) (by omega)]
      simp only [Bool.false_eq_true, if_false, if_true]
      congr 2 <;> omega
    · rw [if_neg hm, ih k (i + 1) _ _ (by omega) (by omega) (by omega) (by omega) (by omega)]
      simp [hm]
theorem rdone_ev {ms : List M} {gs : List G} {n : Int} (ok : okB ms gs n = true) {p : List Wk} (hp : p.length * 24 ≤ 140737488351232) (hpl : planB ms gs n p = true) (m : Int) : Ev (fun k => macadamref04_done.f k ms gs n p m) (doneAt gs false m p, doneAt gs true m p) := by
  refine ⟨p.length + 1, fun k hk => ?_⟩
  show macadamref04_done.f k ms gs n p m = _
  unfold macadamref04_done.f
  rw [just_f]
  simp only [Option.bind_some]
  have := rdone_l0 ok hp hpl m p.length k 0 0 0 (by omega) (by omega) (by omega) (by omega) (by omega)
  simpa using this
theorem rmended_l0 {ms : List M} {gs : List G} {n : Int} (ok : okB ms gs n = true) {p : List Wk} (hp : p.length * 24 ≤ 140737488351232) (hpl : planB ms gs n p = true) (d : Nat) : ∀ (i : Nat) (set : Int), ms.length - i = d → i ≤ ms.length → 0 ≤ set → set ≤ 15 →
    ∃ s, (0 ≤ s ∧ s ≤ 15) ∧ (∀ j : Int, 0 ≤ j → j ≤ 3 → bitB s j = (bitB set j || (decide ((i : Int) ≤ j) && decide (j ∈ mendedL ms gs p)))) ∧ Ev (fun k => macadamref04_mended.l0 k p set i ms gs n) s := by
  obtain ⟨⟨hm1, hm2⟩, _, _⟩ := okB_sizes ok
  induction d with
  | zero =>
    intro i set hd hi h0 h1
    refine ⟨set, ⟨h0, h1⟩, fun j hj0 hj1 => ?_, Ev.step (f := fun _ => some set) (fun k => by simp only [macadamref04_mended.l0]; rw [if_neg (by omega)]) (Ev.now _)⟩
    have : ¬ ((i : Int) ≤ j ∧ j ∈ mendedL ms gs p) := fun h => by have := (mem_mendedL.1 h.2).1; omega
    rw [← Bool.decide_and, decide_eq_false this, Bool.or_false]
  | succ d ih =>
    intro i set hd hi h0 h1
    have hlt : i < ms.length := by omega
    have hmem : (i : Int) ∈ mendedL ms gs p ↔ doneAt gs false i p ≥ (rd_T66 ms i).f0.f1 := by rw [mem_mendedL]; exact ⟨fun h => h.2, fun h => ⟨by omega, h⟩⟩
    have hwr : wrap64 ((i : Int) + 1) = ((i + 1 : Nat) : Int) := by unfold wrap64; omega
    by_cases hc : doneAt gs false i p ≥ (rd_T66 ms i).f0.f1
    · obtain ⟨o0, o1, o2⟩ := or_bit h0 h1 (i := (i : Int)) (by omega) (by omega)
      obtain ⟨s, hs, hb, he⟩ := ih (i + 1) _ (by omega) (by omega) o0 o1
      refine ⟨s, hs, fun j hj0 hj1 => ?_, ?_⟩
      · rw [hb j hj0 hj1, o2 j hj0 hj1, Bool.or_assoc]
        congr 1
        by_cases hj : j = (i : Int)
        · subst hj; simp [hmem, hc]
        · rw [show decide (j = (i : Int)) = false by simp [hj], Bool.false_or]
          congr 1; rw [decide_eq_decide]; omega
      · refine Ev.step (f := fun k => (macadamref04_done.f k ms gs n p i).bind fun bt => if bt.1 ≥ (rd_T66 ms i).f0.f1 then macadamref04_mended.l0 k p (Go.bits .or .i64 set (shl .i64 1 i)) ((i + 1 : Nat) : Int) ms gs n else macadamref04_mended.l0 k p set ((i + 1 : Nat) : Int) ms gs n) (fun k => by simp only [macadamref04_mended.l0]; rw [if_pos (by omega), hwr]; simp only [show (0 : Int) ≤ (i : Int) by omega, if_true]) ?_
        exact Ev.bind (rdone_ev ok hp hpl i) (Ev.pos hc he)
    · obtain ⟨s, hs, hb, he⟩ := ih (i + 1) set (by omega) (by omega) h0 h1
      refine ⟨s, hs, fun j hj0 hj1 => ?_, ?_⟩
      · rw [hb j hj0 hj1]
        congr 1
        by_cases hj : j = (i : Int)
        · subst hj; simp [hmem, hc]
        · congr 1; rw [decide_eq_decide]; omega
      · refine Ev.step (f := fun k => (macadamref04_done.f k ms gs n p i).bind fun bt => if bt.1 ≥ (rd_T66 ms i).f0.f1 then macadamref04_mended.l0 k p (Go.bits .or .i64 set (shl .i64 1 i)) ((i + 1 : Nat) : Int) ms gs n else macadamref04_mended.l0 k p set ((i + 1 : Nat) : Int) ms gs n) (fun k => by simp only [macadamref04_mended.l0]; rw [if_pos (by omega), hwr]; simp only [show (0 : Int) ≤ (i : Int) by omega, if_true]) ?_
        exact Ev.bind (rdone_ev ok hp hpl i) (Ev.neg hc he)
theorem rmended_ev {ms : List M} {gs : List G} {n : Int} (ok : okB ms gs n = true) {p : List Wk} (hp : p.length * 24 ≤ 140737488351232) (hpl : planB ms gs n p = true) :
    ∃ s, (0 ≤ s ∧ s ≤ 15) ∧ (∀ j : Int, 0 ≤ j → j ≤ 3 → bitB s j = decide (j ∈ mendedL ms gs p)) ∧ Ev (fun k => macadamref04_mended.f k ms gs n p) s := by
  obtain ⟨s, hs, hb, he⟩ := rmended_l0 ok hp hpl ms.length 0 0 (by omega) (by omega) (by omega) (by omega)
  refine ⟨s, hs, fun j h0 h1 => ?_, he⟩
  rw [hb j h0 h1, bit0 h0 h1]
  simp [h0]
theorem upTo_four {m : Nat} (hm : m ≤ 4) (P : Int → Bool) : (upTo 4).filter (fun j => decide (j < (m : Int)) && P j) = (upTo m).filter P := by
  have : m = 0 ∨ m = 1 ∨ m = 2 ∨ m = 3 ∨ m = 4 := by omega
  rcases this with rfl | rfl | rfl | rfl | rfl <;> simp [upTo, List.range_succ, List.filter_cons]
theorem set_mended {ms : List M} {gs : List G} {n : Int} (ok : okB ms gs n = true) {p : List Wk} {s : Int} (hb : ∀ j : Int, 0 ≤ j → j ≤ 3 → bitB s j = decide (j ∈ mendedL ms gs p)) : (upTo 4).filter (fun j => bitB s j) = mendedL ms gs p := by
  obtain ⟨⟨_, hm⟩, _⟩ := okB_sizes ok
  rw [show mendedL ms gs p = (upTo ms.length).filter (fun i => decide (doneAt gs false i p ≥ (rd_T66 ms i).f0.f1)) from rfl, ← upTo_four hm]
  refine List.filter_congr fun j hj => ?_
  have hj' := mem_upTo.1 hj
  rw [hb j hj'.1 (by omega), ← Bool.decide_and, decide_eq_decide, mem_mendedL]
  exact ⟨fun h => ⟨h.1.2, h.2⟩, fun h => ⟨⟨hj'.1, h.1⟩, h.2⟩⟩
theorem rmended_len {ms : List M} {gs : List G} {p : List Wk} : (mendedL ms gs p).length ≤ ms.length := by
  unfold mendedL
  refine Nat.le_trans (List.length_filter_le _ _) ?_
  rw [upTo_length]; omega
end Go.Proofs.YtikfghnkbgdbgaaDoor.Q
end
section
namespace Go.Proofs.YtikfghnkbgdbgaaDoor.Q
set_option linter.unusedSimpArgs false
set_option linter.unusedVariables false
open Go.RowKit Go.Proofs.YtikfghnkbgdbgaaDoorW.PrintWords Go.Proofs.YtikfghnkbgdbgaaDoorW.PrintLast Go.Proofs.YtikfghnkbgdbgaaDoorW.PrintMore
theorem w12 : wrap64 (1 + 1) = 2 := by unfold wrap64; omega
end Go.Proofs.YtikfghnkbgdbgaaDoor.Q
end
section
namespace Go.Proofs.YtikfghnkbgdbgaaDoor.Q
open Go.RowKit Go.Proofs.YtikfghnkbgdbgaaDoorW.PrintWords Go.Proofs.YtikfghnkbgdbgaaDoorW.PrintLast Go.Proofs.YtikfghnkbgdbgaaDoorW.PrintMore
attribute [local go_sem] max2_int min2_int max_two min_two max_three min_three max_four min_four   -- for this text's walks alone
set_option linter.unusedVariables false
set_option linter.unusedSimpArgs false
def macadamlaw04_work.f (a0 : Int) (a1 : Int) (a2 : Int) : Option (Int × Int × Int) := some (a0, a1, a2)
set_option maxHeartbeats 8000000 in
set_option maxRecDepth 100000 in
theorem macadamlaw04_work.calls (a0 : Int) (a1 : Int) (a2 : Int) (r1 : Int) (r2 : Int) (r3 : Int) (w : World) (h : macadamlaw04_work.f a0 a1 a2 = some (r1, r2, r3)) :
  Calls Tryd.prog 44 #[.int .i64 a0, .int .i64 a1, .int .i64 a2] w fun e w' => e = .returned (.agg #[.int .i64 r1, .int .i64 r2, .int .i64 r3]) ∧ Below w.heap.size w w' := by
 have hu59 := Tryd.underlying59
 have HB := Aside0.mk (Below.refl w.heap.size w)
 have H : (some (a0, a1, a2)) = some (r1, r2, r3) := h
 clear h
 simp only [Option.some.injEq, Prod.mk.injEq] at H
 obtain ⟨rfl, rfl, rfl⟩ := H
 go_enter Tryd.func44, Tryd.ntmps44
 go_wp2_with (first | ((with_reducible refine gate_dst (N := 6) rfl ?_); refine bx 6 #[.int .i64 0, .int .i64 0, .int .i64 0] 59 ?_; intro gb405 hg w4 hbox hb; have n0_ := Aside0.mk (below_step (bw HB) hb); have n1_ := Aside0.mk (hbox); have n2_ := Aside0.mk (bz (bw HB) hg); have n3_ := Aside0.mk (bz (bw HB) hg); clear HB; have HB := n0_; have BK405 := n1_; have GW405 := n2_; have GE405 := n3_; clear n0_ n1_ n2_ n3_; clear hb hbox hg; obtain ⟨hcz5_0, hcz5_1, hcz5_2, hfz5_0, hfz5_1, hfz5_2⟩ := b3 BK405))
 refine bodyPost_ret (results_cell_row rfl _ _ gb405 59 #[.int .i64 a0, .int .i64 a1, .int .i64 a2] (0, 0) _ rfl (by (with_reducible repeat (first | refine blk_drewN ?_ _ | refine blk_drew ?_ | refine blk_alloc ?_ _)); refine blk_put (cs := #[.int .i64 a0, .int .i64 a1, .int .i64 0]) ?_ 2 _ rfl; (with_reducible repeat (first | refine blk_drewN ?_ _ | refine blk_drew ?_ | refine blk_alloc ?_ _)); refine blk_put (cs := #[.int .i64 a0, .int .i64 0, .int .i64 0]) ?_ 1 _ rfl; (with_reducible repeat (first | refine blk_drewN ?_ _ | refine blk_drew ?_ | refine blk_alloc ?_ _)); refine blk_put (cs := #[.int .i64 0, .int .i64 0, .int .i64 0]) ?_ 0 _ rfl; (with_reducible repeat (first | refine blk_drewN ?_ _ | refine blk_drew ?_ | refine blk_alloc ?_ _)); exact BK405.out) Tryd.underlying59 rfl (by kernel_rfl)) rfl ?_
 exact ⟨by first | rfl | (simp [errW_none, errW_some] <;> rfl) | (simp [*, errW_none, errW_some] <;> rfl), bw1 HB GE405⟩
end Go.Proofs.YtikfghnkbgdbgaaDoor.Q
end
section
namespace Go.Proofs.YtikfghnkbgdbgaaDoor.Q
open Go.RowKit Go.Proofs.YtikfghnkbgdbgaaDoorW.PrintWords Go.Proofs.YtikfghnkbgdbgaaDoorW.PrintLast Go.Proofs.YtikfghnkbgdbgaaDoorW.PrintMore
attribute [local go_sem] max2_int min2_int max_two min_two max_three min_three max_four min_four   -- for this text's walks alone
set_option linter.unusedVariables false
set_option linter.unusedSimpArgs false
def macadamlaw04_mended.T5 : Bool × List (List Nat × List Nat) := (true, [([], []), ([], []), ([], []), ([0, 1, 2], [0, 1, 2]), ([], []), ([4], [4]), ([], []), ([5, 6], [5, 6]), ([7], [7]), ([8], [8]), ([9], [9]), ([3, 10], [3, 10])])
def macadamlaw04_mended.B5 : List Nat := [0, 0, 0, 7, 0, 16, 0, 112, 240, 496, 1008, 2047]
theorem macadamlaw04_mended.tab5 : rtab .any (opsOf Tryd.f48 5) = macadamlaw04_mended.T5 := by kernel_rfl
theorem macadamlaw04_mended.bits5 : waitsOk macadamlaw04_mended.T5.2 macadamlaw04_mended.B5 = true := by kernel_rfl
end Go.Proofs.YtikfghnkbgdbgaaDoor.Q
end
section
namespace Go.Proofs.YtikfghnkbgdbgaaDoor.Q
set_option linter.unusedSimpArgs false
set_option linter.unusedVariables false
open Go.RowKit Go.Proofs.YtikfghnkbgdbgaaDoorW.PrintWords Go.Proofs.YtikfghnkbgdbgaaDoorW.PrintLast Go.Proofs.YtikfghnkbgdbgaaDoorW.PrintMore
theorem rise_len : ∀ {l : List Int} {a b : Int}, l.Pairwise (· < ·) → (∀ x ∈ l, a ≤ x ∧ x < b) → a ≤ b → (l.length : Int) ≤ b - a := by
  intro l
  induction l with
  | nil => intro a b _ _ h; simp; omega
  | cons x r ih =>
    intro a b hp h hab
    rw [List.pairwise_cons] at hp
    have hx := h x (by simp)
    have := ih (a := x + 1) (b := b) hp.2 (fun y hy => ⟨by have := hp.1 y hy; omega, (h y (by simp [hy])).2⟩) (by omega)
    rw [List.length_cons]
    omega
theorem plan_len {ms : List M} {gs : List G} {n : Int} (ok : okB ms gs n = true) {p : List Wk} (hp : planB ms gs n p = true) : p.length ≤ 8 := by
  obtain ⟨_, ⟨hg1, hg2⟩, hn1, hn2⟩ := okB_sizes ok
  obtain ⟨h1, h2⟩ := (planB_iff _ _ _ _).1 hp
  have hb : ∀ x ∈ p.map (fun x => x.f0 * 2 + x.f1), 0 ≤ x ∧ x < 8 := fun y hy => by
    obtain ⟨x, hx, rfl⟩ := List.mem_map.1 hy
    have := canB_iff.1 (h1 x hx)
    omega
  have hpw : (p.map (fun x => x.f0 * 2 + x.f1)).Pairwise (· < ·) := by
    rw [List.pairwise_map]
    refine List.Pairwise.imp_of_mem ?_ h2
    intro y x hy hx h
    have cy := canB_iff.1 (h1 y hy)
    have cx := canB_iff.1 (h1 x hx)
    have := behindB_iff.1 h
    omega
  have := rise_len hpw hb (by omega)
  rw [List.length_map] at this
  omega
end Go.Proofs.YtikfghnkbgdbgaaDoor.Q
end
section
namespace Go.Proofs.YtikfghnkbgdbgaaDoor.Q
open Go.RowKit Go.Proofs.YtikfghnkbgdbgaaDoorW.PrintWords Go.Proofs.YtikfghnkbgdbgaaDoorW.PrintLast Go.Proofs.YtikfghnkbgdbgaaDoorW.PrintMore
attribute [local go_sem] max2_int min2_int max_two min_two max_three min_three max_four min_four   -- for this text's walks alone
set_option linter.unusedVariables false
set_option linter.unusedSimpArgs false
theorem eqA40 (d : Nat) (w : World) (x0 y0 : Int) (x1 y1 : Int) :
  (Op.equalIn (d + 2) 40 (.agg #[.int .i64 x0, .int .i64 x1]) (.agg #[.int .i64 y0, .int .i64 y1])).run Tryd.prog w = .ok (x0 == y0 && (x1 == y1)) w := by
 refine eqA_of Tryd.underlying40 (by kernel_rfl) ?_
 refine eqf_cons (by rfl) (by go_simp; rfl) (by go_simp; rfl) (by go_simp) ?_
 exact eqf_last (by rfl) (by go_simp; rfl) (by go_simp; rfl) (by go_simp)
end Go.Proofs.YtikfghnkbgdbgaaDoor.Q
end
section
namespace Go.Proofs.YtikfghnkbgdbgaaDoor.Q
set_option linter.unusedSimpArgs false
set_option linter.unusedVariables false
open Go.RowKit Go.Proofs.YtikfghnkbgdbgaaDoorW.PrintWords Go.Proofs.YtikfghnkbgdbgaaDoorW.PrintLast Go.Proofs.YtikfghnkbgdbgaaDoorW.PrintMore
theorem okB_bounds {ms : List M} {gs : List G} {n : Int} (h : okB ms gs n = true) : (1 ≤ ms.length ∧ ms.length ≤ 4) ∧ (1 ≤ gs.length ∧ gs.length ≤ 2) ∧ (1 ≤ n ∧ n ≤ 4) := by
  simp only [okB, Bool.and_eq_true, decide_eq_true_eq] at h
  omega
theorem check_calls (ms : List M) (gs : List G) (A0 : Option Addr) (c0 : Nat) (A1 : Option Addr) (c1 : Nat) (n : Int) (r : Int) (w : World) (hr0 : Kd.C k66 w A0 ms.length ms) (hc0 : ms.length ≤ c0) (hr1 : Kd.C k63 w A1 gs.length gs) (hc1 : gs.length ≤ c1)
    (h : (if okB ms gs n = true then (0 : Int) else 40) = r) :
    Calls Tryd.prog 18 #[.agg #[.slice A0 ms.length c0, .slice A1 gs.length c1, .int .i64 n]] w fun e w' => e = .returned (.int .i64 r) ∧ Below w.heap.size w w' :=
  gang_Check.calls (ms.length + gs.length + 3) A0 c0 ms A1 c1 gs n r w hr0 hc0 hr1 hc1 (by rw [check_f ms gs n hr0.2.1 hr1.2.1, h])
set_option maxHeartbeats 4000000 in
set_option maxRecDepth 100000 in
theorem asked_bad (ms : List M) (gs : List G) (A0 : Option Addr) (c0 : Nat) (A1 : Option Addr) (c1 : Nat) (n : Int) (A2 : Option Addr) (c2 l2 : Nat) (w : World) (hr0 : Kd.C k66 w A0 ms.length ms) (hc0 : ms.length ≤ c0) (hr1 : Kd.C k63 w A1 gs.length gs) (hc1 : gs.length ≤ c1) (hok : okB ms gs n = false) :
    Calls Tryd.prog 61 #[.agg #[.slice A0 ms.length c0, .slice A1 gs.length c1, .int .i64 n], .slice A2 l2 c2] w fun e w' =>
      e = .returned (.tuple #[.agg #[.slice none 0 0, .slice none 0 0, .int .i64 0, .map none], .int .i64 40]) ∧ Below w.heap.size w w' := by
  have HR0 := Aside0.mk hr0
  have HR1 := Aside0.mk hr1
  have HO := Aside0.mk hok
  clear hr0 hr1 hok
  go_enter Tryd.func61, Tryd.ntmps61
  go_wp2_with (fail)
  have hB := ((Below.refl w.heap.size w).alloc (Nat.le_refl _) (.cells #[.slice A0 ms.length c0, .slice A1 gs.length c1, .int .i64 n] 25)).alloc (by simp) (.cells #[.slice none 0 0, .slice none 0 0, .int .i64 0, .map none] 86)
  refine (check_calls ms gs A0 c0 A1 c1 n 40 _ ?s1 hc0 ?s2 hc1 (by rw [HO.out]; rfl)).mono ?_
  case s1 => exact Kd.C_below HR0.out hB
  case s2 => exact Kd.C_below HR1.out hB
  rintro e w1 ⟨rfl, hb⟩
  have HB := Aside0.mk (below_then hB (by simp; omega) hb)
  have hg : w1.heap[w.heap.size + 1]? = some (.cells #[.slice none 0 0, .slice none 0 0, .int .i64 0, .map none] 86 (0, 0)) := (hb.block _ (by simp)).trans (by have := World.alloc_heap_new (w.alloc (.cells #[.slice A0 ms.length c0, .slice A1 gs.length c1, .int .i64 n] 25)) (.cells #[.slice none 0 0, .slice none 0 0, .int .i64 0, .map none] 86); rwa [World.size_alloc] at this)
  have HG := Aside0.mk hg
  have hs0 : w1.cell? ⟨w.heap.size + 1, 0, none⟩ = some (.slice none 0 0) := (blk_cell HG.out 0).trans rfl
  have hs1 : w1.cell? ⟨w.heap.size + 1, 1, none⟩ = some (.slice none 0 0) := (blk_cell HG.out 1).trans rfl
  have hs2 : w1.cell? ⟨w.heap.size + 1, 2, none⟩ = some (.int .i64 0) := (blk_cell HG.out 2).trans rfl
  have hs3 : w1.cell? ⟨w.heap.size + 1, 3, none⟩ = some (.map none) := (blk_cell HG.out 3).trans rfl
  have hf0 := blk_frozen HG.out 0
  have hf1 := blk_frozen HG.out 1
  have hf2 := blk_frozen HG.out 2
  have hf3 := blk_frozen HG.out 3
  clear hb hB hg
  go_wp2
  refine bodyPost_ret (v := .tuple #[.agg #[.slice none 0 0, .slice none 0 0, .int .i64 0, .map none], .int .i64 40]) (by simp [results, Tryd.results61, go_sem, hs0, hs1, hs2, hs3]) rfl ⟨rfl, ?_⟩
  exact (((HB.out.setCell (by simp) _).setCell (by simp) _).setCell (by simp) _).setCell (by simp) _
set_option maxHeartbeats 4000000 in
set_option maxRecDepth 100000 in
theorem asked_ok (ms : List M) (gs : List G) (A0 : Option Addr) (c0 : Nat) (A1 : Option Addr) (c1 : Nat) (n : Int) (A2 : Option Addr) (c2 : Nat) (p : List Wk) (w : World) (hr0 : Kd.C k66 w A0 ms.length ms) (hc0 : ms.length ≤ c0) (hr1 : Kd.C k63 w A1 gs.length gs) (hc1 : gs.length ≤ c1)
    (hr2 : Kd.C k59 w A2 p.length p) (hc2 : p.length ≤ c2) (hG : GV w) (hok : okB ms gs n = true) (q : Bool) (hq : planB ms gs n p = q) (E : Int) (hE : (if q = true then (0 : Int) else 41) = E) :
    Calls Tryd.prog 61 #[.agg #[.slice A0 ms.length c0, .slice A1 gs.length c1, .int .i64 n], .slice A2 p.length c2] w fun e w' =>
      ∃ b, e = .returned (.tuple #[.agg #[.slice A0 ms.length c0, .slice A1 gs.length c1, .int .i64 n, .map (some b)], .int .i64 E]) ∧ MapIs w' b (spotsL ms n.toNat) ∧ w.heap.size ≤ b ∧ Below w.heap.size w w' := by
  have hbd := okB_bounds hok
  have hm4 := hbd.1.2
  have hg2 := hbd.2.1.2
  have hn0 : 0 ≤ n := by omega
  have hn4 := hbd.2.2.2
  clear hbd
  have HR0 := Aside0.mk hr0
  have HR1 := Aside0.mk hr1
  have HR2 := Aside0.mk hr2
  have HG0 := Aside0.mk hG
  have HO := Aside0.mk hok
  clear hr0 hr1 hr2 hG hok
  go_enter Tryd.func61, Tryd.ntmps61
  go_wp2_with (fail)
  have hB := ((Below.refl w.heap.size w).alloc (Nat.le_refl _) (.cells #[.slice A0 ms.length c0, .slice A1 gs.length c1, .int .i64 n] 25)).alloc (by simp) (.cells #[.slice none 0 0, .slice none 0 0, .int .i64 0, .map none] 86)
  refine (check_calls ms gs A0 c0 A1 c1 n 0 _ ?s1 hc0 ?s2 hc1 (by rw [HO.out]; rfl)).mono ?_
  case s1 => exact Kd.C_below HR0.out hB
  case s2 => exact Kd.C_below HR1.out hB
  rintro e w1 ⟨rfl, hb⟩
  have HB := Aside0.mk (below_then hB (by simp; omega) hb)
  have HG := Aside0.mk ((hb.block (w.heap.size + 1) (by simp)).trans (show _ = some (Obj.cells #[.slice none 0 0, .slice none 0 0, .int .i64 0, .map none] 86 (0, 0)) by have := World.alloc_heap_new (w.alloc (.cells #[.slice A0 ms.length c0, .slice A1 gs.length c1, .int .i64 n] 25)) (.cells #[.slice none 0 0, .slice none 0 0, .int .i64 0, .map none] 86); rwa [World.size_alloc] at this))
  have hbx : w1.heap[w.heap.size]? = some (.cells #[.slice A0 ms.length c0, .slice A1 gs.length c1, .int .i64 n] 25 (0, 0)) := (hb.block _ (by simp; omega)).trans ((Below.heap_alloc _ _ _ (by simp)).trans (World.alloc_heap_new w _))
  have hs0 : w1.cell? ⟨w.heap.size, 0, none⟩ = some (.slice A0 ms.length c0) := (blk_cell hbx 0).trans rfl
  have hs1 : w1.cell? ⟨w.heap.size, 1, none⟩ = some (.slice A1 gs.length c1) := (blk_cell hbx 1).trans rfl
  have hs2 : w1.cell? ⟨w.heap.size, 2, none⟩ = some (.int .i64 n) := (blk_cell hbx 2).trans rfl
  clear hb hB hbx
  go_wp2_with (fail)
  refine (opened_calls ms gs A0 c0 A1 c1 n _ ?s3 ?s4 hm4 hn0 hn4).mono ?_
  case s3 => exact gv_below HG0.out HB.out
  case s4 => exact Kd.C_below HR0.out HB.out
  rintro e w2 ⟨b, rfl, hm, hlo, hb⟩
  have HM := Aside0.mk hm
  have HLO := Aside0.mk (Nat.le_trans HB.out.size hlo)
  have HB2 := Aside0.mk (below_then HB.out HB.out.size hb)
  have HG2 := Aside0.mk ((hb.block _ (Array.getElem?_eq_some_iff.1 HG.out).1).trans HG.out)
  clear hb hm hlo hs0 hs1 hs2 HG HB
  go_wp2_with (fail)
  have hB3 := HB2.out.alloc HB2.out.size (.cells #[.slice A0 ms.length c0, .slice A1 gs.length c1, .int .i64 n, .map (some b)] 86)
  refine (isPlan_calls ms gs A0 c0 A1 c1 n b A2 c2 p _ ?s5 ?s6 hc2 hn0 ?s7 ?s8 hg2 hm4).mono ?_
  case s5 => exact Kd.C_below HR1.out hB3
  case s6 => exact Kd.C_below HR2.out hB3
  case s7 => exact HM.out.below ((Below.refl _ w2).alloc (Nat.le_refl _) _)
  case s8 => exact gv_below HG0.out hB3
  rintro e w3 ⟨he, hb⟩
  rw [hq] at he
  subst he
  have HM3 := Aside0.mk ((HM.out.below ((Below.refl _ w2).alloc (Nat.le_refl _) _)).below hb)
  have HB3 := Aside0.mk (below_then hB3 hB3.size hb)
  have HG3 := Aside0.mk ((hb.block _ (by simp; have := (Array.getElem?_eq_some_iff.1 HG2.out).1; omega)).trans ((Below.heap_alloc _ _ _ (Array.getElem?_eq_some_iff.1 HG2.out).1).trans HG2.out))
  have hbx : w3.heap[w2.heap.size]? = some (.cells #[.slice A0 ms.length c0, .slice A1 gs.length c1, .int .i64 n, .map (some b)] 86 (0, 0)) := (hb.block _ (by simp)).trans (World.alloc_heap_new w2 _)
  have hz0 : w3.cell? ⟨w2.heap.size, 0, none⟩ = some (.slice A0 ms.length c0) := (blk_cell hbx 0).trans rfl
  have hz1 : w3.cell? ⟨w2.heap.size, 1, none⟩ = some (.slice A1 gs.length c1) := (blk_cell hbx 1).trans rfl
  have hz2 : w3.cell? ⟨w2.heap.size, 2, none⟩ = some (.int .i64 n) := (blk_cell hbx 2).trans rfl
  have hz3 : w3.cell? ⟨w2.heap.size, 3, none⟩ = some (.map (some b)) := (blk_cell hbx 3).trans rfl
  have hs0 : w3.cell? ⟨w.heap.size + 1, 0, none⟩ = some (.slice none 0 0) := (blk_cell HG3.out 0).trans rfl
  have hs1 : w3.cell? ⟨w.heap.size + 1, 1, none⟩ = some (.slice none 0 0) := (blk_cell HG3.out 1).trans rfl
  have hs2 : w3.cell? ⟨w.heap.size + 1, 2, none⟩ = some (.int .i64 0) := (blk_cell HG3.out 2).trans rfl
  have hs3 : w3.cell? ⟨w.heap.size + 1, 3, none⟩ = some (.map none) := (blk_cell HG3.out 3).trans rfl
  have hf0 := blk_frozen HG3.out 0
  have hf1 := blk_frozen HG3.out 1
  have hf2 := blk_frozen HG3.out 2
  have hf3 := blk_frozen HG3.out 3
  have HNE : Aside0 (b ≠ w.heap.size + 1) := ⟨fun e => by
    obtain ⟨es, cl, h1, _⟩ := HM3.out
    rw [e, HG3.out] at h1; cases h1⟩
  clear hb hB3 hbx
  have fin : Aside0 (∀ (W : World), W = (((w3.setCell ⟨w.heap.size + 1, 0, none⟩ (.slice A0 ms.length c0)).setCell ⟨w.heap.size + 1, 1, none⟩ (.slice A1 gs.length c1)).setCell ⟨w.heap.size + 1, 2, none⟩ (.int .i64 n)).setCell ⟨w.heap.size + 1, 3, none⟩ (.map (some b)) →
      MapIs W b (spotsL ms n.toNat) ∧ w.heap.size ≤ b ∧ Below w.heap.size w W) := ⟨fun W hW => by
    subst hW
    refine ⟨HM3.out.kept ?_, HLO.out, (((HB3.out.setCell (by simp) _).setCell (by simp) _).setCell (by simp) _).setCell (by simp) _⟩
    rw [Below.heap_setCell _ _ _ _ HNE.out, Below.heap_setCell _ _ _ _ HNE.out, Below.heap_setCell _ _ _ _ HNE.out, Below.heap_setCell _ _ _ _ HNE.out]⟩
  cases q with
  | true =>
    obtain rfl : (0 : Int) = E := by simpa using hE
    go_wp2
    refine bodyPost_ret (v := .tuple #[.agg #[.slice A0 ms.length c0, .slice A1 gs.length c1, .int .i64 n, .map (some b)], .int .i64 0]) (by simp [results, Tryd.results61, go_sem, hs0, hs1, hs2, hs3]) rfl ⟨b, rfl, fin.out _ rfl⟩
  | false =>
    obtain rfl : (41 : Int) = E := by simpa using hE
    go_wp2
    refine bodyPost_ret (v := .tuple #[.agg #[.slice A0 ms.length c0, .slice A1 gs.length c1, .int .i64 n, .map (some b)], .int .i64 41]) (by simp [results, Tryd.results61, go_sem, hs0, hs1, hs2, hs3]) rfl ⟨b, rfl, fin.out _ rfl⟩
end Go.Proofs.YtikfghnkbgdbgaaDoor.Q
end
section
namespace Go.Proofs.YtikfghnkbgdbgaaDoor.Q
set_option linter.unusedSimpArgs false
set_option linter.unusedVariables false
open Go.RowKit Go.Proofs.YtikfghnkbgdbgaaDoorW.PrintWords Go.Proofs.YtikfghnkbgdbgaaDoorW.PrintLast Go.Proofs.YtikfghnkbgdbgaaDoorW.PrintMore
theorem V_clip {α : Type} {d : Kd α} {e : Nat} {W : World} {base : Nat} {ok : Nat → Prop} {A : Option Addr} {n c : Nat} {xs : List α} (h : Kd.V d e W base ok (.slice A n c) xs) (c' : Nat) (hc : n ≤ c') : Kd.V d e W base ok (.slice A n c') xs := by
  obtain ⟨A', c1, hv, hl, hf⟩ := h
  injection hv with h1 h2 h3
  subst h1 h2
  exact ⟨A, c', rfl, hc, hf⟩
theorem R_clip {α : Type} {d : Kd α} {e : Nat} {w W : World} {A : Option Addr} {n c : Nat} {xs : List α} (h : d.R e W w.heap.size (fun _ => True) (.slice A n c) xs) : n = xs.length ∧ n ≤ c ∧ Kd.V d e W w.heap.size (fun k_ => w.heap.size ≤ k_) (.slice A n n) xs := by
  have hb := Kd.R_bound h
  have hv := Kd.Q_V (base' := w.heap.size) (Kd.Q_of_R (Kd.R_mono (ok' := fun k_ => w.heap.size ≤ k_) hb (fun k hk => hk.2.1)))
  have hr := Kd.V_reads' hv
  exact ⟨hr.1, hr.2.1, V_clip hv n (Nat.le_refl _)⟩
theorem R_ne_map {α : Type} {d : Kd α} {e base : Nat} {w : World} {ok : Nat → Prop} {v : Value} {xs : List α} {b : Nat} {l : Spots} (h : d.R e w base ok v xs) (hm : MapIs w b l) : some b ≠ v.ownBlock := by
  intro hk
  obtain ⟨_, _, ho, _⟩ := h
  obtain ⟨cells, hc⟩ := own_typed ho b hk.symm
  obtain ⟨es, cl, h1, _⟩ := hm
  rw [hc] at h1; cases h1
theorem BoxAt.grown {w wr w' : World} {A0 : Option Addr} {n0 c0 : Nat} {A1 : Option Addr} {n1 c1 : Nat} {n : Int} {b g : Nat} (h : BoxAt w wr A0 n0 c0 A1 n1 c1 n b g) {row : Option Nat} (hg : wr.grownBy w' row) (hne : some g ≠ row) (hb : Below w.heap.size w w') : BoxAt w w' A0 n0 c0 A1 n1 c1 n b g :=
  ⟨(hg.block _ (Array.getElem?_eq_some_iff.1 h.box).1 hne).trans h.box, hb⟩
theorem MapIs.grown {w w' : World} {b : Nat} {l : Spots} (h : MapIs w b l) {row : Option Nat} (hg : w.grownBy w' row) (hne : some b ≠ row) : MapIs w' b l := h.kept (hg.block _ h.lt hne)
theorem filter_snoc (f : Int → Bool) (k : Nat) : (upTo ((k + 1 : Nat) : Int)).filter f = (upTo (k : Int)).filter f ++ (if f k = true then [(k : Int)] else []) := by
  have : upTo ((k + 1 : Nat) : Int) = upTo (k : Int) ++ [(k : Int)] := by simp [upTo, List.range_succ]
  rw [this, List.filter_append]
  simp [List.filter_cons]
theorem filter_len (f : Int → Bool) (k : Nat) : ((upTo (k : Int)).filter f).length ≤ k := by
  refine Nat.le_trans (List.length_filter_le _ _) ?_
  simp [upTo]
set_option maxHeartbeats 4000000 in
set_option maxRecDepth 100000 in
theorem gang_Can.calls (A0_0 : Option Addr) (c0_0 : Nat) (l0_0 : List (M)) (A0_1 : Option Addr) (c0_1 : Nat) (l0_1 : List (G)) (a0_2 : Int) (a1 : Int) (a2 : Int) (r1 : List Int) (r2 : Int) (w : World) (hr0_0 : Kd.C k66 w A0_0 l0_0.length l0_0) (hc0_0 : l0_0.length ≤ c0_0) (hr0_1 : Kd.C k63 w A0_1 l0_1.length l0_1) (hc0_1 : l0_1.length ≤ c0_1) (hG : GV w) (h : gang_Can.f l0_0 l0_1 a0_2 a1 a2 = some (r1, r2)) :
    Calls Tryd.prog 15 #[.agg #[.slice A0_0 l0_0.length c0_0, .slice A0_1 l0_1.length c0_1, .int .i64 a0_2], .int .i64 a1, .int .i64 a2] w fun e w' => ∃ v0_ : Value, e = .returned (.tuple #[v0_, .int .i64 r2]) ∧ Kd.V (Kd.int .i64) 3 w' w.heap.size (fun k_ => (w.heap.size ≤ k_)) v0_ r1 ∧ Below w.heap.size w w' := by
  have HR0 := Aside0.mk hr0_0
  have HR1 := Aside0.mk hr0_1
  have HG0 := Aside0.mk hG
  have hl0 := hr0_0.2.1
  have hl1 := hr0_1.2.1
  have hB := (Below.refl w.heap.size w).alloc (Nat.le_refl _) (.cells #[.slice A0_0 l0_0.length c0_0, .slice A0_1 l0_1.length c0_1, .int .i64 a0_2] 25)
  have HB := Aside0.mk hB
  clear hr0_0 hr0_1 hG hB
  unfold gang_Can.f at h
  cases hok : okB l0_0 l0_1 a0_2 with
  | false =>
    have HO := Aside0.mk hok
    rw [hok, if_neg (by simp)] at h
    obtain ⟨rfl, rfl⟩ : [] = r1 ∧ 40 = r2 := by simpa using h
    clear hok h
    go_enter Tryd.func15, Tryd.ntmps15
    go_wp2_with (fail)
    refine (asked_bad l0_0 l0_1 A0_0 c0_0 A0_1 c0_1 a0_2 none 0 0 _ (Kd.C_below HR0.out HB.out) hc0_0 (Kd.C_below HR1.out HB.out) hc0_1 HO.out).mono ?_
    rintro e w1 ⟨rfl, hb⟩
    have HB1 := Aside0.mk (below_then HB.out HB.out.size hb)
    clear hb
    go_wp2
    go_ret2
    exact ⟨_, rfl, Kd.V_nil _ _ _ _ _, HB1.out.alloc HB1.out.size _⟩
  | true =>
    have HO := Aside0.mk hok
    rw [hok, if_pos rfl] at h
    clear hok
    have hbd := okB_bounds HO.out
    have hn0 : 0 ≤ a0_2 := by omega
    have hn4 : a0_2 ≤ 4 := by omega
    have hm4 := hbd.1.2
    have hg2 := hbd.2.1.2
    have hg1 := hbd.2.1.1
    have hm1 := hbd.1.1
    clear hbd
    have H := Aside0.mk h
    clear h
    go_enter Tryd.func15, Tryd.ntmps15
    go_wp2_with (fail)
    refine (asked_ok l0_0 l0_1 A0_0 c0_0 A0_1 c0_1 a0_2 none 0 [] _ (Kd.C_below HR0.out HB.out) hc0_0 (Kd.C_below HR1.out HB.out) hc0_1 ⟨rfl, by simp, fun h => by simp at h⟩ (Nat.le_refl _) (gv_below HG0.out HB.out) HO.out true rfl 0 rfl).mono ?_
    rintro e w1 ⟨b, rfl, hm, hlo, hb⟩
    have HM := Aside0.mk hm
    have hbx := (hb.block w.heap.size (by simp)).trans (World.alloc_heap_new w _)
    have HX := Aside0.mk hbx
    have HB1 := Aside0.mk (below_then HB.out HB.out.size hb)
    have hs0 : w1.cell? ⟨w.heap.size, 0, none⟩ = some (.slice A0_0 l0_0.length c0_0) := (blk_cell HX.out 0).trans rfl
    have hs1 : w1.cell? ⟨w.heap.size, 1, none⟩ = some (.slice A0_1 l0_1.length c0_1) := (blk_cell HX.out 1).trans rfl
    have hs2 : w1.cell? ⟨w.heap.size, 2, none⟩ = some (.int .i64 a0_2) := (blk_cell HX.out 2).trans rfl
    have hsl := (Array.getElem?_eq_some_iff.1 HX.out).1
    clear hb hm hlo hbx
    go_wp2_with (fail)
    cases hw1 : within a1 0 ((l0_1.length : Int) - 1) with
    | false =>
      have HW1 := Aside0.mk hw1
      have h41 : some (([] : List Int), (41 : Int)) = some (r1, r2) := by rw [← H.out, if_neg (by rw [HW1.out]; simp)]
      obtain ⟨rfl, rfl⟩ : [] = r1 ∧ 41 = r2 := by simpa using h41
      clear hw1 h41 H
      refine (within_calls _ _ _ false HW1.out _).mono ?_
      rintro e w2 ⟨rfl, hb⟩
      have HB2 := Aside0.mk (below_then (HB1.out.alloc HB1.out.size _) (by simp; have := HB1.out.size; omega) hb)
      clear hb hs0 hs1 hs2 hsl
      go_wp2
      go_ret2
      exact ⟨_, rfl, Kd.V_nil _ _ _ _ _, HB2.out⟩
    | true =>
      have HW1 := Aside0.mk hw1
      clear hw1
      refine (within_calls _ _ _ true HW1.out _).mono ?_
      rintro e w2 ⟨rfl, hb⟩
      have HB2 := Aside0.mk (below_then (HB1.out.alloc HB1.out.size _) (by simp; have := HB1.out.size; omega) hb)
      have HX2 := Aside0.mk ((hb.block w.heap.size (by simp; omega)).trans ((Below.heap_alloc _ _ _ hsl).trans HX.out))
      have HY2 := Aside0.mk ((hb.block w1.heap.size (by simp)).trans (World.alloc_heap_new w1 _))
      have HM2 := Aside0.mk ((HM.out.below ((Below.refl _ w1).alloc (Nat.le_refl _) _)).below hb)
      have hz0 : w2.cell? ⟨w.heap.size, 0, none⟩ = some (.slice A0_0 l0_0.length c0_0) := (blk_cell HX2.out 0).trans rfl
      have hz1 : w2.cell? ⟨w.heap.size, 1, none⟩ = some (.slice A0_1 l0_1.length c0_1) := (blk_cell HX2.out 1).trans rfl
      have hz2 : w2.cell? ⟨w.heap.size, 2, none⟩ = some (.int .i64 a0_2) := (blk_cell HX2.out 2).trans rfl
      clear hb hs0 hs1 hs2 hsl HM HB1 HX
      go_wp2_with (fail)
      cases hw2 : within a2 0 ((l0_0.length : Int) - 1) with
      | false =>
        have HW2 := Aside0.mk hw2
        have h41 : some (([] : List Int), (41 : Int)) = some (r1, r2) := by rw [← H.out, if_neg (by rw [HW2.out]; simp)]
        obtain ⟨rfl, rfl⟩ : [] = r1 ∧ 41 = r2 := by simpa using h41
        clear hw2 h41 H
        refine (within_calls _ _ _ false HW2.out _).mono ?_
        rintro e w3 ⟨rfl, hb⟩
        have HB3 := Aside0.mk (below_then HB2.out HB2.out.size hb)
        clear hb hz0 hz1 hz2
        go_wp2
        go_ret2
        exact ⟨_, rfl, Kd.V_nil _ _ _ _ _, HB3.out⟩
      | true =>
        have HW2 := Aside0.mk hw2
        have hr : some ((upTo a0_2).filter (fun i => canB l0_0 l0_1 a0_2 ⟨i, a1, a2⟩), (0 : Int)) = some (r1, r2) := by rw [← H.out, if_pos ⟨HW1.out, HW2.out⟩]
        obtain ⟨rfl, rfl⟩ : (upTo a0_2).filter (fun i => canB l0_0 l0_1 a0_2 ⟨i, a1, a2⟩) = r1 ∧ 0 = r2 := by simpa using hr
        clear hw2 hr H
        refine (within_calls _ _ _ true HW2.out _).mono ?_
        rintro e w3 ⟨rfl, hb⟩
        have HB3 := Aside0.mk (below_then HB2.out HB2.out.size hb)
        have HX3 := Aside0.mk ((hb.block w.heap.size (Array.getElem?_eq_some_iff.1 HX2.out).1).trans HX2.out)
        have HY3 := Aside0.mk (BoxAt.mk ((hb.block w1.heap.size (Array.getElem?_eq_some_iff.1 HY2.out).1).trans HY2.out) HB3.out)
        have HM3 := Aside0.mk (HM2.out.below hb)
        clear hz0 hz1 hz2
        have hz2 : w3.cell? ⟨w.heap.size, 2, none⟩ = some (.int .i64 a0_2) := (blk_cell HX3.out 2).trans rfl
        clear hb HM2 HY2 HX2 HB2
        obtain ⟨N, rfl⟩ := Int.eq_ofNat_of_zero_le hn0
        go_wp2
        clear hz2 HX3
        go_loopw [10, 38] (fun v10 v38 wr => ∃ k : Nat, k ≤ N ∧ v38 = .int .i64 k ∧ Aside0 (Kd.R (Kd.int .i64) 3 wr w.heap.size (fun _ => True) v10 ((upTo k).filter (fun i => canB l0_0 l0_1 N ⟨i, a1, a2⟩))) ∧
          Aside0 (MapIs wr b (spotsL l0_0 ((N : Int)).toNat)) ∧ Aside0 (BoxAt w wr A0_0 l0_0.length c0_0 A0_1 l0_1.length c0_1 N b w1.heap.size)) (fun _ v38 _ => N - (intOf v38).toNat)
        case atStart => exact ⟨0, Nat.zero_le _, rfl, ⟨Kd.R_nil _ _ _ _ _⟩, HM3, HY3⟩
        case round =>
          obtain ⟨k, hk, rfl, HR, HMr, HY⟩ := hrel
          by_cases hlt : k < N
          · have hy0 : wr.cell? ⟨w1.heap.size, 0, none⟩ = some (.slice A0_0 l0_0.length c0_0) := (blk_cell HY.out.box 0).trans rfl
            have hy1 : wr.cell? ⟨w1.heap.size, 1, none⟩ = some (.slice A0_1 l0_1.length c0_1) := (blk_cell HY.out.box 1).trans rfl
            have hy2 : wr.cell? ⟨w1.heap.size, 2, none⟩ = some (.int .i64 N) := (blk_cell HY.out.box 2).trans rfl
            have hy3 : wr.cell? ⟨w1.heap.size, 3, none⟩ = some (.map (some b)) := (blk_cell HY.out.box 3).trans rfl
            go_wp2_with (fail)
            refine (can_calls l0_0 l0_1 A0_0 c0_0 A0_1 c0_1 N b _ _ _ _ ?s1 hn0 ?s2 ?s3 hg2).mono ?_
            case s1 => exact Kd.C_below HR1.out HY.out.bel
            case s2 => exact HMr.out
            case s3 => exact gv_below HG0.out HY.out.bel
            rintro e w4 ⟨he, hb⟩
            have HY4 := Aside0.mk (HY.out.step hb)
            have HM4 := Aside0.mk (HMr.out.below hb)
            have HR4 := Aside0.mk (Kd.R_below HR.out hb)
            clear hb hy0 hy1 hy2 hy3
            have HF := Aside0.mk (filter_snoc (fun i => canB l0_0 l0_1 N ⟨i, a1, a2⟩) k)
            have hlen := filter_len (fun i => canB l0_0 l0_1 N ⟨i, a1, a2⟩) k
            cases hc : canB l0_0 l0_1 N ⟨(k : Int), a1, a2⟩ with
            | false =>
              rw [hc] at he
              subst he
              have HC := Aside0.mk hc
              clear hc hlen
              go_wp2
              go_roundw
              case rel => exact ⟨k + 1, by omega, by go_num, ⟨by rw [HF.out, if_neg (by rw [HC.out]; simp), List.append_nil]; exact HR4.out⟩, HM4, HY4⟩
              case measure => simp [intOf]; omega
            | true =>
              rw [hc] at he
              subst he
              have HC := Aside0.mk hc
              clear hc
              go_wp2_with (first | (at_builtin; refine Kd.R_append (Kd.int .i64) (w0 := w) w.heap.size rfl (.tmp 47) (.tmp 49) 28 3 (.int .i64 0) 8 rfl Tryd.underlying28 info3 rfl (by decide) (by omega) u10 ((upTo k).filter (fun i => canB l0_0 l0_1 N ⟨i, a1, a2⟩)) (k : Int) [.int .i64 k] (fun _ => True) (fun _ => False) rfl rfl ?aP (fun _ hk => hk.elim) ?aF ?aO ?aB ?aS ?aL ?_))
              case aP => exact rfl
              case aF => exact fun _ _ => trivial
              case aO => exact HR4.out
              case aB => exact HY4.out.bel
              case aS => exact HY4.out.bel.size
              case aL => omega
              intro v1 w5 ho hb hg hat
              have HM5 := Aside0.mk (HM4.out.grown hg (R_ne_map HR4.out HM4.out))
              have HY5 := Aside0.mk (HY4.out.grown hg (Kd.R_ne HR4.out HY4.out.box (by decide)) hb)
              have HR5 := Aside0.mk ho
              clear hlen hb hg hat ho
              go_wp2
              go_roundw
              case rel => exact ⟨k + 1, by omega, by go_num, ⟨by rw [HF.out, if_pos HC.out]; exact HR5.out⟩, HM5, HY5⟩
              case measure => simp [intOf]; omega
          · obtain rfl : k = N := by omega
            obtain ⟨A, c, hv⟩ := Kd.R_slice HR.out
            subst hv
            have hcl := R_clip HR.out
            have hcl1 := hcl.2.1
            have HCL := Aside0.mk hcl
            clear hcl
            go_wp2
            go_ret2
            exact ⟨_, rfl, HCL.out.2.2, HY.out.bel⟩
end Go.Proofs.YtikfghnkbgdbgaaDoor.Q
end
section
namespace Go.Proofs.YtikfghnkbgdbgaaDoor.Q
set_option linter.unusedSimpArgs false
set_option linter.unusedVariables false
open Go.RowKit Go.Proofs.YtikfghnkbgdbgaaDoorW.PrintWords Go.Proofs.YtikfghnkbgdbgaaDoorW.PrintLast Go.Proofs.YtikfghnkbgdbgaaDoorW.PrintMore
set_option maxHeartbeats 4000000 in
set_option maxRecDepth 100000 in
theorem gang_May.calls (A0_0 : Option Addr) (c0_0 : Nat) (l0_0 : List (M)) (A0_1 : Option Addr) (c0_1 : Nat) (l0_1 : List (G)) (a0_2 : Int) (A1 : Option Addr) (c1 : Nat) (l1 : List (Wk)) (r1 : Bool) (r2 : Int) (w : World) (hr0_0 : Kd.C k66 w A0_0 l0_0.length l0_0) (hc0_0 : l0_0.length ≤ c0_0) (hr0_1 : Kd.C k63 w A0_1 l0_1.length l0_1) (hc0_1 : l0_1.length ≤ c0_1) (hr1 : Kd.C k59 w A1 l1.length l1) (hc1 : l1.length ≤ c1) (hG : GV w) (h : gang_May.f l0_0 l0_1 a0_2 l1 = some (r1, r2)) :
    Calls Tryd.prog 20 #[.agg #[.slice A0_0 l0_0.length c0_0, .slice A0_1 l0_1.length c0_1, .int .i64 a0_2], .slice A1 l1.length c1] w fun e w' => e = .returned (.tuple #[.bool r1, .int .i64 r2]) ∧ Below w.heap.size w w' := by
  have HR0 := Aside0.mk hr0_0
  have HR1 := Aside0.mk hr0_1
  have HR2 := Aside0.mk hr1
  have HG0 := Aside0.mk hG
  have hB := (Below.refl w.heap.size w).alloc (Nat.le_refl _) (.cells #[.slice A0_0 l0_0.length c0_0, .slice A0_1 l0_1.length c0_1, .int .i64 a0_2] 25)
  have HB := Aside0.mk hB
  clear hr0_0 hr0_1 hr1 hG hB
  unfold gang_May.f at h
  cases hok : okB l0_0 l0_1 a0_2 with
  | false =>
    have HO := Aside0.mk hok
    rw [hok, if_neg (by simp)] at h
    obtain ⟨rfl, rfl⟩ : false = r1 ∧ 40 = r2 := by simpa using h
    clear hok h
    go_enter Tryd.func20, Tryd.ntmps20
    go_wp2_with (fail)
    refine (asked_bad l0_0 l0_1 A0_0 c0_0 A0_1 c0_1 a0_2 A1 c1 _ _ (Kd.C_below HR0.out HB.out) hc0_0 (Kd.C_below HR1.out HB.out) hc0_1 HO.out).mono ?_
    rintro e w1 ⟨rfl, hb⟩
    have HB1 := Aside0.mk (below_then HB.out HB.out.size hb)
    clear hb
    go_wp2
    go_ret2
    exact ⟨rfl, HB1.out.alloc HB1.out.size _⟩
  | true =>
    have HO := Aside0.mk hok
    rw [hok, if_pos rfl] at h
    clear hok
    cases hq : planB l0_0 l0_1 a0_2 l1 with
    | true =>
      have HQ := Aside0.mk hq
      rw [hq] at h
      obtain ⟨rfl, rfl⟩ : true = r1 ∧ 0 = r2 := by simpa using h
      clear hq h
      go_enter Tryd.func20, Tryd.ntmps20
      go_wp2_with (fail)
      refine (asked_ok l0_0 l0_1 A0_0 c0_0 A0_1 c0_1 a0_2 A1 c1 l1 _ (Kd.C_below HR0.out HB.out) hc0_0 (Kd.C_below HR1.out HB.out) hc0_1 (Kd.C_below HR2.out HB.out) hc1 (gv_below HG0.out HB.out) HO.out true HQ.out 0 rfl).mono ?_
      rintro e w1 ⟨b, rfl, _, _, hb⟩
      have HB1 := Aside0.mk (below_then HB.out HB.out.size hb)
      clear hb
      go_wp2
      go_ret2
      exact ⟨rfl, HB1.out.alloc HB1.out.size _⟩
    | false =>
      have HQ := Aside0.mk hq
      rw [hq] at h
      obtain ⟨rfl, rfl⟩ : false = r1 ∧ 0 = r2 := by simpa using h
      clear hq h
      go_enter Tryd.func20, Tryd.ntmps20
      go_wp2_with (fail)
      refine (asked_ok l0_0 l0_1 A0_0 c0_0 A0_1 c0_1 a0_2 A1 c1 l1 _ (Kd.C_below HR0.out HB.out) hc0_0 (Kd.C_below HR1.out HB.out) hc0_1 (Kd.C_below HR2.out HB.out) hc1 (gv_below HG0.out HB.out) HO.out false HQ.out 41 rfl).mono ?_
      rintro e w1 ⟨b, rfl, _, _, hb⟩
      have HB1 := Aside0.mk (below_then HB.out HB.out.size hb)
      clear hb
      go_wp2
      go_ret2
      exact ⟨rfl, HB1.out.alloc HB1.out.size _⟩
end Go.Proofs.YtikfghnkbgdbgaaDoor.Q
end
section
namespace Go.Proofs.YtikfghnkbgdbgaaDoor.Q
set_option linter.unusedSimpArgs false
set_option linter.unusedVariables false
structure Fair (ms : List M) (gs : List G) (n : Int) (p : List Wk) : Prop where
  can : ∀ j, j < p.length → canB ms gs n (W3 p j) = true
  len : p.length ≤ 8
theorem planFrom_all {ms : List M} {gs : List G} {n : Int} : ∀ (r had : List Wk), planFrom ms gs n had r = true →
    (∀ j, j < r.length → canB ms gs n (W3 r j) = true) ∧ (∀ j k, j < k → k < r.length → behindB (W3 r j) (W3 r k) = true) ∧ (∀ y ∈ had, ∀ k, k < r.length → behindB y (W3 r k) = true)
  | [], had, _ => ⟨fun j h => absurd h (by simp), fun j k _ h => absurd h (by simp), fun y _ k h => absurd h (by simp)⟩
  | x :: r, had, h => by
    simp only [planFrom, Bool.and_eq_true] at h
    obtain ⟨⟨h1, h2⟩, h3⟩ := h
    obtain ⟨i1, i2, i3⟩ := planFrom_all r (had ++ [x]) h3
    have e0 : W3 (x :: r) 0 = x := rfl
    have es : ∀ j, W3 (x :: r) (j + 1) = W3 r j := fun j => by simp [W3, rd_T59]
    refine ⟨fun j hj => ?_, fun j k hjk hk => ?_, fun y hy k hk => ?_⟩
    · cases j with
      | zero => exact h1
      | succ j => rw [es]; exact i1 j (by simpa using hj)
    · cases k with
      | zero => omega
      | succ k =>
        rw [es]
        cases j with
        | zero => exact i3 x (by simp) k (by simpa using hk)
        | succ j => rw [es]; exact i2 j k (by omega) (by simpa using hk)
    · cases k with
      | zero => exact List.all_eq_true.1 h2 y hy
      | succ k => rw [es]; exact i3 y (by simp [hy]) k (by simpa using hk)
theorem behind_lt {ms : List M} {gs : List G} {n : Int} {x y : Wk} (hx : canB ms gs n x = true) (hy : canB ms gs n y = true) (hg : gs.length ≤ 2) (h : behindB y x = true) : 2 * y.f0 + y.f1 < 2 * x.f0 + x.f1 := by
  have bx := canB_bounds hx
  have by_ := canB_bounds hy
  simp only [behindB, Bool.not_eq_true', Bool.or_eq_false_iff, Bool.and_eq_false_iff, decide_eq_false_iff_not] at h
  obtain ⟨h1, h2⟩ := h
  rcases h2 with h2 | h2
  · omega
  · omega
theorem plan_fair {ms : List M} {gs : List G} {n : Int} {p : List Wk} (h : planB ms gs n p = true) (hg : gs.length ≤ 2) (hn : n ≤ 4) : Fair ms gs n p := by
  obtain ⟨h1, h2, _⟩ := planFrom_all p [] h
  have key : ∀ k : Nat, k < p.length → (k : Int) ≤ 2 * (W3 p k).f0 + (W3 p k).f1 := by
    intro k
    induction k with
    | zero => intro hk; have := canB_bounds (h1 0 hk); omega
    | succ k ih =>
      intro hk
      have := ih (by omega)
      have := behind_lt (h1 (k + 1) hk) (h1 k (by omega)) hg (h2 k (k + 1) (by omega) hk)
      omega
  refine ⟨h1, ?_⟩
  cases hl : p.length with
  | zero => omega
  | succ m =>
    have a := key m (by omega)
    have b := canB_bounds (h1 m (by omega))
    omega
def oneAt (gs : List G) (hi : Bool) (m : Int) (y : Wk) : Int := if y.f2 = m then (if hi = true then (rd_T63 gs y.f1).f2.f1 else (rd_T63 gs y.f1).f2.f0) else 0
theorem doneAt_cons (gs : List G) (hi : Bool) (m : Int) (y : Wk) (r : List Wk) : doneAt gs hi m (y :: r) = oneAt gs hi m y + doneAt gs hi m r := rfl
theorem doneAt_snoc (gs : List G) (hi : Bool) (m : Int) (y : Wk) : ∀ r : List Wk, doneAt gs hi m (r ++ [y]) = doneAt gs hi m r + oneAt gs hi m y
  | [] => by simp [doneAt_cons, doneAt]
  | z :: r => by rw [List.cons_append, doneAt_cons, doneAt_cons, doneAt_snoc gs hi m y r]; omega
theorem doneAt_take (gs : List G) (hi : Bool) (m : Int) (p : List Wk) (k : Nat) (hk : k < p.length) : doneAt gs hi m (p.take (k + 1)) = doneAt gs hi m (p.take k) + oneAt gs hi m (W3 p k) := by
  rw [take_W3 p k hk, doneAt_snoc]
theorem gang_works {ms : List M} {gs : List G} {n : Int} (h : okB ms gs n = true) (i : Int) (h0 : 0 ≤ i) (h1 : i < gs.length) : 1 ≤ (rd_T63 gs i).f2.f0 ∧ (rd_T63 gs i).f2.f0 ≤ (rd_T63 gs i).f2.f1 ∧ (rd_T63 gs i).f2.f1 ≤ 3 := by
  simp only [okB, Bool.and_eq_true] at h
  have hg := h.2
  obtain ⟨j, rfl⟩ := Int.eq_ofNat_of_zero_le h0
  have hj : j < gs.length := by omega
  have hx : rd_T63 gs j = gs[j] := by simp [rd_T63, List.getD_eq_getElem?_getD, List.getElem?_eq_getElem hj]
  have := List.all_eq_true.1 hg gs[j] (List.getElem_mem hj)
  rw [hx]
  simp only [spanB, Bool.and_eq_true, decide_eq_true_eq] at this
  omega
theorem oneAt_bd {ms : List M} {gs : List G} {n : Int} (h : okB ms gs n = true) (hi : Bool) (m : Int) {y : Wk} (hy : canB ms gs n y = true) : 0 ≤ oneAt gs hi m y ∧ oneAt gs hi m y ≤ 3 := by
  have b := canB_bounds hy
  have w := gang_works h y.f1 b.2.1.1 b.2.1.2
  unfold oneAt
  split
  · split <;> omega
  · omega
theorem doneAt_bd {ms : List M} {gs : List G} {n : Int} (h : okB ms gs n = true) {p : List Wk} (hf : Fair ms gs n p) (hi : Bool) (m : Int) (k : Nat) (hk : k ≤ p.length) : 0 ≤ doneAt gs hi m (p.take k) ∧ doneAt gs hi m (p.take k) ≤ 3 * k := by
  induction k with
  | zero => simp [doneAt]
  | succ k ih =>
    have i := ih (by omega)
    have o := oneAt_bd h hi m (hf.can k (by omega))
    rw [doneAt_take gs hi m p k (by omega)]
    omega
end Go.Proofs.YtikfghnkbgdbgaaDoor.Q
end
section
namespace Go.Proofs.YtikfghnkbgdbgaaDoorW.PrintLast
section
variable {P : Program} {ops : Array Oper} {Q : Exit → Act → World → Prop}
theorem goesT_ {oi : Oper} {N : Option Tmp} {a : Act} {w : World} {K : Act → World → Prop} {f : FuncId} {fn : Func} {c : Operand} {ags : Array Operand} {ts : Array TypeId} (hf : P.funcs[f]? = some fn) (hname : (fn.name == "runtime.NumGoroutine") = false) (hb : fn.body.isSome = true) (args : Array Value)
    (hw : Region.wanted oi (yielded ops a.tmps) = true) (hN : oi.dst = N) (hop : oi.op = .call { callee := .value c, args := ags, argTypes := ts }) (hc : a.eval c = .func (.func f) #[] #[]) (hargs : ags.map a.eval = args)
    (h : Calls P f args w fun e w' => ∃ v, e = .returned v ∧ K (a.put N v) w') : if Region.wanted oi (yielded ops a.tmps) = true then Oper.wp P oi a w K Q else K (a.put N undef) w := by
  refine call_ f args hw hN ?_ h
  have he := enters_ hf hname hb args w
  unfold execOp
  simp [hop, resolve, Deferred.ofValue, invoke, hc, hargs, he]
end
end Go.Proofs.YtikfghnkbgdbgaaDoorW.PrintLast
end
section
namespace Go.Proofs.YtikfghnkbgdbgaaDoor.Q
set_option linter.unusedSimpArgs false
set_option linter.unusedVariables false
open Go.RowKit Go.Proofs.YtikfghnkbgdbgaaDoorW.PrintWords Go.Proofs.YtikfghnkbgdbgaaDoorW.PrintLast Go.Proofs.YtikfghnkbgdbgaaDoorW.PrintMore
def DoneIs (w : World) (g : Nat) (d0 d1 d2 d3 : Int) : Prop := w.heap[g]? = some (.cells #[.int .i64 d0, .int .i64 d1, .int .i64 d2, .int .i64 d3] 97 (0, 0))
def pick4 (d0 d1 d2 d3 : Int) (m : Int) : Int := if m = 0 then d0 else if m = 1 then d1 else if m = 2 then d2 else d3
theorem DoneIs.cell {w : World} {g : Nat} {d0 d1 d2 d3 : Int} (h : DoneIs w g d0 d1 d2 d3) (m : Int) (h0 : 0 ≤ m) (h4 : m < 4) : w.cell? ⟨g, m.toNat, none⟩ = some (.int .i64 (pick4 d0 d1 d2 d3 m)) ∧ w.frozen? ⟨g, m.toNat, none⟩ = false := by
  refine ⟨?_, blk_frozen h _⟩
  rw [blk_cell h]
  obtain rfl | rfl | rfl | rfl : m = 0 ∨ m = 1 ∨ m = 2 ∨ m = 3 := by omega
  all_goals rfl
theorem DoneIs.set {w : World} {g : Nat} {d0 d1 d2 d3 : Int} (h : DoneIs w g d0 d1 d2 d3) (m v : Int) (h0 : 0 ≤ m) (h4 : m < 4) :
    DoneIs (w.setCell ⟨g, m.toNat, none⟩ (.int .i64 v)) g (if m = 0 then v else d0) (if m = 1 then v else d1) (if m = 2 then v else d2) (if m = 3 then v else d3) := by
  unfold DoneIs
  rw [blk_set h]
  obtain rfl | rfl | rfl | rfl : m = 0 ∨ m = 1 ∨ m = 2 ∨ m = 3 := by omega
  all_goals rfl
set_option maxHeartbeats 4000000 in
set_option maxRecDepth 100000 in
theorem undone_calls (w : World) : Calls Tryd.prog 94 #[] w fun e w' => e = .returned (.agg #[.int .i64 0, .int .i64 0, .int .i64 0, .int .i64 0]) ∧ Below w.heap.size w w' := by
  go_enter Tryd.func94, Tryd.ntmps94
  go_wp2
  refine bodyPost_ret (v := .agg #[.int .i64 0, .int .i64 0, .int .i64 0, .int .i64 0]) (by simp [results, Tryd.results94, go_sem]) rfl ⟨rfl, ?_⟩
  exact ((Below.refl _ w).alloc (Nat.le_refl _) _).alloc (by simp) _
theorem DoneIs.next {ms : List M} {gs : List G} {n : Int} {p : List Wk} (hok : okB ms gs n = true) (hf : Fair ms gs n p) (hi : Bool) {k : Nat} (hk : k < p.length) {w : World} {g : Nat}
    (h : DoneIs w g (doneAt gs hi 0 (p.take k)) (doneAt gs hi 1 (p.take k)) (doneAt gs hi 2 (p.take k)) (doneAt gs hi 3 (p.take k))) (s : Int) (hs : s = if hi = true then (rd_T63 gs (rd_T59 p k).f1).f2.f1 else (rd_T63 gs (rd_T59 p k).f1).f2.f0) (h4 : (rd_T59 p k).f2 < 4) :
    DoneIs (w.setCell ⟨g, (rd_T59 p k).f2.toNat, none⟩ (.int .i64 (wrap64 (pick4 (doneAt gs hi 0 (p.take k)) (doneAt gs hi 1 (p.take k)) (doneAt gs hi 2 (p.take k)) (doneAt gs hi 3 (p.take k)) (rd_T59 p k).f2 + s)))) g
      (doneAt gs hi 0 (p.take (k + 1))) (doneAt gs hi 1 (p.take (k + 1))) (doneAt gs hi 2 (p.take (k + 1))) (doneAt gs hi 3 (p.take (k + 1))) := by
  have h0 : 0 ≤ (rd_T59 p k).f2 := (canB_bounds (hf.can k hk)).2.2.1
  have hs2 : oneAt gs hi (rd_T59 p k).f2 (W3 p k) = s := by rw [hs]; simp [oneAt, W3]
  have hl := hf.len
  have hp : pick4 (doneAt gs hi 0 (p.take k)) (doneAt gs hi 1 (p.take k)) (doneAt gs hi 2 (p.take k)) (doneAt gs hi 3 (p.take k)) (rd_T59 p k).f2 = doneAt gs hi (rd_T59 p k).f2 (p.take k) := by
    unfold pick4
    split
    · rename_i q; rw [q]
    · split
      · rename_i q; rw [q]
      · split
        · rename_i q; rw [q]
        · rw [show (rd_T59 p k).f2 = 3 by omega]
  have hb := doneAt_bd hok hf hi (rd_T59 p k).f2 (k + 1) hk
  rw [doneAt_take gs hi _ p k hk, hs2] at hb
  rw [hp, show wrap64 (doneAt gs hi (rd_T59 p k).f2 (p.take k) + s) = doneAt gs hi (rd_T59 p k).f2 (p.take k) + s by unfold wrap64; omega]
  have := h.set (rd_T59 p k).f2 (doneAt gs hi (rd_T59 p k).f2 (p.take k) + s) h0 h4
  have key : ∀ m : Int, (if (rd_T59 p k).f2 = m then doneAt gs hi (rd_T59 p k).f2 (p.take k) + s else doneAt gs hi m (p.take k)) = doneAt gs hi m (p.take (k + 1)) := by
    intro m
    rw [doneAt_take gs hi m p k hk, ← hs2]
    split
    · rename_i q; rw [q]
    · rename_i q; simp [oneAt, W3, q]
  rw [key, key, key, key] at this
  exact this
def X_works : Nat := 0
def X_works.T5 : Bool × List (List Nat × List Nat) := (true, [([], []), ([0], [0]), ([1], [1]), ([2], [2]), ([], []), ([4], [4]), ([5], [5]), ([], []), ([7], [7]), ([8], [8]), ([], []), ([10], [10]), ([9, 11], [9, 11]), ([12], [12]), ([6, 13], [6, 13]), ([3, 14], [3, 14]), ([1, 0, 1, 2, 3, 4, 5, 6, 7, 8, 9, 10, 11, 12, 13, 14, 15], [1]), ([16, 15, 14, 0, 1, 2, 3, 4, 5, 6, 7, 8, 9, 10, 11, 12, 13, 14, 15], [15, 16])])
def X_works.B5 : List Nat := [0, 1, 3, 7, 0, 16, 48, 0, 128, 384, 0, 1024, 3968, 8064, 16368, 32767, 65535, 131071]
theorem X_works.tab5 : rtab .any (opsOf Tryd.f75 5) = X_works.T5 := by kernel_rfl
theorem X_works.bits5 : waitsOk X_works.T5.2 X_works.B5 = true := by kernel_rfl
set_option maxHeartbeats 4000000 in
set_option maxRecDepth 100000 in
theorem least_calls (x0 x1 x2 x3 : Int) (w : World) : Calls Tryd.prog 137 #[.agg #[.int .i64 x0, .int .i64 x1, .int .i64 x2, .int .i64 x3]] w fun e w' => e = .returned (.int .i64 x2) ∧ Below w.heap.size w w' := by
  go_enter Tryd.func137, Tryd.ntmps137
  go_wp2
  refine bodyPost_ret (v := .int .i64 x2) (by simp [results, Tryd.results137, go_sem]) rfl ⟨rfl, ?_⟩
  exact ((Below.refl _ w).alloc (Nat.le_refl _) _)
set_option maxHeartbeats 4000000 in
set_option maxRecDepth 100000 in
theorem most_calls (x0 x1 x2 x3 : Int) (w : World) : Calls Tryd.prog 139 #[.agg #[.int .i64 x0, .int .i64 x1, .int .i64 x2, .int .i64 x3]] w fun e w' => e = .returned (.int .i64 x3) ∧ Below w.heap.size w w' := by
  go_enter Tryd.func139, Tryd.ntmps139
  go_wp2
  refine bodyPost_ret (v := .int .i64 x3) (by simp [results, Tryd.results139, go_sem]) rfl ⟨rfl, ?_⟩
  exact ((Below.refl _ w).alloc (Nat.le_refl _) _)
set_option maxHeartbeats 4000000 in
set_option maxRecDepth 100000 in
theorem works_calls (ms : List M) (gs : List G) (A0 : Option Addr) (c0 : Nat) (A1 : Option Addr) (c1 : Nat) (n : Int) (b : Nat) (A2 : Option Addr) (c2 : Nat) (p : List Wk) (w : World) (hr1 : Kd.C k63 w A1 gs.length gs) (hr2 : Kd.C k59 w A2 p.length p) (hG : GV w) (hok : okB ms gs n = true) (hf : Fair ms gs n p) (e : Int) (hi : Bool) (he : e = if hi = true then 1 else 0) :
    Calls Tryd.prog 75 #[.agg #[.slice A0 ms.length c0, .slice A1 gs.length c1, .int .i64 n, .map (some b)], .slice A2 p.length c2, .int .i64 e] w fun e w' =>
      e = .returned (.agg #[.int .i64 (doneAt gs hi 0 p), .int .i64 (doneAt gs hi 1 p), .int .i64 (doneAt gs hi 2 p), .int .i64 (doneAt gs hi 3 p)]) ∧ Below w.heap.size w w' := by
  have HR1 := Aside0.mk hr1
  have HR2 := Aside0.mk hr2
  have HG := Aside0.mk hG
  have HO := Aside0.mk hok
  have HF := Aside0.mk hf
  have hpl := hf.len
  have hbd := okB_bounds hok
  have hm4 := hbd.1.2
  clear hr1 hr2 hG hok hf hbd
  have hh : (e = 1 ∧ hi = true) ∨ (e = 0 ∧ hi = false) := by cases hi <;> simp_all
  clear he
  rcases hh with ⟨rfl, hh⟩ | ⟨rfl, hh⟩
  all_goals
    have HH := Aside0.mk hh
    clear hh
    go_enter Tryd.func75, Tryd.ntmps75
    go_wp2_with (fail)
    have hB := ((Below.refl w.heap.size w).alloc (Nat.le_refl _) (.cells #[.slice A0 ms.length c0, .slice A1 gs.length c1, .int .i64 n, .map (some b)] 86)).alloc (by simp) (.cells #[.int .i64 0, .int .i64 0, .int .i64 0, .int .i64 0] 97)
    refine (undone_calls _).mono ?_
    rintro e1 w1 ⟨rfl, hb⟩
    have HB1 := Aside0.mk (below_then hB (by simp; omega) hb)
    have HX1 := Aside0.mk ((hb.block w.heap.size (by simp; omega)).trans ((Below.heap_alloc _ _ _ (by simp)).trans (World.alloc_heap_new w _)))
    have HR := Aside0.mk ((hb.block (w.heap.size + 1) (by simp)).trans (show _ = some (Obj.cells #[.int .i64 0, .int .i64 0, .int .i64 0, .int .i64 0] 97 (0, 0)) by have := World.alloc_heap_new (w.alloc (.cells #[.slice A0 ms.length c0, .slice A1 gs.length c1, .int .i64 n, .map (some b)] 86)) (.cells #[.int .i64 0, .int .i64 0, .int .i64 0, .int .i64 0] 97); rwa [World.size_alloc] at this))
    have HRl := Aside0.mk (Nat.lt_of_lt_of_le (show w.heap.size + 1 < w.heap.size + 1 + 1 by omega) (show w.heap.size + 1 + 1 ≤ w1.heap.size by have := hb.size; simpa using this))
    clear hb hB
    go_wp2
    go_loopw [13] (fun v13 wr => ∃ k : Nat, k ≤ p.length ∧ v13 = .int .i64 k ∧ Aside0 (DoneIs wr w1.heap.size (doneAt gs hi 0 (p.take k)) (doneAt gs hi 1 (p.take k)) (doneAt gs hi 2 (p.take k)) (doneAt gs hi 3 (p.take k))) ∧
      Aside0 (wr.heap[w.heap.size + 1]? = some (Obj.cells #[.int .i64 0, .int .i64 0, .int .i64 0, .int .i64 0] 97 (0, 0))) ∧ Aside0 (BoxAt w wr A0 ms.length c0 A1 gs.length c1 n b w.heap.size)) (fun v13 _ => p.length - (intOf v13).toNat)
    case atStart => exact ⟨0, Nat.zero_le _, rfl, ⟨World.alloc_heap_new w1 _⟩, ⟨blk_alloc HR.out _⟩, ⟨⟨blk_alloc HX1.out _, HB1.out.alloc HB1.out.size _⟩⟩⟩
    case round =>
      obtain ⟨k, hk, rfl, HD, HR', HX⟩ := hrel
      by_cases hlt : k < p.length
      · obtain ⟨ad, hA2, hx0, hx1, hx2⟩ := at_T59 (Kd.C_below HR2.out HX.out.bel) (k : Int) (by omega) (by omega)
        have HA2 := Aside0.mk hA2
        rw [Int.toNat_natCast] at hx0 hx1 hx2
        subst hA2
        clear HA2
        have hxb := canB_bounds (HF.out.can k hlt)
        have hg0 : 0 ≤ (rd_T59 p k).f1 := hxb.2.1.1
        have hg1 : (rd_T59 p k).f1 < gs.length := hxb.2.1.2
        have hm0 : 0 ≤ (rd_T59 p k).f2 := hxb.2.2.1
        have hm1 : (rd_T59 p k).f2 < 4 := Int.lt_of_lt_of_le hxb.2.2.2 (by omega)
        clear hxb
        go_wp2
        clear hx0 hx1 hx2
        obtain ⟨ag, hA1, hy0, hy1, hy2, hy3⟩ := at_T63 (Kd.C_below HR1.out HX.out.bel) (rd_T59 p k).f1 hg0 hg1
        subst hA1
        have hd := HD.out.cell (rd_T59 p k).f2 hm0 hm1
        have hd0 := hd.1
        have hd1 := hd.2
        have hgl : w1.heap.size < wr.heap.size := (Array.getElem?_eq_some_iff.1 HD.out).1
        have hgl2 : w.heap.size < wr.heap.size := (Array.getElem?_eq_some_iff.1 HX.out.box).1
        have hb0 : wr.cell? ⟨w.heap.size, 0, none⟩ = some (.slice A0 ms.length c0) := (blk_cell HX.out.box 0).trans rfl
        have hb1 : wr.cell? ⟨w.heap.size, 1, none⟩ = some (.slice (some ag) gs.length c1) := (blk_cell HX.out.box 1).trans rfl
        have hgv := gv_below HG.out HX.out.bel
        have hv0 := hgv.2.2.1
        have hv1 := hgv.2.2.2
        have hvl : 1 < wr.heap.size := World.block_lt_of_cell? wr _ hv0
        clear hd hgv
        have hC : (World.heap (wr.alloc (.cells #[.int .i64 (rd_T59 p k).f0, .int .i64 (rd_T59 p k).f1, .int .i64 (rd_T59 p k).f2] 59)))[wr.heap.size]? = some (.cells #[.int .i64 (rd_T59 p k).f0, .int .i64 (rd_T59 p k).f1, .int .i64 (rd_T59 p k).f2] 59 (0, 0)) := World.alloc_heap_new _ _
        have bl := ((Below.refl wr.heap.size wr).alloc (Nat.le_refl _) (.cells #[.int .i64 (rd_T59 p k).f0, .int .i64 (rd_T59 p k).f1, .int .i64 (rd_T59 p k).f2] 59)).drew
        have HC := Aside0.mk (show (wr.alloc (.cells #[.int .i64 (rd_T59 p k).f0, .int .i64 (rd_T59 p k).f1, .int .i64 (rd_T59 p k).f2] 59)).drew.heap[wr.heap.size]? = some (.cells #[.int .i64 (rd_T59 p k).f0, .int .i64 (rd_T59 p k).f1, .int .i64 (rd_T59 p k).f2] 59 (0, 0)) from hC)
        have HDD := Aside0.mk (show DoneIs _ _ _ _ _ _ from (bl.block _ hgl).trans HD.out)
        have HXX := Aside0.mk (HX.out.step bl)
        have HRR := Aside0.mk ((bl.block _ (Array.getElem?_eq_some_iff.1 HR'.out).1).trans HR'.out)
        have HGG := Aside0.mk (gv_below HG.out HXX.out.bel)
        have F5 := Aside0.mk ((bl.cell (World.block_lt_of_cell? _ _ hy0)).trans hy0)
        have F6 := Aside0.mk ((bl.cell (World.block_lt_of_cell? _ _ hy1)).trans hy1)
        have F7 := Aside0.mk ((bl.cell (World.block_lt_of_cell? _ _ hy2)).trans hy2)
        have F8 := Aside0.mk ((bl.cell (World.block_lt_of_cell? _ _ hy3)).trans hy3)
        clear bl hC hy0 hy1 hy2 hy3
        refine start_ (n := 18) (S := fun w' => w'.cell? ⟨wr.heap.size, 2, none⟩ = some (.int .i64 (rd_T59 p k).f2) ∧ w'.cell? ⟨wr.heap.size, 1, none⟩ = some (.int .i64 (rd_T59 p k).f1) ∧ w'.cell? ⟨w1.heap.size, (rd_T59 p k).f2.toNat, none⟩ = some (.int .i64 (pick4 (doneAt gs hi 0 (p.take k)) (doneAt gs hi 1 (p.take k)) (doneAt gs hi 2 (p.take k)) (doneAt gs hi 3 (p.take k)) (rd_T59 p k).f2)) ∧ w'.cell? ⟨1, 0, none⟩ = some (.func (.func 137) #[] #[]) ∧ w'.cell? ⟨1, 1, none⟩ = some (.func (.func 139) #[] #[]) ∧ w'.cell? ⟨w.heap.size, 1, none⟩ = some (.slice (some ag) gs.length c1) ∧ w'.cell? (ag.add ((rd_T59 p k).f1.toNat * 4)) = some (.int .i64 (rd_T63 gs (rd_T59 p k).f1).f0) ∧ w'.cell? ⟨(ag.add ((rd_T59 p k).f1.toNat * 4)).block, (ag.add ((rd_T59 p k).f1.toNat * 4)).off + 1, none⟩ = some (.int .i64 (rd_T63 gs (rd_T59 p k).f1).f1) ∧ w'.cell? ⟨(ag.add ((rd_T59 p k).f1.toNat * 4)).block, (ag.add ((rd_T59 p k).f1.toNat * 4)).off + 2, none⟩ = some (.int .i64 (rd_T63 gs (rd_T59 p k).f1).f2.f0) ∧ w'.cell? ⟨(ag.add ((rd_T59 p k).f1.toNat * 4)).block, (ag.add ((rd_T59 p k).f1.toNat * 4)).off + 3, none⟩ = some (.int .i64 (rd_T63 gs (rd_T59 p k).f1).f2.f1)) (ds := [17]) (bs 18 0) (by kernel_rfl) rfl rfl ⟨(blk_cell HC.out 2).trans rfl, (blk_cell HC.out 1).trans rfl, (HDD.out.cell (rd_T59 p k).f2 hm0 hm1).1, HGG.out.2.2.1, HGG.out.2.2.2, (blk_cell HXX.out.box 1).trans rfl, F5.out, F6.out, F7.out, F8.out⟩ (fun hHeld => ?_)
        refine with_tabW X_works.tab5 X_works.bits5 (fun HT_ HW_ => ?_)
        generalize (wr.alloc (.cells #[.int .i64 (rd_T59 p k).f0, .int .i64 (rd_T59 p k).f1, .int .i64 (rd_T59 p k).f2] 59)).drew = w5 at HC HDD HXX HRR HGG F5 F6 F7 F8 hHeld ⊢
        refine pu HT_ 0 (some 17) (bs 18 1) ?_
        refine pu HT_ 4 (some 21) (bs 18 17) ?_
        refine pu HT_ 5 (some 22) (bs 18 49) ?_
        refine pu HT_ 7 (some 24) (bs 18 177) ?_
        refine pu HT_ 8 (some 25) (bs 18 433) ?_
        refine pu HT_ 10 (some 27) (bs 18 1457) ?_
        refine tk10 HT_ HW_ hHeld 1 (some 18) (bs 18 1459) ?_
        refine pu HT_ 2 (some 19) (bs 18 1463) ?_
        refine tk10 HT_ HW_ hHeld 3 (some 20) (bs 18 1471) ?_
        refine tk10 HT_ HW_ hHeld 6 (some 23) (bs 18 1535) ?_
        refine tk10 HT_ HW_ hHeld 9 (some 26) (bs 18 2047) ?_
        refine tk10 HT_ HW_ hHeld 11 (some 28) (bs 18 4095) ?_
        refine pu HT_ 12 (some 29) (bs 18 8191) ?_
        refine tk10 HT_ HW_ hHeld 13 (some 30) (bs 18 16383) ?_
        refine on HT_ 14 (some 31) (bs 18 32767) (fun K hK => ?_)
        first
          | refine goesT_ Tryd.func139 (by kernel_rfl) rfl #[.agg #[.int .i64 (rd_T63 gs (rd_T59 p k).f1).f0, .int .i64 (rd_T63 gs (rd_T59 p k).f1).f1, .int .i64 (rd_T63 gs (rd_T59 p k).f1).f2.f0, .int .i64 (rd_T63 gs (rd_T59 p k).f1).f2.f1]] (by rfl) rfl rfl (by rfl) (by (try simp only [List.map_toArray, List.map_cons, List.map_nil]); rfl) ?_
            with_reducible refine (most_calls _ _ _ _ _).mono ?_
          | refine goesT_ Tryd.func137 (by kernel_rfl) rfl #[.agg #[.int .i64 (rd_T63 gs (rd_T59 p k).f1).f0, .int .i64 (rd_T63 gs (rd_T59 p k).f1).f1, .int .i64 (rd_T63 gs (rd_T59 p k).f1).f2.f0, .int .i64 (rd_T63 gs (rd_T59 p k).f1).f2.f1]] (by rfl) rfl rfl (by rfl) (by (try simp only [List.map_toArray, List.map_cons, List.map_nil]); rfl) ?_
            with_reducible refine (least_calls _ _ _ _ _).mono ?_
        rintro e w6 ⟨rfl, hb⟩
        refine ⟨_, rfl, ?_⟩
        replace HC := Aside0.mk ((hb.block _ (Array.getElem?_eq_some_iff.1 HC.out).1).trans HC.out)
        replace HDD := Aside0.mk (show DoneIs _ _ _ _ _ _ from (hb.block _ (Array.getElem?_eq_some_iff.1 HDD.out).1).trans HDD.out)
        replace HRR := Aside0.mk ((hb.block _ (Array.getElem?_eq_some_iff.1 HRR.out).1).trans HRR.out)
        replace HXX := Aside0.mk (HXX.out.step hb)
        replace HGG := Aside0.mk (gv_below HGG.out hb)
        replace F5 := Aside0.mk ((hb.cell (World.block_lt_of_cell? _ _ F5.out)).trans F5.out)
        replace F6 := Aside0.mk ((hb.cell (World.block_lt_of_cell? _ _ F6.out)).trans F6.out)
        replace F7 := Aside0.mk ((hb.cell (World.block_lt_of_cell? _ _ F7.out)).trans F7.out)
        replace F8 := Aside0.mk ((hb.cell (World.block_lt_of_cell? _ _ F8.out)).trans F8.out)
        clear hb
        refine hK.out _ _ ⟨(blk_cell HC.out 2).trans rfl, (blk_cell HC.out 1).trans rfl, (HDD.out.cell (rd_T59 p k).f2 hm0 hm1).1, HGG.out.2.2.1, HGG.out.2.2.2, (blk_cell HXX.out.box 1).trans rfl, F5.out, F6.out, F7.out, F8.out⟩ (fun hHeld => ?_)
        clear hK K
        refine nm 31 ?_
        refine pu HT_ 15 (some 32) (bs 18 65535) ?_
        refine pu HT_ 16 (some 33) (bs 18 131071) ?_
        refine last_ (i := 17) (N := none) (bs 18 262143) rfl rfl (one_of HT_.out (by kernel_rfl)) (by decide) (fun K hK => ?_)
        have hs1 := HDD.out.cell (rd_T59 p k).f2 hm0 hm1
        have hs2 := hs1.1
        have hs3 := hs1.2
        clear hs1
        refine skip_ (w1 := ?_) (by rfl) rfl ?_ ?_
        rotate_left
        · go_simp
          rfl
        refine hK.out _ _ ?_
        clear hK K
        refine done_ (done_of HT_.out (by kernel_rfl)) ?_
        go_wp2
        go_roundw
        case rel =>
          refine ⟨k + 1, by omega, by go_num, ⟨?_⟩, ⟨?_⟩, ⟨?_⟩⟩
          · exact HDD.out.next HO.out HF.out hi hlt _ (by rw [HH.out]; rfl) hm1
          · exact blk_far HRR.out (Nat.ne_of_lt HRl.out) _
          · exact ⟨blk_far HXX.out.box (Nat.ne_of_lt (Nat.lt_of_succ_lt HRl.out)) _, HXX.out.bel.setCell (Nat.le_of_lt (Nat.lt_of_succ_lt HRl.out)) _⟩
        case measure => simp [intOf]; omega
      · obtain rfl : k = p.length := by omega
        have hD := HD.out
        rw [List.take_length] at hD
        have q0 := (blk_cell hD 0).trans rfl
        have q1 := (blk_cell hD 1).trans rfl
        have q2 := (blk_cell hD 2).trans rfl
        have q3 := (blk_cell hD 3).trans rfl
        have r0 := (blk_cell HR'.out 0).trans rfl
        have r1 := (blk_cell HR'.out 1).trans rfl
        have r2 := (blk_cell HR'.out 2).trans rfl
        have r3 := (blk_cell HR'.out 3).trans rfl
        have rf0 := blk_frozen HR'.out 0
        have rf1 := blk_frozen HR'.out 1
        have rf2 := blk_frozen HR'.out 2
        have rf3 := blk_frozen HR'.out 3
        clear hD
        go_wp2
        have hB := below_set (j := 3) (v := .int .i64 (doneAt gs hi 3 p)) (below_set (j := 2) (v := .int .i64 (doneAt gs hi 2 p)) (below_set (j := 1) (v := .int .i64 (doneAt gs hi 1 p)) (below_set (j := 0) (v := .int .i64 (doneAt gs hi 0 p)) HX.out.bel (Nat.le_succ _)) (Nat.le_succ _)) (Nat.le_succ _)) (Nat.le_succ w.heap.size)
        have BF := blk_set (blk_set (blk_set (blk_set HR'.out 0 (.int .i64 (doneAt gs hi 0 p))) 1 (.int .i64 (doneAt gs hi 1 p))) 2 (.int .i64 (doneAt gs hi 2 p))) 3 (.int .i64 (doneAt gs hi 3 p))
        clear r0 r1 r2 r3 rf0 rf1 rf2 rf3 q0 q1 q2 q3
        generalize World.setCell (World.setCell (World.setCell (World.setCell wr _ _) _ _) _ _) _ _ = wz at hB BF ⊢
        have z0 := (blk_cell BF 0).trans rfl
        have z1 := (blk_cell BF 1).trans rfl
        have z2 := (blk_cell BF 2).trans rfl
        have z3 := (blk_cell BF 3).trans rfl
        refine bodyPost_ret (v := .agg #[.int .i64 (doneAt gs hi 0 p), .int .i64 (doneAt gs hi 1 p), .int .i64 (doneAt gs hi 2 p), .int .i64 (doneAt gs hi 3 p)]) (by simp [results, Tryd.results75, go_sem, z0, z1, z2, z3]) rfl ⟨rfl, hB⟩
end Go.Proofs.YtikfghnkbgdbgaaDoor.Q
end
section
namespace Go.Proofs.YtikfghnkbgdbgaaDoor.Q
set_option linter.unusedSimpArgs false
set_option linter.unusedVariables false
open Go.RowKit Go.Proofs.YtikfghnkbgdbgaaDoorW.PrintWords Go.Proofs.YtikfghnkbgdbgaaDoorW.PrintLast Go.Proofs.YtikfghnkbgdbgaaDoorW.PrintMore
theorem askedE_ok {ms : List M} {gs : List G} {n : Int} {p : List Wk} (h : askedE ms gs n p = 0) : okB ms gs n = true ∧ planB ms gs n p = true := by
  unfold askedE at h
  split at h
  · rename_i h1
    split at h
    · exact ⟨h1, by assumption⟩
    · omega
  · omega
theorem asked_any (ms : List M) (gs : List G) (A0 : Option Addr) (c0 : Nat) (A1 : Option Addr) (c1 : Nat) (n : Int) (A2 : Option Addr) (c2 : Nat) (p : List Wk) (w : World) (hr0 : Kd.C k66 w A0 ms.length ms) (hc0 : ms.length ≤ c0) (hr1 : Kd.C k63 w A1 gs.length gs) (hc1 : gs.length ≤ c1)
    (hr2 : Kd.C k59 w A2 p.length p) (hc2 : p.length ≤ c2) (hG : GV w) :
    Calls Tryd.prog 61 #[.agg #[.slice A0 ms.length c0, .slice A1 gs.length c1, .int .i64 n], .slice A2 p.length c2] w fun e w' =>
      ∃ B0 n0 d0 B1 n1 d1 m bm E, e = .returned (.tuple #[.agg #[.slice B0 n0 d0, .slice B1 n1 d1, .int .i64 m, .map bm], .int .i64 E]) ∧ E = askedE ms gs n p ∧
        (E = 0 → ∃ b, (A0 = B0 ∧ ms.length = n0 ∧ c0 = d0) ∧ (A1 = B1 ∧ gs.length = n1 ∧ c1 = d1) ∧ n = m ∧ some b = bm ∧ MapIs w' b (spotsL ms n.toNat) ∧ w.heap.size ≤ b) ∧ Below w.heap.size w w' := by
  cases hok : okB ms gs n with
  | false =>
    refine (asked_bad ms gs A0 c0 A1 c1 n A2 c2 p.length w hr0 hc0 hr1 hc1 hok).mono ?_
    rintro e w' ⟨rfl, hb⟩
    exact ⟨_, _, _, _, _, _, _, _, _, rfl, by simp [askedE, hok], fun h => absurd h (by decide), hb⟩
  | true =>
    cases hq : planB ms gs n p with
    | true =>
      refine (asked_ok ms gs A0 c0 A1 c1 n A2 c2 p w hr0 hc0 hr1 hc1 hr2 hc2 hG hok true hq 0 rfl).mono ?_
      rintro e w' ⟨b, rfl, hm, hl, hb⟩
      exact ⟨_, _, _, _, _, _, _, _, _, rfl, by simp [askedE, hok, hq], fun _ => ⟨b, ⟨rfl, rfl, rfl⟩, ⟨rfl, rfl, rfl⟩, rfl, rfl, hm, hl⟩, hb⟩
    | false =>
      refine (asked_ok ms gs A0 c0 A1 c1 n A2 c2 p w hr0 hc0 hr1 hc1 hr2 hc2 hG hok false hq 41 rfl).mono ?_
      rintro e w' ⟨b, rfl, hm, hl, hb⟩
      exact ⟨_, _, _, _, _, _, _, _, _, rfl, by simp [askedE, hok, hq], fun h => absurd h (by decide), hb⟩
end Go.Proofs.YtikfghnkbgdbgaaDoor.Q
end
section
namespace Go.Proofs.YtikfghnkbgdbgaaDoor.Q
set_option linter.unusedSimpArgs false
set_option linter.unusedVariables false
open Go.RowKit Go.Proofs.YtikfghnkbgdbgaaDoorW.PrintWords Go.Proofs.YtikfghnkbgdbgaaDoorW.PrintLast Go.Proofs.YtikfghnkbgdbgaaDoorW.PrintMore
theorem pick_done (gs : List G) (hi : Bool) (p : List Wk) (m : Int) (h0 : 0 ≤ m) (h4 : m < 4) : pick4 (doneAt gs hi 0 p) (doneAt gs hi 1 p) (doneAt gs hi 2 p) (doneAt gs hi 3 p) m = doneAt gs hi m p := by
  obtain rfl | rfl | rfl | rfl : m = 0 ∨ m = 1 ∨ m = 2 ∨ m = 3 := by omega
  all_goals rfl
set_option maxRecDepth 100000 in
theorem index4 (d0 d1 d2 d3 m : Int) (h0 : 0 ≤ m) (h4 : m < 4) : ∀ w : World, Sem.run Tryd.prog (Instr.index 97 (.agg #[Value.int .i64 d0, .int .i64 d1, .int .i64 d2, .int .i64 d3]) (.int .i64 m)) w = .ok (.int .i64 (pick4 d0 d1 d2 d3 m)) w := by
  intro w
  obtain rfl | rfl | rfl | rfl : m = 0 ∨ m = 1 ∨ m = 2 ∨ m = 3 := by omega
  all_goals
    go_simp
    rfl
def X_Done : Nat := 0
def X_Done.T6 : Bool × List (List Nat × List Nat) := (true, [([], []), ([], []), ([0, 1], [0, 1]), ([], []), ([2, 3], [2, 3]), ([], []), ([], []), ([5, 6, 2], [5, 6]), ([], []), ([7, 8], [7, 8]), ([4, 9], [4, 9]), ([10, 7, 0, 1, 2, 3, 4, 5, 6, 7, 8, 9, 10], [10]), ([11, 0, 1, 2, 3, 4, 5, 6, 7, 8, 9, 10, 11], [])])
def X_Done.B6 : List Nat := [0, 0, 3, 0, 15, 0, 0, 103, 0, 487, 1023, 2047, 4095]
theorem X_Done.tab6 : rtab .any (opsOf Tryd.f25 6) = X_Done.T6 := by kernel_rfl
theorem X_Done.bits6 : waitsOk X_Done.T6.2 X_Done.B6 = true := by kernel_rfl
set_option maxRecDepth 100000 in
set_option maxHeartbeats 2000000 in
theorem gang_Done.calls (A0_0 : Option Addr) (c0_0 : Nat) (l0_0 : List (M)) (A0_1 : Option Addr) (c0_1 : Nat) (l0_1 : List (G)) (a0_2 : Int) (A1 : Option Addr) (c1 : Nat) (l1 : List (Wk)) (a2 : Int) (r1 : Int) (r2 : Int) (r3 : Int) (w : World) (hr0_0 : Kd.C k66 w A0_0 l0_0.length l0_0) (hc0_0 : l0_0.length ≤ c0_0) (hr0_1 : Kd.C k63 w A0_1 l0_1.length l0_1) (hc0_1 : l0_1.length ≤ c0_1) (hr1 : Kd.C k59 w A1 l1.length l1) (hc1 : l1.length ≤ c1) (hG : GV w) (h : gang_Done.f l0_0 l0_1 a0_2 l1 a2 = some (r1, r2, r3)) :
    Calls Tryd.prog 25 #[.agg #[.slice A0_0 l0_0.length c0_0, .slice A0_1 l0_1.length c0_1, .int .i64 a0_2], .slice A1 l1.length c1, .int .i64 a2] w fun e w' => e = .returned (.tuple #[.agg #[.int .i64 r1, .int .i64 r2], .int .i64 r3]) ∧ Below w.heap.size w w' := by
  have HR0 := Aside0.mk hr0_0
  have HR1 := Aside0.mk hr0_1
  have HR2 := Aside0.mk hr1
  have HG0 := Aside0.mk hG
  have H := Aside0.mk h
  have hB := ((Below.refl w.heap.size w).alloc (Nat.le_refl _) (.cells #[.slice A0_0 l0_0.length c0_0, .slice A0_1 l0_1.length c0_1, .int .i64 a0_2] 25)).alloc (by simp) (.cells #[.int .i64 0, .int .i64 0] 40)
  have HB := Aside0.mk hB
  have hx := (Below.heap_alloc (w.alloc (.cells #[.slice A0_0 l0_0.length c0_0, .slice A0_1 l0_1.length c0_1, .int .i64 a0_2] 25)) (.cells #[.int .i64 0, .int .i64 0] 40) w.heap.size (by simp)).trans (World.alloc_heap_new w _)
  have HX := Aside0.mk hx
  have hy := World.alloc_heap_new (w.alloc (.cells #[.slice A0_0 l0_0.length c0_0, .slice A0_1 l0_1.length c0_1, .int .i64 a0_2] 25)) (.cells #[.int .i64 0, .int .i64 0] 40)
  rw [World.size_alloc] at hy
  have HY := Aside0.mk hy
  clear hr0_0 hr0_1 hr1 hG hB h hx hy
  go_enter Tryd.func25, Tryd.ntmps25
  go_wp2_with (fail)
  refine (asked_any l0_0 l0_1 A0_0 c0_0 A0_1 c0_1 a0_2 A1 c1 l1 _ (Kd.C_below HR0.out HB.out) hc0_0 (Kd.C_below HR1.out HB.out) hc0_1 (Kd.C_below HR2.out HB.out) hc1 (gv_below HG0.out HB.out)).mono ?_
  rintro e w1 ⟨B0, n0, d0, B1, n1, d1, m, bm, E, rfl, hE, hs, hb⟩
  have HB1 := Aside0.mk (below_then HB.out HB.out.size hb)
  have HX1 := Aside0.mk ((hb.block _ (by simp; omega)).trans HX.out)
  have HY1 := Aside0.mk ((hb.block _ (by simp)).trans HY.out)
  clear hb
  by_cases hE0 : E = 0
  · obtain ⟨b, ⟨rfl, rfl, rfl⟩, ⟨rfl, rfl, rfl⟩, rfl, rfl, hm, hl⟩ := hs hE0
    have HM := Aside0.mk hm
    subst hE0
    have HE := Aside0.mk hE
    clear hm hl hs hE
    have hx0 := (blk_cell HX1.out 0).trans rfl
    have hok := (askedE_ok HE.out.symm).1
    have hbd := okB_bounds hok
    have hm4 := hbd.1.2
    have hg2 := hbd.2.1.2
    have hn4 : a0_2 ≤ 4 := by omega
    have hxl := (Array.getElem?_eq_some_iff.1 HX1.out).1
    have hyl := (Array.getElem?_eq_some_iff.1 HY1.out).1
    clear hok hbd
    go_wp2_with (fail)
    cases hw : within a2 0 ((l0_0.length : Int) - 1) with
    | false =>
      have HW := Aside0.mk hw
      have h41 : some ((0 : Int), (0 : Int), (41 : Int)) = some (r1, r2, r3) := by rw [← H.out]; unfold gang_Done.f; rw [if_pos HE.out.symm, if_neg (by rw [HW.out]; simp)]
      obtain ⟨rfl, rfl, rfl⟩ : 0 = r1 ∧ 0 = r2 ∧ 41 = r3 := by simpa using h41
      refine (within_calls _ _ _ false hw _).mono ?_
      clear hw h41
      rintro e w2 ⟨rfl, hb⟩
      have HB2 := Aside0.mk (below_then (HB1.out.alloc HB1.out.size _) (by simp; have := HB1.out.size; omega) hb)
      have HY2 := Aside0.mk ((hb.block (w.heap.size + 1) (by simp; omega)).trans ((Below.heap_alloc _ _ _ hyl).trans HY1.out))
      clear hb hx0 hxl hyl
      have hy0 := (blk_cell HY2.out 0).trans rfl
      have hy1 := (blk_cell HY2.out 1).trans rfl
      have hy2 := blk_frozen HY2.out 0
      have hy3 := blk_frozen HY2.out 1
      go_wp2
      have hB := below_set (j := 1) (v := .int .i64 0) (below_set (j := 0) (v := .int .i64 0) HB2.out (Nat.le_succ _)) (Nat.le_succ w.heap.size)
      have BF := blk_set (blk_set HY2.out 0 (.int .i64 0)) 1 (.int .i64 0)
      clear hy0 hy1 hy2 hy3
      generalize World.setCell (World.setCell w2 _ _) _ _ = wz at hB BF ⊢
      have z0 := (blk_cell BF 0).trans rfl
      have z1 := (blk_cell BF 1).trans rfl
      exact bodyPost_ret (v := .tuple #[.agg #[.int .i64 0, .int .i64 0], .int .i64 41]) (by simp [results, Tryd.results25, go_sem, z0, z1]) rfl ⟨rfl, hB⟩
    | true =>
      have HW := Aside0.mk hw
      have h0 : some (doneAt l0_1 false a2 l1, doneAt l0_1 true a2 l1, (0 : Int)) = some (r1, r2, r3) := by rw [← H.out]; unfold gang_Done.f; rw [if_pos HE.out.symm, if_pos HW.out]
      obtain ⟨rfl, rfl, rfl⟩ : doneAt l0_1 false a2 l1 = r1 ∧ doneAt l0_1 true a2 l1 = r2 ∧ 0 = r3 := by simpa using h0
      have ha : 0 ≤ a2 ∧ a2 < 4 := by simp only [within, Bool.and_eq_true, decide_eq_true_eq] at hw; omega
      have ha0 := ha.1
      have ha4 := ha.2
      refine (within_calls _ _ _ true hw _).mono ?_
      clear hw h0 ha
      rintro e w2 ⟨rfl, hb⟩
      have HB2 := Aside0.mk (below_then (HB1.out.alloc HB1.out.size _) (by simp; have := HB1.out.size; omega) hb)
      have HY2 := Aside0.mk ((hb.block (w.heap.size + 1) (by simp; omega)).trans ((Below.heap_alloc _ _ _ hyl).trans HY1.out))
      have HZ2 := Aside0.mk (BoxAt.mk ((hb.block w1.heap.size (by simp)).trans (World.alloc_heap_new w1 _)) HB2.out)
      have HM2 := Aside0.mk ((HM.out.below ((Below.refl _ w1).alloc (Nat.le_refl _) _)).below hb)
      clear hb hx0 hxl hyl
      go_wp2_with (fail)
      replace HZ2 := Aside0.mk (HZ2.out.step (Below.refl _ w2).drew)
      replace HY2 := Aside0.mk (show w2.drew.heap[w.heap.size + 1]? = _ from HY2.out)
      clear HB2 HM2
      have e0 := index4 (doneAt l0_1 false 0 l1) (doneAt l0_1 false 1 l1) (doneAt l0_1 false 2 l1) (doneAt l0_1 false 3 l1) a2 ha0 ha4
      have e1 := index4 (doneAt l0_1 true 0 l1) (doneAt l0_1 true 1 l1) (doneAt l0_1 true 2 l1) (doneAt l0_1 true 3 l1) a2 ha0 ha4
      rw [pick_done _ _ _ _ ha0 ha4] at e0 e1
      refine start_ (n := 13) (S := fun w' => w'.cell? ⟨w1.heap.size, 0, none⟩ = some (.slice A0_0 l0_0.length c0_0) ∧ w'.cell? ⟨w1.heap.size, 1, none⟩ = some (.slice A0_1 l0_1.length c0_1) ∧ w'.cell? ⟨w1.heap.size, 2, none⟩ = some (.int .i64 a0_2) ∧ w'.cell? ⟨w1.heap.size, 3, none⟩ = some (.map (some b))) (ds := [11]) (bs 13 0) (by kernel_rfl) rfl rfl ⟨(blk_cell HZ2.out.box 0).trans rfl, (blk_cell HZ2.out.box 1).trans rfl, (blk_cell HZ2.out.box 2).trans rfl, (blk_cell HZ2.out.box 3).trans rfl⟩ (fun hHeld => ?_)
      refine with_tabW X_Done.tab6 X_Done.bits6 (fun HT_ HW_ => ?_)
      generalize w2.drew = w3 at HY2 HZ2 hHeld ⊢
      refine pu HT_ 1 (some 29) (bs 13 2) ?_
      refine pu HT_ 3 (some 31) (bs 13 10) ?_
      refine pu HT_ 6 (some 34) (bs 13 74) ?_
      refine pu HT_ 8 (some 36) (bs 13 330) ?_
      refine tk4 HT_ HW_ hHeld 0 (some 28) (bs 13 331) ?_
      refine tk4 HT_ HW_ hHeld 5 (some 33) (bs 13 363) ?_
      refine on HT_ 2 (some 30) (bs 13 367) (fun K hK => ?_)
      refine goes_ Tryd.func75 (by kernel_rfl) rfl #[.agg #[.slice A0_0 l0_0.length c0_0, .slice A0_1 l0_1.length c0_1, .int .i64 a0_2, .map (some b)], .slice A1 l1.length c1, .int .i64 0] (by rfl) rfl rfl (by (try simp only [List.map_toArray, List.map_cons, List.map_nil]); first | done | rfl) ?_
      with_reducible refine (works_calls l0_0 l0_1 A0_0 c0_0 A0_1 c0_1 a0_2 b A1 c1 l1 _ (Kd.C_below HR1.out HZ2.out.bel) (Kd.C_below HR2.out HZ2.out.bel) (gv_below HG0.out HZ2.out.bel) (askedE_ok HE.out.symm).1 (plan_fair (askedE_ok HE.out.symm).2 hg2 hn4) 0 false rfl).mono ?_
      rintro e w4 ⟨rfl, hb⟩
      refine ⟨_, rfl, ?_⟩
      replace HY2 := Aside0.mk ((hb.block _ (Array.getElem?_eq_some_iff.1 HY2.out).1).trans HY2.out)
      replace HZ2 := Aside0.mk (HZ2.out.step hb)
      clear hb
      refine hK.out _ _ ⟨(blk_cell HZ2.out.box 0).trans rfl, (blk_cell HZ2.out.box 1).trans rfl, (blk_cell HZ2.out.box 2).trans rfl, (blk_cell HZ2.out.box 3).trans rfl⟩ (fun hHeld => ?_)
      clear hK K
      refine nm 30 ?_
      refine tk4 HT_ HW_ hHeld 4 (some 32) (bs 13 383) ?_
      refine on HT_ 7 (some 35) (bs 13 511) (fun K hK => ?_)
      refine goes_ Tryd.func75 (by kernel_rfl) rfl #[.agg #[.slice A0_0 l0_0.length c0_0, .slice A0_1 l0_1.length c0_1, .int .i64 a0_2, .map (some b)], .slice A1 l1.length c1, .int .i64 1] (by rfl) rfl rfl (by (try simp only [List.map_toArray, List.map_cons, List.map_nil]); first | done | rfl) ?_
      with_reducible refine (works_calls l0_0 l0_1 A0_0 c0_0 A0_1 c0_1 a0_2 b A1 c1 l1 _ (Kd.C_below HR1.out HZ2.out.bel) (Kd.C_below HR2.out HZ2.out.bel) (gv_below HG0.out HZ2.out.bel) (askedE_ok HE.out.symm).1 (plan_fair (askedE_ok HE.out.symm).2 hg2 hn4) 1 true rfl).mono ?_
      rintro e w4 ⟨rfl, hb⟩
      refine ⟨_, rfl, ?_⟩
      replace HY2 := Aside0.mk ((hb.block _ (Array.getElem?_eq_some_iff.1 HY2.out).1).trans HY2.out)
      replace HZ2 := Aside0.mk (HZ2.out.step hb)
      clear hb
      refine hK.out _ _ ⟨(blk_cell HZ2.out.box 0).trans rfl, (blk_cell HZ2.out.box 1).trans rfl, (blk_cell HZ2.out.box 2).trans rfl, (blk_cell HZ2.out.box 3).trans rfl⟩ (fun hHeld => ?_)
      clear hK K
      refine nm 35 ?_
      refine tk4 HT_ HW_ hHeld 9 (some 37) (bs 13 1023) ?_
      refine pu HT_ 10 (some 38) (bs 13 2047) ?_
      refine last_ (i := 11) (N := none) (bs 13 4095) rfl rfl (one_of HT_.out (by kernel_rfl)) (by decide) (fun K hK => ?_)
      have hy0 := (blk_cell HY2.out 0).trans rfl
      have hy1 := (blk_cell HY2.out 1).trans rfl
      have hy2 := blk_frozen HY2.out 0
      have hy3 := blk_frozen HY2.out 1
      refine skip_ (w1 := ?_) (by rfl) rfl ?_ ?_
      rotate_left
      · go_simp
        rfl
      refine hK.out _ _ ?_
      clear hK K
      refine pu HT_ 12 (some 7) (bs 13 8191) ?_
      refine done_ (done_of HT_.out (by kernel_rfl)) ?_
      clear hy0 hy1 hy2 hy3 e0 e1 hHeld
      have hB := below_set (j := 1) (v := .int .i64 (doneAt l0_1 true a2 l1)) (below_set (j := 0) (v := .int .i64 (doneAt l0_1 false a2 l1)) HZ2.out.bel (Nat.le_succ _)) (Nat.le_succ w.heap.size)
      have BF := blk_set (blk_set HY2.out 0 (.int .i64 (doneAt l0_1 false a2 l1))) 1 (.int .i64 (doneAt l0_1 true a2 l1))
      go_wp2
      generalize World.setCell (World.setCell w4 _ _) _ _ = wz at hB BF ⊢
      have z0 := (blk_cell BF 0).trans rfl
      have z1 := (blk_cell BF 1).trans rfl
      exact bodyPost_ret (v := .tuple #[.agg #[.int .i64 (doneAt l0_1 false a2 l1), .int .i64 (doneAt l0_1 true a2 l1)], .int .i64 0]) (by simp [results, Tryd.results25, go_sem, z0, z1]) rfl ⟨rfl, hB⟩
  · have HE := Aside0.mk hE
    have hE1 : (E == 0) = false := beq_eq_false_iff_ne.2 hE0
    have hE2 : (E != 0) = true := bne_iff_ne.2 hE0
    have HE0 := Aside0.mk hE0
    have h41 : some ((0 : Int), (0 : Int), E) = some (r1, r2, r3) := by rw [← H.out]; unfold gang_Done.f; rw [if_neg (by rw [← hE]; exact hE0), ← hE]
    obtain ⟨rfl, rfl, rfl⟩ : 0 = r1 ∧ 0 = r2 ∧ E = r3 := by simpa using h41
    clear hE hs hE0 h41
    have hyl := (Array.getElem?_eq_some_iff.1 HY1.out).1
    have hy0 := (blk_cell HY1.out 0).trans rfl
    have hy1 := (blk_cell HY1.out 1).trans rfl
    have hy2 := blk_frozen HY1.out 0
    have hy3 := blk_frozen HY1.out 1
    go_wp2
    have hB := (below_set (j := 1) (v := .int .i64 0) (below_set (j := 0) (v := .int .i64 0) HB1.out (Nat.le_succ _)) (Nat.le_succ w.heap.size))
    have BF := blk_set (blk_set HY1.out 0 (.int .i64 0)) 1 (.int .i64 0)
    clear hy0 hy1 hy2 hy3 hyl
    generalize World.setCell (World.setCell w1 _ _) _ _ = wz at hB BF ⊢
    have z0 := (blk_cell (blk_alloc BF (.cells #[.slice B0 n0 d0, .slice B1 n1 d1, .int .i64 m, .map bm] 86)) 0).trans rfl
    have z1 := (blk_cell (blk_alloc BF (.cells #[.slice B0 n0 d0, .slice B1 n1 d1, .int .i64 m, .map bm] 86)) 1).trans rfl
    exact bodyPost_ret (v := .tuple #[.agg #[.int .i64 0, .int .i64 0], .int .i64 E]) (by simp [results, Tryd.results25, go_sem, z0, z1]) rfl ⟨rfl, hB.alloc hB.size _⟩
end Go.Proofs.YtikfghnkbgdbgaaDoor.Q
end
section
namespace Go.Proofs.YtikfghnkbgdbgaaDoor.Q
set_option linter.unusedSimpArgs false
set_option linter.unusedVariables false
open Go.RowKit Go.Proofs.YtikfghnkbgdbgaaDoorW.PrintWords Go.Proofs.YtikfghnkbgdbgaaDoorW.PrintLast Go.Proofs.YtikfghnkbgdbgaaDoorW.PrintMore
theorem DoneIs.grown {w w' : World} {g : Nat} {d0 d1 d2 d3 : Int} (h : DoneIs w g d0 d1 d2 d3) {row : Option Nat} (hg : w.grownBy w' row) (hne : some g ≠ row) : DoneIs w' g d0 d1 d2 d3 := (hg.block _ (Array.getElem?_eq_some_iff.1 h).1 hne).trans h
theorem DoneIs.below {w w' : World} {g : Nat} {d0 d1 d2 d3 : Int} (h : DoneIs w g d0 d1 d2 d3) (hb : Below w.heap.size w w') : DoneIs w' g d0 d1 d2 d3 := (hb.block _ (Array.getElem?_eq_some_iff.1 h).1).trans h
theorem mile_need {ms : List M} {gs : List G} {n : Int} (h : okB ms gs n = true) (i : Int) (h0 : 0 ≤ i) (h1 : i < ms.length) : 1 ≤ (rd_T66 ms i).f0.f1 ∧ (rd_T66 ms i).f0.f1 ≤ 6 := by
  simp only [okB, Bool.and_eq_true] at h
  have hg := h.1.2
  obtain ⟨j, rfl⟩ := Int.eq_ofNat_of_zero_le h0
  have hj : j < ms.length := by omega
  have hx : rd_T66 ms j = ms[j] := by simp [rd_T66, List.getD_eq_getElem?_getD, List.getElem?_eq_getElem hj]
  have := List.all_eq_true.1 hg ms[j] (List.getElem_mem hj)
  rw [hx]
  simp only [spanB, Bool.and_eq_true, decide_eq_true_eq] at this
  omega
theorem mended_none {ms : List M} {gs : List G} {n : Int} {p : List Wk} (h : okB ms gs n = true) (h0 : doneAt gs false 0 p = 0) (h1 : doneAt gs false 1 p = 0) (h2 : doneAt gs false 2 p = 0) (h3 : doneAt gs false 3 p = 0) : mendedL ms gs p = [] := by
  have hm4 := (okB_bounds h).1.2
  unfold mendedL
  rw [List.filter_eq_nil_iff]
  intro i hi
  simp only [upTo, List.mem_map, List.mem_range] at hi
  obtain ⟨j, hj, rfl⟩ := hi
  have hj' : j < ms.length := by simpa using hj
  have := mile_need h (j : Int) (by omega) (by omega)
  obtain rfl | rfl | rfl | rfl : j = 0 ∨ j = 1 ∨ j = 2 ∨ j = 3 := by omega
  all_goals simp at *
  all_goals omega
set_option maxRecDepth 100000 in
theorem equal4_run (x0 x1 x2 x3 y0 y1 y2 y3 : Int) (w : World) :
    (Op.equalIn 10000 97 (.agg #[.int .i64 x0, .int .i64 x1, .int .i64 x2, .int .i64 x3]) (.agg #[.int .i64 y0, .int .i64 y1, .int .i64 y2, .int .i64 y3])).run Tryd.prog w = .ok (x0 == y0 && (x1 == y1 && (x2 == y2 && x3 == y3))) w := by
  have hu : Tryd.prog.underlying 3 = some (.int .i64) := by kernel_rfl
  have hp : Tryd.prog.plainKey 3 = true := by kernel_rfl
  obtain ⟨i, hi⟩ : ∃ i, Tryd.prog.info? 3 = some i := Option.isSome_iff_exists.1 (by kernel_rfl)
  have hc : Tryd.prog.cellsOf 3 = 1 := by kernel_rfl
  have pt : ∀ (xs : Array Value) (off : Nat) (v : Value), xs[off]? = some v → (part 3 xs off).run Tryd.prog w = .ok v w := fun xs off v h => run_part_plain w hp h
  have ei : ∀ x y : Int, (Op.equalIn 9999 3 (.int .i64 x) (.int .i64 y)).run Tryd.prog w = .ok (x == y) w := fun x y => run_equalIn_int w 9998 3 .i64 .i64 x y hu
  rw [run_equalIn_array w 9999 (e := 3) (n := 4) _ _ (by kernel_rfl) hi, hc]
  simp only [show List.range 4 = [0, 1, 2, 3] from rfl, Op.eqItems, Sem.run_bind, Nat.mul_one]
  rw [pt _ 0 (.int .i64 x0) rfl]
  simp only [Result.andThen_ok]
  rw [pt _ 0 (.int .i64 y0) rfl]
  simp only [Result.andThen_ok]
  rw [ei]
  simp only [Result.andThen_ok]
  cases x0 == y0
  · rfl
  · simp only [Bool.not_true, Bool.false_eq_true, if_false, Sem.run_bind, Bool.true_and]
    rw [pt _ 1 (.int .i64 x1) rfl]
    simp only [Result.andThen_ok]
    rw [pt _ 1 (.int .i64 y1) rfl]
    simp only [Result.andThen_ok]
    rw [ei]
    simp only [Result.andThen_ok]
    cases x1 == y1
    · rfl
    · simp only [Bool.not_true, Bool.false_eq_true, if_false, Sem.run_bind, Bool.true_and]
      rw [pt _ 2 (.int .i64 x2) rfl]
      simp only [Result.andThen_ok]
      rw [pt _ 2 (.int .i64 y2) rfl]
      simp only [Result.andThen_ok]
      rw [ei]
      simp only [Result.andThen_ok]
      cases x2 == y2
      · rfl
      · simp only [Bool.not_true, Bool.false_eq_true, if_false, Sem.run_bind, Bool.true_and]
        rw [pt _ 3 (.int .i64 x3) rfl]
        simp only [Result.andThen_ok]
        rw [pt _ 3 (.int .i64 y3) rfl]
        simp only [Result.andThen_ok]
        rw [ei]
        simp only [Result.andThen_ok]
        cases x3 == y3 <;> rfl
def X_mended : Nat := 0
def X_mended.T2 : Bool × List (List Nat × List Nat) := (true, [([], []), ([], []), ([0, 1], [0, 1])])
def X_mended.B2 : List Nat := [0, 0, 3]
theorem X_mended.tab2 : rtab .any (opsOf Tryd.f77 2) = X_mended.T2 := by kernel_rfl
theorem X_mended.bits2 : waitsOk X_mended.T2.2 X_mended.B2 = true := by kernel_rfl
def X_mended.T8 : Bool × List (List Nat × List Nat) := (true, [([], []), ([0], [0]), ([1], [1]), ([], []), ([3], [3]), ([4], [4]), ([2, 5], [2, 5])])
def X_mended.B8 : List Nat := [0, 1, 3, 0, 8, 24, 63]
theorem X_mended.tab8 : rtab .any (opsOf Tryd.f77 8) = X_mended.T8 := by kernel_rfl
theorem X_mended.bits8 : waitsOk X_mended.T8.2 X_mended.B8 = true := by kernel_rfl
set_option maxRecDepth 100000 in
set_option maxHeartbeats 4000000 in
theorem mended_calls (ms : List M) (gs : List G) (A0 : Option Addr) (c0 : Nat) (A1 : Option Addr) (c1 : Nat) (n : Int) (b : Nat) (A2 : Option Addr) (c2 : Nat) (p : List Wk) (w : World) (hr0 : Kd.C k66 w A0 ms.length ms) (hr1 : Kd.C k63 w A1 gs.length gs) (hr2 : Kd.C k59 w A2 p.length p) (hG : GV w) (hok : okB ms gs n = true) (hf : Fair ms gs n p) :
    Calls Tryd.prog 77 #[.agg #[.slice A0 ms.length c0, .slice A1 gs.length c1, .int .i64 n, .map (some b)], .slice A2 p.length c2] w fun e w' =>
      ∃ v, e = .returned v ∧ Kd.R (Kd.int .i64) 3 w' w.heap.size (fun _ => True) v (mendedL ms gs p) ∧ Below w.heap.size w w' := by
  have HR0 := Aside0.mk hr0
  have HR1 := Aside0.mk hr1
  have HR2 := Aside0.mk hr2
  have HG := Aside0.mk hG
  have HO := Aside0.mk hok
  have HF := Aside0.mk hf
  have hbd := okB_bounds hok
  have hm4 := hbd.1.2
  clear hr0 hr1 hr2 hG hok hf hbd
  have HB := Aside0.mk (((Below.refl w.heap.size w).alloc (Nat.le_refl _) (.cells #[.slice A0 ms.length c0, .slice A1 gs.length c1, .int .i64 n, .map (some b)] 86)))
  have HX := Aside0.mk (BoxAt.mk (World.alloc_heap_new w (.cells #[.slice A0 ms.length c0, .slice A1 gs.length c1, .int .i64 n, .map (some b)] 86)) HB.out)
  go_enter Tryd.func77, Tryd.ntmps77
  go_wp2_with (fail)
  refine (works_calls ms gs A0 c0 A1 c1 n b A2 c2 p _ (Kd.C_below HR1.out HB.out) (Kd.C_below HR2.out HB.out) (gv_below HG.out HB.out) HO.out HF.out 0 false rfl).mono ?_
  rintro e w1 ⟨rfl, hb⟩
  have HX1 := Aside0.mk (HX.out.step hb)
  have hsz := hb.size
  rw [World.size_alloc] at hsz
  have hsz' : w.heap.size < w1.heap.size := hsz
  clear hb HX HB hsz
  have HX2 := Aside0.mk (HX1.out.step ((Below.refl _ w1).alloc (Nat.le_refl _) (.cells #[.int .i64 (doneAt gs false 0 p), .int .i64 (doneAt gs false 1 p), .int .i64 (doneAt gs false 2 p), .int .i64 (doneAt gs false 3 p)] 97)))
  have HD2 := Aside0.mk (show DoneIs _ _ _ _ _ _ from World.alloc_heap_new w1 (.cells #[.int .i64 (doneAt gs false 0 p), .int .i64 (doneAt gs false 1 p), .int .i64 (doneAt gs false 2 p), .int .i64 (doneAt gs false 3 p)] 97))
  go_wp2_with (fail)
  replace HX2 := Aside0.mk (HX2.out.step (Below.refl _ _).drew)
  replace HD2 := Aside0.mk (HD2.out.below (Below.refl _ _).drew)
  obtain ⟨r, hr⟩ : ∃ r : Bool, (doneAt gs false 0 p == 0 && (doneAt gs false 1 p == 0 && (doneAt gs false 2 p == 0 && doneAt gs false 3 p == 0))) = r := ⟨_, rfl⟩
  have HE := Aside0.mk hr
  have heq := equal4_run (doneAt gs false 0 p) (doneAt gs false 1 p) (doneAt gs false 2 p) (doneAt gs false 3 p) 0 0 0 0
  rw [hr] at heq
  clear hr
  refine start_ (n := 3) (S := fun w' => w'.cell? ⟨w1.heap.size, 0, none⟩ = some (.int .i64 (doneAt gs false 0 p)) ∧ w'.cell? ⟨w1.heap.size, 1, none⟩ = some (.int .i64 (doneAt gs false 1 p)) ∧ w'.cell? ⟨w1.heap.size, 2, none⟩ = some (.int .i64 (doneAt gs false 2 p)) ∧ w'.cell? ⟨w1.heap.size, 3, none⟩ = some (.int .i64 (doneAt gs false 3 p))) (ds := []) (bs 3 0) (by kernel_rfl) rfl rfl ⟨(blk_cell HD2.out 0).trans rfl, (blk_cell HD2.out 1).trans rfl, (blk_cell HD2.out 2).trans rfl, (blk_cell HD2.out 3).trans rfl⟩ (fun hHeld => ?_)
  refine with_tabW X_mended.tab2 X_mended.bits2 (fun HT_ HW_ => ?_)
  generalize World.drew _ = w3 at HX2 HD2 hHeld ⊢
  refine tk4 HT_ HW_ hHeld 0 (some 12) (bs 3 1) ?_
  refine on HT_ 1 (some 13) (bs 3 3) (fun K hK => ?_)
  refine goes_ Tryd.func94 (by kernel_rfl) rfl #[] (by rfl) rfl rfl (by simp) ?_
  with_reducible refine (undone_calls _).mono ?_
  rintro e w4 ⟨rfl, hb⟩
  refine ⟨_, rfl, ?_⟩
  replace HX2 := Aside0.mk (HX2.out.step hb)
  replace HD2 := Aside0.mk (HD2.out.below hb)
  clear hb
  refine hK.out _ _ ⟨(blk_cell HD2.out 0).trans rfl, (blk_cell HD2.out 1).trans rfl, (blk_cell HD2.out 2).trans rfl, (blk_cell HD2.out 3).trans rfl⟩ (fun hHeld => ?_)
  clear hK K
  refine nm 13 ?_
  refine pu HT_ 2 (some 14) (bs 3 7) ?_
  refine done_ (done_of HT_.out (by kernel_rfl)) ?_
  clear heq hHeld
  cases r with
  | true =>
    have hz := HE.out
    simp only [Bool.and_eq_true, beq_iff_eq] at hz
    have HN := Aside0.mk (mended_none HO.out hz.1 hz.2.1 hz.2.2.1 hz.2.2.2)
    clear hz
    go_wp2
    go_ret
    exact ⟨_, by rfl, by rw [HN.out]; exact Kd.R_nil _ _ _ _ _, HX2.out.bel⟩
  | false =>
    have hx0 := (blk_cell HX2.out.box 0).trans rfl
    go_wp2_with (fail)
    clear hx0
    go_loopw [6, 19] (fun v6 v19 wr => ∃ k : Nat, k ≤ ms.length ∧ v19 = .int .i64 k ∧ Aside0 (Kd.R (Kd.int .i64) 3 wr w.heap.size (fun _ => True) v6 ((upTo k).filter (fun i => decide (doneAt gs false i p ≥ (rd_T66 ms i).f0.f1)))) ∧
      Aside0 (DoneIs wr w1.heap.size (doneAt gs false 0 p) (doneAt gs false 1 p) (doneAt gs false 2 p) (doneAt gs false 3 p)) ∧ Aside0 (BoxAt w wr A0 ms.length c0 A1 gs.length c1 n b w.heap.size)) (fun _ v19 _ => ms.length - (intOf v19).toNat)
    case atStart => exact ⟨0, Nat.zero_le _, rfl, ⟨Kd.R_nil _ _ _ _ _⟩, HD2, HX2⟩
    case round =>
      obtain ⟨k, hk, rfl, HR, HD, HX⟩ := hrel
      by_cases hlt : k < ms.length
      · obtain ⟨am, hA, hx0, hx1, hx2⟩ := at_T66 (Kd.C_below HR0.out HX.out.bel) (k : Int) (by omega) (by omega)
        rw [Int.toNat_natCast] at hx0 hx1 hx2
        subst hA
        go_wp2_with (fail)
        clear hx0 hx1 hx2
        have bl := ((Below.refl wr.heap.size wr).alloc (Nat.le_refl _) (.cells #[.int .i64 (rd_T66 ms k).f0.f0, .int .i64 (rd_T66 ms k).f0.f1, .int .i64 (rd_T66 ms k).f1] 66)).drew
        have HC := Aside0.mk (show (wr.alloc (.cells #[.int .i64 (rd_T66 ms k).f0.f0, .int .i64 (rd_T66 ms k).f0.f1, .int .i64 (rd_T66 ms k).f1] 66)).drew.heap[wr.heap.size]? = _ from World.alloc_heap_new _ _)
        have HXX := Aside0.mk (HX.out.step bl)
        have HDD := Aside0.mk (HD.out.below bl)
        have HRR := Aside0.mk (Kd.R_below HR.out bl)
        have hd := (HDD.out.cell (k : Int) (by omega) (by omega)).1
        rw [pick_done _ _ _ _ (by omega) (by omega), Int.toNat_natCast] at hd
        have HDC := Aside0.mk hd
        clear bl hd
        have hk4 : (k : Int) < 4 := by omega
        refine start_ (n := 7) (S := fun w' => w'.cell? ⟨w1.heap.size, k, none⟩ = some (.int .i64 (doneAt gs false k p)) ∧ w'.cell? ⟨wr.heap.size, 1, none⟩ = some (.int .i64 (rd_T66 ms k).f0.f1)) (ds := []) (bs 7 0) (by kernel_rfl) rfl rfl ⟨HDC.out, (blk_cell HC.out 1).trans rfl⟩ (fun hHeld => ?_)
        refine with_tabW X_mended.tab8 X_mended.bits8 (fun HT_ HW_ => ?_)
        generalize World.drew _ = w5 at HC HXX HDD HRR HDC hHeld ⊢
        refine pu HT_ 0 (some 24) (bs 7 1) ?_
        refine pu HT_ 1 (some 25) (bs 7 3) ?_
        refine pu HT_ 3 (some 27) (bs 7 11) ?_
        refine pu HT_ 4 (some 28) (bs 7 27) ?_
        refine tk2 HT_ HW_ hHeld 2 (some 26) (bs 7 31) ?_
        refine tk2 HT_ HW_ hHeld 5 (some 29) (bs 7 63) ?_
        refine pu HT_ 6 (some 30) (bs 7 127) ?_
        refine done_ (done_of HT_.out (by kernel_rfl)) ?_
        clear hHeld
        have HS := Aside0.mk (filter_snoc (fun i => decide (doneAt gs false i p ≥ (rd_T66 ms i).f0.f1)) k)
        have hlen := filter_len (fun i => decide (doneAt gs false i p ≥ (rd_T66 ms i).f0.f1)) k
        cases hc : decide (doneAt gs false k p ≥ (rd_T66 ms k).f0.f1) with
        | false =>
          have HCC := Aside0.mk hc
          have hc1 : decide ((rd_T66 ms k).f0.f1 ≤ doneAt gs false k p) = false := hc
          clear hc
          go_wp2
          go_roundw
          case rel => exact ⟨k + 1, by omega, by go_num, ⟨by rw [HS.out, if_neg (by rw [HCC.out]; simp), List.append_nil]; exact HRR.out⟩, HDD, HXX⟩
          case measure => simp [intOf]; omega
        | true =>
          have HCC := Aside0.mk hc
          have hc1 : decide ((rd_T66 ms k).f0.f1 ≤ doneAt gs false k p) = true := hc
          clear hc
          go_wp2_with (first | (at_builtin; refine Kd.R_append (Kd.int .i64) (w0 := w) w.heap.size rfl (.tmp 31) (.tmp 33) 28 3 (.int .i64 0) 8 rfl Tryd.underlying28 info3 rfl (by decide) (by omega) u6 ((upTo k).filter (fun i => decide (doneAt gs false i p ≥ (rd_T66 ms i).f0.f1))) (k : Int) [.int .i64 k] (fun _ => True) (fun _ => False) rfl rfl ?aP (fun _ hk => hk.elim) ?aF ?aO ?aB ?aS ?aL ?_))
          case aP => exact rfl
          case aF => exact fun _ _ => trivial
          case aO => exact HRR.out
          case aB => exact HXX.out.bel
          case aS => exact HXX.out.bel.size
          case aL => omega
          intro v1 w6 ho hb hg hat
          have HD6 := Aside0.mk (HDD.out.grown hg (Kd.R_ne HRR.out HDD.out (by decide)))
          have HX6 := Aside0.mk (HXX.out.grown hg (Kd.R_ne HRR.out HXX.out.box (by decide)) hb)
          have HR6 := Aside0.mk ho
          clear hlen hb hg hat ho
          go_wp2
          go_roundw
          case rel => exact ⟨k + 1, by omega, by go_num, ⟨by rw [HS.out, if_pos HCC.out]; exact HR6.out⟩, HD6, HX6⟩
          case measure => simp [intOf]; omega
      · obtain rfl : k = ms.length := by omega
        obtain ⟨A, c, hv⟩ := Kd.R_slice HR.out
        subst hv
        go_wp2
        go_ret
        exact ⟨_, by rfl, HR.out, HX.out.bel⟩
end Go.Proofs.YtikfghnkbgdbgaaDoor.Q
end
section
namespace Go.Proofs.YtikfghnkbgdbgaaDoor.L
open Go.RowKit Go.Proofs.YtikfghnkbgdbgaaDoorW.PrintWords Go.Proofs.YtikfghnkbgdbgaaDoorW.PrintLast Go.Proofs.YtikfghnkbgdbgaaDoorW.PrintMore
attribute [local go_sem] max2_int min2_int max_two min_two max_three min_three max_four min_four   -- for this text's walks alone
set_option linter.unusedVariables false
set_option linter.unusedSimpArgs false
def errW : Option Int → Value
 | none => .nilIface
 | some c => .iface 0 (.int .i64 c)
theorem errW_none : errW none = .nilIface := rfl
theorem errW_some (c : Int) : errW (some c) = .iface 0 (.int .i64 c) := rfl
end Go.Proofs.YtikfghnkbgdbgaaDoor.L
end
section
namespace Go.Proofs.YtikfghnkbgdbgaaDoor.L
open Go.RowKit Go.Proofs.YtikfghnkbgdbgaaDoorW.PrintWords Go.Proofs.YtikfghnkbgdbgaaDoorW.PrintLast Go.Proofs.YtikfghnkbgdbgaaDoorW.PrintMore
attribute [local go_sem] max2_int min2_int max_two min_two max_three min_three max_four min_four   -- for this text's walks alone
set_option linter.unusedVariables false
set_option linter.unusedSimpArgs false
def slices_Index_int_int.l0 : Nat → List Int → Int → Int → Int → Option (Int)
 | 0, _, _, _, _ => none
 | k + 1, x0, x1, x7, x8 => if x8 < x7 then (if 0 ≤ x8 then (if x8 < (x0.length : Int) then (if x1 = (rd x0 x8) then (some x8) else (slices_Index_int_int.l0 k x0 x1 x7 (wrap64 (x8 + 1)))) else (none)) else (none)) else (some (-1))
def slices_Index_int_int.f (k : Nat) (l0 : List Int) (a1 : Int) : Option (Int) := slices_Index_int_int.l0 k l0 a1 (l0.length : Int) 0
set_option maxHeartbeats 8000000 in
set_option maxRecDepth 100000 in
theorem slices_Index_int_int.calls (k : Nat) (A0 : Option Addr) (c0 : Nat) (l0 : List Int) (a1 : Int) (r : Int) (w : World) (hr0 : Kd.C (Kd.int .i64) w A0 l0.length l0) (hc0 : l0.length ≤ c0) (h : slices_Index_int_int.f k l0 a1 = some r) :
  Calls Tryd.prog 96 #[.slice A0 l0.length c0, .int .i64 a1] w fun e w' => e = .returned (.int .i64 r) ∧ Drawn0 w w' := by
 have HR0 := Aside0.mk hr0
 have HC0 := Aside0.mk hc0
 clear hr0 hc0
 have H : (slices_Index_int_int.l0 k l0 a1 (l0.length : Int) 0) = some r := h
 clear h
 have H' := Aside0.mk H
 clear H
 go_enter Tryd.func96, Tryd.ntmps96
 go_wp2
 go_loopg [8] k (fun kq v8 w' => ∃ (x8_1 : Int), v8 = .int .i64 x8_1 ∧ Aside0 (slices_Index_int_int.l0 kq l0 a1 (l0.length : Int) x8_1 = some r) ∧ Aside0 (kq ≤ k) ∧ Drawn0 w w')
 case atStart => exact ⟨(0), (by first | rfl | (simp; done) | (simp [*]; done)), H', ⟨Nat.le_refl _⟩, by repeat (first | exact Drawn0.refl _ | apply Drawn0.step)⟩
 case round =>
  clear H'
  try clear p2
  obtain ⟨x8_1, rfl, HA, HK1, ⟨m1, rfl⟩⟩ := hrel
  cases gk with
  | zero => exact absurd HA.out (by simp [slices_Index_int_int.l0])
  | succ k1 =>
   have H := HA.out
   clear HA
   simp only [slices_Index_int_int.l0] at H
   by_cases c3 : x8_1 < (l0.length : Int)
   ·rw [if_pos c3] at H
    have c3b0 : decide (x8_1 < (l0.length : Int)) = true := decide_eq_true c3
    clear c3
    by_cases c4 : 0 ≤ x8_1
    ·rw [if_pos c4] at H
     have c4b0 : decide (0 ≤ x8_1) = true := decide_eq_true c4
     clear c4
     by_cases c5 : x8_1 < (l0.length : Int)
     ·rw [if_pos c5] at H
      have c5b0 : decide (x8_1 < (l0.length : Int)) = true := decide_eq_true c5
      clear c5
      by_cases c6 : a1 = (rd l0 x8_1)
      ·rw [if_pos c6] at H
       have c6b0 : (a1 == (rd l0 x8_1)) = true := beq_iff_eq.mpr c6
       have c6b1 : (a1 != (rd l0 x8_1)) = false := bne_eq_false_iff_eq.mpr c6
       clear c6
       obtain rfl := Option.some.inj H
       have p101 : 0 ≤ (x8_1 : Int) := of_decide_eq_true (by first | (with_reducible assumption) | assumption)
       have q101 : x8_1 < (l0.length : Int) := of_decide_eq_true (by first | (with_reducible assumption) | assumption)
       obtain ⟨ad101, e101, hx101_0⟩ := Kd.at_int HR0.out x8_1 p101 q101
       cases e101
       replace p101 := eq_true p101
       replace q101 := eq_true q101
       go_wp2
       go_ret
       exact ⟨by first | rfl | (simp; done) | (simp [*]; done), by repeat (first | exact Drawn0.refl _ | apply Drawn0.step)⟩
      ·rw [if_neg c6] at H
       have c6b0 : (a1 == (rd l0 x8_1)) = false := beq_eq_false_iff_ne.mpr c6
       have c6b1 : (a1 != (rd l0 x8_1)) = true := bne_iff_ne.mpr c6
       have H' := Aside0.mk H
       clear H
       have p101 : 0 ≤ (x8_1 : Int) := of_decide_eq_true (by first | (with_reducible assumption) | assumption)
       have q101 : x8_1 < (l0.length : Int) := of_decide_eq_true (by first | (with_reducible assumption) | assumption)
       obtain ⟨ad101, e101, hx101_0⟩ := Kd.at_int HR0.out x8_1 p101 q101
       cases e101
       replace p101 := eq_true p101
       replace q101 := eq_true q101
       go_wp2
       go_roundg k1
       case measure => have := HK1.out; omega
       case rel => exact ⟨(wrap64 (x8_1 + 1)), (by first | rfl | (simp; done) | (simp [*]; done)), H', ⟨by have := HK1.out; omega⟩, by repeat (first | exact Drawn0.refl _ | apply Drawn0.step)⟩
     ·rw [if_neg c5] at H
      exact absurd H (by simp)
    ·rw [if_neg c4] at H
     exact absurd H (by simp)
   ·rw [if_neg c3] at H
    have c3b0 : decide (x8_1 < (l0.length : Int)) = false := decide_eq_false c3
    clear c3
    obtain rfl := Option.some.inj H
    go_wp2
    go_ret
    exact ⟨by first | rfl | (simp; done) | (simp [*]; done), by repeat (first | exact Drawn0.refl _ | apply Drawn0.step)⟩
def slices_Contains_int_int.f (k : Nat) (l0 : List Int) (a1 : Int) : Option (Bool) := (slices_Index_int_int.f k l0 a1).bind fun t102 => (some (decide (t102 ≥ 0)))
set_option maxHeartbeats 8000000 in
set_option maxRecDepth 100000 in
theorem slices_Contains_int_int.calls (k : Nat) (A0 : Option Addr) (c0 : Nat) (l0 : List Int) (a1 : Int) (r : Bool) (w : World) (hr0 : Kd.C (Kd.int .i64) w A0 l0.length l0) (hc0 : l0.length ≤ c0) (h : slices_Contains_int_int.f k l0 a1 = some r) :
  Calls Tryd.prog 79 #[.slice A0 l0.length c0, .int .i64 a1] w fun e w' => e = .returned (.bool r) ∧ Drawn0 w w' := by
 have HR0 := Aside0.mk hr0
 have HC0 := Aside0.mk hc0
 clear hr0 hc0
 have H : ((slices_Index_int_int.f k l0 a1).bind fun t102 => (some (decide (t102 ≥ 0)))) = some r := h
 clear h
 replace H := Option.bind_eq_some_iff.mp H
 obtain ⟨t102, A30, H⟩ := H
 replace H : (some (decide (t102 ≥ 0))) = some r := H
 have A3 := Aside0.mk A30
 clear A30
 obtain rfl := Option.some.inj H
 go_enter Tryd.func79, Tryd.ntmps79
 go_wp2_with (first | ((with_reducible refine gate_callee (f := 96) rfl ?_); refine gL (some 7) Tryd.func96 #[.slice A0 l0.length c0, .int .i64 a1] ?_; (with_reducible refine (slices_Index_int_int.calls k _ _ l0 a1 t102 _ ?side1 ?side2 A3.out).mono ?_); (case side1 => repeat (first | exact HR0.out | (with_reducible refine Kd.C_alloc ?_ _) | (with_reducible refine Kd.C_drewN ?_ _) | (with_reducible refine Kd.C_drew ?_))); (case side2 => exact HC0.out); rintro e w' ⟨rfl, ⟨nd, rfl⟩⟩; refine ⟨_, rfl, ?_⟩))
 go_ret
 exact ⟨by first | rfl | (simp; done) | (simp [*]; done), by repeat (first | exact Drawn0.refl _ | apply Drawn0.step)⟩
def cmp_isNaN_int.f (a0 : Int) : Option (Bool) := some (a0 != a0)
set_option maxHeartbeats 8000000 in
set_option maxRecDepth 100000 in
theorem cmp_isNaN_int.calls (a0 : Int) (r : Bool) (w : World) (h : cmp_isNaN_int.f a0 = some r) :
  Calls Tryd.prog 115 #[.int .i64 a0] w fun e w' => e = .returned (.bool r) ∧ Drawn0 w w' := by
 have H : (some (a0 != a0)) = some r := h
 clear h
 obtain rfl := Option.some.inj H
 go_enter Tryd.func115, Tryd.ntmps115
 go_wp2
 go_ret
 exact ⟨by first | rfl | (simp; done) | (simp [*]; done), by repeat (first | exact Drawn0.refl _ | apply Drawn0.step)⟩
def cmp_Compare_int.f (a0 : Int) (a1 : Int) : Option (Int) := (cmp_isNaN_int.f a0).bind fun t103 => ((cmp_isNaN_int.f a1).bind fun t104 => (if t103 = true then (if t104 = true then (some 0) else (some (-1))) else (if t104 = true then (some 1) else (if a0 < a1 then (some (-1)) else (if a0 > a1 then (some 1) else (some 0))))))
set_option maxHeartbeats 8000000 in
set_option maxRecDepth 100000 in
theorem cmp_Compare_int.calls (a0 : Int) (a1 : Int) (r : Int) (w : World) (h : cmp_Compare_int.f a0 a1 = some r) :
  Calls Tryd.prog 103 #[.int .i64 a0, .int .i64 a1] w fun e w' => e = .returned (.int .i64 r) ∧ Drawn0 w w' := by
 have H : ((cmp_isNaN_int.f a0).bind fun t103 => ((cmp_isNaN_int.f a1).bind fun t104 => (if t103 = true then (if t104 = true then (some 0) else (some (-1))) else (if t104 = true then (some 1) else (if a0 < a1 then (some (-1)) else (if a0 > a1 then (some 1) else (some 0))))))) = some r := h
 clear h
 replace H := Option.bind_eq_some_iff.mp H
 obtain ⟨t103, A30, H⟩ := H
 replace H : ((cmp_isNaN_int.f a1).bind fun t104 => (if t103 = true then (if t104 = true then (some 0) else (some (-1))) else (if t104 = true then (some 1) else (if a0 < a1 then (some (-1)) else (if a0 > a1 then (some 1) else (some 0)))))) = some r := H
 have A3 := Aside0.mk A30
 clear A30
 replace H := Option.bind_eq_some_iff.mp H
 obtain ⟨t104, A40, H⟩ := H
 replace H : (if t103 = true then (if t104 = true then (some 0) else (some (-1))) else (if t104 = true then (some 1) else (if a0 < a1 then (some (-1)) else (if a0 > a1 then (some 1) else (some 0))))) = some r := H
 have A4 := Aside0.mk A40
 clear A40
 by_cases c5 : t103 = true
 ·subst c5
  have H1 : (if t104 = true then (some 0) else (some (-1))) = some r := by rw [if_pos rfl] at H; exact H
  clear H
  have H := H1
  clear H1
  by_cases c6 : t104 = true
  ·subst c6
   have H1 : (some 0) = some r := by rw [if_pos rfl] at H; exact H
   clear H
   have H := H1
   clear H1
   obtain rfl := Option.some.inj H
   go_enter Tryd.func103, Tryd.ntmps103
   go_wp2_with (first | ((with_reducible refine gate_callee (f := 115) rfl ?_); refine gL (some 8) Tryd.func115 #[.int .i64 a0] ?_; (with_reducible refine (cmp_isNaN_int.calls a0 true _ A3.out).mono ?_); rintro e w' ⟨rfl, ⟨nd, rfl⟩⟩; refine ⟨_, rfl, ?_⟩) | ((with_reducible refine gate_callee (f := 115) rfl ?_); refine gL (some 10) Tryd.func115 #[.int .i64 a1] ?_; (with_reducible refine (cmp_isNaN_int.calls a1 true _ A4.out).mono ?_); rintro e w' ⟨rfl, ⟨nd, rfl⟩⟩; refine ⟨_, rfl, ?_⟩))
   go_ret
   exact ⟨by first | rfl | (simp; done) | (simp [*]; done), by repeat (first | exact Drawn0.refl _ | apply Drawn0.step)⟩
  ·replace c6 := Bool.eq_false_iff.mpr c6
   subst c6
   have H1 : (some (-1)) = some r := by rw [if_neg (show ¬ (false = true) by decide)] at H; exact H
   clear H
   have H := H1
   clear H1
   obtain rfl := Option.some.inj H
   go_enter Tryd.func103, Tryd.ntmps103
   go_wp2_with (first | ((with_reducible refine gate_callee (f := 115) rfl ?_); refine gL (some 8) Tryd.func115 #[.int .i64 a0] ?_; (with_reducible refine (cmp_isNaN_int.calls a0 true _ A3.out).mono ?_); rintro e w' ⟨rfl, ⟨nd, rfl⟩⟩; refine ⟨_, rfl, ?_⟩) | ((with_reducible refine gate_callee (f := 115) rfl ?_); refine gL (some 10) Tryd.func115 #[.int .i64 a1] ?_; (with_reducible refine (cmp_isNaN_int.calls a1 false _ A4.out).mono ?_); rintro e w' ⟨rfl, ⟨nd, rfl⟩⟩; refine ⟨_, rfl, ?_⟩))
   go_ret
   exact ⟨by first | rfl | (simp; done) | (simp [*]; done), by repeat (first | exact Drawn0.refl _ | apply Drawn0.step)⟩
 ·replace c5 := Bool.eq_false_iff.mpr c5
  subst c5
  have H1 : (if t104 = true then (some 1) else (if a0 < a1 then (some (-1)) else (if a0 > a1 then (some 1) else (some 0)))) = some r := by rw [if_neg (show ¬ (false = true) by decide)] at H; exact H
  clear H
  have H := H1
  clear H1
  by_cases c7 : t104 = true
  ·subst c7
   have H1 : (some 1) = some r := by rw [if_pos rfl] at H; exact H
   clear H
   have H := H1
   clear H1
   obtain rfl := Option.some.inj H
   go_enter Tryd.func103, Tryd.ntmps103
   go_wp2_with (first | ((with_reducible refine gate_callee (f := 115) rfl ?_); refine gL (some 8) Tryd.func115 #[.int .i64 a0] ?_; (with_reducible refine (cmp_isNaN_int.calls a0 false _ A3.out).mono ?_); rintro e w' ⟨rfl, ⟨nd, rfl⟩⟩; refine ⟨_, rfl, ?_⟩) | ((with_reducible refine gate_callee (f := 115) rfl ?_); refine gL (some 10) Tryd.func115 #[.int .i64 a1] ?_; (with_reducible refine (cmp_isNaN_int.calls a1 true _ A4.out).mono ?_); rintro e w' ⟨rfl, ⟨nd, rfl⟩⟩; refine ⟨_, rfl, ?_⟩))
   go_ret
   exact ⟨by first | rfl | (simp; done) | (simp [*]; done), by repeat (first | exact Drawn0.refl _ | apply Drawn0.step)⟩
  ·replace c7 := Bool.eq_false_iff.mpr c7
   subst c7
   have H1 : (if a0 < a1 then (some (-1)) else (if a0 > a1 then (some 1) else (some 0))) = some r := by rw [if_neg (show ¬ (false = true) by decide)] at H; exact H
   clear H
   have H := H1
   clear H1
   by_cases c8 : a0 < a1
   ·rw [if_pos c8] at H
    have c8b0 : decide (a0 < a1) = true := decide_eq_true c8
    clear c8
    obtain rfl := Option.some.inj H
    go_enter Tryd.func103, Tryd.ntmps103
    go_wp2_with (first | ((with_reducible refine gate_callee (f := 115) rfl ?_); refine gL (some 8) Tryd.func115 #[.int .i64 a0] ?_; (with_reducible refine (cmp_isNaN_int.calls a0 false _ A3.out).mono ?_); rintro e w' ⟨rfl, ⟨nd, rfl⟩⟩; refine ⟨_, rfl, ?_⟩) | ((with_reducible refine gate_callee (f := 115) rfl ?_); refine gL (some 10) Tryd.func115 #[.int .i64 a1] ?_; (with_reducible refine (cmp_isNaN_int.calls a1 false _ A4.out).mono ?_); rintro e w' ⟨rfl, ⟨nd, rfl⟩⟩; refine ⟨_, rfl, ?_⟩))
    go_ret
    exact ⟨by first | rfl | (simp; done) | (simp [*]; done), by repeat (first | exact Drawn0.refl _ | apply Drawn0.step)⟩
   ·rw [if_neg c8] at H
    have c8b0 : decide (a0 < a1) = false := decide_eq_false c8
    clear c8
    by_cases c9 : a0 > a1
    ·rw [if_pos c9] at H
     have c9b0 : decide (a1 < a0) = true := decide_eq_true c9
     clear c9
     obtain rfl := Option.some.inj H
     go_enter Tryd.func103, Tryd.ntmps103
     go_wp2_with (first | ((with_reducible refine gate_callee (f := 115) rfl ?_); refine gL (some 8) Tryd.func115 #[.int .i64 a0] ?_; (with_reducible refine (cmp_isNaN_int.calls a0 false _ A3.out).mono ?_); rintro e w' ⟨rfl, ⟨nd, rfl⟩⟩; refine ⟨_, rfl, ?_⟩) | ((with_reducible refine gate_callee (f := 115) rfl ?_); refine gL (some 10) Tryd.func115 #[.int .i64 a1] ?_; (with_reducible refine (cmp_isNaN_int.calls a1 false _ A4.out).mono ?_); rintro e w' ⟨rfl, ⟨nd, rfl⟩⟩; refine ⟨_, rfl, ?_⟩))
     go_ret
     exact ⟨by first | rfl | (simp; done) | (simp [*]; done), by repeat (first | exact Drawn0.refl _ | apply Drawn0.step)⟩
    ·rw [if_neg c9] at H
     have c9b0 : decide (a1 < a0) = false := decide_eq_false c9
     clear c9
     obtain rfl := Option.some.inj H
     go_enter Tryd.func103, Tryd.ntmps103
     go_wp2_with (first | ((with_reducible refine gate_callee (f := 115) rfl ?_); refine gL (some 8) Tryd.func115 #[.int .i64 a0] ?_; (with_reducible refine (cmp_isNaN_int.calls a0 false _ A3.out).mono ?_); rintro e w' ⟨rfl, ⟨nd, rfl⟩⟩; refine ⟨_, rfl, ?_⟩) | ((with_reducible refine gate_callee (f := 115) rfl ?_); refine gL (some 10) Tryd.func115 #[.int .i64 a1] ?_; (with_reducible refine (cmp_isNaN_int.calls a1 false _ A4.out).mono ?_); rintro e w' ⟨rfl, ⟨nd, rfl⟩⟩; refine ⟨_, rfl, ?_⟩))
     go_ret
     exact ⟨by first | rfl | (simp; done) | (simp [*]; done), by repeat (first | exact Drawn0.refl _ | apply Drawn0.step)⟩
def slices_Compare_int_int.l0 : Nat → List Int → List Int → List Int → Int → Int → Option (Int)
 | 0, _, _, _, _, _ => none
 | k + 1, x0, x1, x9, x10, x11 => if x11 < x10 then (if 0 ≤ x11 then (if x11 < (x9.length : Int) then (if x11 ≥ (x1.length : Int) then (some 1) else (if x11 < (x1.length : Int) then ((cmp_Compare_int.f (rd x9 x11) (rd x1 x11)).bind fun t107 => (if t107 = 0 then (slices_Compare_int_int.l0 k x0 x1 x9 x10 (wrap64 (x11 + 1))) else (some t107))) else (none))) else (none)) else (none)) else (if (x0.length : Int) < (x1.length : Int) then (some (-1)) else (some 0))
def slices_Compare_int_int.f (k : Nat) (l0 : List Int) (l1 : List Int) : Option (Int) := slices_Compare_int_int.l0 k l0 l1 l0 (l0.length : Int) 0
set_option maxHeartbeats 8000000 in
set_option maxRecDepth 100000 in
theorem slices_Compare_int_int.calls (k : Nat) (A0 : Option Addr) (c0 : Nat) (l0 : List Int) (A1 : Option Addr) (c1 : Nat) (l1 : List Int) (r : Int) (w : World) (hr0 : Kd.C (Kd.int .i64) w A0 l0.length l0) (hc0 : l0.length ≤ c0) (hr1 : Kd.C (Kd.int .i64) w A1 l1.length l1) (hc1 : l1.length ≤ c1) (h : slices_Compare_int_int.f k l0 l1 = some r) :
  Calls Tryd.prog 85 #[.slice A0 l0.length c0, .slice A1 l1.length c1] w fun e w' => e = .returned (.int .i64 r) ∧ Drawn0 w w' := by
 have HR0 := Aside0.mk hr0
 have HC0 := Aside0.mk hc0
 clear hr0 hc0
 have HR1 := Aside0.mk hr1
 have HC1 := Aside0.mk hc1
 clear hr1 hc1
 have H : (slices_Compare_int_int.l0 k l0 l1 l0 (l0.length : Int) 0) = some r := h
 clear h
 have H' := Aside0.mk H
 clear H
 go_enter Tryd.func85, Tryd.ntmps85
 go_wp2
 go_loopg [11] k (fun kq v11 w' => ∃ (x11_1 : Int), v11 = .int .i64 x11_1 ∧ Aside0 (slices_Compare_int_int.l0 kq l0 l1 l0 (l0.length : Int) x11_1 = some r) ∧ Aside0 (kq ≤ k) ∧ Drawn0 w w')
 case atStart => exact ⟨(0), (by first | rfl | (simp; done) | (simp [*]; done)), H', ⟨Nat.le_refl _⟩, by repeat (first | exact Drawn0.refl _ | apply Drawn0.step)⟩
 case round =>
  clear H'
  try clear c1
  try clear p2
  obtain ⟨x11_1, rfl, HA, HK1, ⟨m1, rfl⟩⟩ := hrel
  cases gk with
  | zero => exact absurd HA.out (by simp [slices_Compare_int_int.l0])
  | succ k1 =>
   have H := HA.out
   clear HA
   simp only [slices_Compare_int_int.l0] at H
   by_cases c3 : x11_1 < (l0.length : Int)
   ·rw [if_pos c3] at H
    have c3b0 : decide (x11_1 < (l0.length : Int)) = true := decide_eq_true c3
    clear c3
    by_cases c4 : 0 ≤ x11_1
    ·rw [if_pos c4] at H
     have c4b0 : decide (0 ≤ x11_1) = true := decide_eq_true c4
     clear c4
     by_cases c5 : x11_1 < (l0.length : Int)
     ·rw [if_pos c5] at H
      have c5b0 : decide (x11_1 < (l0.length : Int)) = true := decide_eq_true c5
      clear c5
      by_cases c6 : x11_1 ≥ (l1.length : Int)
      ·rw [if_pos c6] at H
       have c6b0 : decide ((l1.length : Int) ≤ x11_1) = true := decide_eq_true c6
       clear c6
       obtain rfl := Option.some.inj H
       have p105 : 0 ≤ (x11_1 : Int) := of_decide_eq_true (by first | (with_reducible assumption) | assumption)
       have q105 : x11_1 < (l0.length : Int) := of_decide_eq_true (by first | (with_reducible assumption) | assumption)
       obtain ⟨ad105, e105, hx105_0⟩ := Kd.at_int HR0.out x11_1 p105 q105
       cases e105
       replace p105 := eq_true p105
       replace q105 := eq_true q105
       go_wp2
       go_ret
       exact ⟨by first | rfl | (simp; done) | (simp [*]; done), by repeat (first | exact Drawn0.refl _ | apply Drawn0.step)⟩
      ·rw [if_neg c6] at H
       have c6b0 : decide ((l1.length : Int) ≤ x11_1) = false := decide_eq_false c6
       clear c6
       by_cases c7 : x11_1 < (l1.length : Int)
       ·rw [if_pos c7] at H
        have c7b0 : decide (x11_1 < (l1.length : Int)) = true := decide_eq_true c7
        clear c7
        replace H := Option.bind_eq_some_iff.mp H
        obtain ⟨t107, A80, H⟩ := H
        replace H : (if t107 = 0 then (slices_Compare_int_int.l0 k1 l0 l1 l0 (l0.length : Int) (wrap64 (x11_1 + 1))) else (some t107)) = some r := H
        have A8 := Aside0.mk A80
        clear A80
        by_cases c9 : t107 = 0
        ·rw [if_pos c9] at H
         have c9b0 : (t107 == 0) = true := beq_iff_eq.mpr c9
         have c9b1 : (t107 != 0) = false := bne_eq_false_iff_eq.mpr c9
         clear c9
         have H' := Aside0.mk H
         clear H
         have p105 : 0 ≤ (x11_1 : Int) := of_decide_eq_true (by first | (with_reducible assumption) | assumption)
         have q105 : x11_1 < (l0.length : Int) := of_decide_eq_true (by first | (with_reducible assumption) | assumption)
         obtain ⟨ad105, e105, hx105_0⟩ := Kd.at_int HR0.out x11_1 p105 q105
         cases e105
         replace p105 := eq_true p105
         replace q105 := eq_true q105
         have p106 : 0 ≤ (x11_1 : Int) := of_decide_eq_true (by first | (with_reducible assumption) | assumption)
         have q106 : x11_1 < (l1.length : Int) := of_decide_eq_true (by first | (with_reducible assumption) | assumption)
         obtain ⟨ad106, e106, hx106_0⟩ := Kd.at_int HR1.out x11_1 p106 q106
         cases e106
         replace p106 := eq_true p106
         replace q106 := eq_true q106
         go_wp2_with (first | ((with_reducible refine gate_callee (f := 103) rfl ?_); refine gL (some 26) Tryd.func103 #[.int .i64 (rd l0 x11_1), .int .i64 (rd l1 x11_1)] ?_; (with_reducible refine (cmp_Compare_int.calls (rd l0 x11_1) (rd l1 x11_1) t107 _ A8.out).mono ?_); rintro e w' ⟨rfl, ⟨nd, rfl⟩⟩; refine ⟨_, rfl, ?_⟩))
         go_roundg k1
         case measure => have := HK1.out; omega
         case rel => exact ⟨(wrap64 (x11_1 + 1)), (by first | rfl | (simp; done) | (simp [*]; done)), H', ⟨by have := HK1.out; omega⟩, by repeat (first | exact Drawn0.refl _ | apply Drawn0.step)⟩
        ·rw [if_neg c9] at H
         have c9b0 : (t107 == 0) = false := beq_eq_false_iff_ne.mpr c9
         have c9b1 : (t107 != 0) = true := bne_iff_ne.mpr c9
         obtain rfl := Option.some.inj H
         have p105 : 0 ≤ (x11_1 : Int) := of_decide_eq_true (by first | (with_reducible assumption) | assumption)
         have q105 : x11_1 < (l0.length : Int) := of_decide_eq_true (by first | (with_reducible assumption) | assumption)
         obtain ⟨ad105, e105, hx105_0⟩ := Kd.at_int HR0.out x11_1 p105 q105
         cases e105
         replace p105 := eq_true p105
         replace q105 := eq_true q105
         have p106 : 0 ≤ (x11_1 : Int) := of_decide_eq_true (by first | (with_reducible assumption) | assumption)
         have q106 : x11_1 < (l1.length : Int) := of_decide_eq_true (by first | (with_reducible assumption) | assumption)
         obtain ⟨ad106, e106, hx106_0⟩ := Kd.at_int HR1.out x11_1 p106 q106
         cases e106
         replace p106 := eq_true p106
         replace q106 := eq_true q106
         go_wp2_with (first | ((with_reducible refine gate_callee (f := 103) rfl ?_); refine gL (some 26) Tryd.func103 #[.int .i64 (rd l0 x11_1), .int .i64 (rd l1 x11_1)] ?_; (with_reducible refine (cmp_Compare_int.calls (rd l0 x11_1) (rd l1 x11_1) t107 _ A8.out).mono ?_); rintro e w' ⟨rfl, ⟨nd, rfl⟩⟩; refine ⟨_, rfl, ?_⟩))
         go_ret
         exact ⟨by first | rfl | (simp; done) | (simp [*]; done), by repeat (first | exact Drawn0.refl _ | apply Drawn0.step)⟩
       ·rw [if_neg c7] at H
        exact absurd H (by simp)
     ·rw [if_neg c5] at H
      exact absurd H (by simp)
    ·rw [if_neg c4] at H
     exact absurd H (by simp)
   ·rw [if_neg c3] at H
    have c3b0 : decide (x11_1 < (l0.length : Int)) = false := decide_eq_false c3
    clear c3
    by_cases c10 : (l0.length : Int) < (l1.length : Int)
    ·rw [if_pos c10] at H
     have c10b0 : decide ((l0.length : Int) < (l1.length : Int)) = true := decide_eq_true c10
     have c10b1 : decide (l0.length < l1.length) = true := decide_eq_true (Int.ofNat_lt.mp c10)
     clear c10
     obtain rfl := Option.some.inj H
     go_wp2
     go_ret
     exact ⟨by first | rfl | (simp; done) | (simp [*]; done), by repeat (first | exact Drawn0.refl _ | apply Drawn0.step)⟩
    ·rw [if_neg c10] at H
     have c10b0 : decide ((l0.length : Int) < (l1.length : Int)) = false := decide_eq_false c10
     have c10b1 : decide (l0.length < l1.length) = false := decide_eq_false (fun h => c10 (Int.ofNat_lt.mpr h))
     clear c10
     obtain rfl := Option.some.inj H
     go_wp2
     go_ret
     exact ⟨by first | rfl | (simp; done) | (simp [*]; done), by repeat (first | exact Drawn0.refl _ | apply Drawn0.step)⟩
def cmp_Less_int.f (a0 : Int) (a1 : Int) : Option (Bool) := (cmp_isNaN_int.f a0).bind fun t108 => (if t108 = true then ((cmp_isNaN_int.f a1).bind fun t109 => (if t109 = true then (some (decide (a0 < a1))) else (some true))) else (some (decide (a0 < a1))))
set_option maxHeartbeats 8000000 in
set_option maxRecDepth 100000 in
theorem cmp_Less_int.calls (a0 : Int) (a1 : Int) (r : Bool) (w : World) (h : cmp_Less_int.f a0 a1 = some r) :
  Calls Tryd.prog 110 #[.int .i64 a0, .int .i64 a1] w fun e w' => e = .returned (.bool r) ∧ Drawn0 w w' := by
 have H : ((cmp_isNaN_int.f a0).bind fun t108 => (if t108 = true then ((cmp_isNaN_int.f a1).bind fun t109 => (if t109 = true then (some (decide (a0 < a1))) else (some true))) else (some (decide (a0 < a1))))) = some r := h
 clear h
 replace H := Option.bind_eq_some_iff.mp H
 obtain ⟨t108, A30, H⟩ := H
 replace H : (if t108 = true then ((cmp_isNaN_int.f a1).bind fun t109 => (if t109 = true then (some (decide (a0 < a1))) else (some true))) else (some (decide (a0 < a1)))) = some r := H
 have A3 := Aside0.mk A30
 clear A30
 by_cases c4 : t108 = true
 ·subst c4
  have H1 : ((cmp_isNaN_int.f a1).bind fun t109 => (if t109 = true then (some (decide (a0 < a1))) else (some true))) = some r := by rw [if_pos rfl] at H; exact H
  clear H
  have H := H1
  clear H1
  replace H := Option.bind_eq_some_iff.mp H
  obtain ⟨t109, A50, H⟩ := H
  replace H : (if t109 = true then (some (decide (a0 < a1))) else (some true)) = some r := H
  have A5 := Aside0.mk A50
  clear A50
  by_cases c6 : t109 = true
  ·subst c6
   have H1 : (some (decide (a0 < a1))) = some r := by rw [if_pos rfl] at H; exact H
   clear H
   have H := H1
   clear H1
   obtain rfl := Option.some.inj H
   go_enter Tryd.func110, Tryd.ntmps110
   go_wp2_with (first | ((with_reducible refine gate_callee (f := 115) rfl ?_); refine gL (some 6) Tryd.func115 #[.int .i64 a0] ?_; (with_reducible refine (cmp_isNaN_int.calls a0 true _ A3.out).mono ?_); rintro e w' ⟨rfl, ⟨nd, rfl⟩⟩; refine ⟨_, rfl, ?_⟩) | (go_at_call 115; (with_reducible refine (cmp_isNaN_int.calls a1 true _ A5.out).mono ?_); rintro e w' ⟨rfl, ⟨nd, rfl⟩⟩))
   go_ret
   exact ⟨by first | rfl | (simp; done) | (simp [*]; done), by repeat (first | exact Drawn0.refl _ | apply Drawn0.step)⟩
  ·replace c6 := Bool.eq_false_iff.mpr c6
   subst c6
   have H1 : (some true) = some r := by rw [if_neg (show ¬ (false = true) by decide)] at H; exact H
   clear H
   have H := H1
   clear H1
   obtain rfl := Option.some.inj H
   go_enter Tryd.func110, Tryd.ntmps110
   go_wp2_with (first | ((with_reducible refine gate_callee (f := 115) rfl ?_); refine gL (some 6) Tryd.func115 #[.int .i64 a0] ?_; (with_reducible refine (cmp_isNaN_int.calls a0 true _ A3.out).mono ?_); rintro e w' ⟨rfl, ⟨nd, rfl⟩⟩; refine ⟨_, rfl, ?_⟩) | (go_at_call 115; (with_reducible refine (cmp_isNaN_int.calls a1 false _ A5.out).mono ?_); rintro e w' ⟨rfl, ⟨nd, rfl⟩⟩))
   go_ret
   exact ⟨by first | rfl | (simp; done) | (simp [*]; done), by repeat (first | exact Drawn0.refl _ | apply Drawn0.step)⟩
 ·replace c4 := Bool.eq_false_iff.mpr c4
  subst c4
  have H1 : (some (decide (a0 < a1))) = some r := by rw [if_neg (show ¬ (false = true) by decide)] at H; exact H
  clear H
  have H := H1
  clear H1
  obtain rfl := Option.some.inj H
  go_enter Tryd.func110, Tryd.ntmps110
  go_wp2_with (first | ((with_reducible refine gate_callee (f := 115) rfl ?_); refine gL (some 6) Tryd.func115 #[.int .i64 a0] ?_; (with_reducible refine (cmp_isNaN_int.calls a0 false _ A3.out).mono ?_); rintro e w' ⟨rfl, ⟨nd, rfl⟩⟩; refine ⟨_, rfl, ?_⟩))
  go_ret
  exact ⟨by first | rfl | (simp; done) | (simp [*]; done), by repeat (first | exact Drawn0.refl _ | apply Drawn0.step)⟩
end Go.Proofs.YtikfghnkbgdbgaaDoor.L
end
section
namespace Go.Proofs.YtikfghnkbgdbgaaDoor.L
open Go.RowKit Go.Proofs.YtikfghnkbgdbgaaDoorW.PrintWords Go.Proofs.YtikfghnkbgdbgaaDoorW.PrintLast Go.Proofs.YtikfghnkbgdbgaaDoorW.PrintMore
attribute [local go_sem] max2_int min2_int max_two min_two max_three min_three max_four min_four   -- for this text's walks alone
set_option linter.unusedVariables false
set_option linter.unusedSimpArgs false
mutual
def slices_insertionSortOrdered_int.l0 : Nat → List Int → Int → Int → Int → Option (List Int)
 | 0, _, _, _, _ => none
 | k + 1, x0, x1, x2, x6 => if x6 < x2 then (slices_insertionSortOrdered_int.l1 k x0 x1 x2 x6 x6) else (some x0)
def slices_insertionSortOrdered_int.l1 : Nat → List Int → Int → Int → Int → Int → Option (List Int)
 | 0, _, _, _, _, _ => none
 | k + 1, x0, x1, x2, x6, x7 => if x7 > x1 then (if 0 ≤ x7 then (if x7 < (x0.length : Int) then (if 0 ≤ (wrap64 (x7 - 1)) then (if (wrap64 (x7 - 1)) < (x0.length : Int) then ((cmp_Less_int.f (rd x0 x7) (rd x0 (wrap64 (x7 - 1)))).bind fun t112 => (if t112 = true then (slices_insertionSortOrdered_int.l1 k ((x0.set (x7 : Int).toNat (rd x0 (wrap64 (x7 - 1)))).set ((wrap64 (x7 - 1)) : Int).toNat (rd x0 x7)) x1 x2 x6 (wrap64 (x7 - 1))) else (slices_insertionSortOrdered_int.l0 k x0 x1 x2 (wrap64 (x6 + 1))))) else (none)) else (none)) else (none)) else (none)) else (slices_insertionSortOrdered_int.l0 k x0 x1 x2 (wrap64 (x6 + 1)))
end
def slices_insertionSortOrdered_int.f (k : Nat) (l0 : List Int) (a1 : Int) (a2 : Int) : Option (List Int) := slices_insertionSortOrdered_int.l0 k l0 a1 a2 (wrap64 (a1 + 1))
def slices_insertionSortOrdered_int.T4 : Bool × List (List Nat × List Nat) := (true, [([], []), ([], []), ([0, 1], [0, 1]), ([2], [2]), ([3], [3]), ([3], [3]), ([4, 5, 3], [3, 4, 5]), ([6, 3], [3, 6]), ([3], [3]), ([3], [3]), ([9, 3], [3, 9]), ([8, 10, 3], [3, 8, 10]), ([11, 3], [3, 11]), ([7, 12, 3, 3], [3, 7, 12]), ([3, 13], [3, 13])])
def slices_insertionSortOrdered_int.B4 : List Nat := [0, 0, 3, 7, 15, 15, 63, 127, 15, 15, 527, 1807, 3855, 8191, 16383]
theorem slices_insertionSortOrdered_int.tab4 : rtab .any (opsOf Tryd.f104 4) = slices_insertionSortOrdered_int.T4 := by kernel_rfl
theorem slices_insertionSortOrdered_int.bits4 : waitsOk slices_insertionSortOrdered_int.T4.2 slices_insertionSortOrdered_int.B4 = true := by kernel_rfl
def slices_insertionSortOrdered_int.T6 : Bool × List (List Nat × List Nat) := (true, [([], []), ([], []), ([], []), ([], []), ([3], [3]), ([], []), ([], []), ([6], [6]), ([5, 7], [5, 7]), ([8], [8]), ([], []), ([], []), ([10, 11], [10, 11]), ([12], [12]), ([0, 1, 0, 1, 5, 6, 7, 8, 9, 13], [0, 1]), ([14, 9, 0, 1, 5, 6, 7, 8, 9, 13], [9, 14]), ([2, 4, 0, 1, 2, 3, 4, 5, 6, 7, 8, 9, 10, 11, 12, 13, 14, 15], [2, 4]), ([16, 13, 15, 0, 1, 2, 3, 4, 5, 6, 7, 8, 9, 10, 11, 12, 13, 14, 15], [13, 16])])
def slices_insertionSortOrdered_int.B6 : List Nat := [0, 0, 0, 0, 8, 0, 0, 64, 224, 480, 0, 0, 3072, 7168, 16355, 32739, 65535, 131071]
theorem slices_insertionSortOrdered_int.tab6 : rtab .any (opsOf Tryd.f104 6) = slices_insertionSortOrdered_int.T6 := by kernel_rfl
theorem slices_insertionSortOrdered_int.bits6 : waitsOk slices_insertionSortOrdered_int.T6.2 slices_insertionSortOrdered_int.B6 = true := by kernel_rfl
set_option maxHeartbeats 8000000 in
set_option maxRecDepth 100000 in
theorem slices_insertionSortOrdered_int.calls (k : Nat) (P0_ : Nat → Prop) (u9000_ : Value) (l0 : List Int) (a1 : Int) (a2 : Int) (r : List Int) (w0 w : World) (hB : Below w0.heap.size w0 w) (ho0 : Kd.R (Kd.int .i64) 3 w w0.heap.size P0_ u9000_ l0) (h : slices_insertionSortOrdered_int.f k l0 a1 a2 = some r) :
  Calls Tryd.prog 104 #[u9000_, .int .i64 a1, .int .i64 a2] w fun e w' => e = .returned (.tuple #[]) ∧ Kd.R (Kd.int .i64) 3 w' w0.heap.size (fun k_ => (P0_ k_ ∨ w.heap.size ≤ k_)) u9000_ r ∧ Below w0.heap.size w0 w' ∧ Kept w w' (fun k_ => P0_ k_) := by
 have HO0 := Aside0.mk (show Kd.R (Kd.int .i64) 3 w w0.heap.size (fun k_ => (P0_ k_ ∨ w.heap.size ≤ k_)) u9000_ l0 from Kd.R_mono ho0 (fun k_ hk => (.inl hk)))
 have HK := Aside0.mk (Kept.refl w (fun k_ => P0_ k_))
 have HW0 := Aside0.mk hB.size
 have HB := Aside0.mk hB
 clear hB
 have H : (slices_insertionSortOrdered_int.l0 k l0 a1 a2 (wrap64 (a1 + 1))) = some r := h
 clear h
 have H' := Aside0.mk H
 clear H
 go_enter Tryd.func104, Tryd.ntmps104
 go_wp2
 go_loopg [6] k (fun kq v6 w' => ∃ (x0_1 : List Int) (x6_1 : Int), v6 = .int .i64 x6_1 ∧ Aside0 (slices_insertionSortOrdered_int.l0 kq x0_1 a1 a2 x6_1 = some r) ∧ Aside0 (kq ≤ k) ∧ Aside0 (Kd.R (Kd.int .i64) 3 w' w0.heap.size (fun k_ => (P0_ k_ ∨ w.heap.size ≤ k_)) u9000_ x0_1) ∧ Aside0 (Kept w w' (fun k_ => P0_ k_)) ∧ Aside0 (Below w0.heap.size w0 w'))
 case atStart => exact ⟨(l0), (wrap64 (a1 + 1)), (by first | rfl | (simp; done) | (simp [*]; done)), H', ⟨Nat.le_refl _⟩, ⟨by (with_reducible repeat (first | apply Kd.R_alloc | apply Kd.R_drewN | apply Kd.R_drew)); exact HO0.out⟩, ⟨by repeat (first | (with_reducible first | exact HK.out | apply Kept.alloc | apply Kept.drewN | apply Kept.drew) | exact HK.out)⟩, ⟨bw HB⟩⟩
 case round =>
  clear H'
  try clear c1
  try clear p2
  obtain ⟨x0_1, x6_1, rfl, HA, HK1, HO_0, HK, HB⟩ := hrel
  cases gk with
  | zero => exact absurd HA.out (by simp [slices_insertionSortOrdered_int.l0])
  | succ k1 =>
   have H := HA.out
   clear HA
   simp only [slices_insertionSortOrdered_int.l0] at H
   by_cases c4 : x6_1 < a2
   ·rw [if_pos c4] at H
    have c4b0 : decide (x6_1 < a2) = true := decide_eq_true c4
    clear c4
    have H' := Aside0.mk H
    clear H
    go_wp2
    go_loopg [7] k1 (fun kq v7 w' => ∃ (x0_2 : List Int) (x7_2 : Int), v7 = .int .i64 x7_2 ∧ Aside0 (slices_insertionSortOrdered_int.l1 kq x0_2 a1 a2 x6_1 x7_2 = some r) ∧ Aside0 (kq ≤ k1) ∧ Aside0 (Kd.R (Kd.int .i64) 3 w' w0.heap.size (fun k_ => (P0_ k_ ∨ w.heap.size ≤ k_)) u9000_ x0_2) ∧ Aside0 (Kept w w' (fun k_ => P0_ k_)) ∧ Aside0 (Below w0.heap.size w0 w'))
    case atStart => exact ⟨(x0_1), (x6_1), (by first | rfl | (simp; done) | (simp [*]; done)), H', ⟨Nat.le_refl _⟩, ⟨by (with_reducible repeat (first | apply Kd.R_alloc | apply Kd.R_drewN | apply Kd.R_drew)); exact HO_0.out⟩, ⟨by repeat (first | (with_reducible first | exact HK.out | apply Kept.alloc | apply Kept.drewN | apply Kept.drew) | exact HK.out)⟩, ⟨bw HB⟩⟩
    case round =>
     clear H'
     try clear c1
     try clear p2
     try clear c4
     try clear c4b0
     try clear p2
     obtain ⟨x0_2, x7_2, rfl, HA, HK2, HO_0, HK, HB⟩ := hrel
     cases gk with
     | zero => exact absurd HA.out (by simp [slices_insertionSortOrdered_int.l1])
     | succ k2 =>
      have H := HA.out
      clear HA
      simp only [slices_insertionSortOrdered_int.l1] at H
      by_cases c5 : x7_2 > a1
      ·rw [if_pos c5] at H
       have c5b0 : decide (a1 < x7_2) = true := decide_eq_true c5
       clear c5
       by_cases c6 : 0 ≤ x7_2
       ·rw [if_pos c6] at H
        have c6b0 : decide (0 ≤ x7_2) = true := decide_eq_true c6
        clear c6
        by_cases c7 : x7_2 < (x0_2.length : Int)
        ·rw [if_pos c7] at H
         have c7b0 : decide (x7_2 < (x0_2.length : Int)) = true := decide_eq_true c7
         clear c7
         obtain ⟨ji8, hji8⟩ : ∃ j_ : Int, (wrap64 (x7_2 - 1)) = j_ := ⟨_, rfl⟩
         replace H : (if 0 ≤ (ji8) then (if (ji8) < (x0_2.length : Int) then ((cmp_Less_int.f (rd x0_2 x7_2) (rd x0_2 (ji8))).bind fun t112 => (if t112 = true then (slices_insertionSortOrdered_int.l1 k2 ((x0_2.set (x7_2 : Int).toNat (rd x0_2 (ji8))).set ((ji8) : Int).toNat (rd x0_2 x7_2)) a1 a2 x6_1 ji8) else (slices_insertionSortOrdered_int.l0 k2 x0_2 a1 a2 (wrap64 (x6_1 + 1))))) else (none)) else (none)) = some r := by first | (rw [hji8] at H; exact H) | (simp only [hji8] at H ⊢; exact H)
         have hji8w : (IntKind.i64.wrap (x7_2 - 1)) = ji8 := (i64_w _).trans hji8
         by_cases c9 : 0 ≤ (ji8)
         ·rw [if_pos c9] at H
          have c9b0 : decide (0 ≤ (ji8)) = true := decide_eq_true c9
          clear c9
          by_cases c10 : (ji8) < (x0_2.length : Int)
          ·rw [if_pos c10] at H
           have c10b0 : decide ((ji8) < (x0_2.length : Int)) = true := decide_eq_true c10
           clear c10
           replace H := Option.bind_eq_some_iff.mp H
           obtain ⟨t112, A110, H⟩ := H
           replace H : (if t112 = true then (slices_insertionSortOrdered_int.l1 k2 ((x0_2.set (x7_2 : Int).toNat (rd x0_2 (ji8))).set ((ji8) : Int).toNat (rd x0_2 x7_2)) a1 a2 x6_1 ji8) else (slices_insertionSortOrdered_int.l0 k2 x0_2 a1 a2 (wrap64 (x6_1 + 1)))) = some r := H
           have A11 := Aside0.mk A110
           clear A110
           by_cases c12 : t112 = true
           ·subst c12
            have H1 : (slices_insertionSortOrdered_int.l1 k2 ((x0_2.set (x7_2 : Int).toNat (rd x0_2 (ji8))).set ((ji8) : Int).toNat (rd x0_2 x7_2)) a1 a2 x6_1 ji8) = some r := by rw [if_pos rfl] at H; exact H
            clear H
            have H := H1
            clear H1
            obtain ⟨y115, hy115⟩ : ∃ y_ : List Int, y_ = (x0_2.set (x7_2 : Int).toNat (rd x0_2 (ji8))) := ⟨_, rfl⟩
            replace H : (slices_insertionSortOrdered_int.l1 k2 (y115.set ((ji8) : Int).toNat (rd x0_2 x7_2)) a1 a2 x6_1 ji8) = some r := by first | (rw [hy115]; with_reducible exact H) | (have H2_ := (Option.bind_some _ _).symm.trans H; rw [hy115]; with_reducible exact H2_) | (have H2_ := (Option.bind_some _ _).symm.trans H; with_reducible exact H2_) | with_reducible exact H | (rw [hy115]; exact H) | exact H
            have Ny115 := Aside0.mk hy115
            clear hy115
            obtain ⟨y116, hy116⟩ : ∃ y_ : List Int, y_ = (y115.set ((ji8) : Int).toNat (rd x0_2 x7_2)) := ⟨_, rfl⟩
            replace H : (slices_insertionSortOrdered_int.l1 k2 y116 a1 a2 x6_1 ji8) = some r := by first | (rw [hy116]; with_reducible exact H) | (have H2_ := (Option.bind_some _ _).symm.trans H; rw [hy116]; with_reducible exact H2_) | (have H2_ := (Option.bind_some _ _).symm.trans H; with_reducible exact H2_) | with_reducible exact H | (rw [hy116]; exact H) | exact H
            have Ny116 := Aside0.mk hy116
            clear hy116
            have H' := Aside0.mk H
            clear H
            try go_wp2
            have n0_ := Aside0.mk (Kd.R_drew HO_0.out)
            have n1_ := Aside0.mk (Kept.drew HK.out)
            have n2_ := Aside0.mk (below_drew1 HB.out)
            clear HO_0
            clear HK
            clear HB
            have HO_0 := n0_
            have HK := n1_
            have HB := n2_
            clear n0_ n1_ n2_
            obtain ⟨Ao16, co16, eo16⟩ := Kd.R_slice HO_0.out
            (first | subst eo16 | (injection eo16 with f1_ f2_ f3_; have f4_ := f1_.symm; have f5_ := f3_.symm; clear f1_ f2_ f3_; subst f4_; subst f5_))
            have p110 : 0 ≤ (x7_2 : Int) := of_decide_eq_true (by first | (with_reducible assumption) | assumption)
            have q110 : x7_2 < (x0_2.length : Int) := of_decide_eq_true (by first | (with_reducible assumption) | assumption)
            obtain ⟨ad110, e110, hx110_0⟩ := Kd.at_int (Kd.R_reads' HO_0.out).2.2 x7_2 p110 q110
            cases e110
            replace p110 := eq_true p110
            replace q110 := eq_true q110
            have p111 : 0 ≤ ((ji8) : Int) := of_decide_eq_true (by first | (with_reducible assumption) | assumption)
            have q111 : (ji8) < (x0_2.length : Int) := of_decide_eq_true (by first | (with_reducible assumption) | assumption)
            obtain ⟨ad111, e111, hx111_0⟩ := Kd.at_int (Kd.R_reads' HO_0.out).2.2 (ji8) p111 q111
            obtain rfl : ad110 = ad111 := (by injection e111)
            replace p111 := eq_true p111
            replace q111 := eq_true q111
            refine start_ (n := 15) (S := fun w' => w'.cell? (ad110.add (x7_2).toNat) = some (.int .i64 (rd x0_2 x7_2)) ∧ w'.cell? (ad110.add ((ji8)).toNat) = some (.int .i64 (rd x0_2 (ji8)))) (ds := []) (bs 15 0) (by kernel_rfl) rfl rfl ⟨hx110_0, hx111_0⟩ (fun hHeld => ?_); refine with_tabW slices_insertionSortOrdered_int.tab4 slices_insertionSortOrdered_int.bits4 (fun HT_ HW_ => ?_)
            generalize wr.drew = w15 at HO_0 HK HB hx110_0 hx111_0 hHeld ⊢
            refine pu HT_ 0 (some 16) (bs 15 1) ?_
            refine pu HT_ 1 (some 17) (bs 15 3) ?_
            refine pu HT_ 2 (some 18) (bs 15 7) ?_
            refine pu HT_ 3 (some 19) (bs 15 15) ?_
            refine pu HT_ 4 (some 20) (bs 15 31) ?_
            refine pu HT_ 5 (some 21) (bs 15 63) ?_
            refine pu HT_ 6 (some 22) (bs 15 127) ?_
            refine pu HT_ 8 (some 24) (bs 15 383) ?_
            refine pu HT_ 9 (some 25) (bs 15 895) ?_
            refine pu HT_ 10 (some 26) (bs 15 1919) ?_
            refine pu HT_ 11 (some 27) (bs 15 3967) ?_
            refine tk2 HT_ HW_ hHeld 7 (some 23) (bs 15 4095) ?_
            refine tk2 HT_ HW_ hHeld 12 (some 28) (bs 15 8191) ?_
            refine on HT_ 13 (some 29) (bs 15 16383) (fun K hK => ?_)
            refine goes_ Tryd.func110 (by kernel_rfl) rfl #[.int .i64 (rd x0_2 x7_2), .int .i64 (rd x0_2 (ji8))] (by rfl) rfl rfl (by (try simp only [List.map_toArray, List.map_cons, List.map_nil]); first | done | (simp only [hji8]; rfl) | rfl | (simp only [List.length_drop, List.length_take]; rfl)) ?_
            with_reducible refine (cmp_Less_int.calls (rd x0_2 x7_2) (rd x0_2 (ji8)) true _ A11.out).mono ?_
            rintro e w' ⟨rfl, ⟨nd, rfl⟩⟩
            refine ⟨_, rfl, ?_⟩
            refine hK.out _ _ ⟨hHeld.1, hHeld.2⟩ (fun hHeld => ?_)
            clear hK K
            refine nm 29 ?_
            refine pu HT_ 14 (some 30) (bs 15 32767) ?_
            refine done_ (done_of HT_.out (by kernel_rfl)) ?_
            try go_wp2
            (try (rw [drewN_self w15]; generalize hq_ : World.drewN w15 _ = w15; have n0_ : Aside0 (Kd.R (Kd.int .i64) 3 w15 w0.heap.size (fun k_ => (P0_ k_ ∨ w.heap.size ≤ k_)) (.slice (some ad110) x0_2.length co16) x0_2) := ⟨by rw [← hq_]; exact (by (with_reducible repeat (first | apply Kd.R_alloc | apply Kd.R_drewN | apply Kd.R_drew)); exact HO_0.out)⟩; have n1_ : Aside0 (Kept w w15 (fun k_ => P0_ k_)) := ⟨by rw [← hq_]; exact (by repeat (first | (with_reducible first | exact HK.out | apply Kept.alloc | apply Kept.drewN | apply Kept.drew) | exact HK.out))⟩; have n2_ : Aside0 (Below w0.heap.size w0 w15) := ⟨by rw [← hq_]; exact (bw HB)⟩; clear HO_0 HK HB hq_; have HO_0 := n0_; have HK := n1_; have HB := n2_; clear n0_ n1_ n2_))
            have n0_ := Aside0.mk (Kd.R_drew HO_0.out)
            have n1_ := Aside0.mk (Kept.drew HK.out)
            have n2_ := Aside0.mk (below_drew1 HB.out)
            clear HO_0
            clear HK
            clear HB
            have HO_0 := n0_
            have HK := n1_
            have HB := n2_
            clear n0_ n1_ n2_
            have p113 : 0 ≤ ((ji8) : Int) := of_decide_eq_true (by first | (with_reducible assumption) | assumption)
            have q113 : (ji8) < (x0_2.length : Int) := of_decide_eq_true (by first | (with_reducible assumption) | assumption)
            obtain ⟨ad113, e113, hx113_0⟩ := Kd.at_int (Kd.R_reads' HO_0.out).2.2 (ji8) p113 q113
            obtain rfl : ad110 = ad113 := (by injection e113)
            replace p113 := eq_true p113
            replace q113 := eq_true q113
            have p114 : 0 ≤ (x7_2 : Int) := of_decide_eq_true (by first | (with_reducible assumption) | assumption)
            have q114 : x7_2 < (x0_2.length : Int) := of_decide_eq_true (by first | (with_reducible assumption) | assumption)
            obtain ⟨ad114, e114, hx114_0⟩ := Kd.at_int (Kd.R_reads' HO_0.out).2.2 x7_2 p114 q114
            obtain rfl : ad110 = ad114 := (by injection e114)
            replace p114 := eq_true p114
            replace q114 := eq_true q114
            have p13 : 0 ≤ (x7_2 : Int) := of_decide_eq_true (by first | (with_reducible assumption) | assumption)
            have q13 : (x7_2 : Int) < ((x0_2.length : Int) : Int) := of_decide_eq_true (by first | (with_reducible assumption) | assumption)
            obtain ⟨go13, co13, eo13, gb13, gl13, cl13, HG13⟩ := Kd.R_form HO_0.out (by omega)
            (first | cases eo13 | (injection eo13 with ea_ en_ ec_; (first | subst ea_ | (injection ea_ with ea_; subst ea_)); subst ec_; clear en_))
            have GB13 := Aside0.mk gb13
            have GG13 := Aside0.mk HG13
            clear gb13 gl13 HG13
            have HMgo13 := Aside0.mk (show (P0_ go13 ∨ w.heap.size ≤ go13) from (HO_0.out.1 _ rfl))
            (first | simp only [add_plain] at hx110_0 | skip)
            (first | simp only [add_plain] at hx111_0 | skip)
            (first | simp only [add_plain] at hx113_0 | skip)
            (first | simp only [add_plain] at hx114_0 | skip)
            obtain ⟨hx13_0, hf13_0⟩ := Kd.R_celln 0 HO_0.out (x7_2 : Int) p13 q13
            replace p13 := eq_true p13
            replace q13 := eq_true q13
            have HP18 := Kd.R_putn HO_0.out (x7_2 : Int) (rd x0_2 (ji8))
            rw [← Ny115.out] at HP18
            have HQ18 := Aside0.mk HP18
            clear HP18
            have p14 : 0 ≤ ((ji8) : Int) := of_decide_eq_true (by first | (with_reducible assumption) | assumption)
            have q14 : ((ji8) : Int) < ((x0_2.length : Int) : Int) := of_decide_eq_true (by first | (with_reducible assumption) | assumption)
            obtain ⟨hx14_0, hf14_0⟩ := Kd.R_celln 0 HQ18.out ((ji8) : Int) p14 q14
            replace p14 := eq_true p14
            replace q14 := eq_true q14
            have HP19 := Kd.R_putn HQ18.out ((ji8) : Int) (rd x0_2 x7_2)
            rw [← Ny116.out] at HP19
            have HQ19 := Aside0.mk HP19
            clear HP19
            refine start_ (n := 18) (S := fun w' => w'.cell? ⟨go13, ((ji8)).toNat, none⟩ = some (.int .i64 (rd x0_2 (ji8))) ∧ w'.cell? ⟨go13, (x7_2).toNat, none⟩ = some (.int .i64 (rd x0_2 x7_2))) (ds := [15, 17]) (bs 18 0) (by kernel_rfl) rfl rfl ⟨hx113_0, hx114_0⟩ (fun hHeld => ?_); refine with_tabW slices_insertionSortOrdered_int.tab6 slices_insertionSortOrdered_int.bits6 (fun HT_ HW_ => ?_)
            generalize w15.drew = w17 at HO_0 HK HB GG13 HQ18 HQ19 hf13_0 hf14_0 hx110_0 hx111_0 hx113_0 hx114_0 hx13_0 hx14_0 hHeld ⊢
            refine pu HT_ 0 (some 33) (bs 18 1) ?_
            refine pu HT_ 1 (some 34) (bs 18 3) ?_
            refine pu HT_ 2 (some 35) (bs 18 7) ?_
            refine pu HT_ 3 (some 36) (bs 18 15) ?_
            refine pu HT_ 4 (some 37) (bs 18 31) ?_
            refine pu HT_ 5 (some 38) (bs 18 63) ?_
            refine pu HT_ 6 (some 39) (bs 18 127) ?_
            refine pu HT_ 7 (some 40) (bs 18 255) ?_
            refine pu HT_ 8 (some 41) (bs 18 511) ?_
            refine pu HT_ 10 (some 43) (bs 18 1535) ?_
            refine pu HT_ 11 (some 44) (bs 18 3583) ?_
            refine pu HT_ 12 (some 45) (bs 18 7679) ?_
            refine tk2 HT_ HW_ hHeld 9 (some 42) (bs 18 8191) ?_
            refine tk2 HT_ HW_ hHeld 13 (some 46) (bs 18 16383) ?_
            refine pu HT_ 14 (some 47) (bs 18 32767) ?_
            refine last_ (i := 15) (N := none) (bs 18 65535) rfl rfl (one_of HT_.out (by kernel_rfl)) (by decide) (fun K hK => ?_)
            refine skip_ (w1 := ?_) (by rfl) rfl ?_ ?_
            rotate_left
            ·go_simp
             rfl
            refine hK.out _ _ ?_
            clear hK K
            refine pu HT_ 16 (some 48) (bs 18 131071) ?_
            refine last_ (i := 17) (N := none) (bs 18 262143) rfl rfl (one_of HT_.out (by kernel_rfl)) (by decide) (fun K hK => ?_)
            refine skip_ (w1 := ?_) (by rfl) rfl ?_ ?_
            rotate_left
            ·go_simp
             rfl
            refine hK.out _ _ ?_
            clear hK K
            refine done_ (done_of HT_.out (by kernel_rfl)) ?_
            try go_wp2
            go_roundg k2
            case measure => have := HK1.out; have := HK2.out; omega
            case rel => exact ⟨(y116), (ji8), (by first | rfl | (simp; done) | (simp only [← hji8] <;> (first | rfl | simp)) | (simp [*]; done)), H', ⟨by have := HK1.out; have := HK2.out; omega⟩, ⟨by (with_reducible repeat (first | apply Kd.R_alloc | apply Kd.R_drewN | apply Kd.R_drew)); exact HQ19.out⟩, ⟨by repeat (first | (with_reducible first | exact HK.out | apply Kept.alloc | apply Kept.drewN | apply Kept.drew | refine Kept.setCell ?_ HMgo13.out _ | refine Kept.setCell ?_ HMgo13.out _) | exact HK.out)⟩, ⟨bw2 HB GB13 GB13⟩⟩
           ·replace c12 := Bool.eq_false_iff.mpr c12
            subst c12
            have H1 : (slices_insertionSortOrdered_int.l0 k2 x0_2 a1 a2 (wrap64 (x6_1 + 1))) = some r := by rw [if_neg (show ¬ (false = true) by decide)] at H; exact H
            clear H
            have H := H1
            clear H1
            have H' := Aside0.mk H
            clear H
            try go_wp2
            have n0_ := Aside0.mk (Kd.R_drew HO_0.out)
            have n1_ := Aside0.mk (Kept.drew HK.out)
            have n2_ := Aside0.mk (below_drew1 HB.out)
            clear HO_0
            clear HK
            clear HB
            have HO_0 := n0_
            have HK := n1_
            have HB := n2_
            clear n0_ n1_ n2_
            obtain ⟨Ao21, co21, eo21⟩ := Kd.R_slice HO_0.out
            (first | subst eo21 | (injection eo21 with f1_ f2_ f3_; have f4_ := f1_.symm; have f5_ := f3_.symm; clear f1_ f2_ f3_; subst f4_; subst f5_))
            have p110 : 0 ≤ (x7_2 : Int) := of_decide_eq_true (by first | (with_reducible assumption) | assumption)
            have q110 : x7_2 < (x0_2.length : Int) := of_decide_eq_true (by first | (with_reducible assumption) | assumption)
            obtain ⟨ad110, e110, hx110_0⟩ := Kd.at_int (Kd.R_reads' HO_0.out).2.2 x7_2 p110 q110
            cases e110
            replace p110 := eq_true p110
            replace q110 := eq_true q110
            have p111 : 0 ≤ ((ji8) : Int) := of_decide_eq_true (by first | (with_reducible assumption) | assumption)
            have q111 : (ji8) < (x0_2.length : Int) := of_decide_eq_true (by first | (with_reducible assumption) | assumption)
            obtain ⟨ad111, e111, hx111_0⟩ := Kd.at_int (Kd.R_reads' HO_0.out).2.2 (ji8) p111 q111
            obtain rfl : ad110 = ad111 := (by injection e111)
            replace p111 := eq_true p111
            replace q111 := eq_true q111
            refine start_ (n := 15) (S := fun w' => w'.cell? (ad110.add (x7_2).toNat) = some (.int .i64 (rd x0_2 x7_2)) ∧ w'.cell? (ad110.add ((ji8)).toNat) = some (.int .i64 (rd x0_2 (ji8)))) (ds := []) (bs 15 0) (by kernel_rfl) rfl rfl ⟨hx110_0, hx111_0⟩ (fun hHeld => ?_); refine with_tabW slices_insertionSortOrdered_int.tab4 slices_insertionSortOrdered_int.bits4 (fun HT_ HW_ => ?_)
            generalize wr.drew = w20 at HO_0 HK HB hx110_0 hx111_0 hHeld ⊢
            refine pu HT_ 0 (some 16) (bs 15 1) ?_
            refine pu HT_ 1 (some 17) (bs 15 3) ?_
            refine pu HT_ 2 (some 18) (bs 15 7) ?_
            refine pu HT_ 3 (some 19) (bs 15 15) ?_
            refine pu HT_ 4 (some 20) (bs 15 31) ?_
            refine pu HT_ 5 (some 21) (bs 15 63) ?_
            refine pu HT_ 6 (some 22) (bs 15 127) ?_
            refine pu HT_ 8 (some 24) (bs 15 383) ?_
            refine pu HT_ 9 (some 25) (bs 15 895) ?_
            refine pu HT_ 10 (some 26) (bs 15 1919) ?_
            refine pu HT_ 11 (some 27) (bs 15 3967) ?_
            refine tk2 HT_ HW_ hHeld 7 (some 23) (bs 15 4095) ?_
            refine tk2 HT_ HW_ hHeld 12 (some 28) (bs 15 8191) ?_
            refine on HT_ 13 (some 29) (bs 15 16383) (fun K hK => ?_)
            refine goes_ Tryd.func110 (by kernel_rfl) rfl #[.int .i64 (rd x0_2 x7_2), .int .i64 (rd x0_2 (ji8))] (by rfl) rfl rfl (by (try simp only [List.map_toArray, List.map_cons, List.map_nil]); first | done | (simp only [hji8]; rfl) | rfl | (simp only [List.length_drop, List.length_take]; rfl)) ?_
            with_reducible refine (cmp_Less_int.calls (rd x0_2 x7_2) (rd x0_2 (ji8)) false _ A11.out).mono ?_
            rintro e w' ⟨rfl, ⟨nd, rfl⟩⟩
            refine ⟨_, rfl, ?_⟩
            refine hK.out _ _ ⟨hHeld.1, hHeld.2⟩ (fun hHeld => ?_)
            clear hK K
            refine nm 29 ?_
            refine pu HT_ 14 (some 30) (bs 15 32767) ?_
            refine done_ (done_of HT_.out (by kernel_rfl)) ?_
            try go_wp2
            go_roundg k2
            case measure => have := HK1.out; have := HK2.out; omega
            case rel => exact ⟨(x0_2), (wrap64 (x6_1 + 1)), (by first | rfl | (simp; done) | (simp [*]; done)), H', ⟨by have := HK1.out; have := HK2.out; omega⟩, ⟨by (with_reducible repeat (first | apply Kd.R_alloc | apply Kd.R_drewN | apply Kd.R_drew)); exact HO_0.out⟩, ⟨by repeat (first | (with_reducible first | exact HK.out | apply Kept.alloc | apply Kept.drewN | apply Kept.drew) | exact HK.out)⟩, ⟨bw HB⟩⟩
          ·rw [if_neg c10] at H
           exact absurd H (by simp)
         ·rw [if_neg c9] at H
          exact absurd H (by simp)
        ·rw [if_neg c7] at H
         exact absurd H (by simp)
       ·rw [if_neg c6] at H
        exact absurd H (by simp)
      ·rw [if_neg c5] at H
       have c5b0 : decide (a1 < x7_2) = false := decide_eq_false c5
       clear c5
       have H' := Aside0.mk H
       clear H
       try go_wp2
       have n0_ := Aside0.mk (Kd.R_drew HO_0.out)
       have n1_ := Aside0.mk (Kept.drew HK.out)
       have n2_ := Aside0.mk (below_drew1 HB.out)
       clear HO_0
       clear HK
       clear HB
       have HO_0 := n0_
       have HK := n1_
       have HB := n2_
       clear n0_ n1_ n2_
       refine start_ (n := 15) (S := fun w' => True) (ds := []) (bs 15 0) (by kernel_rfl) rfl rfl trivial (fun hHeld => ?_); refine with_tabW slices_insertionSortOrdered_int.tab4 slices_insertionSortOrdered_int.bits4 (fun HT_ HW_ => ?_)
       generalize wr.drew = w22 at HO_0 HK HB hHeld ⊢
       refine pu HT_ 0 (some 16) (bs 15 1) ?_
       refine pu HT_ 1 (some 17) (bs 15 3) ?_
       refine pu HT_ 2 (some 18) (bs 15 7) ?_
       refine pu HT_ 3 (some 19) (bs 15 15) ?_
       refine pn HT_ 4 (some 20) (bs 15 31) ?_
       refine pn HT_ 5 (some 21) (bs 15 63) ?_
       refine pn HT_ 6 (some 22) (bs 15 127) ?_
       refine pn HT_ 7 (some 23) (bs 15 255) ?_
       refine pn HT_ 8 (some 24) (bs 15 511) ?_
       refine pn HT_ 9 (some 25) (bs 15 1023) ?_
       refine pn HT_ 10 (some 26) (bs 15 2047) ?_
       refine pn HT_ 11 (some 27) (bs 15 4095) ?_
       refine pn HT_ 12 (some 28) (bs 15 8191) ?_
       refine pn HT_ 13 (some 29) (bs 15 16383) ?_
       refine pu HT_ 14 (some 30) (bs 15 32767) ?_
       refine done_ (done_of HT_.out (by kernel_rfl)) ?_
       try go_wp2
       go_roundg k2
       case measure => have := HK1.out; have := HK2.out; omega
       case rel => exact ⟨(x0_2), (wrap64 (x6_1 + 1)), (by first | rfl | (simp; done) | (simp [*]; done)), H', ⟨by have := HK1.out; have := HK2.out; omega⟩, ⟨by (with_reducible repeat (first | apply Kd.R_alloc | apply Kd.R_drewN | apply Kd.R_drew)); exact HO_0.out⟩, ⟨by repeat (first | (with_reducible first | exact HK.out | apply Kept.alloc | apply Kept.drewN | apply Kept.drew) | exact HK.out)⟩, ⟨bw HB⟩⟩
   ·rw [if_neg c4] at H
    have c4b0 : decide (x6_1 < a2) = false := decide_eq_false c4
    clear c4
    obtain rfl := Option.some.inj H
    go_wp2
    first | go_end0 | ((try simp only [Exit.inBlock, Exit.then]); refine bodyPost_ret (results_none rfl _ _ _) rfl ?_)
    exact ⟨by first | rfl | (simp [errW_none, errW_some] <;> rfl) | (simp [*, errW_none, errW_some] <;> rfl), by (with_reducible repeat (first | apply Kd.R_alloc | apply Kd.R_drewN | apply Kd.R_drew)); exact HO_0.out, by repeat (first | (with_reducible first | exact HB.out | apply below_alloc | apply pw_below_drewN | apply below_drew1) | exact HB.out), by repeat (first | (with_reducible first | exact HK.out | apply Kept.alloc | apply Kept.drewN | apply Kept.drew) | exact HK.out)⟩
def gang_greatest_int.l0 : Nat → Int → List Int → Int → Int → Option (Int)
 | 0, _, _, _, _ => none
 | k + 1, x0, x7, x8, x9 => if x9 < x8 then (if 0 ≤ x9 then (if x9 < (x7.length : Int) then (gang_greatest_int.l0 k (mx x0 (rd x7 x9)) x7 x8 (wrap64 (x9 + 1))) else (none)) else (none)) else (some x0)
def gang_greatest_int.f (k : Nat) (a0 : Int) (l1 : List Int) : Option (Int) := gang_greatest_int.l0 k a0 l1 (l1.length : Int) 0
set_option maxHeartbeats 8000000 in
set_option maxRecDepth 100000 in
theorem gang_greatest_int.calls (k : Nat) (a0 : Int) (A1 : Option Addr) (c1 : Nat) (l1 : List Int) (r : Int) (w : World) (hr1 : Kd.C (Kd.int .i64) w A1 l1.length l1) (hc1 : l1.length ≤ c1) (h : gang_greatest_int.f k a0 l1 = some r) :
  Calls Tryd.prog 84 #[.int .i64 a0, .slice A1 l1.length c1] w fun e w' => e = .returned (.int .i64 r) ∧ Below w.heap.size w w' := by
 have HR1 := Aside0.mk hr1
 have HC1 := Aside0.mk hc1
 clear hr1 hc1
 have HB := Aside0.mk (Below.refl w.heap.size w)
 have H : (gang_greatest_int.l0 k a0 l1 (l1.length : Int) 0) = some r := h
 clear h
 have H' := Aside0.mk H
 clear H
 go_enter Tryd.func84, Tryd.ntmps84
 go_wp2
 go_loopg [0, 9] k (fun kq v0 v9 w' => ∃ (x0_1 : Int) (x9_1 : Int), v0 = .int .i64 x0_1 ∧ v9 = .int .i64 x9_1 ∧ Aside0 (gang_greatest_int.l0 kq x0_1 l1 (l1.length : Int) x9_1 = some r) ∧ Aside0 (kq ≤ k) ∧ Aside0 (Below w.heap.size w w'))
 case atStart => exact ⟨(a0), (0), (by first | rfl | (simp; done) | (simp [*]; done)), (by first | rfl | (simp; done) | (simp [*]; done)), H', ⟨Nat.le_refl _⟩, ⟨bw HB⟩⟩
 case round =>
  clear H'
  try clear c1
  try clear p2
  obtain ⟨x0_1, x9_1, rfl, rfl, HA, HK1, HB⟩ := hrel
  cases gk with
  | zero => exact absurd HA.out (by simp [gang_greatest_int.l0])
  | succ k1 =>
   have H := HA.out
   clear HA
   simp only [gang_greatest_int.l0] at H
   by_cases c3 : x9_1 < (l1.length : Int)
   ·rw [if_pos c3] at H
    have c3b0 : decide (x9_1 < (l1.length : Int)) = true := decide_eq_true c3
    clear c3
    by_cases c4 : 0 ≤ x9_1
    ·rw [if_pos c4] at H
     have c4b0 : decide (0 ≤ x9_1) = true := decide_eq_true c4
     clear c4
     by_cases c5 : x9_1 < (l1.length : Int)
     ·rw [if_pos c5] at H
      have c5b0 : decide (x9_1 < (l1.length : Int)) = true := decide_eq_true c5
      clear c5
      obtain ⟨ji6, hji6⟩ : ∃ j_ : Int, (mx x0_1 (rd l1 x9_1)) = j_ := ⟨_, rfl⟩
      replace H : (gang_greatest_int.l0 k1 ji6 l1 (l1.length : Int) (wrap64 (x9_1 + 1))) = some r := by first | (rw [hji6] at H; exact H) | (simp only [hji6] at H ⊢; exact H)
      have hji6_ : (if x0_1 < (rd l1 x9_1) then (rd l1 x9_1) else x0_1) = ji6 := hji6
      have H' := Aside0.mk H
      clear H
      have p117 : 0 ≤ (x9_1 : Int) := of_decide_eq_true (by first | (with_reducible assumption) | assumption)
      have q117 : x9_1 < (l1.length : Int) := of_decide_eq_true (by first | (with_reducible assumption) | assumption)
      obtain ⟨ad117, e117, hx117_0⟩ := Kd.at_int HR1.out x9_1 p117 q117
      cases e117
      replace hx117_0 := cB HB hx117_0
      replace p117 := eq_true p117
      replace q117 := eq_true q117
      go_wp2
      go_roundg k1
      case measure => have := HK1.out; omega
      case rel => exact ⟨(ji6), (wrap64 (x9_1 + 1)), (by first | rfl | (simp; done) | (simp only [← hji6] <;> (first | rfl | simp)) | (simp [*]; done)), (by first | rfl | (simp; done) | (simp [*]; done)), H', ⟨by have := HK1.out; omega⟩, ⟨bw HB⟩⟩
     ·rw [if_neg c5] at H
      exact absurd H (by simp)
    ·rw [if_neg c4] at H
     exact absurd H (by simp)
   ·rw [if_neg c3] at H
    have c3b0 : decide (x9_1 < (l1.length : Int)) = false := decide_eq_false c3
    clear c3
    obtain rfl := Option.some.inj H
    go_wp2
    go_ret
    exact ⟨by first | rfl | (simp [errW_none, errW_some] <;> rfl) | (simp [*, errW_none, errW_some] <;> rfl), bw HB⟩
end Go.Proofs.YtikfghnkbgdbgaaDoor.L
end
section
namespace Go.Proofs.YtikfghnkbgdbgaaDoor.Q
set_option linter.unusedSimpArgs false
set_option linter.unusedVariables false
open Go.RowKit Go.Proofs.YtikfghnkbgdbgaaDoorW.PrintWords Go.Proofs.YtikfghnkbgdbgaaDoorW.PrintLast Go.Proofs.YtikfghnkbgdbgaaDoorW.PrintMore
theorem isort_law (l : List Int) (hl : l.length ≤ 2) : L.slices_insertionSortOrdered_int.f 4 l 0 (l.length : Int) = some (sortI l) := by
  have e : wrap64 1 = 1 := by unfold wrap64; omega
  have e2 : wrap64 0 = 0 := by unfold wrap64; omega
  have e3 : wrap64 2 = 2 := by unfold wrap64; omega
  match l, hl with
  | [], _ => simp [L.slices_insertionSortOrdered_int.f, L.slices_insertionSortOrdered_int.l0, e, sortI]
  | [a], _ => simp [L.slices_insertionSortOrdered_int.f, L.slices_insertionSortOrdered_int.l0, e, sortI, ins]
  | [a, b], _ =>
    by_cases h : b < a
    · simp [L.slices_insertionSortOrdered_int.f, L.slices_insertionSortOrdered_int.l0, L.slices_insertionSortOrdered_int.l1, L.cmp_Less_int.f, L.cmp_isNaN_int.f, rd, e, e2, e3, sortI, ins, h, Int.not_le.2 h]
    · simp [L.slices_insertionSortOrdered_int.f, L.slices_insertionSortOrdered_int.l0, L.slices_insertionSortOrdered_int.l1, L.cmp_Less_int.f, L.cmp_isNaN_int.f, rd, e, e2, e3, sortI, ins, h, Int.not_lt.1 h]
  | _ :: _ :: _ :: _, h => simp at h
set_option maxRecDepth 100000 in
set_option maxHeartbeats 1000000 in
theorem len64_calls (x : Int) (hx : x = 0 ∨ x = 1 ∨ x = 2) (w : World) : Calls Tryd.prog 114 #[.int .u64 x] w fun e w' => ∃ r, e = .returned (.int .i64 r) ∧ Below w.heap.size w w' := by
  rcases hx with rfl | rfl | rfl
  all_goals
    go_enter Tryd.func114, Tryd.ntmps114
    go_wp2
    go_ret
    exact ⟨_, rfl, Below.refl _ _⟩
set_option maxRecDepth 100000 in
set_option maxHeartbeats 1000000 in
theorem len_calls (x : Int) (hx : x = 0 ∨ x = 1 ∨ x = 2) (w : World) : Calls Tryd.prog 93 #[.int .u64 x] w fun e w' => ∃ r, e = .returned (.int .i64 r) ∧ Below w.heap.size w w' := by
  have HX := Aside0.mk hx
  clear hx
  go_enter Tryd.func93, Tryd.ntmps93
  go_wp2_with (fail)
  refine (len64_calls x HX.out _).mono ?_
  rintro e w1 ⟨r, rfl, hb⟩
  have HB := Aside0.mk hb
  clear hb
  go_wp2
  go_ret
  exact ⟨_, rfl, HB.out⟩
set_option maxRecDepth 100000 in
set_option maxHeartbeats 1000000 in
theorem pdq_calls (l : List Int) (hl : l.length ≤ 2) (u : Value) (lim : Int) (w0 w : World) (hB : Below w0.heap.size w0 w) (ho : Kd.R (Kd.int .i64) 3 w w0.heap.size (fun _ => True) u l) :
    Calls Tryd.prog 92 #[u, .int .i64 0, .int .i64 l.length, .int .i64 lim] w fun e w' => e = .returned (.tuple #[]) ∧ Kd.R (Kd.int .i64) 3 w' w0.heap.size (fun _ => True) u (sortI l) ∧ Below w0.heap.size w0 w' := by
  have HB := Aside0.mk hB
  have HO := Aside0.mk ho
  clear hB ho
  go_enter Tryd.func92, Tryd.ntmps92
  have hl12 : (l.length : Int) ≤ 12 := by omega
  have hw : wrap64 ((l.length : Int) - 0) = l.length := by unfold wrap64; omega
  go_wp2_with (fail)
  go_loopw [1, 2] (fun v1 v2 wr => v1 = .int .i64 0 ∧ v2 = .int .i64 l.length ∧ Aside0 (w = wr)) (fun _ _ _ => 0)
  case atStart => exact ⟨rfl, rfl, ⟨rfl⟩⟩
  case round =>
    obtain ⟨rfl, rfl, ⟨rfl⟩⟩ := hrel
    go_wp2_with (fail)
    refine (L.slices_insertionSortOrdered_int.calls 4 (fun _ => True) u l 0 l.length (sortI l) w0 w HB.out HO.out (isort_law l hl)).mono ?_
    rintro e w1 ⟨rfl, hr, hb, _⟩
    have HR := Aside0.mk (Kd.R_mono (ok' := fun _ => True) hr (fun _ _ => trivial))
    have HB1 := Aside0.mk hb
    clear hr hb
    go_wp2
    exact bodyPost_ret (v := .tuple #[]) (by simp [results, Tryd.results92, go_sem]) rfl ⟨rfl, HR.out, HB1.out⟩
set_option maxRecDepth 100000 in
set_option maxHeartbeats 1000000 in
theorem sort_calls (l : List Int) (hl : l.length ≤ 2) (u : Value) (w0 w : World) (hB : Below w0.heap.size w0 w) (ho : Kd.R (Kd.int .i64) 3 w w0.heap.size (fun _ => True) u l) :
    Calls Tryd.prog 70 #[u] w fun e w' => e = .returned (.tuple #[]) ∧ Kd.R (Kd.int .i64) 3 w' w0.heap.size (fun _ => True) u (sortI l) ∧ Below w0.heap.size w0 w' := by
  obtain ⟨A, c, rfl⟩ := Kd.R_slice ho
  have HB := Aside0.mk hB
  have HO := Aside0.mk ho
  have HL := Aside0.mk hl
  have hx : (l.length : Int) = 0 ∨ (l.length : Int) = 1 ∨ (l.length : Int) = 2 := by omega
  have HX := Aside0.mk hx
  have hx2 : (l.length : Int) ≤ 2 := by omega
  clear hB ho hl hx
  go_enter Tryd.func70, Tryd.ntmps70
  go_wp2_with (fail)
  refine (len_calls l.length HX.out _).mono ?_
  rintro e w1 ⟨r, rfl, hb⟩
  have HB1 := Aside0.mk (below_then HB.out HB.out.size hb)
  have HO1 := Aside0.mk (Kd.R_below HO.out hb)
  clear hb
  go_wp2_with (fail)
  refine (pdq_calls l HL.out _ _ w0 _ HB1.out HO1.out).mono ?_
  rintro e w2 ⟨rfl, hr, hb⟩
  have HR := Aside0.mk hr
  have HB2 := Aside0.mk hb
  clear hr hb
  go_wp2
  exact bodyPost_end (v := .tuple #[]) (by simp [results, Tryd.results70, go_sem]) rfl ⟨rfl, HR.out, HB2.out⟩
end Go.Proofs.YtikfghnkbgdbgaaDoor.Q
end
section
namespace Go.Proofs.YtikfghnkbgdbgaaDoor.Q
set_option linter.unusedSimpArgs false
set_option linter.unusedVariables false
open Go.RowKit Go.Proofs.YtikfghnkbgdbgaaDoorW.PrintWords Go.Proofs.YtikfghnkbgdbgaaDoorW.PrintLast Go.Proofs.YtikfghnkbgdbgaaDoorW.PrintMore
def shutL (t : Int) (p : List Wk) : List Int := (p.filter (fun y => decide (y.f0 = t))).map (·.f2)
theorem shutL_take (t : Int) (p : List Wk) (k : Nat) (hk : k < p.length) : shutL t (p.take (k + 1)) = shutL t (p.take k) ++ (if (rd_T59 p k).f0 = t then [(rd_T59 p k).f2] else []) := by
  show _ = shutL t (p.take k) ++ (if (W3 p k).f0 = t then [(W3 p k).f2] else [])
  rw [take_W3 p k hk, shutL, shutL, List.filter_append, List.map_append]
  congr 1
  by_cases h : (W3 p k).f0 = t <;> simp [h]
theorem short3 {l : List Wk} (h : List.Pairwise (fun y x => y.f1 < x.f1) l) (hb : ∀ y ∈ l, 0 ≤ y.f1 ∧ y.f1 < 2) : l.length ≤ 2 := by
  match l, h, hb with
  | [], _, _ => simp
  | [_], _, _ => simp
  | [_, _], _, _ => simp
  | x :: y :: z :: r, h, hb =>
    have h1 := (List.pairwise_cons.1 h).1 y (by simp)
    have h2 := (List.pairwise_cons.1 (List.pairwise_cons.1 h).2).1 z (by simp)
    have h3 := hb x (by simp)
    have h4 := hb z (by simp)
    omega
theorem shutL_len {ms : List M} {gs : List G} {n : Int} {p : List Wk} (h : planB ms gs n p = true) (hg : gs.length ≤ 2) (t : Int) : (shutL t p).length ≤ 2 := by
  obtain ⟨h1, h2, _⟩ := planFrom_all p [] h
  have can : ∀ y ∈ p, canB ms gs n y = true := by
    intro y hy
    obtain ⟨j, hj, rfl⟩ := List.mem_iff_getElem.1 hy
    have := h1 j hj
    simpa [W3, rd_T59, List.getD_eq_getElem?_getD, List.getElem?_eq_getElem hj] using this
  have pw : List.Pairwise (fun y x => behindB y x = true) p := by
    rw [List.pairwise_iff_getElem]
    intro i j hi hj hij
    have := h2 i j hij hj
    simpa [W3, rd_T59, List.getD_eq_getElem?_getD, List.getElem?_eq_getElem hj, List.getElem?_eq_getElem hi] using this
  have pw2 : List.Pairwise (fun y x => y.f1 < x.f1) (p.filter (fun y => decide (y.f0 = t))) := by
    refine List.Pairwise.imp_of_mem ?_ (pw.filter _)
    intro a b ha hb hab
    have ha1 := List.mem_filter.1 ha
    have hb1 := List.mem_filter.1 hb
    have e1 : a.f0 = t := of_decide_eq_true ha1.2
    have e2 : b.f0 = t := of_decide_eq_true hb1.2
    have := behind_lt (can b hb1.1) (can a ha1.1) hg hab
    omega
  unfold shutL
  rw [List.length_map]
  refine short3 pw2 fun y hy => ?_
  have := canB_bounds (can y (List.mem_filter.1 hy).1)
  omega
theorem shutL_take_len (t : Int) (p : List Wk) (k : Nat) : (shutL t (p.take k)).length ≤ k := by
  unfold shutL
  rw [List.length_map]
  exact Nat.le_trans (List.length_filter_le _ _) (by simp; omega)
set_option maxRecDepth 100000 in
set_option maxHeartbeats 2000000 in
theorem gang_Closed.calls (A0_0 : Option Addr) (c0_0 : Nat) (l0_0 : List (M)) (A0_1 : Option Addr) (c0_1 : Nat) (l0_1 : List (G)) (a0_2 : Int) (A1 : Option Addr) (c1 : Nat) (l1 : List (Wk)) (a2 : Int) (r1 : List Int) (r2 : Int) (w : World) (hr0_0 : Kd.C k66 w A0_0 l0_0.length l0_0) (hc0_0 : l0_0.length ≤ c0_0) (hr0_1 : Kd.C k63 w A0_1 l0_1.length l0_1) (hc0_1 : l0_1.length ≤ c0_1) (hr1 : Kd.C k59 w A1 l1.length l1) (hc1 : l1.length ≤ c1) (hG : GV w) (h : gang_Closed.f l0_0 l0_1 a0_2 l1 a2 = some (r1, r2)) :
    Calls Tryd.prog 22 #[.agg #[.slice A0_0 l0_0.length c0_0, .slice A0_1 l0_1.length c0_1, .int .i64 a0_2], .slice A1 l1.length c1, .int .i64 a2] w fun e w' => ∃ v0_ : Value, e = .returned (.tuple #[v0_, .int .i64 r2]) ∧ Kd.V (Kd.int .i64) 3 w' w.heap.size (fun k_ => (w.heap.size ≤ k_)) v0_ r1 ∧ Below w.heap.size w w' := by
  have HR0 := Aside0.mk hr0_0
  have HR1 := Aside0.mk hr0_1
  have HR2 := Aside0.mk hr1
  have HG0 := Aside0.mk hG
  have H := Aside0.mk h
  have hB := ((Below.refl w.heap.size w).alloc (Nat.le_refl _) (.cells #[.slice A0_0 l0_0.length c0_0, .slice A0_1 l0_1.length c0_1, .int .i64 a0_2] 25))
  have HB := Aside0.mk hB
  have hx := World.alloc_heap_new w (.cells #[.slice A0_0 l0_0.length c0_0, .slice A0_1 l0_1.length c0_1, .int .i64 a0_2] 25)
  have HX := Aside0.mk hx
  clear hr0_0 hr0_1 hr1 hG hB h hx
  go_enter Tryd.func22, Tryd.ntmps22
  go_wp2_with (fail)
  refine (asked_any l0_0 l0_1 A0_0 c0_0 A0_1 c0_1 a0_2 A1 c1 l1 _ (Kd.C_below HR0.out HB.out) hc0_0 (Kd.C_below HR1.out HB.out) hc0_1 (Kd.C_below HR2.out HB.out) hc1 (gv_below HG0.out HB.out)).mono ?_
  rintro e w1 ⟨B0, n0, d0, B1, n1, d1, m, bm, E, rfl, hE, hs, hb⟩
  have HB1 := Aside0.mk (below_then HB.out HB.out.size hb)
  have HX1 := Aside0.mk ((hb.block w.heap.size (by simp)).trans HX.out)
  have hxl := (Array.getElem?_eq_some_iff.1 HX1.out).1
  clear hb
  by_cases hE0 : E = 0
  · obtain ⟨b, ⟨rfl, rfl, rfl⟩, ⟨rfl, rfl, rfl⟩, rfl, rfl, hm, hl⟩ := hs hE0
    subst hE0
    have HE := Aside0.mk hE
    have hbd := okB_bounds (askedE_ok hE.symm).1
    have hg2 := hbd.2.1.2
    have hn4 : a0_2 ≤ 4 := by omega
    have HB2 := Aside0.mk (HB1.out.alloc HB1.out.size (.cells #[.slice A0_0 l0_0.length c0_0, .slice A0_1 l0_1.length c0_1, .int .i64 a0_2, .map (some b)] 86))
    have HH : Aside0 ((if within a2 0 (a0_2 - 1) = true then some (sortI (shutL a2 l1), (0 : Int)) else some ([], 41)) = some (r1, r2)) := ⟨by rw [← H.out]; unfold gang_Closed.f; rw [if_pos hE.symm]; rfl⟩
    have hx2 := (blk_cell HX1.out 2).trans rfl
    have hn1 : 1 ≤ a0_2 := by omega
    have HN := Aside0.mk hn1
    clear hm hl hs hE hbd
    go_wp2_with (fail)
    cases hw : within a2 0 (a0_2 - 1) with
    | false =>
      have HW := Aside0.mk hw
      have h41 : some (([] : List Int), (41 : Int)) = some (r1, r2) := by rw [← HH.out, if_neg (by rw [HW.out]; simp)]
      obtain ⟨rfl, rfl⟩ : [] = r1 ∧ 41 = r2 := by simpa using h41
      refine (within_calls _ _ _ false hw _).mono ?_
      clear hw h41 HH H
      rintro e w2 ⟨rfl, hb⟩
      have HB3 := Aside0.mk (below_then HB2.out HB2.out.size hb)
      clear hb hx2
      go_wp2
      go_ret2
      exact ⟨_, rfl, Kd.V_nil _ _ _ _ _, HB3.out⟩
    | true =>
      have HW := Aside0.mk hw
      have h0 : some (sortI (shutL a2 l1), (0 : Int)) = some (r1, r2) := by rw [← HH.out, if_pos HW.out]
      obtain ⟨rfl, rfl⟩ : sortI (shutL a2 l1) = r1 ∧ 0 = r2 := by simpa using h0
      refine (within_calls _ _ _ true hw _).mono ?_
      clear hw h0 HH H
      rintro e w2 ⟨rfl, hb⟩
      have HB3 := Aside0.mk (below_then HB2.out HB2.out.size hb)
      have hpl := (plan_fair (askedE_ok HE.out.symm).2 hg2 hn4).len
      clear hb hx2
      go_wp2_with (fail)
      go_loopw [10, 30] (fun v10 v30 wr => ∃ k : Nat, k ≤ l1.length ∧ v30 = .int .i64 k ∧ Aside0 (Kd.R (Kd.int .i64) 3 wr w.heap.size (fun _ => True) v10 (shutL a2 (l1.take k))) ∧ Aside0 (Below w.heap.size w wr)) (fun _ v30 _ => l1.length - (intOf v30).toNat)
      case atStart => exact ⟨0, Nat.zero_le _, rfl, ⟨Kd.R_nil _ _ _ _ _⟩, HB3⟩
      case round =>
        obtain ⟨k, hk, rfl, HR, HY⟩ := hrel
        by_cases hlt : k < l1.length
        · obtain ⟨ad, hA2, hx0, hx1, hx2⟩ := at_T59 (Kd.C_below HR2.out HY.out) (k : Int) (by omega) (by omega)
          have HA2 := Aside0.mk hA2
          rw [Int.toNat_natCast] at hx0 hx1 hx2
          subst hA2
          clear HA2
          have HT := Aside0.mk (shutL_take a2 l1 k hlt)
          have hlen := shutL_take_len a2 l1 k
          have HY2 := Aside0.mk (HY.out.alloc HY.out.size (.cells #[.int .i64 (rd_T59 l1 k).f0, .int .i64 (rd_T59 l1 k).f1, .int .i64 (rd_T59 l1 k).f2] 59))
          have HRR := Aside0.mk (Kd.R_below HR.out ((Below.refl wr.heap.size wr).alloc (Nat.le_refl _) (.cells #[.int .i64 (rd_T59 l1 k).f0, .int .i64 (rd_T59 l1 k).f1, .int .i64 (rd_T59 l1 k).f2] 59)))
          by_cases hc : (rd_T59 l1 k).f0 = a2
          · have hc1 : ((rd_T59 l1 k).f0 == a2) = true := beq_iff_eq.2 hc
            have HC := Aside0.mk hc
            clear hc
            go_wp2_with (first | (at_builtin; refine Kd.R_append (Kd.int .i64) (w0 := w) w.heap.size rfl (.tmp 38) (.tmp 41) 28 3 (.int .i64 0) 8 rfl Tryd.underlying28 info3 rfl (by decide) (by omega) _ (shutL a2 (l1.take k)) (rd_T59 l1 k).f2 [.int .i64 (rd_T59 l1 k).f2] (fun _ => True) (fun _ => False) rfl (by rw [World.size_alloc]; rfl) ?aP (fun _ hk => hk.elim) ?aF ?aO ?aB ?aS ?aL ?_))
            case aP => exact rfl
            case aF => exact fun _ _ => trivial
            case aO => exact HRR.out
            case aB => exact HY2.out
            case aS => exact HY2.out.size
            case aL => omega
            intro v1 w6 ho hb hg hat
            have HY6 := Aside0.mk hb
            have HR6 := Aside0.mk ho
            clear hlen hb hg hat ho hx0 hx1 hx2
            go_wp2
            go_roundw
            case rel => exact ⟨k + 1, by omega, by go_num, ⟨by rw [HT.out, if_pos HC.out]; exact HR6.out⟩, HY6⟩
            case measure => simp [intOf]; omega
          · have hc1 : ((rd_T59 l1 k).f0 == a2) = false := beq_eq_false_iff_ne.2 hc
            have HC := Aside0.mk hc
            clear hc hlen
            go_wp2
            go_roundw
            case rel => exact ⟨k + 1, by omega, by go_num, ⟨by rw [HT.out, if_neg HC.out, List.append_nil]; exact HRR.out⟩, HY2⟩
            case measure => simp [intOf]; omega
        · obtain rfl : k = l1.length := by omega
          have hR := HR.out
          rw [List.take_length] at hR
          obtain ⟨A, c, hv⟩ := Kd.R_slice hR
          subst hv
          have HR' := Aside0.mk hR
          clear hR
          go_wp2_with (fail)
          refine (sort_calls (shutL a2 l1) (shutL_len (askedE_ok HE.out.symm).2 hg2 a2) _ w _ HY.out HR'.out).mono ?_
          rintro e w7 ⟨rfl, hr, hb⟩
          have hcl := R_clip hr
          have hll := hcl.1
          have hcl1 := hcl.2.1
          have HCL := Aside0.mk hcl
          have HB7 := Aside0.mk hb
          clear hcl hr hb
          go_wp2
          go_ret2
          exact ⟨_, rfl, by have q := HCL.out.2.2; rw [HCL.out.1] at q; exact q, HB7.out⟩
  · have HE := Aside0.mk hE
    have hE1 : (E == 0) = false := beq_eq_false_iff_ne.2 hE0
    have hE2 : (E != 0) = true := bne_iff_ne.2 hE0
    have h41 : some (([] : List Int), E) = some (r1, r2) := by rw [← H.out]; unfold gang_Closed.f; rw [if_neg (by rw [← hE]; exact hE0), ← hE]
    obtain ⟨rfl, rfl⟩ : [] = r1 ∧ E = r2 := by simpa using h41
    clear hE hs hE0 h41
    go_wp2
    go_ret2
    exact ⟨_, rfl, Kd.V_nil _ _ _ _ _, HB1.out.alloc HB1.out.size _⟩
end Go.Proofs.YtikfghnkbgdbgaaDoor.Q
end
section
namespace Go.Proofs.YtikfghnkbgdbgaaDoor.Q
set_option linter.unusedSimpArgs false
set_option linter.unusedVariables false
open Go.RowKit Go.Proofs.YtikfghnkbgdbgaaDoorW.PrintWords Go.Proofs.YtikfghnkbgdbgaaDoorW.PrintLast Go.Proofs.YtikfghnkbgdbgaaDoorW.PrintMore
set_option maxRecDepth 100000 in
theorem gang_Mended.calls (A0_0 : Option Addr) (c0_0 : Nat) (l0_0 : List (M)) (A0_1 : Option Addr) (c0_1 : Nat) (l0_1 : List (G)) (a0_2 : Int) (A1 : Option Addr) (c1 : Nat) (l1 : List (Wk)) (r1 : List Int) (r2 : Int) (w : World) (hr0_0 : Kd.C k66 w A0_0 l0_0.length l0_0) (hc0_0 : l0_0.length ≤ c0_0) (hr0_1 : Kd.C k63 w A0_1 l0_1.length l0_1) (hc0_1 : l0_1.length ≤ c0_1) (hr1 : Kd.C k59 w A1 l1.length l1) (hc1 : l1.length ≤ c1) (hG : GV w) (h : gang_Mended.f l0_0 l0_1 a0_2 l1 = some (r1, r2)) :
    Calls Tryd.prog 27 #[.agg #[.slice A0_0 l0_0.length c0_0, .slice A0_1 l0_1.length c0_1, .int .i64 a0_2], .slice A1 l1.length c1] w fun e w' => ∃ v0_ : Value, e = .returned (.tuple #[v0_, .int .i64 r2]) ∧ Kd.V (Kd.int .i64) 3 w' w.heap.size (fun k_ => (w.heap.size ≤ k_)) v0_ r1 ∧ Below w.heap.size w w' := by
  have HR0 := Aside0.mk hr0_0
  have HR1 := Aside0.mk hr0_1
  have HR2 := Aside0.mk hr1
  have HG0 := Aside0.mk hG
  have H := Aside0.mk h
  have hB := ((Below.refl w.heap.size w).alloc (Nat.le_refl _) (.cells #[.slice A0_0 l0_0.length c0_0, .slice A0_1 l0_1.length c0_1, .int .i64 a0_2] 25))
  have HB := Aside0.mk hB
  clear hr0_0 hr0_1 hr1 hG hB h
  go_enter Tryd.func27, Tryd.ntmps27
  go_wp2_with (fail)
  refine (asked_any l0_0 l0_1 A0_0 c0_0 A0_1 c0_1 a0_2 A1 c1 l1 _ (Kd.C_below HR0.out HB.out) hc0_0 (Kd.C_below HR1.out HB.out) hc0_1 (Kd.C_below HR2.out HB.out) hc1 (gv_below HG0.out HB.out)).mono ?_
  rintro e w1 ⟨B0, n0, d0, B1, n1, d1, m, bm, E, rfl, hE, hs, hb⟩
  have HB1 := Aside0.mk (below_then HB.out HB.out.size hb)
  clear hb
  by_cases hE0 : E = 0
  · obtain ⟨b, ⟨rfl, rfl, rfl⟩, ⟨rfl, rfl, rfl⟩, rfl, rfl, hm, hl⟩ := hs hE0
    subst hE0
    have HE := Aside0.mk hE
    have hbd := okB_bounds (askedE_ok hE.symm).1
    have hg2 := hbd.2.1.2
    have hn4 : a0_2 ≤ 4 := by omega
    have h0 : some (mendedL l0_0 l0_1 l1, (0 : Int)) = some (r1, r2) := by rw [← H.out]; unfold gang_Mended.f; rw [if_pos hE.symm]
    obtain ⟨rfl, rfl⟩ : mendedL l0_0 l0_1 l1 = r1 ∧ 0 = r2 := by simpa using h0
    have HB2 := Aside0.mk (HB1.out.alloc HB1.out.size (.cells #[.slice A0_0 l0_0.length c0_0, .slice A0_1 l0_1.length c0_1, .int .i64 a0_2, .map (some b)] 86))
    clear hm hl hs hE hbd h0
    go_wp2_with (fail)
    refine (mended_calls l0_0 l0_1 A0_0 c0_0 A0_1 c0_1 a0_2 b A1 c1 l1 _ (Kd.C_below HR0.out HB2.out) (Kd.C_below HR1.out HB2.out) (Kd.C_below HR2.out HB2.out) (gv_below HG0.out HB2.out) (askedE_ok HE.out.symm).1 (plan_fair (askedE_ok HE.out.symm).2 hg2 hn4)).mono ?_
    rintro e w2 ⟨v, rfl, hR, hb⟩
    have HB3 := Aside0.mk (below_then HB2.out HB2.out.size hb)
    obtain ⟨A, c, rfl⟩ := Kd.R_slice hR
    have hcl := R_clip hR
    have hcl1 := hcl.2.1
    have HCL := Aside0.mk hcl
    clear hcl hR hb
    go_wp2
    go_ret2
    exact ⟨_, rfl, Kd.V_mono HCL.out.2.2 (fun k hk => Nat.le_trans HB2.out.size hk), HB3.out⟩
  · have HE := Aside0.mk hE
    have hE1 : (E == 0) = false := beq_eq_false_iff_ne.2 hE0
    have hE2 : (E != 0) = true := bne_iff_ne.2 hE0
    have h41 : some (([] : List Int), E) = some (r1, r2) := by rw [← H.out]; unfold gang_Mended.f; rw [if_neg (by rw [← hE]; exact hE0), ← hE]
    obtain ⟨rfl, rfl⟩ : [] = r1 ∧ E = r2 := by simpa using h41
    clear hE hs hE0 h41
    go_wp2
    go_ret2
    exact ⟨_, rfl, Kd.V_nil _ _ _ _ _, HB1.out.alloc HB1.out.size _⟩
end Go.Proofs.YtikfghnkbgdbgaaDoor.Q
end
section
namespace Go.Proofs.YtikfghnkbgdbgaaDoor.Q
set_option linter.unusedSimpArgs false
set_option linter.unusedVariables false
open Go.RowKit Go.Proofs.YtikfghnkbgdbgaaDoorW.PrintWords Go.Proofs.YtikfghnkbgdbgaaDoorW.PrintLast Go.Proofs.YtikfghnkbgdbgaaDoorW.PrintMore
theorem index_law (l : List Int) (a : Int) (hl : l.length ≤ 64) : ∀ (k j : Nat), l.length - j < k → j ≤ l.length →
    L.slices_Index_int_int.l0 k l a (l.length : Int) (j : Int) = some (match (l.drop j).findIdx? (· == a) with | some i => ((i + j : Nat) : Int) | none => -1)
  | 0, j, h, _ => by omega
  | k + 1, j, h, hj => by
    unfold L.slices_Index_int_int.l0
    by_cases hlt : j < l.length
    · have hrd : rd l (j : Int) = l[j] := by simp [rd, List.getD_eq_getElem?_getD, List.getElem?_eq_getElem hlt]
      rw [if_pos (by omega), if_pos (by omega), if_pos (by omega), hrd, List.drop_eq_getElem_cons hlt, List.findIdx?_cons]
      by_cases he : a = l[j]
      · rw [if_pos he, if_pos (by simp [he])]
        simp
      · rw [if_neg he, if_neg (by simp; exact fun h => he h.symm), show wrap64 ((j : Int) + 1) = ((j + 1 : Nat) : Int) by unfold wrap64; omega, index_law l a hl k (j + 1) (by omega) (by omega)]
        cases (l.drop (j + 1)).findIdx? (· == a) with
        | none => rfl
        | some i => exact congrArg some (show ((i + (j + 1) : Nat) : Int) = ((i + 1 + j : Nat) : Int) by omega)
    · obtain rfl : j = l.length := by omega
      rw [if_neg (by omega)]
      simp
theorem contains_law (l : List Int) (a : Int) (hl : l.length ≤ 64) : L.slices_Contains_int_int.f (l.length + 1) l a = some (l.contains a) := by
  have h := index_law l a hl (l.length + 1) 0 (by omega) (by omega)
  unfold L.slices_Contains_int_int.f L.slices_Index_int_int.f
  rw [show ((0 : Nat) : Int) = 0 from rfl] at h
  rw [h]
  simp only [List.drop_zero, Option.bind_some]
  congr 1
  cases hf : l.findIdx? (· == a) with
  | none =>
    rw [List.findIdx?_eq_none_iff] at hf
    have : ¬ l.contains a = true := by
      simp only [List.contains_iff_mem]
      intro hm
      have := hf a hm
      simp at this
    simpa using this
  | some i =>
    have hi : l.contains a = true := by
      rw [List.findIdx?_eq_some_iff_getElem] at hf
      obtain ⟨h1, h2, _⟩ := hf
      simp only [List.contains_iff_mem]
      have : l[i] = a := by simpa using h2
      rw [← this]; exact List.getElem_mem h1
    rw [hi]
    exact decide_eq_true (show ((i + 0 : Nat) : Int) ≥ 0 by omega)
theorem contains_calls (A : Option Addr) (c : Nat) (l : List Int) (a : Int) (w : World) (hr : Kd.C (Kd.int .i64) w A l.length l) (hc : l.length ≤ c) (hl : l.length ≤ 64) (r : Bool) (hr' : l.contains a = r) :
    Calls Tryd.prog 79 #[.slice A l.length c, .int .i64 a] w fun e w' => e = .returned (.bool r) ∧ Below w.heap.size w w' :=
  (L.slices_Contains_int_int.calls (l.length + 1) A c l a r w hr hc (by rw [contains_law l a hl, hr'])).mono fun e w' ⟨he, hd⟩ => ⟨he, hd.below⟩
theorem find_some (f : Int → Bool) (n k : Nat) (hk : k < n) (ha : ∀ i : Nat, i < k → f i = false) (h : f k = true) : (upTo n).find? f = some (k : Int) := by
  have e : upTo (n : Int) = (List.range k).map Int.ofNat ++ (((k : Nat) : Int) :: (List.range' (k + 1) (n - k - 1)).map Int.ofNat) := by
    have : List.range n = List.range k ++ (k :: List.range' (k + 1) (n - k - 1)) := by
      rw [List.range_eq_range', List.range_eq_range', show n = k + (1 + (n - k - 1)) by omega, ← List.range'_append_1, show k + (1 + (n - k - 1)) - k - 1 = n - k - 1 by omega, Nat.add_comm 1, Nat.zero_add, List.range'_succ]
    simp [upTo, this]
  rw [e, List.find?_append, List.find?_eq_none.2, Option.none_or, List.find?_cons, h]
  intro x hx
  simp only [List.mem_map, List.mem_range] at hx
  obtain ⟨i, hi, rfl⟩ := hx
  have := ha i hi
  simpa using this
theorem find_none (f : Int → Bool) (n : Nat) (ha : ∀ i : Nat, i < n → f i = false) : (upTo n).find? f = none := by
  rw [List.find?_eq_none]
  intro x hx
  simp only [upTo, List.mem_map, List.mem_range] at hx
  obtain ⟨i, hi, rfl⟩ := hx
  have := ha i (by simpa using hi)
  simpa using this
theorem mended_len (ms : List M) (gs : List G) (p : List Wk) : (mendedL ms gs p).length ≤ ms.length := by
  unfold mendedL
  exact filter_len _ ms.length
set_option maxRecDepth 100000 in
set_option maxHeartbeats 1000000 in
theorem gang_Open.calls (A0_0 : Option Addr) (c0_0 : Nat) (l0_0 : List (M)) (A0_1 : Option Addr) (c0_1 : Nat) (l0_1 : List (G)) (a0_2 : Int) (A1 : Option Addr) (c1 : Nat) (l1 : List (Wk)) (r1 : Int) (r2 : Int) (w : World) (hr0_0 : Kd.C k66 w A0_0 l0_0.length l0_0) (hc0_0 : l0_0.length ≤ c0_0) (hr0_1 : Kd.C k63 w A0_1 l0_1.length l0_1) (hc0_1 : l0_1.length ≤ c0_1) (hr1 : Kd.C k59 w A1 l1.length l1) (hc1 : l1.length ≤ c1) (hG : GV w) (h : gang_Open.f l0_0 l0_1 a0_2 l1 = some (r1, r2)) :
    Calls Tryd.prog 29 #[.agg #[.slice A0_0 l0_0.length c0_0, .slice A0_1 l0_1.length c0_1, .int .i64 a0_2], .slice A1 l1.length c1] w fun e w' => e = .returned (.tuple #[.int .i64 r1, .int .i64 r2]) ∧ Below w.heap.size w w' := by
  have HR0 := Aside0.mk hr0_0
  have HR1 := Aside0.mk hr0_1
  have HR2 := Aside0.mk hr1
  have HG0 := Aside0.mk hG
  have H := Aside0.mk h
  have hB := ((Below.refl w.heap.size w).alloc (Nat.le_refl _) (.cells #[.slice A0_0 l0_0.length c0_0, .slice A0_1 l0_1.length c0_1, .int .i64 a0_2] 25))
  have HB := Aside0.mk hB
  have hx := World.alloc_heap_new w (.cells #[.slice A0_0 l0_0.length c0_0, .slice A0_1 l0_1.length c0_1, .int .i64 a0_2] 25)
  have HX := Aside0.mk hx
  clear hr0_0 hr0_1 hr1 hG hB h hx
  go_enter Tryd.func29, Tryd.ntmps29
  go_wp2_with (fail)
  refine (asked_any l0_0 l0_1 A0_0 c0_0 A0_1 c0_1 a0_2 A1 c1 l1 _ (Kd.C_below HR0.out HB.out) hc0_0 (Kd.C_below HR1.out HB.out) hc0_1 (Kd.C_below HR2.out HB.out) hc1 (gv_below HG0.out HB.out)).mono ?_
  rintro e w1 ⟨B0, n0, d0, B1, n1, d1, m, bm, E, rfl, hE, hs, hb⟩
  have HB1 := Aside0.mk (below_then HB.out HB.out.size hb)
  have HX1 := Aside0.mk ((hb.block w.heap.size (by simp)).trans HX.out)
  have hxl := (Array.getElem?_eq_some_iff.1 HX1.out).1
  clear hb
  by_cases hE0 : E = 0
  · obtain ⟨b, ⟨rfl, rfl, rfl⟩, ⟨rfl, rfl, rfl⟩, rfl, rfl, hm, hl⟩ := hs hE0
    subst hE0
    have HE := Aside0.mk hE
    have hbd := okB_bounds (askedE_ok hE.symm).1
    have hg2 := hbd.2.1.2
    have hm4 := hbd.1.2
    have hn4 : a0_2 ≤ 4 := by omega
    have HH : Aside0 ((match (upTo l0_0.length).find? (fun i => !(mendedL l0_0 l0_1 l1).contains i) with | some i => some (i, 0) | none => some (0, 4)) = some (r1, r2)) := ⟨by rw [← H.out]; unfold gang_Open.f; rw [if_pos hE.symm]; rfl⟩
    have HB2 := Aside0.mk (HB1.out.alloc HB1.out.size (.cells #[.slice A0_0 l0_0.length c0_0, .slice A0_1 l0_1.length c0_1, .int .i64 a0_2, .map (some b)] 86))
    have HX2 := Aside0.mk (blk_alloc HX1.out (.cells #[.slice A0_0 l0_0.length c0_0, .slice A0_1 l0_1.length c0_1, .int .i64 a0_2, .map (some b)] 86))
    clear hm hl hs hE hbd H
    go_wp2_with (fail)
    refine (mended_calls l0_0 l0_1 A0_0 c0_0 A0_1 c0_1 a0_2 b A1 c1 l1 _ (Kd.C_below HR0.out HB2.out) (Kd.C_below HR1.out HB2.out) (Kd.C_below HR2.out HB2.out) (gv_below HG0.out HB2.out) (askedE_ok HE.out.symm).1 (plan_fair (askedE_ok HE.out.symm).2 hg2 hn4)).mono ?_
    rintro e w2 ⟨v, rfl, hR, hb⟩
    have HB3 := Aside0.mk (below_then HB2.out HB2.out.size hb)
    have HX3 := Aside0.mk ((hb.block w.heap.size (by simp; omega)).trans HX2.out)
    obtain ⟨A, c, rfl⟩ := Kd.R_slice hR
    have hcl := Kd.R_reads' hR
    have HCL := Aside0.mk hcl.2
    have hx0 := (blk_cell HX3.out 0).trans rfl
    clear hcl hR hb hxl HB2 HX2
    go_wp2_with (fail)
    clear hx0
    have hml := Nat.le_trans (mended_len l0_0 l0_1 l1) hm4
    go_loopw [25] (fun v25 wr => ∃ k : Nat, k ≤ l0_0.length ∧ v25 = .int .i64 k ∧ Aside0 (∀ i : Nat, i < k → (!(mendedL l0_0 l0_1 l1).contains (i : Int)) = false) ∧ Aside0 (Below w2.heap.size w2 wr)) (fun v25 _ => l0_0.length - (intOf v25).toNat)
    case atStart => exact ⟨0, Nat.zero_le _, rfl, ⟨fun i h => absurd h (Nat.not_lt_zero _)⟩, ⟨Below.refl _ _⟩⟩
    case round =>
      obtain ⟨k, hk, rfl, HA, HY⟩ := hrel
      by_cases hlt : k < l0_0.length
      · go_wp2_with (fail)
        refine (contains_calls A c _ (k : Int) _ (Kd.C_below HCL.out.2 HY.out) HCL.out.1 (by omega) _ rfl).mono ?_
        rintro e w3 ⟨rfl, hb⟩
        have HY3 := Aside0.mk (below_then HY.out HY.out.size hb)
        clear hb
        cases hc : (mendedL l0_0 l0_1 l1).contains (k : Int) with
        | false =>
          have HF := Aside0.mk (find_some (fun i => !(mendedL l0_0 l0_1 l1).contains i) l0_0.length k hlt HA.out (by simp only [hc]; rfl))
          have hq : some ((k : Int), (0 : Int)) = some (r1, r2) := by rw [← HH.out, HF.out]
          obtain ⟨rfl, rfl⟩ : (k : Int) = r1 ∧ 0 = r2 := by simpa using hq
          clear hc hq
          go_wp2
          go_ret2
          exact ⟨rfl, below_then HB3.out HB3.out.size HY3.out⟩
        | true =>
          have HC := Aside0.mk hc
          clear hc
          go_wp2
          go_roundw
          case rel => exact ⟨k + 1, by omega, by go_num, ⟨fun i hi => by
            by_cases q : i = k
            · rw [q, HC.out]; rfl
            · exact HA.out i (by omega)⟩, HY3⟩
          case measure => simp [intOf]; omega
      · obtain rfl : k = l0_0.length := by omega
        have HF := Aside0.mk (find_none (fun i => !(mendedL l0_0 l0_1 l1).contains i) l0_0.length HA.out)
        have hq : some ((0 : Int), (4 : Int)) = some (r1, r2) := by rw [← HH.out, HF.out]
        obtain ⟨rfl, rfl⟩ : (0 : Int) = r1 ∧ 4 = r2 := by simpa using hq
        clear hq
        go_wp2
        go_ret2
        exact ⟨rfl, below_then HB3.out HB3.out.size HY.out⟩
  · have HE := Aside0.mk hE
    have hE1 : (E == 0) = false := beq_eq_false_iff_ne.2 hE0
    have hE2 : (E != 0) = true := bne_iff_ne.2 hE0
    have h41 : some ((0 : Int), E) = some (r1, r2) := by rw [← H.out]; unfold gang_Open.f; rw [if_neg (by rw [← hE]; exact hE0), ← hE]
    obtain ⟨rfl, rfl⟩ : 0 = r1 ∧ E = r2 := by simpa using h41
    clear hE hs hE0 h41
    go_wp2
    go_ret2
    exact ⟨rfl, HB1.out.alloc HB1.out.size _⟩
end Go.Proofs.YtikfghnkbgdbgaaDoor.Q
end
section
namespace Go.Proofs.YtikfghnkbgdbgaaDoorW.PrintLast
open Go.RowKit Go.Proofs.YtikfghnkbgdbgaaDoorW.PrintWords Go.Proofs.YtikfghnkbgdbgaaDoorW.PrintMore
section
variable {P : Program} {ops : Array Oper} {Q : Exit → Act → World → Prop} {md : Region.Mode}
def noDefer (ops : Array Oper) : Bool := ops.all fun o => match o.op with | .defer _ => false | _ => true
theorem noDefer_spec (h : noDefer ops = true) {i : Nat} {o : Oper} (ho : ops[i]? = some o) : ∀ c, o.op ≠ .defer c := by
  intro c hc
  have hm : o ∈ ops := Array.mem_of_getElem? ho
  have := Array.all_eq_true_iff_forall_mem.1 h o hm
  rw [hc] at this
  cases this
theorem wpOp_in (r : Option Nat) (n : Nat) {i : Nat} {K : Act → World → Prop} {a : Act} {w : World} (hd : noDefer ops = true) (hno : ¬ LetsOut Q) (h : wpOp P ops Q i K a w) :
    wpOpIn { Fence.wide with round := r } n P ops Q i K a w := by
  unfold wpOp at h
  unfold wpOpIn
  cases ho : ops[i]? with
  | none => rw [ho] at h; exact h
  | some o =>
    rw [ho] at h
    dsimp only at h ⊢
    split
    · rename_i hw
      rw [if_pos hw] at h
      rcases h with h | h
      · refine ⟨fun _ _ => trivial, ?_⟩
        unfold Oper.wp at h
        rw [Oper.semAt_eq _ _ _ (noDefer_spec hd ho)]
        generalize (execOp a.eval o).run P w = x at h ⊢
        cases x with
        | ok x w' =>
          cases x <;> simp only [Oper.upon, Oper.uponIn] at h ⊢ <;>
            first
              | exact h
              | exact h.elim
              | exact ⟨fun hh => (by cases hh), callsIn_wide.2 (Calls.mono h fun e w'' he => by cases e <;> exact he)⟩
              | exact ⟨fun hh => (by cases hh), fun c cs _ => let ⟨v, w'', hr, hs⟩ := h c cs; ⟨v, w'', hr, stepsIn_wide.2 hs⟩⟩
        | halt x w' => cases x <;> simp only [Oper.upon, Oper.uponIn] at h ⊢ <;> exact h
      · exact absurd h.2 hno
    · rename_i hw
      rw [if_neg hw] at h
      exact ⟨fun _ _ => trivial, h⟩
theorem wpAny_in (r : Option Nat) (n : Nat) (hd : noDefer ops = true) (hno : ¬ LetsOut Q) : ∀ (fuel : Nat) (listed : Array Bool) (a : Act) (w : World), wpAny P md ops Q fuel listed a w → wpAnyIn { Fence.wide with round := r } n P md ops Q fuel listed a w
  | 0, _, _, _, h => h
  | fuel + 1, _, _, _, h => ⟨h.1, fun i hi => wpOp_in r n hd hno (wpOp_mono (fun a' w' h' => wpAny_in r n hd hno fuel _ a' w' h') (h.2 i hi))⟩
theorem startIn_ {S : World → Prop} {ds : List Nat} {id n : Nat} {a : Act} {w : World} {l : Nat} {m : Nat} (hd : noDefer ops = true) (hno : ¬ LetsOut Q) (L : Array Bool) (hm : P.follows .mixedOrders = true) (hn : ops.size = n) (hl : Array.replicate n false = L) (hS : S w.drew)
    (h : S w.drew → wpAnyLast P .any ops Q S ds n L a w.drew) : (Code.region id ops true).wpIn (Fence.wide.inRound l) m P Q a w := by
  subst hn
  subst hl
  exact wpIn_region_any hm (wpAny_in (some l) m hd hno _ _ _ _ (wpAny_of_last _ _ _ _ (h hS)))
end
section
variable {P : Program} {ops : Array Oper} {Q : Exit → Act → World → Prop}
theorem goesC_ {oi : Oper} {N : Option Tmp} {a : Act} {w : World} {K : Act → World → Prop} {f : FuncId} {fn : Func} {c : Operand} {ags : Array Operand} {ts : Array TypeId} {lb : Array Value} (hf : P.funcs[f]? = some fn) (hname : (fn.name == "runtime.NumGoroutine") = false) (hb : fn.body.isSome = true) (args : Array Value)
    (hw : Region.wanted oi (yielded ops a.tmps) = true) (hN : oi.dst = N) (hop : oi.op = .call { callee := .value c, args := ags, argTypes := ts }) (hc : a.eval c = .func (.func f) #[] lb) (hargs : ags.map a.eval ++ lb = args)
    (h : Calls P f args w fun e w' => ∃ v, e = .returned v ∧ K (a.put N v) w') : if Region.wanted oi (yielded ops a.tmps) = true then Oper.wp P oi a w K Q else K (a.put N undef) w := by
  refine call_ f args hw hN ?_ h
  have he := enters_ hf hname hb args w
  unfold execOp
  simp [hop, resolve, Deferred.ofValue, invoke, hc, hargs, he]
end
structure Keeps (n0 : Nat) (S : Nat → Prop) (W W' : World) : Prop where
  bel : Below n0 W W'
  kept : Kept W W' S
theorem Keeps.refl (n0 : Nat) (S : Nat → Prop) (W : World) : Keeps n0 S W W := ⟨Below.refl _ _, Kept.refl _ _⟩
theorem Keeps.step {n0 : Nat} {S : Nat → Prop} {A B C : World} (h : Keeps n0 S A B) (hb : Below B.heap.size B C) (hn : n0 ≤ A.heap.size) : Keeps n0 S A C :=
  ⟨h.bel.trans (hb.mono (Nat.le_trans hn h.kept.1)), h.kept.below hb⟩
theorem Keeps.trans {n0 : Nat} {S : Nat → Prop} {A B C : World} (h : Keeps n0 S A B) (k : Keeps n0 S B C) : Keeps n0 S A C := ⟨h.bel.trans k.bel, h.kept.then_ k.kept (fun _ hk => .inl hk)⟩
theorem below_putObj (W : World) (l n0 : Nat) (o : Obj) (h : n0 ≤ l) : Below n0 W (W.putObj l o) := by
  have hg := grownBy_putObj' W l o
  exact ⟨hg.os, hg.tape, hg.output, hg.size, fun k hk => World.putObj_heap_other (by omega)⟩
theorem Keeps.putObj {n0 : Nat} {S : Nat → Prop} {A B : World} (h : Keeps n0 S A B) (l : Nat) (o : Obj) (hl : n0 ≤ l) (hS : S l) : Keeps n0 S A (B.putObj l o) :=
  ⟨h.bel.trans (below_putObj B l n0 o hl), h.kept.then_ (S2 := S) ⟨by simp, fun i hi hn => World.putObj_heap_other (fun e => hn (e ▸ hS))⟩ (fun _ hk => .inl hk)⟩
section
variable {P : Program} {w : World} {n : Nat}
theorem wpIn_range_all {α : Type} {g : Operand} {p : Tmp} {assign body : Code} {Q : Exit → Act → World → Prop} {a : Act}
    {gf : Nat} {lb : Array Value} (hg : a.eval g = .func (.func gf) #[] lb) (eg : ∀ args w, (callFunc gf args).run P w = .ok (.enter gf args) w)
    (n0 : Nat) (hn0 : n0 ≤ w.heap.size) (S : Nat → Prop) (hS0 : ∀ k, S k → n0 ≤ k ∧ k < w.heap.size) (xs : List α) (Pr : α → Value → World → Prop) (w00 : World) (hb00 : Below n0 w00 w)
    (hit : ∀ (l : Nat) (J : List α → World → Prop) (W : World), l = w.heap.size + 1 → W.heap.size = w.heap.size + 2 → Below w.heap.size w W →
      (∀ pre A B, J pre A → Below A.heap.size A B → J pre B) →
      (∀ pre x v W1, J pre W1 → Pr x v W1 → YieldAt Fence.wide n P l #[v] W1 fun e W' => e = .returned (.bool true) ∧ J (pre ++ [x]) W' ∧ Keeps n0 (fun k => S k ∨ k = l) W1 W') →
      J [] W → Calls P gf (#[.func (.yield l) #[] #[]] ++ lb) W fun e W' => (∃ v, e = .returned v) ∧ J xs W' ∧ Keeps n0 (fun k => S k ∨ k = l) W W')
    (hPr : ∀ x v W o, Pr x v W → (∃ r, W.heap[w.heap.size + 1]? = some (.loop r)) → Pr x v (W.putObj (w.heap.size + 1) o))
    (I : List α → World → Prop) (hI1 : ∀ pre A B, I pre A → Below A.heap.size A B → I pre B)
    (hI2 : ∀ pre A o, I pre A → (∃ r, A.heap[w.heap.size + 1]? = some (.loop r)) → I pre (A.putObj (w.heap.size + 1) o)) (h0 : I [] w) (a₁ : α → Value → Act)
    (hassign : ∀ (x : α) (v : Value) (W : World) (K : Act → World → Prop), K (a₁ x v) W →
      assign.wpIn (Fence.wide.inRound (w.heap.size + 1)) n P (Exit.then K (fun _ _ _ => False)) { tmps := (#[p].zip #[v]).foldl (fun t (p, v) => t.setIfInBounds p v) a.tmps, defers := [] } W)
    (hbody : ∀ (pre : List α) (x : α) (v : Value) (W : World), w.heap.size + 2 ≤ W.heap.size → I pre W → Pr x v W →
      body.wpIn (Fence.wide.inRound (w.heap.size + 1)) n P (fun e _ W' => e = .normal ∧ I (pre ++ [x]) W' ∧ Keeps n0 S W W') (a₁ x v) W)
    (hdone : ∀ W, w.heap.size < W.heap.size → I xs W → Keeps n0 (fun k => S k ∨ k = w.heap.size + 1) w W → W.heap[w.heap.size]? = some (.deferred (some [])) → Q .normal { a with defers := { target := .collected w.heap.size, args := #[] } :: a.defers } W) :
    (Code.rangeFunc g #[p] assign body).wp P Q a w := by
  refine (wpIn_wide (n := n + 1)).1 (wpIn_rangeFunc ?_)
  intro fn hfn
  obtain ⟨rec, hrec⟩ : ∃ rec : LoopState → Option Code → Loop, rec = fun st pe => { state := st, pending := pe, fn, tmps := a.tmps, params := #[p], assign, body, defers := w.heap.size } := ⟨_, rfl⟩
  obtain ⟨W1, hW1⟩ : ∃ W1, (w.alloc (.deferred (some []))).alloc (.loop (rec .ready none)) = W1 := ⟨_, rfl⟩
  have hL1 : W1.heap[w.heap.size + 1]? = some (.loop (rec .ready none)) := by
    rw [← hW1]; have := World.alloc_heap_new (w.alloc (.deferred (some []))) (.loop (rec .ready none)); rwa [World.size_alloc] at this
  have hK1 : W1.heap[w.heap.size]? = some (.deferred (some [])) := by
    rw [← hW1]; exact (Below.heap_alloc _ _ _ (by simp)).trans (World.alloc_heap_new w _)
  have hb1 : Below w.heap.size w W1 := by
    rw [← hW1]; exact (((Below.refl _ w).alloc (Nat.le_refl _) _).alloc (by simp) _)
  have hs1 : W1.heap.size = w.heap.size + 2 := by rw [← hW1]; simp
  have hI0 : I [] W1 := hI1 _ _ _ h0 hb1
  refine ⟨w.heap.size + 1, [{ target := .collected w.heap.size, args := #[] }], W1, { target := .fn (.func gf) lb, args := #[.func (.yield (w.heap.size + 1)) #[] #[]] }, W1, gf,
    #[.func (.yield (w.heap.size + 1)) #[] #[]] ++ lb, W1, ?_, ?_, ?_, ?_, fun h => (by cases h), ?_⟩
  · rw [← hW1, hrec]; exact run_enterLoop_outer _ _ _ _ _
  · simp only [resolve, hg]
    simp [go_sem]
  · intro f' hf'; trivial
  · simp [invoke, go_sem, eg]
  · refine callsIn_wide.2 ((hit (w.heap.size + 1)
      (fun pre W => I pre W ∧ W.heap[w.heap.size + 1]? = some (.loop (rec .ready none)) ∧ W.heap[w.heap.size]? = some (.deferred (some [])))
      W1 rfl hs1 hb1
      (fun pre A B hs hb => ⟨hI1 _ _ _ hs.1 hb, (hb.block _ (Array.getElem?_eq_some_iff.1 hs.2.1).1).trans hs.2.1, (hb.block _ (Array.getElem?_eq_some_iff.1 hs.2.2).1).trans hs.2.2⟩)
      ?_ ⟨hI0, hL1, hK1⟩).mono ?_)
    · -- one round
      rintro pre x v W ⟨hi, hl, hk⟩ hpr
      have hlt : w.heap.size + 1 < W.heap.size := (Array.getElem?_eq_some_iff.1 hl).1
      have hy := run_yield (P := P) (args := #[v]) hl (by rw [hrec]; rfl)
      rw [hrec] at hy
      refine ⟨fn, _, assign, body, hy, roundIn_of_wpIn hfn (hassign x v W _ ?_)⟩
      clear hy
      refine ⟨_, run_beginRound hl (by rw [hrec]), ?_⟩
      have hl2 : (W.putObj (w.heap.size + 1) (.loop { rec .ready none with state := .busy })).heap[w.heap.size + 1]? = some (.loop { rec .ready none with state := .busy }) := World.putObj_heap_same hlt
      have hk2 : (W.putObj (w.heap.size + 1) (.loop { rec .ready none with state := .busy })).heap[w.heap.size]? = some (.deferred (some [])) := (World.putObj_heap_other (by omega)).trans hk
      refine wpIn_mono (hbody pre x v _ (by simp; omega) (hI2 _ _ _ hi ⟨_, hl⟩) (hPr _ _ _ _ hpr ⟨_, hl⟩)) ?_
      rintro e a3 W3 ⟨rfl, hi3, hkp⟩
      have hl3 : W3.heap[w.heap.size + 1]? = some (.loop { rec .ready none with state := .busy }) := (hkp.kept.2 _ (by simp; omega) (fun h => by have := hS0 _ h; omega)).trans hl2
      have hk3 : W3.heap[w.heap.size]? = some (.deferred (some [])) := (hkp.kept.2 _ (by simp; omega) (fun h => by have := hS0 _ h; omega)).trans hk2
      have hr := run_endRound (P := P) none hl3
      refine ⟨_, _, hr, rfl, ⟨hI2 _ _ _ hi3 ⟨_, hl3⟩, ?_, (World.putObj_heap_other (by omega)).trans hk3⟩, ?_⟩
      · refine (World.putObj_heap_same (Array.getElem?_eq_some_iff.1 hl3).1).trans ?_
        rw [hrec]
        rfl
      · have q1 : Keeps n0 (fun k => S k ∨ k = w.heap.size + 1) W W3 :=
          ((Keeps.refl n0 _ W).putObj _ _ (by omega) (.inr rfl)).trans ⟨hkp.bel, hkp.kept.mono (fun _ hk => .inl hk)⟩
        exact q1.putObj _ _ (by omega) (.inr rfl)
    · -- behind the iterator
      rintro e W2 ⟨⟨v, rfl⟩, ⟨hi, hl, hk⟩, hkp⟩
      refine ⟨none, _, by have := run_endLoop (P := P) hl (by rw [hrec]; simp); rw [hrec] at this; exact this, ?_⟩
      refine hdone _ (by simp; have := (Array.getElem?_eq_some_iff.1 hl).1; omega) (hI2 _ _ _ hi ⟨_, hl⟩) ?_ ((World.putObj_heap_other (by omega)).trans hk)
      have q0 : Keeps n0 (fun k => S k ∨ k = w.heap.size + 1) w W1 := ⟨hb1.mono hn0, Kept.of_below hb1 _⟩
      exact (q0.trans hkp).putObj _ _ (by omega) (.inr rfl)
end
end Go.Proofs.YtikfghnkbgdbgaaDoorW.PrintLast
end
section
namespace Go.Proofs.YtikfghnkbgdbgaaDoor.Q
set_option linter.unusedSimpArgs false
set_option linter.unusedVariables false
open Go.RowKit Go.Proofs.YtikfghnkbgdbgaaDoorW.PrintWords Go.Proofs.YtikfghnkbgdbgaaDoorW.PrintLast Go.Proofs.YtikfghnkbgdbgaaDoorW.PrintMore
def cellsW (x : List Wk) : List Value := x.flatMap (fun y => [.int .i64 y.f0, .int .i64 y.f1, .int .i64 y.f2])
theorem cellsW_len (x : List Wk) : (cellsW x).length = x.length * 3 := by
  induction x with
  | nil => rfl
  | cons y r ih => simp only [cellsW, List.flatMap_cons, List.length_append, List.length_cons, List.length_nil] at *; omega
theorem cellsW_at : ∀ (x : List Wk) (j : Nat) (u : Value), (cellsW x)[j]? = some u → ∃ k i p, x[k]? = some p ∧ j = k * 3 + i ∧ i < 3 ∧ [Value.int .i64 p.f0, .int .i64 p.f1, .int .i64 p.f2][i]? = some u
  | [], j, u, h => by simp [cellsW] at h
  | y :: r, j, u, h => by
    have e : cellsW (y :: r) = [Value.int .i64 y.f0, .int .i64 y.f1, .int .i64 y.f2] ++ cellsW r := by simp [cellsW]
    rw [e] at h
    by_cases hj : j < 3
    · rw [List.getElem?_append_left (by simpa using hj)] at h
      exact ⟨0, j, y, rfl, by omega, hj, h⟩
    · rw [List.getElem?_append_right (by simp; omega)] at h
      obtain ⟨k, i, p, h1, h2, h3, h4⟩ := cellsW_at r _ u h
      exact ⟨k + 1, i, p, by simpa using h1, by simp at h2; omega, h3, h4⟩
theorem cellsW_reps (W : World) (base : Nat) (ok : Nat → Prop) : ∀ x : List Wk, Reps (k59.M W base ok) 3 x (cellsW x)
  | [] => Reps.none _ _
  | y :: r => by
    refine ⟨cellsW_len _, fun j p hj => ?_⟩
    have e : cellsW (y :: r) = [Value.int .i64 y.f0, .int .i64 y.f1, .int .i64 y.f2] ++ cellsW r := by simp [cellsW]
    rw [e]
    cases j with
    | zero =>
      simp at hj
      subst hj
      simpa using k59_mkM W base ok y
    | succ j =>
      have := (cellsW_reps W base ok r).2 j p (by simpa using hj)
      rw [show (j + 1) * 3 = 3 + j * 3 by omega, ← List.drop_drop]
      simpa using this
theorem cellsW_read {W : World} {ad : Addr} {n : Nat} {x : List Wk} (h : Kd.C k59 W (some ad) n x) (j : Nat) (u : Value) (hu : (cellsW x)[j]? = some u) : W.cell? (ad.add j) = some u := by
  obtain ⟨k, i, p, h1, h2, h3, h4⟩ := cellsW_at x j u hu
  have hk : k < x.length := (List.getElem?_eq_some_iff.1 h1).1
  obtain ⟨ad', e, hc⟩ := h.2.2 (by have := h.1; omega)
  obtain ⟨c, hs, hr, hcell⟩ := hc k p h1
  injection e with e
  subst e
  rw [k59_open hr] at hcell
  rw [h2]
  exact hcell i u h4
theorem append_plan (W : World) (A : Option Addr) (x : List Wk) (y : Wk) (h : Kd.C k59 W A x.length x) (hA : x = [] → A = none) (hl : x.length ≤ 8) (ty : TypeId) :
    ∃ A' c' w', (Builtin.append_ #[26, 26] ty #[.slice A x.length x.length, .slice (some ⟨W.heap.size, 0, none⟩) 1 1]).run Tryd.prog (W.alloc (.cells #[.int .i64 y.f0, .int .i64 y.f1, .int .i64 y.f2] 59)) = .ok (.slice A' (x.length + 1) c') w' ∧
      Kd.R k59 59 w' (W.heap.size + 1) (fun _ => True) (.slice A' (x.length + 1) c') (x ++ [y]) ∧ A' ≠ none ∧ x.length + 1 ≤ c' ∧ Below (W.heap.size + 1) (W.alloc (.cells #[.int .i64 y.f0, .int .i64 y.f1, .int .i64 y.f2] 59)) w' := by
  have hu : Tryd.prog.underlying 26 = some (.slice 59) := by kernel_rfl
  obtain ⟨i, hi⟩ : ∃ i, Tryd.prog.info? 59 = some i := Option.isSome_iff_exists.1 (by kernel_rfl)
  have hinf := info59
  rw [hi] at hinf
  simp only [Option.map_some, Option.some.injEq, Prod.mk.injEq] at hinf
  obtain ⟨hz, hsz, hby⟩ := hinf
  have hs : (W.alloc (.cells #[.int .i64 y.f0, .int .i64 y.f1, .int .i64 y.f2] 59)).heap.size = W.heap.size + 1 := by simp
  have hnews : ∀ j u, [Value.int .i64 y.f0, .int .i64 y.f1, .int .i64 y.f2][j]? = some u → (W.alloc (.cells #[.int .i64 y.f0, .int .i64 y.f1, .int .i64 y.f2] 59)).cell? ((⟨W.heap.size, 0, none⟩ : Addr).add j) = some u := by
    intro j u hj
    rw [Addr.add_lit, blk_cell (World.alloc_heap_new W _)]
    simpa using hj
  have main : ∃ v' w', (Builtin.append_ #[26, 26] ty #[.slice A x.length x.length, .slice (some ⟨W.heap.size, 0, none⟩) 1 1]).run Tryd.prog (W.alloc (.cells #[.int .i64 y.f0, .int .i64 y.f1, .int .i64 y.f2] 59)) = .ok v' w' ∧
      w'.ownsRow (W.heap.size + 1) 59 3 v' (x.length + 1) (cellsW x ++ [.int .i64 y.f0, .int .i64 y.f1, .int .i64 y.f2]) ∧ (W.alloc (.cells #[.int .i64 y.f0, .int .i64 y.f1, .int .i64 y.f2] 59)).grownBy w' none := by
    cases A with
    | some b =>
      have := run_append_arg_grows (P := Tryd.prog) (W.alloc (.cells #[.int .i64 y.f0, .int .i64 y.f1, .int .i64 y.f2] 59)) 26 ty 59 i _ 3 24 hu hi hz hsz hby rfl (by decide) b x.length x.length (cellsW x) (cellsW_len x)
        (fun j u hj => (((Below.refl W.heap.size W).alloc (Nat.le_refl _) _).cell (World.block_lt_of_cell? _ _ (cellsW_read h j u hj))).trans (cellsW_read h j u hj)) ⟨W.heap.size, 0, none⟩ 1 1 _ rfl hnews (by omega) (by simp [maxLen]; omega) (by omega)
      rw [hs] at this
      exact this
    | none =>
      have hx : x = [] := by
        cases x with
        | nil => rfl
        | cons z r => obtain ⟨ad, e, _⟩ := h.2.2 (by simp); cases e
      subst hx
      obtain ⟨v', w', h1, h2, h3, _⟩ := run_append_own (P := Tryd.prog) (W.alloc (.cells #[.int .i64 y.f0, .int .i64 y.f1, .int .i64 y.f2] 59)) (W.heap.size + 1) 26 ty 59 i _ 3 24 hu hi hz hsz hby rfl (by decide) (.slice none 0 0) 0 [] (World.ownsRow_nil _ _ _ _) ⟨W.heap.size, 0, none⟩ 1 1 [.int .i64 y.f0, .int .i64 y.f1, .int .i64 y.f2] rfl hnews (by simp [Value.oneCell']) (by decide) (by decide) (by rw [hs]; exact Nat.le_refl _)
      exact ⟨v', w', h1, h2, h3⟩
  obtain ⟨v', w', hr, hown, hg⟩ := main
  have hR : Kd.R k59 59 w' (W.heap.size + 1) (fun _ => True) v' (x ++ [y]) := by
    refine ⟨fun _ _ => trivial, cellsW (x ++ [y]), ?_, cellsW_reps _ _ _ _⟩
    have e : cellsW (x ++ [y]) = cellsW x ++ [.int .i64 y.f0, .int .i64 y.f1, .int .i64 y.f2] := by simp [cellsW]
    rw [e, List.length_append]
    exact hown
  obtain ⟨g', c', rfl, _⟩ := hown.form (by omega)
  refine ⟨some ⟨g', 0, none⟩, c', w', hr, hR, by simp, ?_, ⟨hg.os, hg.tape, hg.output, hg.size, fun k hk => hg.block k (by rw [hs]; exact hk) (by simp)⟩⟩
  exact (Kd.R_reads' hR).2.1
end Go.Proofs.YtikfghnkbgdbgaaDoor.Q
end
section
namespace Go.Proofs.YtikfghnkbgdbgaaDoor.Q
set_option linter.unusedSimpArgs false
set_option linter.unusedVariables false
open Go.RowKit Go.Proofs.YtikfghnkbgdbgaaDoorW.PrintWords Go.Proofs.YtikfghnkbgdbgaaDoorW.PrintLast Go.Proofs.YtikfghnkbgdbgaaDoorW.PrintMore
structure Src (w W : World) (ms : List M) (gs : List G) (n : Int) (b g gm : Nat) (many : Int) (A0 : Option Addr) (c0 : Nat) (A1 : Option Addr) (c1 : Nat) : Prop where
  box : BoxAt w W A0 ms.length c0 A1 gs.length c1 n b g
  mp : MapIs W b (spotsL ms n.toNat)
  mn : W.heap[gm]? = some (.cells #[.int .i64 many] 3 (0, 0))
section
variable {w W W' : World} {ms : List M} {gs : List G} {n : Int} {b g gm : Nat} {many : Int} {A0 : Option Addr} {c0 : Nat} {A1 : Option Addr} {c1 : Nat} {S : Nat → Prop}
theorem Src.keeps (h : Src w W ms gs n b g gm many A0 c0 A1 c1) (hk : Keeps w.heap.size S W W') (hg : ¬ S g) (hb : ¬ S b) (hm : ¬ S gm) : Src w W' ms gs n b g gm many A0 c0 A1 c1 :=
  ⟨⟨blk_kept h.box.box hk.kept hg, h.box.bel.trans hk.bel⟩, h.mp.kept (hk.kept.2 _ h.mp.lt hb), blk_kept h.mn hk.kept hm⟩
theorem Src.below (h : Src w W ms gs n b g gm many A0 c0 A1 c1) (hb : Below W.heap.size W W') : Src w W' ms gs n b g gm many A0 c0 A1 c1 :=
  ⟨h.box.step hb, h.mp.below hb, (hb.block _ (Array.getElem?_eq_some_iff.1 h.mn).1).trans h.mn⟩
end
def Pr8 (ms : List M) (gs : List G) (n : Int) (base : Nat) (x : List Wk) (v : Value) (W : World) : Prop :=
  ∃ A c, v = .slice A x.length c ∧ x.length ≤ c ∧ (x = [] → A = none) ∧ Kd.F k59 W (fun k => base ≤ k) A x.length x ∧ Fair ms gs n x
theorem flat_snoc (f : Int → Bool) (e : Int → List (List Wk)) (k : Nat) : ((upTo ((k + 1 : Nat) : Int)).filter f).flatMap e = ((upTo (k : Int)).filter f).flatMap e ++ (if f k = true then e k else []) := by
  rw [filter_snoc, List.flatMap_append]
  split <;> simp
theorem enumP_at (ms : List M) (gs : List G) (n many : Int) (s : Nat) (p : List Wk) (night gang : Int) (h0 : 0 ≤ gang) (h1 : gang < gs.length) (he : night * gs.length + gang + (s + 1) = many * gs.length) :
    enumP ms gs n many (s + 1) p = enumP ms gs n many s p ++ ((upTo ms.length).filter (fun m => fitsB ms gs n p ⟨night, gang, m⟩)).flatMap (fun m => enumP ms gs n many s (p ++ [⟨night, gang, m⟩])) := by
  have hat : many * gs.length - (s + 1) = night * gs.length + gang := by omega
  have hq := (Int.ediv_emod_unique (a := night * gs.length + gang) (b := gs.length) (r := gang) (q := night) (by omega)).2 ⟨by rw [Int.mul_comm]; omega, h0, h1⟩
  show enumP ms gs n many s p ++ ((upTo ms.length).filter (fun m => fitsB ms gs n p ⟨(many * gs.length - (s + 1)) / gs.length, (many * gs.length - (s + 1)) % gs.length, m⟩)).flatMap (fun m => enumP ms gs n many s (p ++ [⟨(many * gs.length - (s + 1)) / gs.length, (many * gs.length - (s + 1)) % gs.length, m⟩])) = _
  rw [hat, hq.1, hq.2]
theorem last_W3 (p : List Wk) (h : p ≠ []) : p.getLast? = some (W3 p (p.length - 1)) := by
  have hl : p.length - 1 < p.length := by have := List.length_pos_iff.2 h; omega
  rw [List.getLast?_eq_getElem?, List.getElem?_eq_getElem hl]
  simp [W3, rd_T59, List.getD_eq_getElem?_getD, show ((p.length : Int) - 1).toNat = p.length - 1 by omega, List.getElem?_eq_getElem hl]
theorem fits_nil (ms : List M) (gs : List G) (n : Int) (x : Wk) : fitsB ms gs n [] x = canB ms gs n x := by simp [fitsB]
theorem fits_last (ms : List M) (gs : List G) (n : Int) (p : List Wk) (x : Wk) (h : p ≠ []) : fitsB ms gs n p x = (canB ms gs n x && !(decide ((W3 p (p.length - 1)).f0 = x.f0) && within (x.f2 - (W3 p (p.length - 1)).f2) (-1) 1)) := by
  simp only [fitsB, last_W3 p h, within]
theorem fits_last2 (ms : List M) (gs : List G) (n : Int) (p : List Wk) (x : Wk) (h : p ≠ []) : fitsB ms gs n p x = (canB ms gs n x && !(decide ((rd_T59 p ((p.length : Int) - 1)).f0 = x.f0) && within (x.f2 - (rd_T59 p ((p.length : Int) - 1)).f2) (-1) 1)) := by
  have hl := List.length_pos_iff.2 h
  rw [fits_last ms gs n p x h, W3, show ((p.length - 1 : Nat) : Int) = (p.length : Int) - 1 by omega]
theorem can_last {ms : List M} {gs : List G} {n : Int} {p : List Wk} (hf : Fair ms gs n p) (h : p ≠ []) : canB ms gs n (rd_T59 p ((p.length : Int) - 1)) = true := by
  have hl := List.length_pos_iff.2 h
  have := hf.can (p.length - 1) (by omega)
  rwa [W3, show ((p.length - 1 : Nat) : Int) = (p.length : Int) - 1 by omega] at this
theorem Fair.snoc {ms : List M} {gs : List G} {n : Int} {p : List Wk} (h : Fair ms gs n p) {x : Wk} (hx : canB ms gs n x = true) (hl : p.length + 1 ≤ 8) : Fair ms gs n (p ++ [x]) := by
  refine ⟨fun j hj => ?_, by simpa using hl⟩
  by_cases q : j < p.length
  · have := h.can j q
    simpa [W3, rd_T59, List.getD_eq_getElem?_getD, List.getElem?_append_left q] using this
  · have e : j = p.length := by simp at hj; omega
    subst e
    simpa [W3, rd_T59, List.getD_eq_getElem?_getD] using hx
theorem fits_can {ms : List M} {gs : List G} {n : Int} {p : List Wk} {x : Wk} (h : fitsB ms gs n p x = true) : canB ms gs n x = true := by
  unfold fitsB at h
  simp only [Bool.and_eq_true] at h
  exact h.1
end Go.Proofs.YtikfghnkbgdbgaaDoor.Q
end
section
namespace Go.Proofs.YtikfghnkbgdbgaaDoor.Q
set_option linter.unusedSimpArgs false
set_option linter.unusedVariables false
open Go.RowKit Go.Proofs.YtikfghnkbgdbgaaDoorW.PrintWords Go.Proofs.YtikfghnkbgdbgaaDoorW.PrintLast Go.Proofs.YtikfghnkbgdbgaaDoorW.PrintMore
theorem wide_fn (f : FuncId) : Fence.wide.fn f = True := rfl
theorem wide_depth : Fence.wide.depth = none := rfl
attribute [local go_sem] Oper.semAt_some wide_fn wide_depth
section
variable {w : World} {ms : List M} {gs : List G} {n : Int} {b g gm : Nat} {many : Int} {A0 : Option Addr} {c0 : Nat} {A1 : Option Addr} {c1 : Nat} {S : Nat → Prop} {base l yb nx : Nat} {J : List (List Wk) → World → Prop}
structure Mine (W : World) (l yb nx g gm : Nat) : Prop where
  y : W.heap[yb]? = some (.cells #[.func (.yield l) #[] #[]] 114 (0, 0))
  nx : W.heap[nx]? = some (.cells #[.func (.func 101) #[] #[.pointer (some ⟨g, 0, none⟩), .pointer (some ⟨gm, 0, none⟩), .pointer (some ⟨yb, 0, none⟩), .pointer (some ⟨nx, 0, none⟩)]] 127 (0, 0))
theorem Mine.keeps {n0 : Nat} {W W' : World} (h : Mine W l yb nx g gm) (hk : Keeps n0 S W W') (h1 : ¬ S yb) (h2 : ¬ S nx) : Mine W' l yb nx g gm := ⟨blk_kept h.y hk.kept h1, blk_kept h.nx hk.kept h2⟩
def Rounds (l m n0 base : Nat) (S : Nat → Prop) (ms : List M) (gs : List G) (n : Int) (J : List (List Wk) → World → Prop) : Prop :=
  ∀ pre x v W1, J pre W1 → Pr8 ms gs n base x v W1 → YieldAt Fence.wide m Tryd.prog l #[v] W1 fun e W' => e = .returned (.bool true) ∧ J (pre ++ [x]) W' ∧ Keeps n0 S W1 W'
set_option maxRecDepth 100000 in
set_option maxHeartbeats 4000000 in
theorem next_zero (hY : Rounds l 0 w.heap.size base S ms gs n J) (pre : List (List Wk)) (x : List Wk) (night gang : Int) (A : Option Addr) (c : Nat) (W : World) (hj : J pre W) (hs : Src w W ms gs n b g gm many A0 c0 A1 c1) (hm : Mine W l yb nx g gm)
    (hg1 : 1 ≤ gs.length) (hg2 : gs.length ≤ 2) (hm4 : many ≤ 4) (h0 : 0 ≤ gang) (h1 : gang ≤ gs.length) (h2 : 0 ≤ night) (he : night * gs.length + gang = many * gs.length) (hx : Pr8 ms gs n base x (.slice A x.length c) W) :
    Calls Tryd.prog 101 #[.slice A x.length c, .int .i64 night, .int .i64 gang, .pointer (some ⟨g, 0, none⟩), .pointer (some ⟨gm, 0, none⟩), .pointer (some ⟨yb, 0, none⟩), .pointer (some ⟨nx, 0, none⟩)] W fun e W' =>
      e = .returned (.bool true) ∧ J (pre ++ [x]) W' ∧ Keeps w.heap.size S W W' := by
  have hb1 := (blk_cell hs.box.box 1).trans rfl
  have hb2 := (blk_cell hs.mn 0).trans rfl
  have hb3 := (blk_cell hm.y 0).trans rfl
  have hgl := (Array.getElem?_eq_some_iff.1 hs.box.box).1
  obtain ⟨fn, tmps, assign, body, hy, hR⟩ := hY pre x _ W hj hx
  clear hj hs hm hx
  have hc : (gang = gs.length ∧ night + 1 = many) ∨ (gang = 0 ∧ night = many ∧ (gang == (gs.length : Int)) = false) := by
    by_cases h : gang = gs.length
    · refine .inl ⟨h, ?_⟩
      have e : (night + 1) * (gs.length : Int) = many * gs.length := by rw [Int.add_mul]; omega
      exact Int.eq_of_mul_eq_mul_right (by omega) e
    · refine .inr ?_
      have hlt : gang < gs.length := by omega
      have q := (Int.ediv_emod_unique (a := night * gs.length + gang) (b := gs.length) (r := gang) (q := night) (by omega)).2 ⟨by rw [Int.mul_comm]; omega, h0, hlt⟩
      rw [he, Int.mul_ediv_cancel _ (by omega), Int.mul_emod_left] at q
      exact ⟨q.2.symm, q.1.symm, beq_eq_false_iff_ne.2 h⟩
  clear he
  refine (callsIn_wide (n := 0)).1 (callsIn_of_wp Tryd.func101 rfl trivial ((wpIn_wide (n := 0)).2 ?_) rfl)
  simp only [Tryd.ntmps101, List.size_toArray, List.length_cons, List.length_nil, Nat.reduceAdd, Nat.reduceSub, Array.replicate_succ, Array.replicate_zero, List.push_toArray, List.append_toArray, List.nil_append, List.cons_append]
  rcases hc with ⟨rfl, hn⟩ | ⟨rfl, hn, hq⟩
  all_goals
    subst hn
    go_wp2
    go_step3
    refine (wpIn_wide (n := 0)).1 ?_
    gi_wp2
  all_goals
    refine hR.mono ?_
    rintro e W' ⟨rfl, h⟩
    gi_wp2
    simp only [Exit.noGoto_ret]
    refine bodyPost_ret (v := .bool true) (by simp [results, Tryd.results101, go_sem]) rfl ?_
    exact ⟨rfl, h⟩
end
end Go.Proofs.YtikfghnkbgdbgaaDoor.Q
end
