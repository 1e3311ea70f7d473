/- A part of the proof of the statement GangPlan: It is proved that the statement GangPlan holds of the given program for every book and every list of numbers; there are no conditions. -/
import Derived.Test.YtikfghnkbgdbgaaDoorZGangPlan1
set_option linter.unusedSimpArgs false
set_option linter.unusedVariables false
section
namespace Go.Proofs.YtikfghnkbgdbgaaDoor.Q
set_option linter.unusedSimpArgs false
set_option linter.unusedVariables false
open Go.RowKit Go.Proofs.YtikfghnkbgdbgaaDoorW.PrintWords Go.Proofs.YtikfghnkbgdbgaaDoorW.PrintLast Go.Proofs.YtikfghnkbgdbgaaDoorW.PrintMore
theorem wrap_f (a : Int) {m : Int} (h : 1 ≤ m) (hm : m ≤ 9223372036854775807) : ∃ r, macadamref00_Wrap.f a m = some r ∧ 0 ≤ r ∧ r < m := by
  unfold macadamref00_Wrap.f
  rw [if_neg (by omega), if_neg (by omega)]
  have h1 := Int.tmod_lt_of_pos a (show 0 < m by omega)
  have h2 : -m < Int.tmod a m := by
    have := Int.tmod_lt_of_pos (-a) (show 0 < m by omega)
    rw [Int.neg_tmod] at this
    omega
  by_cases h : Int.tmod a m < 0
  · rw [if_pos h]
    exact ⟨_, rfl, by unfold wrap64; omega, by unfold wrap64; omega⟩
  · rw [if_neg h]
    exact ⟨_, rfl, by omega, by omega⟩
theorem sound_l1 (ms : List M) (gs : List G) (n : Int) (hm : ms.length ≤ 9223372036854775807) (hg : gs.length ≤ 9223372036854775807) (d : Nat) : ∀ (k j : Nat) (b : Bool), gs.length - j = d → j ≤ gs.length → 2 * d + 2 ≤ k →
    macadamlaw04_sound.l1 k b j ms gs n = some (b && (gs.drop j).all (gangB ms.length)) := by
  induction d with
  | zero =>
    intro k j b hd hj hk
    obtain ⟨k, rfl⟩ : ∃ m, k = m + 2 := ⟨k - 2, by omega⟩
    obtain rfl : j = gs.length := by omega
    simp only [macadamlaw04_sound.l1, macadamlaw04_sound.j4]
    cases b <;> simp
  | succ d ih =>
    intro k j b hd hj hk
    obtain ⟨k, rfl⟩ : ∃ m, k = m + 2 := ⟨k - 2, by omega⟩
    have hlt : j < gs.length := by omega
    have hr := rd_drop_G gs j hlt
    have I := fun b => ih k (j + 1) b (by omega) (by omega) (by omega)
    simp only [macadamlaw04_sound.l1, macadamlaw04_sound.j4]
    cases b with
    | false => rw [if_neg (by simp), if_neg (by simp)]; simp
    | true =>
      rw [if_pos rfl, if_pos (by rw [decide_eq_true_eq]; omega), if_pos (by omega), if_pos (by omega), wrap_up hlt hg, hr, amid_f]
      simp only [Option.bind_some, List.all_cons, gangB, I, sane_f _ _ 3 (by omega), Bool.true_and]
      have hwin : within (rd_T63 gs j).f0 0 (rd_T63 gs j).f1 = (decide (0 ≤ (rd_T63 gs j).f0) && decide ((rd_T63 gs j).f0 ≤ (rd_T63 gs j).f1)) := rfl
      rw [hwin]
      by_cases h1 : 0 ≤ (rd_T63 gs j).f0 <;> by_cases h2 : (rd_T63 gs j).f0 ≤ (rd_T63 gs j).f1 <;> by_cases h3 : (rd_T63 gs j).f1 < (ms.length : Int) <;> simp [h1, h2, h3]
theorem sound_l0 (ms : List M) (gs : List G) (n : Int) (hm : ms.length ≤ 9223372036854775807) (hg : gs.length ≤ 9223372036854775807) (d : Nat) : ∀ (k j : Nat) (b : Bool), ms.length - j = d → j ≤ ms.length → 2 * d + 2 + 2 * gs.length + 2 ≤ k →
    macadamlaw04_sound.l0 k b j ms gs n = some (b && (ms.drop j).all mileB && gs.all (gangB ms.length)) := by
  induction d with
  | zero =>
    intro k j b hd hj hk
    obtain ⟨k, rfl⟩ : ∃ m, k = m + 2 := ⟨k - 2, by omega⟩
    obtain rfl : j = ms.length := by omega
    have I := sound_l1 ms gs n hm hg gs.length k 0 b (by omega) (by omega) (by omega)
    simp only [macadamlaw04_sound.l0, macadamlaw04_sound.j2]
    have I' : macadamlaw04_sound.l1 k b 0 ms gs n = some (b && gs.all (gangB ms.length)) := by simpa using I
    cases b <;> simp [I']
  | succ d ih =>
    intro k j b hd hj hk
    obtain ⟨k, rfl⟩ : ∃ m, k = m + 2 := ⟨k - 2, by omega⟩
    have hlt : j < ms.length := by omega
    have hr := rd_drop_M ms j hlt
    have I := fun b => ih k (j + 1) b (by omega) (by omega) (by omega)
    simp only [macadamlaw04_sound.l0, macadamlaw04_sound.j2]
    cases b with
    | false =>
      have I1 := sound_l1 ms gs n hm hg gs.length k 0 false (by omega) (by omega) (by omega)
      rw [if_neg (by simp), if_neg (by simp)]
      simpa using I1
    | true =>
      rw [if_pos rfl, if_pos (by rw [decide_eq_true_eq]; omega), if_pos (by omega), if_pos (by omega), wrap_up hlt hm, hr, sane_f _ _ 6 (by omega), amid_f]
      simp only [Option.bind_some, List.all_cons, mileB, I, Bool.true_and]
      by_cases h1 : spanB (rd_T66 ms j).f0 6 = true
      · rw [if_pos h1]; simp [h1, within]
      · rw [if_neg h1]; simp [h1]
theorem sound_ev (ms : List M) (gs : List G) (n : Int) (hm : ms.length ≤ 9223372036854775807) (hg : gs.length ≤ 9223372036854775807) : Ev (fun k => macadamlaw04_sound.f k ms gs n) (okB ms gs n) := by
  have J : ∀ b, Ev (fun k => macadamlaw04_sound.j0 k b ms gs n) (b && ms.all mileB && gs.all (gangB ms.length)) := fun b => ⟨2 * ms.length + 2 * gs.length + 5, fun k hk => by
    obtain ⟨k, rfl⟩ : ∃ m, k = m + 1 := ⟨k - 1, by omega⟩
    simp only [macadamlaw04_sound.j0]
    refine (sound_l0 ms gs n hm hg ms.length k 0 b (by omega) (by omega) (by omega)).trans ?_
    simp⟩
  have hc := Ev.of (fun k => gang_Check.mono _ _ _ k) (check_f ms gs n hm hg)
  unfold macadamlaw04_sound.f
  refine Ev.bind hc ?_
  by_cases ok : okB ms gs n = true
  · rw [if_pos ok]
    refine Ev.pos rfl ?_
    obtain ⟨s1, s2, s3⟩ := okB_sizes ok
    have e1 : within (ms.length : Int) 1 4 = true := by simp [within]; omega
    have e2 : within (gs.length : Int) 1 2 = true := by simp [within]; omega
    have e3 : within n 1 4 = true := by simp [within]; omega
    refine Ev.bind (Ev.some ((amid_f _ _ _).trans (by rw [e1]))) (Ev.pos rfl (Ev.bind (Ev.some ((amid_f _ _ _).trans (by rw [e2]))) (Ev.pos rfl (Ev.bind (Ev.some ((amid_f _ _ _).trans (by rw [e3]))) ?_))))
    have := J true
    have e : (true && ms.all mileB && gs.all (gangB ms.length)) = okB ms gs n := by
      rw [ok, Bool.true_and, Bool.and_eq_true]
      unfold okB at ok
      simp only [Bool.and_eq_true] at ok
      exact ⟨ok.1.2, ok.2⟩
    rw [e] at this
    exact this
  · rw [if_neg ok]
    refine Ev.neg (by decide) ?_
    have := J false
    simp only [Bool.false_and] at this
    rw [show okB ms gs n = false by simpa using ok]
    exact this
theorem shut_l0 {p : List Wk} (c : Int) (hp : p.length * 24 ≤ 140737488351232) (d : Nat) : ∀ (i : Nat) (out : List Int), p.length - i = d → i ≤ p.length → out.length ≤ i →
    Ev (fun k => macadamlaw04_shut.l0 k p c out i) (out ++ ((p.drop i).filter (fun y => decide (y.f0 = c))).map (·.f2)) := by
  induction d with
  | zero =>
    intro i out hd hi ho
    rw [List.drop_of_length_le (by omega)]
    exact Ev.step (f := fun _ => some out) (fun k => by simp only [macadamlaw04_shut.l0]; rw [if_neg (by omega)]) (Ev.some (by simp))
  | succ d ih =>
    intro i out hd hi ho
    have hlt : i < p.length := by omega
    have hx : rd_T59 p (i : Int) = W3 p i := rfl
    have hw : wrap64 ((i : Int) + 1) = ((i + 1 : Nat) : Int) := by unfold wrap64; omega
    rw [drop_W3 p i hlt, List.filter_cons]
    by_cases h : (W3 p i).f0 = c
    · rw [if_pos (by simpa using h)]
      refine Ev.step (f := fun k => macadamlaw04_shut.l0 k p c (out ++ [(W3 p i).f2]) ((i + 1 : Nat) : Int)) (fun k => by simp only [macadamlaw04_shut.l0]; rw [if_pos (by omega), if_pos (by omega), hx, if_pos h, if_pos (by omega), hw]) ?_
      have := ih (i + 1) (out ++ [(W3 p i).f2]) (by omega) (by omega) (by rw [List.length_append, List.length_singleton]; omega)
      simpa using this
    · rw [if_neg (by simpa using h)]
      exact Ev.step (f := fun k => macadamlaw04_shut.l0 k p c out ((i + 1 : Nat) : Int)) (fun k => by simp only [macadamlaw04_shut.l0]; rw [if_pos (by omega), if_pos (by omega), hx, if_neg h, hw]) (ih (i + 1) out (by omega) (by omega) (by omega))
theorem shut_ev {p : List Wk} (c : Int) (hp : p.length * 24 ≤ 140737488351232) : Ev (fun k => macadamlaw04_shut.f k p c) ((p.filter (fun y => decide (y.f0 = c))).map (·.f2)) := by
  have := shut_l0 c hp p.length 0 [] (by omega) (by omega) (by simp)
  rw [List.drop_zero, List.nil_append] at this
  exact this
def ph1 (ms : List M) (gs : List G) (n : Int) : Int → List Wk → Bool
  | _, [] => true
  | a, x :: r => canB ms gs n x && decide (a < x.f0 * 2 + x.f1) && ph1 ms gs n (x.f0 * 2 + x.f1) r
theorem ph1_iff {ms : List M} {gs : List G} {n : Int} : ∀ {p : List Wk} {a : Int}, ph1 ms gs n a p = true ↔ (∀ x ∈ p, canB ms gs n x = true ∧ a < x.f0 * 2 + x.f1) ∧ p.Pairwise (fun y x => y.f0 * 2 + y.f1 < x.f0 * 2 + x.f1) := by
  intro p
  induction p with
  | nil => intro a; simp [ph1]
  | cons y r ih =>
    intro a
    simp only [ph1, Bool.and_eq_true, decide_eq_true_eq, ih, List.pairwise_cons, List.mem_cons]
    constructor
    · rintro ⟨⟨h1, h2⟩, h3, h4⟩
      refine ⟨?_, fun x hx => (h3 x hx).2, h4⟩
      rintro x (rfl | hx)
      · exact ⟨h1, h2⟩
      · exact ⟨(h3 x hx).1, by have := (h3 x hx).2; omega⟩
    · rintro ⟨h1, h2, h3⟩
      exact ⟨h1 y (Or.inl rfl), fun x hx => ⟨(h1 x (Or.inr hx)).1, h2 x hx⟩, h3⟩
def apartB (p : List Wk) (c : Int) : Bool := match p.filter (fun y => decide (y.f0 = c)) with
  | [x, y] => !(decide (-1 ≤ y.f2 - x.f2) && decide (y.f2 - x.f2 ≤ 1))
  | _ => true
theorem night_cases {ms : List M} {gs : List G} {n : Int} (hg : gs.length ≤ 2) {p : List Wk} {a : Int} (h : ph1 ms gs n a p = true) (c : Int) :
    let l := p.filter (fun y => decide (y.f0 = c)); l = [] ∨ (∃ x ∈ p, l = [x]) ∨ ∃ x ∈ p, ∃ y ∈ p, l = [x, y] := by
  intro l
  obtain ⟨h1, h2⟩ := ph1_iff.1 h
  have hpl := h2.sublist (List.filter_sublist (p := fun y => decide (y.f0 = c)))
  have hc : ∀ x ∈ l, x.f0 = c := fun x hx => by simpa using (List.mem_filter.1 hx).2
  have hm : ∀ x ∈ l, x ∈ p := fun x hx => (List.mem_filter.1 hx).1
  rcases hll : l with _ | ⟨x, _ | ⟨y, _ | ⟨z, r⟩⟩⟩
  · exact Or.inl rfl
  · exact Or.inr (Or.inl ⟨x, hm x (by rw [hll]; simp), rfl⟩)
  · exact Or.inr (Or.inr ⟨x, hm x (by rw [hll]; simp), y, hm y (by rw [hll]; simp), rfl⟩)
  · exfalso
    have hp2 : List.Pairwise (fun y x : Wk => y.f0 * 2 + y.f1 < x.f0 * 2 + x.f1) (x :: y :: z :: r) := by rw [← hll]; exact hpl
    have a1 := List.rel_of_pairwise_cons hp2 (List.mem_cons_self)
    have a2 := List.rel_of_pairwise_cons (List.pairwise_cons.1 hp2).2 (List.mem_cons_self)
    have e1 := hc x (by rw [hll]; simp)
    have e2 := hc y (by rw [hll]; simp)
    have e3 := hc z (by rw [hll]; simp)
    have c1 := (canB_iff.1 (h1 x (hm x (by rw [hll]; simp))).1).2.2.2.1
    have c3 := (canB_iff.1 (h1 z (hm z (by rw [hll]; simp))).1).2.2.2.1
    omega
theorem lawful_eq {ms : List M} {gs : List G} {n : Int} (hg : gs.length ≤ 2) (p : List Wk) : (ph1 ms gs n (-1) p && (upTo n).all (apartB p)) = planB ms gs n p := by
  rw [Bool.eq_iff_iff, Bool.and_eq_true, planB_iff]
  constructor
  · rintro ⟨h1, h2⟩
    obtain ⟨h3, h4⟩ := ph1_iff.1 h1
    refine ⟨fun x hx => (h3 x hx).1, ?_⟩
    -- whatever two works: behind
    have key : ∀ s t : List Wk, ∀ y x : Wk, p = s ++ y :: t → x ∈ t → behindB y x = true := by
      intro s t y x hp hx
      have hpw : (y :: t).Pairwise (fun y x : Wk => y.f0 * 2 + y.f1 < x.f0 * 2 + x.f1) := by rw [hp] at h4; exact (List.pairwise_append.1 h4).2.1
      have hlt := List.rel_of_pairwise_cons hpw hx
      have cy := canB_iff.1 (h3 y (by rw [hp]; simp)).1
      have cx := canB_iff.1 (h3 x (by rw [hp]; simp [hx])).1
      rw [behindB_iff]
      by_cases hn : y.f0 < x.f0
      · exact Or.inl hn
      · have e0 : y.f0 = x.f0 := by omega
        refine Or.inr ⟨e0, by omega, ?_⟩
        have ha := List.all_eq_true.1 h2 x.f0 (mem_upTo.2 cx.1)
        have hfy : y ∈ p.filter (fun z => decide (z.f0 = x.f0)) := List.mem_filter.2 ⟨by rw [hp]; simp, by simp [e0]⟩
        have hsub : List.Sublist [y, x] (p.filter (fun z => decide (z.f0 = x.f0))) := by
          rw [hp, List.filter_append, List.filter_cons, if_pos (by simp [e0])]
          refine List.Sublist.trans ?_ (List.sublist_append_right _ _)
          refine List.Sublist.cons_cons _ ?_
          exact List.singleton_sublist.2 (List.mem_filter.2 ⟨hx, by simp⟩)
        rcases night_cases hg h1 x.f0 with h | ⟨z, _, h⟩ | ⟨u, _, v, _, h⟩
        · rw [h] at hfy; cases hfy
        · rw [h] at hsub; have := hsub.length_le; simp at this
        · rw [h] at hsub
          have e := hsub.eq_of_length (by simp)
          simp only [List.cons.injEq, and_true] at e
          obtain ⟨rfl, rfl⟩ := e
          unfold apartB at ha
          rw [h] at ha
          simp only [Bool.not_eq_true', Bool.and_eq_false_iff, decide_eq_false_iff_not] at ha
          omega
    clear h1 h2 h3 h4
    have gen : ∀ t s : List Wk, p = s ++ t → t.Pairwise (fun y x => behindB y x = true) := by
      intro t
      induction t with
      | nil => intro s _; exact List.Pairwise.nil
      | cons y t ih =>
        intro s hs
        exact List.pairwise_cons.2 ⟨fun x hx => key s t y x hs hx, ih (s ++ [y]) (by simp [hs])⟩
    exact gen p [] rfl
  · rintro ⟨h1, h2⟩
    have hph : ph1 ms gs n (-1) p = true := by
      rw [ph1_iff]
      refine ⟨fun x hx => ⟨h1 x hx, by have := canB_iff.1 (h1 x hx); omega⟩, ?_⟩
      refine List.Pairwise.imp_of_mem ?_ h2
      intro y x hy hx h
      have cy := canB_iff.1 (h1 y hy)
      have cx := canB_iff.1 (h1 x hx)
      have := behindB_iff.1 h
      omega
    refine ⟨hph, ?_⟩
    rw [List.all_eq_true]
    intro c hc
    unfold apartB
    rcases night_cases hg hph c with h | ⟨z, _, h⟩ | ⟨u, hu, v, hv, h⟩
    · rw [h]
    · rw [h]
    · rw [h]
      have hpw := h2.sublist (List.filter_sublist (p := fun y => decide (y.f0 = c)))
      rw [h] at hpw
      have hb := behindB_iff.1 (List.rel_of_pairwise_cons hpw (List.mem_cons_self))
      have e1 : u.f0 = c := by have : u ∈ p.filter (fun y => decide (y.f0 = c)) := by rw [h]; simp
                               simpa using (List.mem_filter.1 this).2
      have e2 : v.f0 = c := by have : v ∈ p.filter (fun y => decide (y.f0 = c)) := by rw [h]; simp
                               simpa using (List.mem_filter.1 this).2
      simp only [Bool.not_eq_true', Bool.and_eq_false_iff, decide_eq_false_iff_not]
      omega
theorem w01 : wrap64 (0 + 1) = 1 := by unfold wrap64; omega
theorem w12 : wrap64 (1 + 1) = 2 := by unfold wrap64; omega
theorem lawful_l1 {ms : List M} {gs : List G} {n : Int} (hn : 1 ≤ n ∧ n ≤ 4) {p : List Wk} (hp : p.length * 24 ≤ 140737488351232) (hg : gs.length ≤ 2) (hm : ms.length ≤ 4) (h : ph1 ms gs n (-1) p = true) (d : Nat) : ∀ (i : Nat), n.toNat - i = d → i ≤ n.toNat → Ev (fun k => macadamlaw04_lawful.l1 k p i ms gs n) (((upTo n).drop i).all (apartB p)) := by
  induction d with
  | zero =>
    intro i hd hi
    rw [List.drop_of_length_le (by rw [upTo_length]; omega)]
    exact Ev.step (f := fun _ => some true) (fun k => by simp only [macadamlaw04_lawful.l1]; rw [if_neg (by omega)]) (Ev.now _)
  | succ d ih =>
    intro i hd hi
    rw [upTo_drop (by omega), List.all_cons]
    have hw : wrap64 ((i : Int) + 1) = ((i + 1 : Nat) : Int) := by unfold wrap64; omega
    have I := ih (i + 1) (by omega) (by omega)
    refine Ev.step (f := fun k => (macadamlaw04_shut.f k p i).bind fun t => macadamlaw04_lawful.l2 k p i t 0 ms gs n) (fun k => by simp only [macadamlaw04_lawful.l1]; rw [if_pos (by omega)]) ?_
    refine Ev.bind (shut_ev _ hp) ?_
    have hbnd : ∀ x ∈ p, 0 ≤ x.f2 ∧ x.f2 < 4 := fun x hx => by have := (canB_iff.1 ((ph1_iff.1 h).1 x hx).1).2.1; omega
    unfold apartB
    rcases night_cases hg h (i : Int) with hl | ⟨x, hx, hl⟩ | ⟨x, hx, y, hy, hl⟩
    · rw [hl]
      simp only [List.map_nil, Bool.true_and]
      exact Ev.step (f := fun k => macadamlaw04_lawful.l1 k p ((i + 1 : Nat) : Int) ms gs n) (fun k => by simp only [macadamlaw04_lawful.l2]; rw [if_neg (by simp), hw]) I
    · rw [hl]
      simp only [List.map_cons, List.map_nil, Bool.true_and]
      refine Ev.step (f := fun k => macadamlaw04_lawful.l3 k p i [x.f2] 0 0 ms gs n) (fun k => by simp only [macadamlaw04_lawful.l2]; rw [if_pos (by simp)]) ?_
      refine Ev.step (f := fun k => macadamlaw04_lawful.l2 k p i [x.f2] 1 ms gs n) (fun k => by simp only [macadamlaw04_lawful.l3]; rw [if_neg (by simp), w01]) ?_
      exact Ev.step (f := fun k => macadamlaw04_lawful.l1 k p ((i + 1 : Nat) : Int) ms gs n) (fun k => by simp only [macadamlaw04_lawful.l2]; rw [if_neg (by simp), hw]) I
    · rw [hl]
      simp only [List.map_cons, List.map_nil]
      have bx := hbnd x hx
      have by_ := hbnd y hy
      refine Ev.step (f := fun k => macadamlaw04_lawful.l3 k p i [x.f2, y.f2] 0 0 ms gs n) (fun k => by simp only [macadamlaw04_lawful.l2]; rw [if_pos (by simp)]) ?_
      refine Ev.step (f := fun k => macadamlaw04_lawful.l2 k p i [x.f2, y.f2] 1 ms gs n) (fun k => by simp only [macadamlaw04_lawful.l3]; rw [if_neg (by simp), w01]) ?_
      refine Ev.step (f := fun k => macadamlaw04_lawful.l3 k p i [x.f2, y.f2] 1 0 ms gs n) (fun k => by simp only [macadamlaw04_lawful.l2]; rw [if_pos (by simp)]) ?_
      have hr : wrap64 (rd [x.f2, y.f2] 1 - rd [x.f2, y.f2] 0) = y.f2 - x.f2 := by
        show wrap64 (y.f2 - x.f2) = y.f2 - x.f2
        unfold wrap64; omega
      refine Ev.step (f := fun k => (macadamref00_Amid.f (y.f2 - x.f2) (-1) 1).bind fun t => if t = true then some false else macadamlaw04_lawful.l3 k p i [x.f2, y.f2] 1 1 ms gs n) (fun k => by simp only [macadamlaw04_lawful.l3]; rw [if_pos (by decide), if_pos (by decide), if_pos (by simp), if_pos (by decide), if_pos (by simp), hr, w01]) ?_
      refine Ev.bind (Ev.some (amid_f _ _ _)) ?_
      have hwin : within (y.f2 - x.f2) (-1) 1 = (decide (-1 ≤ y.f2 - x.f2) && decide (y.f2 - x.f2 ≤ 1)) := rfl
      rw [hwin]
      cases (decide (-1 ≤ y.f2 - x.f2) && decide (y.f2 - x.f2 ≤ 1)) with
      | true => exact Ev.pos rfl (Ev.some (by simp))
      | false =>
        refine Ev.neg (by simp) ?_
        simp only [Bool.not_false, Bool.true_and]
        refine Ev.step (f := fun k => macadamlaw04_lawful.l2 k p i [x.f2, y.f2] 2 ms gs n) (fun k => by simp only [macadamlaw04_lawful.l3]; rw [if_neg (by simp), w12]) ?_
        exact Ev.step (f := fun k => macadamlaw04_lawful.l1 k p ((i + 1 : Nat) : Int) ms gs n) (fun k => by simp only [macadamlaw04_lawful.l2]; rw [if_neg (by simp), hw]) I
theorem lawful_l0 {ms : List M} {gs : List G} {n : Int} (ok : okB ms gs n = true) {p : List Wk} (hp : p.length * 24 ≤ 140737488351232) (r1 : Bool) (d : Nat) : ∀ (i : Nat) (a : Int), p.length - i = d → i ≤ p.length → (ph1 ms gs n a (p.drop i) = true → Ev (fun k => macadamlaw04_lawful.l1 k p 0 ms gs n) r1) →
    Ev (fun k => macadamlaw04_lawful.l0 k p a i ms gs n) (ph1 ms gs n a (p.drop i) && r1) := by
  obtain ⟨⟨hm1, hm2⟩, ⟨hg1, hg2⟩, hn1, hn2⟩ := okB_sizes ok
  induction d with
  | zero =>
    intro i a hd hi h
    rw [List.drop_of_length_le (by omega)] at h ⊢
    simp only [ph1, Bool.true_and]
    exact Ev.step (f := fun k => macadamlaw04_lawful.l1 k p 0 ms gs n) (fun k => by simp only [macadamlaw04_lawful.l0]; rw [if_neg (by omega)]) (h rfl)
  | succ d ih =>
    intro i a hd hi h
    have hlt : i < p.length := by omega
    have hx : rd_T59 p (i : Int) = W3 p i := rfl
    have hw : wrap64 ((i : Int) + 1) = ((i + 1 : Nat) : Int) := by unfold wrap64; omega
    rw [drop_W3 p i hlt] at h ⊢
    generalize hW : W3 p i = x at h ⊢
    rw [hW] at hx
    have an : ∀ t, macadamref00_Amid.f t 0 (wrap64 (n - 1)) = some (decide (0 ≤ t) && decide (t < n)) := fun t => by
      rw [amid_f, show wrap64 (n - 1) = n - 1 by unfold wrap64; omega]; unfold within; congr 2; rw [decide_eq_decide]; omega
    have al : ∀ (t : Int) (l : Nat), l ≤ 4 → macadamref00_Amid.f t 0 (wrap64 ((l : Int) - 1)) = some (decide (0 ≤ t) && decide (t < (l : Int))) := fun t l hl => by
      rw [amid_f, show wrap64 ((l : Int) - 1) = (l : Int) - 1 by unfold wrap64; omega]; unfold within; congr 2; rw [decide_eq_decide]; omega
    -- what stands behind the first questions
    have step : ∀ c : Bool, (c = true → (0 ≤ x.f0 ∧ x.f0 < n) ∧ (0 ≤ x.f1 ∧ x.f1 < (gs.length : Int)) ∧ 0 ≤ x.f2 ∧ x.f2 < (ms.length : Int)) → (c = false → canB ms gs n x = false) →
        Ev (fun k => macadamlaw04_lawful.j1 k p a i (!c) ms gs n x.f0 x.f1 x.f2) (ph1 ms gs n a (x :: p.drop (i + 1)) && r1) := by
      intro c hc1 hc2
      cases c with
      | false =>
        refine Ev.step (f := fun _ => some false) (fun k => by simp only [macadamlaw04_lawful.j1]; rw [if_pos (by simp)]) (Ev.some ?_)
        simp [ph1, hc2 rfl]
      | true =>
        obtain ⟨b0, b1, b2⟩ := hc1 rfl
        have hb := (okB_mile ok _ (rd_mem b2.1 b2.2)).2
        have hat : wrap64 (wrap64 (x.f0 * 2) + x.f1) = x.f0 * 2 + x.f1 := by unfold wrap64; omega
        refine Ev.step (f := fun k => if x.f0 * 2 + x.f1 ≤ a then some false else if x.f2 < (rd_T63 gs x.f1).f0 then some false else if x.f2 > (rd_T63 gs x.f1).f1 then some false else (macadamref00_In.f (rd_T66 ms x.f2).f1 x.f0).bind fun t => if t = true then some false else macadamlaw04_lawful.l0 k p (x.f0 * 2 + x.f1) ((i + 1 : Nat) : Int) ms gs n)
          (fun k => by simp only [macadamlaw04_lawful.j1]; rw [if_neg (by simp), hat, if_pos b1.1, if_pos b1.2, if_pos b2.1, if_pos b2.2, hw]) ?_
        simp only [ph1] at h ⊢
        by_cases h1 : x.f0 * 2 + x.f1 ≤ a
        · refine Ev.pos h1 (Ev.some ?_)
          rw [show decide (a < x.f0 * 2 + x.f1) = false by simp; omega]
          simp
        · refine Ev.neg h1 ?_
          by_cases h2 : x.f2 < (rd_T63 gs x.f1).f0
          · refine Ev.pos h2 (Ev.some ?_)
            rw [show canB ms gs n x = false by rw [Bool.eq_false_iff]; intro hcn; have := canB_iff.1 hcn; omega]
            simp
          · refine Ev.neg h2 ?_
            by_cases h3 : x.f2 > (rd_T63 gs x.f1).f1
            · refine Ev.pos h3 (Ev.some ?_)
              rw [show canB ms gs n x = false by rw [Bool.eq_false_iff]; intro hcn; have := canB_iff.1 hcn; omega]
              simp
            · refine Ev.neg h3 (Ev.bind (Ev.some (in_f hb.1 hb.2 b0.1 (by omega))) ?_)
              cases hbit : bitB (rd_T66 ms x.f2).f1 x.f0 with
              | true =>
                refine Ev.pos rfl (Ev.some ?_)
                rw [show canB ms gs n x = false by rw [Bool.eq_false_iff]; intro hcn; have := (canB_iff.1 hcn).2.2.1; rw [hbit] at this; cases this]
                simp
              | false =>
                refine Ev.neg (by simp) ?_
                have hcan : canB ms gs n x = true := canB_iff.2 ⟨b0, b2, hbit, b1, by omega, by omega⟩
                have hlt2 : decide (a < x.f0 * 2 + x.f1) = true := by simp; omega
                rw [hcan, hlt2, Bool.true_and, Bool.true_and]
                exact ih (i + 1) _ (by omega) (by omega) (fun h' => h (by rw [hcan, hlt2, h']; rfl))
    refine Ev.step (f := fun k => (macadamref00_Amid.f x.f0 0 (wrap64 (n - 1))).bind fun t357 => if t357 = true then (macadamref00_Amid.f x.f1 0 (wrap64 ((gs.length : Int) - 1))).bind fun t358 => if t358 = true then (macadamref00_Amid.f x.f2 0 (wrap64 ((ms.length : Int) - 1))).bind fun t359 => macadamlaw04_lawful.j1 k p a i (!t359) ms gs n x.f0 x.f1 x.f2 else macadamlaw04_lawful.j1 k p a i true ms gs n x.f0 x.f1 x.f2 else macadamlaw04_lawful.j1 k p a i true ms gs n x.f0 x.f1 x.f2)
      (fun k => by simp only [macadamlaw04_lawful.l0]; rw [if_pos (by omega), if_pos (by omega), hx]) ?_
    refine Ev.bind (Ev.some (an _)) ?_
    have nocan : ∀ (q : ¬ ((0 ≤ x.f0 ∧ x.f0 < n) ∧ (0 ≤ x.f1 ∧ x.f1 < (gs.length : Int)) ∧ 0 ≤ x.f2 ∧ x.f2 < (ms.length : Int))), canB ms gs n x = false := fun q => by
      rw [Bool.eq_false_iff]; intro hcn; have := canB_iff.1 hcn; exact q ⟨this.1, this.2.2.2.1, this.2.1⟩
    by_cases h0 : 0 ≤ x.f0 ∧ x.f0 < n
    · refine Ev.pos (by simp [h0]) (Ev.bind (Ev.some (al _ _ (by omega))) ?_)
      by_cases h1 : 0 ≤ x.f1 ∧ x.f1 < (gs.length : Int)
      · refine Ev.pos (by simp [h1]) (Ev.bind (Ev.some (al _ _ (by omega))) ?_)
        by_cases h2 : 0 ≤ x.f2 ∧ x.f2 < (ms.length : Int)
        · rw [show (decide (0 ≤ x.f2) && decide (x.f2 < (ms.length : Int))) = true by simp [h2]]
          exact step true (fun _ => ⟨h0, h1, h2⟩) (fun h => by cases h)
        · rw [show (decide (0 ≤ x.f2) && decide (x.f2 < (ms.length : Int))) = false by simp; omega]
          exact step false (fun h => by cases h) (fun _ => nocan (fun q => h2 q.2.2))
      · exact Ev.neg (by simp; omega) (step false (fun h => by cases h) (fun _ => nocan (fun q => h1 q.2.1)))
    · exact Ev.neg (by simp; omega) (step false (fun h => by cases h) (fun _ => nocan (fun q => h0 q.1)))
theorem lawful_ev {ms : List M} {gs : List G} {n : Int} (ok : okB ms gs n = true) {p : List Wk} (hp : p.length * 24 ≤ 140737488351232) : Ev (fun k => macadamlaw04_lawful.f k ms gs n p) (planB ms gs n p) := by
  obtain ⟨⟨hm1, hm2⟩, ⟨hg1, hg2⟩, hn1, hn2⟩ := okB_sizes ok
  rw [← lawful_eq hg2]
  have := lawful_l0 ok hp ((upTo n).all (apartB p)) p.length 0 (-1) (by omega) (by omega) (fun h => by
    have := lawful_l1 (ms := ms) ⟨hn1, hn2⟩ hp hg2 hm2 (by simpa using h) n.toNat 0 (by omega) (by omega)
    simpa using this)
  rw [List.drop_zero] at this
  exact this
end Go.Proofs.YtikfghnkbgdbgaaDoor.Q
end
section
namespace Go.Proofs.YtikfghnkbgdbgaaDoor.Q
open Go.RowKit Go.Proofs.YtikfghnkbgdbgaaDoorW.PrintWords Go.Proofs.YtikfghnkbgdbgaaDoorW.PrintLast Go.Proofs.YtikfghnkbgdbgaaDoorW.PrintMore
attribute [local go_sem] max2_int min2_int max_two min_two max_three min_three max_four min_four   -- for this text's walks alone
set_option linter.unusedVariables false
set_option linter.unusedSimpArgs false
def macadamref00_Reach.f (a0 : Int) (a1 : Int) : Option (Int × Int) := some (a0, a1)
set_option maxHeartbeats 8000000 in
set_option maxRecDepth 100000 in
theorem macadamref00_Reach.calls (a0 : Int) (a1 : Int) (r1 : Int) (r2 : Int) (w : World) (h : macadamref00_Reach.f a0 a1 = some (r1, r2)) :
  Calls Tryd.prog 50 #[.int .i64 a0, .int .i64 a1] w fun e w' => e = .returned (.agg #[.int .i64 r1, .int .i64 r2]) ∧ Below w.heap.size w w' := by
 have hu40 := Tryd.underlying40
 have HB := Aside0.mk (Below.refl w.heap.size w)
 have H : (some (a0, a1)) = some (r1, r2) := h
 clear h
 simp only [Option.some.injEq, Prod.mk.injEq] at H
 obtain ⟨rfl, rfl⟩ := H
 go_enter Tryd.func50, Tryd.ntmps50
 go_wp2_with (first | ((with_reducible refine gate_dst (N := 4) rfl ?_); refine bx 4 #[.int .i64 0, .int .i64 0] 40 ?_; intro gb211 hg w3 hbox hb; have n0_ := Aside0.mk (below_step (bw HB) hb); have n1_ := Aside0.mk (hbox); have n2_ := Aside0.mk (bz (bw HB) hg); have n3_ := Aside0.mk (bz (bw HB) hg); clear HB; have HB := n0_; have BK211 := n1_; have GW211 := n2_; have GE211 := n3_; clear n0_ n1_ n2_ n3_; clear hb hbox hg; obtain ⟨hcz4_0, hcz4_1, hfz4_0, hfz4_1⟩ := b2 BK211))
 refine bodyPost_ret (results_cell_row rfl _ _ gb211 40 #[.int .i64 a0, .int .i64 a1] (0, 0) _ rfl (by (with_reducible repeat (first | refine blk_drewN ?_ _ | refine blk_drew ?_ | refine blk_alloc ?_ _)); refine blk_put (cs := #[.int .i64 a0, .int .i64 0]) ?_ 1 _ rfl; (with_reducible repeat (first | refine blk_drewN ?_ _ | refine blk_drew ?_ | refine blk_alloc ?_ _)); refine blk_put (cs := #[.int .i64 0, .int .i64 0]) ?_ 0 _ rfl; (with_reducible repeat (first | refine blk_drewN ?_ _ | refine blk_drew ?_ | refine blk_alloc ?_ _)); exact BK211.out) Tryd.underlying40 rfl (by kernel_rfl)) rfl ?_
 exact ⟨by first | rfl | (simp [errW_none, errW_some] <;> rfl) | (simp [*, errW_none, errW_some] <;> rfl), bw1 HB GE211⟩
def macadamref00_Just.f (a0 : Int) : Option (Int × Int) := (macadamref00_Reach.f a0 a0).bind fun bt213 => (some (bt213.1, bt213.2))
set_option maxHeartbeats 8000000 in
set_option maxRecDepth 100000 in
theorem macadamref00_Just.calls (a0 : Int) (r1 : Int) (r2 : Int) (w : World) (h : macadamref00_Just.f a0 = some (r1, r2)) :
  Calls Tryd.prog 58 #[.int .i64 a0] w fun e w' => e = .returned (.agg #[.int .i64 r1, .int .i64 r2]) ∧ Below w.heap.size w w' := by
 have hu40 := Tryd.underlying40
 have HB := Aside0.mk (Below.refl w.heap.size w)
 have H : ((macadamref00_Reach.f a0 a0).bind fun bt213 => (some (bt213.1, bt213.2))) = some (r1, r2) := h
 clear h
 replace H := Option.bind_eq_some_iff.mp H
 obtain ⟨⟨t213, t214⟩, A20, H⟩ := H
 replace H : (some (t213, t214)) = some (r1, r2) := H
 have A2 := Aside0.mk A20
 clear A20
 simp only [Option.some.injEq, Prod.mk.injEq] at H
 obtain ⟨rfl, rfl⟩ := H
 go_enter Tryd.func58, Tryd.ntmps58
 go_wp2_with (first | ((with_reducible refine gate_dst (N := 2) rfl ?_); refine bx 2 #[.int .i64 0, .int .i64 0] 40 ?_; intro gb212 hg w3 hbox hb; have n0_ := Aside0.mk (below_step (bw HB) hb); have n1_ := Aside0.mk (hbox); have n2_ := Aside0.mk (bz (bw HB) hg); have n3_ := Aside0.mk (bz (bw HB) hg); clear HB; have HB := n0_; have BK212 := n1_; have GW212 := n2_; have GE212 := n3_; clear n0_ n1_ n2_ n3_; clear hb hbox hg) | ((with_reducible refine gate_callee (f := 50) rfl ?_); refine gL (some 5) Tryd.func50 #[.int .i64 a0, .int .i64 a0] ?_; (with_reducible refine (macadamref00_Reach.calls a0 a0 t213 t214 _ A2.out).mono ?_); rintro e w4 ⟨rfl, hb⟩; refine ⟨_, rfl, ?_⟩; have n0_ := Aside0.mk (blk_below (bm BK212) hb); have n1_ := Aside0.mk (below_step (bw1 HB GE212) hb); clear BK212; clear HB; have BK212 := n0_; have HB := n1_; clear n0_ n1_; (try clear hb); (try clear hb2); (try clear hk); (try clear hi); obtain ⟨hcz5_0, hcz5_1, hfz5_0, hfz5_1⟩ := b2 BK212))
 refine bodyPost_ret (results_cell_row rfl _ _ gb212 40 #[.int .i64 t213, .int .i64 t214] (0, 0) _ rfl (by (with_reducible repeat (first | refine blk_drewN ?_ _ | refine blk_drew ?_ | refine blk_alloc ?_ _)); refine blk_put (cs := #[.int .i64 t213, .int .i64 0]) ?_ 1 _ rfl; (with_reducible repeat (first | refine blk_drewN ?_ _ | refine blk_drew ?_ | refine blk_alloc ?_ _)); refine blk_put (cs := #[.int .i64 0, .int .i64 0]) ?_ 0 _ rfl; (with_reducible repeat (first | refine blk_drewN ?_ _ | refine blk_drew ?_ | refine blk_alloc ?_ _)); exact BK212.out) Tryd.underlying40 rfl (by kernel_rfl)) rfl ?_
 exact ⟨by first | rfl | (simp [errW_none, errW_some] <;> rfl) | (simp [*, errW_none, errW_some] <;> rfl), bw1 HB GE212⟩
def macadamref04_done.T6 : Bool × List (List Nat × List Nat) := (true, [([], []), ([], []), ([1], [1]), ([], []), ([], []), ([3, 4], [3, 4]), ([5], [5]), ([6], [6]), ([2, 7], [2, 7]), ([8], [8]), ([9], [9]), ([0, 10], [0, 10]), ([11, 11, 0, 1, 2, 3, 4, 5, 6, 7, 8, 9, 10, 11], [11])])
def macadamref04_done.B6 : List Nat := [0, 0, 2, 0, 0, 24, 56, 120, 254, 510, 1022, 2047, 4095]
theorem macadamref04_done.tab6 : rtab .any (opsOf Tryd.f76 6) = macadamref04_done.T6 := by kernel_rfl
theorem macadamref04_done.bits6 : waitsOk macadamref04_done.T6.2 macadamref04_done.B6 = true := by kernel_rfl
end Go.Proofs.YtikfghnkbgdbgaaDoor.Q
end
section
namespace Go.Proofs.YtikfghnkbgdbgaaDoor.Q
open Go.RowKit Go.Proofs.YtikfghnkbgdbgaaDoorW.PrintWords Go.Proofs.YtikfghnkbgdbgaaDoorW.PrintLast Go.Proofs.YtikfghnkbgdbgaaDoorW.PrintMore
attribute [local go_sem] max2_int min2_int max_two min_two max_three min_three max_four min_four   -- for this text's walks alone
set_option linter.unusedVariables false
set_option linter.unusedSimpArgs false
def macadamref04_mended.T5 : Bool × List (List Nat × List Nat) := (true, [([], []), ([], []), ([], []), ([0, 1, 2], [0, 1, 2]), ([3], [3]), ([], []), ([5], [5]), ([], []), ([6, 7], [6, 7]), ([8], [8]), ([9], [9]), ([10], [10]), ([4, 11], [4, 11])])
def macadamref04_mended.B5 : List Nat := [0, 0, 0, 7, 15, 0, 32, 0, 224, 480, 992, 2016, 4095]
theorem macadamref04_mended.tab5 : rtab .any (opsOf Tryd.f78 5) = macadamref04_mended.T5 := by kernel_rfl
theorem macadamref04_mended.bits5 : waitsOk macadamref04_mended.T5.2 macadamref04_mended.B5 = true := by kernel_rfl
end Go.Proofs.YtikfghnkbgdbgaaDoor.Q
end
section
namespace Go.Proofs.YtikfghnkbgdbgaaDoor.Q
set_option linter.unusedSimpArgs false
set_option linter.unusedVariables false
open Go.RowKit Go.Proofs.YtikfghnkbgdbgaaDoorW.PrintWords Go.Proofs.YtikfghnkbgdbgaaDoorW.PrintLast Go.Proofs.YtikfghnkbgdbgaaDoorW.PrintMore
theorem W3_mem {p : List Wk} {i : Nat} (h : i < p.length) : W3 p i ∈ p := by
  unfold W3 rd_T59; rw [List.getD_eq_getElem?_getD]; simp [List.getElem?_eq_getElem h]
end Go.Proofs.YtikfghnkbgdbgaaDoor.Q
end
section
namespace Go.Proofs.YtikfghnkbgdbgaaDoor.Q
open Go.RowKit Go.Proofs.YtikfghnkbgdbgaaDoorW.PrintWords Go.Proofs.YtikfghnkbgdbgaaDoorW.PrintLast Go.Proofs.YtikfghnkbgdbgaaDoorW.PrintMore
attribute [local go_sem] max2_int min2_int max_two min_two max_three min_three max_four min_four   -- for this text's walks alone
set_option linter.unusedVariables false
set_option linter.unusedSimpArgs false
def macadamlaw04_work.f (a0 : Int) (a1 : Int) (a2 : Int) : Option (Int × Int × Int) := some (a0, a1, a2)
set_option maxHeartbeats 8000000 in
set_option maxRecDepth 100000 in
theorem macadamlaw04_work.calls (a0 : Int) (a1 : Int) (a2 : Int) (r1 : Int) (r2 : Int) (r3 : Int) (w : World) (h : macadamlaw04_work.f a0 a1 a2 = some (r1, r2, r3)) :
  Calls Tryd.prog 44 #[.int .i64 a0, .int .i64 a1, .int .i64 a2] w fun e w' => e = .returned (.agg #[.int .i64 r1, .int .i64 r2, .int .i64 r3]) ∧ Below w.heap.size w w' := by
 have hu59 := Tryd.underlying59
 have HB := Aside0.mk (Below.refl w.heap.size w)
 have H : (some (a0, a1, a2)) = some (r1, r2, r3) := h
 clear h
 simp only [Option.some.injEq, Prod.mk.injEq] at H
 obtain ⟨rfl, rfl, rfl⟩ := H
 go_enter Tryd.func44, Tryd.ntmps44
 go_wp2_with (first | ((with_reducible refine gate_dst (N := 6) rfl ?_); refine bx 6 #[.int .i64 0, .int .i64 0, .int .i64 0] 59 ?_; intro gb405 hg w4 hbox hb; have n0_ := Aside0.mk (below_step (bw HB) hb); have n1_ := Aside0.mk (hbox); have n2_ := Aside0.mk (bz (bw HB) hg); have n3_ := Aside0.mk (bz (bw HB) hg); clear HB; have HB := n0_; have BK405 := n1_; have GW405 := n2_; have GE405 := n3_; clear n0_ n1_ n2_ n3_; clear hb hbox hg; obtain ⟨hcz5_0, hcz5_1, hcz5_2, hfz5_0, hfz5_1, hfz5_2⟩ := b3 BK405))
 refine bodyPost_ret (results_cell_row rfl _ _ gb405 59 #[.int .i64 a0, .int .i64 a1, .int .i64 a2] (0, 0) _ rfl (by (with_reducible repeat (first | refine blk_drewN ?_ _ | refine blk_drew ?_ | refine blk_alloc ?_ _)); refine blk_put (cs := #[.int .i64 a0, .int .i64 a1, .int .i64 0]) ?_ 2 _ rfl; (with_reducible repeat (first | refine blk_drewN ?_ _ | refine blk_drew ?_ | refine blk_alloc ?_ _)); refine blk_put (cs := #[.int .i64 a0, .int .i64 0, .int .i64 0]) ?_ 1 _ rfl; (with_reducible repeat (first | refine blk_drewN ?_ _ | refine blk_drew ?_ | refine blk_alloc ?_ _)); refine blk_put (cs := #[.int .i64 0, .int .i64 0, .int .i64 0]) ?_ 0 _ rfl; (with_reducible repeat (first | refine blk_drewN ?_ _ | refine blk_drew ?_ | refine blk_alloc ?_ _)); exact BK405.out) Tryd.underlying59 rfl (by kernel_rfl)) rfl ?_
 exact ⟨by first | rfl | (simp [errW_none, errW_some] <;> rfl) | (simp [*, errW_none, errW_some] <;> rfl), bw1 HB GE405⟩
end Go.Proofs.YtikfghnkbgdbgaaDoor.Q
end
section
namespace Go.Proofs.YtikfghnkbgdbgaaDoor.Q
open Go.RowKit Go.Proofs.YtikfghnkbgdbgaaDoorW.PrintWords Go.Proofs.YtikfghnkbgdbgaaDoorW.PrintLast Go.Proofs.YtikfghnkbgdbgaaDoorW.PrintMore
attribute [local go_sem] max2_int min2_int max_two min_two max_three min_three max_four min_four   -- for this text's walks alone
set_option linter.unusedVariables false
set_option linter.unusedSimpArgs false
def macadamref00_Pick.f (l0 : List Int) (a1 : Int) : Option (Int) := if (l0.length : Int) = 0 then (some 0) else ((macadamref00_Wrap.f a1 (l0.length : Int)).bind fun t434 => (if 0 ≤ t434 then (if t434 < (l0.length : Int) then (some (rd l0 t434)) else (none)) else (none)))
set_option maxHeartbeats 8000000 in
set_option maxRecDepth 100000 in
theorem macadamref00_Pick.calls (A0 : Option Addr) (c0 : Nat) (l0 : List Int) (a1 : Int) (r : Int) (w : World) (hr0 : Kd.C (Kd.int .i64) w A0 l0.length l0) (hc0 : l0.length ≤ c0) (h : macadamref00_Pick.f l0 a1 = some r) :
  Calls Tryd.prog 86 #[.slice A0 l0.length c0, .int .i64 a1] w fun e w' => e = .returned (.int .i64 r) ∧ Drawn0 w w' := by
 have HR0 := Aside0.mk hr0
 have HC0 := Aside0.mk hc0
 clear hr0 hc0
 have H : (if (l0.length : Int) = 0 then (some 0) else ((macadamref00_Wrap.f a1 (l0.length : Int)).bind fun t434 => (if 0 ≤ t434 then (if t434 < (l0.length : Int) then (some (rd l0 t434)) else (none)) else (none)))) = some r := h
 clear h
 by_cases c3 : (l0.length : Int) = 0
 ·rw [if_pos c3] at H
  have c3b0 : ((l0.length : Int) == 0) = true := beq_iff_eq.mpr c3
  have c3b1 : ((l0.length : Int) != 0) = false := bne_eq_false_iff_eq.mpr c3
  clear c3
  obtain rfl := Option.some.inj H
  go_enter Tryd.func86, Tryd.ntmps86
  go_wp2
  go_ret
  exact ⟨by first | rfl | (simp; done) | (simp [*]; done), by repeat (first | exact Drawn0.refl _ | apply Drawn0.step)⟩
 ·rw [if_neg c3] at H
  have c3b0 : ((l0.length : Int) == 0) = false := beq_eq_false_iff_ne.mpr c3
  have c3b1 : ((l0.length : Int) != 0) = true := bne_iff_ne.mpr c3
  have c3b2 : ¬ (l0 = []) := fun h_ => c3 (by rw [h_]; rfl)
  replace H := Option.bind_eq_some_iff.mp H
  obtain ⟨t434, A40, H⟩ := H
  replace H : (if 0 ≤ t434 then (if t434 < (l0.length : Int) then (some (rd l0 t434)) else (none)) else (none)) = some r := H
  have A4 := Aside0.mk A40
  clear A40
  by_cases c5 : 0 ≤ t434
  ·rw [if_pos c5] at H
   have c5b0 : decide (0 ≤ t434) = true := decide_eq_true c5
   clear c5
   by_cases c6 : t434 < (l0.length : Int)
   ·rw [if_pos c6] at H
    have c6b0 : decide (t434 < (l0.length : Int)) = true := decide_eq_true c6
    clear c6
    obtain rfl := Option.some.inj H
    go_enter Tryd.func86, Tryd.ntmps86
    go_wp2_with (first | ((with_reducible refine gate_callee (f := 39) rfl ?_); refine gL (some 12) Tryd.func39 #[.int .i64 a1, .int .i64 (l0.length : Int)] ?_; (with_reducible refine (macadamref00_Wrap.calls a1 (l0.length : Int) t434 _ A4.out).mono ?_); rintro e w' ⟨rfl, ⟨nd, rfl⟩⟩; refine ⟨_, rfl, ?_⟩; have p435 : 0 ≤ (t434 : Int) := of_decide_eq_true (by first | (with_reducible assumption) | assumption); have q435 : t434 < (l0.length : Int) := of_decide_eq_true (by first | (with_reducible assumption) | assumption); obtain ⟨ad435, e435, hx435_0⟩ := Kd.at_int HR0.out t434 p435 q435; cases e435; replace p435 := eq_true p435; replace q435 := eq_true q435))
    go_ret
    exact ⟨by first | rfl | (simp; done) | (simp [*]; done), by repeat (first | exact Drawn0.refl _ | apply Drawn0.step)⟩
   ·rw [if_neg c6] at H
    exact absurd H (by simp)
  ·rw [if_neg c5] at H
   exact absurd H (by simp)
mutual
def macadamlaw04_drawn.l0 : Nat → List Int → List (S59) → Int → List (S66) → List (S63) → Int → Option ((List (S59)))
 | 0, _, _, _, _, _, _ => none
 | k + 1, x1, x5, x6, x437000, x437001, x437002 => if x6 < x437002 then (macadamlaw04_drawn.l1 k x1 x5 x6 0 x437000 x437001 x437002) else (some x5)
def macadamlaw04_drawn.l1 : Nat → List Int → List (S59) → Int → Int → List (S66) → List (S63) → Int → Option ((List (S59)))
 | 0, _, _, _, _, _, _, _ => none
 | k + 1, x1, x5, x6, x7, x437000, x437001, x437002 => if x7 < (x437001.length : Int) then ((macadamref00_Pick.f x1 (wrap64 ((wrap64 (x6 * (x437001.length : Int))) + x7))).bind fun t437 => ((macadamref00_Wrap.f (wrap64 (t437 + x6)) (wrap64 ((x437000.length : Int) + 1))).bind fun t438 => (if t438 = (x437000.length : Int) then (macadamlaw04_drawn.l1 k x1 x5 x6 (wrap64 (x7 + 1)) x437000 x437001 x437002) else ((some (([] : List (S59)) : List (S59))).bind fun y439 => (if y439.length + x5.length < 5864062014805 then ((some (y439 ++ x5 : List (S59))).bind fun y442 => ((macadamlaw04_work.f x6 x7 t438).bind fun bt445 => (if y442.length < 5864062014805 then ((some (y442 ++ [(⟨bt445.1, bt445.2.1, bt445.2.2⟩ : S59)] : List (S59))).bind fun y448 => ((macadamlaw04_lawful.f k x437000 x437001 x437002 y448).bind fun t451 => (if t451 = true then (macadamlaw04_drawn.l1 k x1 y448 x6 (wrap64 (x7 + 1)) x437000 x437001 x437002) else (macadamlaw04_drawn.l1 k x1 x5 x6 (wrap64 (x7 + 1)) x437000 x437001 x437002)))) else (none)))) else (none)))))) else (macadamlaw04_drawn.l0 k x1 x5 (wrap64 (x6 + 1)) x437000 x437001 x437002)
end
def macadamlaw04_drawn.f (k : Nat) (l0_0 : List (S66)) (l0_1 : List (S63)) (a0_2 : Int) (l1 : List Int) : Option ((List (S59))) := macadamlaw04_drawn.l0 k l1 ([] : List (S59)) 0 l0_0 l0_1 a0_2
set_option maxHeartbeats 8000000 in
set_option maxRecDepth 100000 in
theorem macadamlaw04_drawn.calls (k : Nat) (A0_0 : Option Addr) (c0_0 : Nat) (l0_0 : List (S66)) (A0_1 : Option Addr) (c0_1 : Nat) (l0_1 : List (S63)) (a0_2 : Int) (A1 : Option Addr) (c1 : Nat) (l1 : List Int) (r : List (S59)) (w : World) (hr0_0 : Kd.C k66 w A0_0 l0_0.length l0_0) (hc0_0 : l0_0.length ≤ c0_0) (hr0_1 : Kd.C k63 w A0_1 l0_1.length l0_1) (hc0_1 : l0_1.length ≤ c0_1) (hr1 : Kd.C (Kd.int .i64) w A1 l1.length l1) (hc1 : l1.length ≤ c1) (h : macadamlaw04_drawn.f k l0_0 l0_1 a0_2 l1 = some r) :
  Calls Tryd.prog 47 #[.agg #[.slice A0_0 l0_0.length c0_0, .slice A0_1 l0_1.length c0_1, .int .i64 a0_2], .slice A1 l1.length c1] w fun e w' => ∃ v0_ : Value, e = .returned (v0_) ∧ Kd.R k59 59 w' w.heap.size (fun _ => True) v0_ r ∧ Below w.heap.size w w' := by
 have hu25 := Tryd.underlying25
 have HR0_0 := Aside0.mk hr0_0
 have HC0_0 := Aside0.mk hc0_0
 clear hr0_0 hc0_0
 have HR0_1 := Aside0.mk hr0_1
 have HC0_1 := Aside0.mk hc0_1
 clear hr0_1 hc0_1
 have HR1 := Aside0.mk hr1
 have HC1 := Aside0.mk hc1
 clear hr1 hc1
 have HB := Aside0.mk (Below.refl w.heap.size w)
 have H : (macadamlaw04_drawn.l0 k l1 ([] : List (S59)) 0 l0_0 l0_1 a0_2) = some r := h
 clear h
 have H' := Aside0.mk H
 clear H
 go_enter Tryd.func47, Tryd.ntmps47
 go_wp2_with (first | ((with_reducible refine gate_dst (N := 2) rfl ?_); refine bx 2 #[.slice A0_0 l0_0.length c0_0, .slice A0_1 l0_1.length c0_1, .int .i64 a0_2] 25 ?_; intro gb436 hg w3 hbox hb; have n0_ := Aside0.mk (below_step (bw HB) hb); have n1_ := Aside0.mk (hbox); have n2_ := Aside0.mk (bz (bw HB) hg); have n3_ := Aside0.mk (bz (bw HB) hg); clear HB; have HB := n0_; have BK436 := n1_; have GW436 := n2_; have GE436 := n3_; clear n0_ n1_ n2_ n3_; clear hb hbox hg))
 repeat (go_quiet (first | ((with_reducible refine gate_dst (N := 2) rfl ?_); refine bx 2 #[.slice A0_0 l0_0.length c0_0, .slice A0_1 l0_1.length c0_1, .int .i64 a0_2] 25 ?_; intro gb436 hg w3 hbox hb; have n0_ := Aside0.mk (below_step (bw HB) hb); have n1_ := Aside0.mk (hbox); have n2_ := Aside0.mk (bz (bw HB) hg); have n3_ := Aside0.mk (bz (bw HB) hg); clear HB; have HB := n0_; have BK436 := n1_; have GW436 := n2_; have GE436 := n3_; clear n0_ n1_ n2_ n3_; clear hb hbox hg)); try go_wp2_with (first | ((with_reducible refine gate_dst (N := 2) rfl ?_); refine bx 2 #[.slice A0_0 l0_0.length c0_0, .slice A0_1 l0_1.length c0_1, .int .i64 a0_2] 25 ?_; intro gb436 hg w3 hbox hb; have n0_ := Aside0.mk (below_step (bw HB) hb); have n1_ := Aside0.mk (hbox); have n2_ := Aside0.mk (bz (bw HB) hg); have n3_ := Aside0.mk (bz (bw HB) hg); clear HB; have HB := n0_; have BK436 := n1_; have GW436 := n2_; have GE436 := n3_; clear n0_ n1_ n2_ n3_; clear hb hbox hg)))
 go_loopg [5, 6] k (fun kq v5 v6 w' => ∃ (x5_1 : List (S59)) (x6_1 : Int), v6 = .int .i64 x6_1 ∧ Aside0 (macadamlaw04_drawn.l0 kq l1 x5_1 x6_1 l0_0 l0_1 a0_2 = some r) ∧ Aside0 (kq ≤ k) ∧ Aside0 (Kd.R k59 59 w' w.heap.size (fun _ => True) v5 x5_1) ∧ Aside0 (w'.heap[gb436]? = some (.cells #[(.slice A0_0 l0_0.length c0_0), (.slice A0_1 l0_1.length c0_1), .int .i64 a0_2] 25 (0, 0))) ∧ Aside0 (Below w.heap.size w w'))
 case atStart => exact ⟨(([] : List (S59))), (0), (by first | rfl | (simp; done) | (simp [*]; done)), H', ⟨Nat.le_refl _⟩, ⟨by first | exact Kd.R_nil _ _ _ _ _ | exact Kd.N_nil _ _ _ _ _ | exact Kd.V_nil _ _ _ _ _ | exact Kd.Q_nil _ _ _ _ _ | exact Kd.S_nil _ _ _ _ _⟩, ⟨bm BK436⟩, ⟨bw1 HB GE436⟩⟩
 case round =>
  clear H'
  try clear c1
  try clear p2
  obtain ⟨x5_1, x6_1, rfl, HA, HK1, HO_5, BK436, HB⟩ := hrel
  cases gk with
  | zero => exact absurd HA.out (by simp [macadamlaw04_drawn.l0])
  | succ k1 =>
   have H := HA.out
   clear HA
   simp only [macadamlaw04_drawn.l0] at H
   by_cases c4 : x6_1 < a0_2
   ·rw [if_pos c4] at H
    have c4b0 : decide (x6_1 < a0_2) = true := decide_eq_true c4
    clear c4
    have H' := Aside0.mk H
    clear H
    obtain ⟨hcz5_0, hcz5_1, hcz5_2, hfz5_0, hfz5_1, hfz5_2⟩ := b3 BK436
    go_wp2
    repeat (go_quiet (fail); try go_wp2)
    go_loopg [5, 7] k1 (fun kq v5 v7 w' => ∃ (x5_2 : List (S59)) (x7_2 : Int), v7 = .int .i64 x7_2 ∧ Aside0 (macadamlaw04_drawn.l1 kq l1 x5_2 x6_1 x7_2 l0_0 l0_1 a0_2 = some r) ∧ Aside0 (kq ≤ k1) ∧ Aside0 (Kd.R k59 59 w' w.heap.size (fun _ => True) v5 x5_2) ∧ Aside0 (w'.heap[gb436]? = some (.cells #[(.slice A0_0 l0_0.length c0_0), (.slice A0_1 l0_1.length c0_1), .int .i64 a0_2] 25 (0, 0))) ∧ Aside0 (Below w.heap.size w w'))
    case atStart => exact ⟨(x5_1), (0), (by first | rfl | (simp; done) | (simp [*]; done)), H', ⟨Nat.le_refl _⟩, ⟨by (with_reducible repeat (first | apply Kd.R_alloc | apply Kd.R_drewN | apply Kd.R_drew)); exact HO_5.out⟩, ⟨bm BK436⟩, ⟨bw1 HB GE436⟩⟩
    case round =>
     clear H'
     try clear c1
     try clear p2
     try clear c4
     try clear c4b0
     try clear hcz5_0
     try clear hcz5_1
     try clear hcz5_2
     try clear hfz5_0
     try clear hfz5_1
     try clear hfz5_2
     try clear p2
     obtain ⟨x5_2, x7_2, rfl, HA, HK2, HO_5, BK436, HB⟩ := hrel
     cases gk with
     | zero => exact absurd HA.out (by simp [macadamlaw04_drawn.l1])
     | succ k2 =>
      have H := HA.out
      clear HA
      simp only [macadamlaw04_drawn.l1] at H
      by_cases c6 : x7_2 < (l0_1.length : Int)
      ·rw [if_pos c6] at H
       have c6b0 : decide (x7_2 < (l0_1.length : Int)) = true := decide_eq_true c6
       clear c6
       replace H := Option.bind_eq_some_iff.mp H
       obtain ⟨t437, A70, H⟩ := H
       replace H : ((macadamref00_Wrap.f (wrap64 (t437 + x6_1)) (wrap64 ((l0_0.length : Int) + 1))).bind fun t438 => (if t438 = (l0_0.length : Int) then (macadamlaw04_drawn.l1 k2 l1 x5_2 x6_1 (wrap64 (x7_2 + 1)) l0_0 l0_1 a0_2) else ((some (([] : List (S59)) : List (S59))).bind fun y439 => (if y439.length + x5_2.length < 5864062014805 then ((some (y439 ++ x5_2 : List (S59))).bind fun y442 => ((macadamlaw04_work.f x6_1 x7_2 t438).bind fun bt445 => (if y442.length < 5864062014805 then ((some (y442 ++ [(⟨bt445.1, bt445.2.1, bt445.2.2⟩ : S59)] : List (S59))).bind fun y448 => ((macadamlaw04_lawful.f k2 l0_0 l0_1 a0_2 y448).bind fun t451 => (if t451 = true then (macadamlaw04_drawn.l1 k2 l1 y448 x6_1 (wrap64 (x7_2 + 1)) l0_0 l0_1 a0_2) else (macadamlaw04_drawn.l1 k2 l1 x5_2 x6_1 (wrap64 (x7_2 + 1)) l0_0 l0_1 a0_2)))) else (none)))) else (none))))) = some r := H
       have A7 := Aside0.mk A70
       clear A70
       replace H := Option.bind_eq_some_iff.mp H
       obtain ⟨t438, A80, H⟩ := H
       replace H : (if t438 = (l0_0.length : Int) then (macadamlaw04_drawn.l1 k2 l1 x5_2 x6_1 (wrap64 (x7_2 + 1)) l0_0 l0_1 a0_2) else ((some (([] : List (S59)) : List (S59))).bind fun y439 => (if y439.length + x5_2.length < 5864062014805 then ((some (y439 ++ x5_2 : List (S59))).bind fun y442 => ((macadamlaw04_work.f x6_1 x7_2 t438).bind fun bt445 => (if y442.length < 5864062014805 then ((some (y442 ++ [(⟨bt445.1, bt445.2.1, bt445.2.2⟩ : S59)] : List (S59))).bind fun y448 => ((macadamlaw04_lawful.f k2 l0_0 l0_1 a0_2 y448).bind fun t451 => (if t451 = true then (macadamlaw04_drawn.l1 k2 l1 y448 x6_1 (wrap64 (x7_2 + 1)) l0_0 l0_1 a0_2) else (macadamlaw04_drawn.l1 k2 l1 x5_2 x6_1 (wrap64 (x7_2 + 1)) l0_0 l0_1 a0_2)))) else (none)))) else (none)))) = some r := H
       have A8 := Aside0.mk A80
       clear A80
       by_cases c9 : t438 = (l0_0.length : Int)
       ·rw [if_pos c9] at H
        have c9b0 : (t438 == (l0_0.length : Int)) = true := beq_iff_eq.mpr c9
        have c9b1 : (t438 != (l0_0.length : Int)) = false := bne_eq_false_iff_eq.mpr c9
        clear c9
        have H' := Aside0.mk H
        clear H
        obtain ⟨hcz10_0, hcz10_1, hcz10_2, hfz10_0, hfz10_1, hfz10_2⟩ := b3 BK436
        go_wp2_with (first | (go_at_call 86; (with_reducible refine (macadamref00_Pick.calls _ _ l1 (wrap64 ((wrap64 (x6_1 * (l0_1.length : Int))) + x7_2)) t437 _ ?side1 ?side2 A7.out).mono ?_); (case side1 => repeat (first | exact (Kd.C_below HR1.out HB.out) | (with_reducible refine Kd.C_alloc ?_ _) | (with_reducible refine Kd.C_drewN ?_ _) | (with_reducible refine Kd.C_drew ?_))); (case side2 => exact HC1.out); rintro e w' ⟨rfl, ⟨nd, rfl⟩⟩; (try first | exact ⟨rfl, _, World.drewN_drewN _ _ _⟩ | exact ⟨rfl, _, Eq.trans (World.drewN_drewN _ _ _) (congrArg (World.drewN _) (Nat.add_assoc _ _ _))⟩)) | (go_at_call 39; (with_reducible refine (macadamref00_Wrap.calls (wrap64 (t437 + x6_1)) (wrap64 ((l0_0.length : Int) + 1)) t438 _ A8.out).mono ?_); rintro e w' ⟨rfl, ⟨nd, rfl⟩⟩; (try first | exact ⟨rfl, _, World.drewN_drewN _ _ _⟩ | exact ⟨rfl, _, Eq.trans (World.drewN_drewN _ _ _) (congrArg (World.drewN _) (Nat.add_assoc _ _ _))⟩)))
        repeat (go_quiet (first | (go_at_call 86; (with_reducible refine (macadamref00_Pick.calls _ _ l1 (wrap64 ((wrap64 (x6_1 * (l0_1.length : Int))) + x7_2)) t437 _ ?side1 ?side2 A7.out).mono ?_); (case side1 => repeat (first | exact (Kd.C_below HR1.out HB.out) | (with_reducible refine Kd.C_alloc ?_ _) | (with_reducible refine Kd.C_drewN ?_ _) | (with_reducible refine Kd.C_drew ?_))); (case side2 => exact HC1.out); rintro e w' ⟨rfl, ⟨nd, rfl⟩⟩; (try first | exact ⟨rfl, _, World.drewN_drewN _ _ _⟩ | exact ⟨rfl, _, Eq.trans (World.drewN_drewN _ _ _) (congrArg (World.drewN _) (Nat.add_assoc _ _ _))⟩)) | (go_at_call 39; (with_reducible refine (macadamref00_Wrap.calls (wrap64 (t437 + x6_1)) (wrap64 ((l0_0.length : Int) + 1)) t438 _ A8.out).mono ?_); rintro e w' ⟨rfl, ⟨nd, rfl⟩⟩; (try first | exact ⟨rfl, _, World.drewN_drewN _ _ _⟩ | exact ⟨rfl, _, Eq.trans (World.drewN_drewN _ _ _) (congrArg (World.drewN _) (Nat.add_assoc _ _ _))⟩))); try go_wp2_with (first | (go_at_call 86; (with_reducible refine (macadamref00_Pick.calls _ _ l1 (wrap64 ((wrap64 (x6_1 * (l0_1.length : Int))) + x7_2)) t437 _ ?side1 ?side2 A7.out).mono ?_); (case side1 => repeat (first | exact (Kd.C_below HR1.out HB.out) | (with_reducible refine Kd.C_alloc ?_ _) | (with_reducible refine Kd.C_drewN ?_ _) | (with_reducible refine Kd.C_drew ?_))); (case side2 => exact HC1.out); rintro e w' ⟨rfl, ⟨nd, rfl⟩⟩; (try first | exact ⟨rfl, _, World.drewN_drewN _ _ _⟩ | exact ⟨rfl, _, Eq.trans (World.drewN_drewN _ _ _) (congrArg (World.drewN _) (Nat.add_assoc _ _ _))⟩)) | (go_at_call 39; (with_reducible refine (macadamref00_Wrap.calls (wrap64 (t437 + x6_1)) (wrap64 ((l0_0.length : Int) + 1)) t438 _ A8.out).mono ?_); rintro e w' ⟨rfl, ⟨nd, rfl⟩⟩; (try first | exact ⟨rfl, _, World.drewN_drewN _ _ _⟩ | exact ⟨rfl, _, Eq.trans (World.drewN_drewN _ _ _) (congrArg (World.drewN _) (Nat.add_assoc _ _ _))⟩))))
        go_roundg k2
        case measure => have := HK1.out; have := HK2.out; omega
        case rel => exact ⟨(x5_2), (wrap64 (x7_2 + 1)), (by first | rfl | (simp; done) | (simp [*]; done)), H', ⟨by have := HK1.out; have := HK2.out; omega⟩, ⟨by (with_reducible repeat (first | apply Kd.R_alloc | apply Kd.R_drewN | apply Kd.R_drew)); exact HO_5.out⟩, ⟨bm BK436⟩, ⟨bw1 HB GE436⟩⟩
       ·rw [if_neg c9] at H
        have c9b0 : (t438 == (l0_0.length : Int)) = false := beq_eq_false_iff_ne.mpr c9
        have c9b1 : (t438 != (l0_0.length : Int)) = true := bne_iff_ne.mpr c9
        obtain ⟨y439, hy439⟩ : ∃ y_ : List (S59), y_ = (([] : List (S59))) := ⟨_, rfl⟩
        replace H : (if y439.length + x5_2.length < 5864062014805 then ((some (y439 ++ x5_2 : List (S59))).bind fun y442 => ((macadamlaw04_work.f x6_1 x7_2 t438).bind fun bt445 => (if y442.length < 5864062014805 then ((some (y442 ++ [(⟨bt445.1, bt445.2.1, bt445.2.2⟩ : S59)] : List (S59))).bind fun y448 => ((macadamlaw04_lawful.f k2 l0_0 l0_1 a0_2 y448).bind fun t451 => (if t451 = true then (macadamlaw04_drawn.l1 k2 l1 y448 x6_1 (wrap64 (x7_2 + 1)) l0_0 l0_1 a0_2) else (macadamlaw04_drawn.l1 k2 l1 x5_2 x6_1 (wrap64 (x7_2 + 1)) l0_0 l0_1 a0_2)))) else (none)))) else (none)) = some r := by first | (rw [hy439]; with_reducible exact H) | (have H2_ := (Option.bind_some _ _).symm.trans H; rw [hy439]; with_reducible exact H2_) | (have H2_ := (Option.bind_some _ _).symm.trans H; with_reducible exact H2_) | with_reducible exact H | (rw [hy439]; exact H) | exact H
        have Ny439 := Aside0.mk hy439
        clear hy439
        by_cases c11 : y439.length + x5_2.length < 5864062014805
        ·rw [if_pos c11] at H
         have LMc11 := Aside0.mk c11
         clear c11
         obtain ⟨y442, hy442⟩ : ∃ y_ : List (S59), y_ = (y439 ++ x5_2) := ⟨_, rfl⟩
         replace H : ((macadamlaw04_work.f x6_1 x7_2 t438).bind fun bt445 => (if y442.length < 5864062014805 then ((some (y442 ++ [(⟨bt445.1, bt445.2.1, bt445.2.2⟩ : S59)] : List (S59))).bind fun y448 => ((macadamlaw04_lawful.f k2 l0_0 l0_1 a0_2 y448).bind fun t451 => (if t451 = true then (macadamlaw04_drawn.l1 k2 l1 y448 x6_1 (wrap64 (x7_2 + 1)) l0_0 l0_1 a0_2) else (macadamlaw04_drawn.l1 k2 l1 x5_2 x6_1 (wrap64 (x7_2 + 1)) l0_0 l0_1 a0_2)))) else (none))) = some r := by first | (rw [hy442]; with_reducible exact H) | (have H2_ := (Option.bind_some _ _).symm.trans H; rw [hy442]; with_reducible exact H2_) | (have H2_ := (Option.bind_some _ _).symm.trans H; with_reducible exact H2_) | with_reducible exact H | (rw [hy442]; exact H) | exact H
         have Ny442 := Aside0.mk hy442
         clear hy442
         replace H := Option.bind_eq_some_iff.mp H
         obtain ⟨⟨t445, t446, t447⟩, A120, H⟩ := H
         replace H : (if y442.length < 5864062014805 then ((some (y442 ++ [(⟨t445, t446, t447⟩ : S59)] : List (S59))).bind fun y448 => ((macadamlaw04_lawful.f k2 l0_0 l0_1 a0_2 y448).bind fun t451 => (if t451 = true then (macadamlaw04_drawn.l1 k2 l1 y448 x6_1 (wrap64 (x7_2 + 1)) l0_0 l0_1 a0_2) else (macadamlaw04_drawn.l1 k2 l1 x5_2 x6_1 (wrap64 (x7_2 + 1)) l0_0 l0_1 a0_2)))) else (none)) = some r := H
         have A12 := Aside0.mk A120
         clear A120
         by_cases c13 : y442.length < 5864062014805
         ·rw [if_pos c13] at H
          have LMc13 := Aside0.mk c13
          clear c13
          obtain ⟨y448, hy448⟩ : ∃ y_ : List (S59), y_ = (y442 ++ [(⟨t445, t446, t447⟩ : S59)]) := ⟨_, rfl⟩
          replace H : ((macadamlaw04_lawful.f k2 l0_0 l0_1 a0_2 y448).bind fun t451 => (if t451 = true then (macadamlaw04_drawn.l1 k2 l1 y448 x6_1 (wrap64 (x7_2 + 1)) l0_0 l0_1 a0_2) else (macadamlaw04_drawn.l1 k2 l1 x5_2 x6_1 (wrap64 (x7_2 + 1)) l0_0 l0_1 a0_2))) = some r := by first | (rw [hy448]; with_reducible exact H) | (have H2_ := (Option.bind_some _ _).symm.trans H; rw [hy448]; with_reducible exact H2_) | (have H2_ := (Option.bind_some _ _).symm.trans H; with_reducible exact H2_) | with_reducible exact H | (rw [hy448]; exact H) | exact H
          have Ny448 := Aside0.mk hy448
          clear hy448
          replace H := Option.bind_eq_some_iff.mp H
          obtain ⟨t451, A140, H⟩ := H
          replace H : (if t451 = true then (macadamlaw04_drawn.l1 k2 l1 y448 x6_1 (wrap64 (x7_2 + 1)) l0_0 l0_1 a0_2) else (macadamlaw04_drawn.l1 k2 l1 x5_2 x6_1 (wrap64 (x7_2 + 1)) l0_0 l0_1 a0_2)) = some r := H
          have A14 := Aside0.mk A140
          clear A140
          by_cases c15 : t451 = true
          ·subst c15
           have H1 : (macadamlaw04_drawn.l1 k2 l1 y448 x6_1 (wrap64 (x7_2 + 1)) l0_0 l0_1 a0_2) = some r := by rw [if_pos rfl] at H; exact H
           clear H
           have H := H1
           clear H1
           have H' := Aside0.mk H
           clear H
           obtain ⟨hcz16_0, hcz16_1, hcz16_2, hfz16_0, hfz16_1, hfz16_2⟩ := b3 BK436
           go_wp2_with (first | (go_at_call 86; (with_reducible refine (macadamref00_Pick.calls _ _ l1 (wrap64 ((wrap64 (x6_1 * (l0_1.length : Int))) + x7_2)) t437 _ ?side1 ?side2 A7.out).mono ?_); (case side1 => repeat (first | exact (Kd.C_below HR1.out HB.out) | (with_reducible refine Kd.C_alloc ?_ _) | (with_reducible refine Kd.C_drewN ?_ _) | (with_reducible refine Kd.C_drew ?_))); (case side2 => exact HC1.out); rintro e w' ⟨rfl, ⟨nd, rfl⟩⟩; (try first | exact ⟨rfl, _, World.drewN_drewN _ _ _⟩ | exact ⟨rfl, _, Eq.trans (World.drewN_drewN _ _ _) (congrArg (World.drewN _) (Nat.add_assoc _ _ _))⟩)) | (go_at_call 39; (with_reducible refine (macadamref00_Wrap.calls (wrap64 (t437 + x6_1)) (wrap64 ((l0_0.length : Int) + 1)) t438 _ A8.out).mono ?_); rintro e w' ⟨rfl, ⟨nd, rfl⟩⟩; (try first | exact ⟨rfl, _, World.drewN_drewN _ _ _⟩ | exact ⟨rfl, _, Eq.trans (World.drewN_drewN _ _ _) (congrArg (World.drewN _) (Nat.add_assoc _ _ _))⟩)) | ((with_reducible refine gate_dst (N := 44) rfl ?_); refine Kd.R_lit k59 _ 59 ?hg (N := 44) ?hd (xs := ([] : List (S59))) (inner := []) (ok := fun _ => True) (okp := fun _ => True) ?hr ?hp (fun _ hk => hk) trivial (Below.refl _ _) (Nat.le_refl _) (by simp) ?_; (case hd => rfl); (case hg => rfl); (case hr => first | (go_simp; done) | (go_simp; rfl)); (case hp => exact (Reps.none _ _)); intro v440 w17 ho18 hb hg_ hnew_; clear hg_ hnew_; (first | rw [← Ny439.out] at ho18 | (simp only [Int.reduceToNat] at ho18; rw [← Ny439.out] at ho18)); have n0_ := Aside0.mk (Kd.R_elder' (by (with_reducible repeat (first | apply Kd.R_alloc | apply Kd.R_drewN | apply Kd.R_drew)); exact HO_5.out) (Kd.R_base ho18) hb); have n1_ := Aside0.mk (Kd.R_lower (Kd.R_new' ho18 (Kd.R_lt (by (with_reducible repeat (first | apply Kd.R_alloc | apply Kd.R_drewN | apply Kd.R_drew)); exact HO_5.out))) (below_size (bw1 HB GE436))); have n2_ := Aside0.mk (blk_below (bm BK436) hb); have n3_ := Aside0.mk (below_step (bw1 HB GE436) hb); clear HO_5; clear BK436; clear HB; have HO_5 := n0_; have HO441 := n1_; have BK436 := n2_; have HB := n3_; clear n0_ n1_ n2_ n3_; clear hb ho18; obtain ⟨Ao20, co20, eo20⟩ := Kd.R_slice HO_5.out; subst eo20) | ((with_reducible refine gate_builtin (b := .append) (xs := #[.tmp 44, .tmp 45]) rfl ?_); at_builtin; refine Kd.R_append_rows k59 (w0 := w) w.heap.size rfl (.tmp 44) (.tmp 45) 26 59 (.agg #[(.int .i64 0), (.int .i64 0), (.int .i64 0)]) 24 rfl Tryd.underlying26 info59 rfl (by decide) (by omega) v440 y439 x5_2 _ _ _ (fun k_ => some k_ ≠ (.slice Ao20 x5_2.length co20 : Value).ownBlock) (fun _ => False) rfl rfl ?aO ?aR (fun _ _ h => h) (fun _ h => h.elim) ?aF ?aB ?aS ?aL ?_; (case aR => repeat (first | exact (Kd.R_reads' HO_5.out).2.2 | (with_reducible refine Kd.C_alloc ?_ _) | (with_reducible refine Kd.C_drewN ?_ _) | (with_reducible refine Kd.C_drew ?_))); (case aB => exact (bw1 HB GE436)); (case aF => exact (fun k_ hk => Kd.fresh' (Kd.R_lt (by (with_reducible repeat (first | apply Kd.R_alloc | apply Kd.R_drewN | apply Kd.R_drew)); exact HO_5.out)) k_ hk)); (case aO => exact (by (with_reducible repeat (first | apply Kd.R_alloc | apply Kd.R_drewN | apply Kd.R_drew)); exact Kd.R_mono HO441.out (fun _ hk => hk.2))); (case aS => exact (below_size (bw1 HB GE436))); (case aL => have := LMc11.out; omega); intro v443 w19 ho hb hg hat; rw [← Ny442.out] at ho; have n0_ := Aside0.mk (Kd.R_after (ok := (fun _ => True)) (by (with_reducible repeat (first | apply Kd.R_alloc | apply Kd.R_drewN | apply Kd.R_drew)); exact HO_5.out) hg hat); have n1_ := Aside0.mk (blk_grown (g := gb436) (o := .cells #[.slice A0_0 l0_0.length c0_0, .slice A0_1 l0_1.length c0_1, .int .i64 a0_2] 25 (0, 0)) (bm BK436) hg (Kd.R_ne HO441.out BK436.out (by decide))); have n2_ := Aside0.mk (hb); have n3_ := Aside0.mk (ho); clear HO_5; clear BK436; clear HB; clear HO441; have HO_5 := n0_; have BK436 := n1_; have HB := n2_; have HO444 := n3_; clear n0_ n1_ n2_ n3_; clear ho hb hg hat) | (go_at_call 44; (with_reducible refine (macadamlaw04_work.calls x6_1 x7_2 t438 t445 t446 t447 _ A12.out).mono ?_); rintro e w21 ⟨rfl, hb⟩; have n0_ := Aside0.mk (Kd.R_below (by (with_reducible repeat (first | apply Kd.R_alloc | apply Kd.R_drewN | apply Kd.R_drew)); exact HO_5.out) hb); have n1_ := Aside0.mk (Kd.R_below (by (with_reducible repeat (first | apply Kd.R_alloc | apply Kd.R_drewN | apply Kd.R_drew)); exact HO444.out) hb); have n2_ := Aside0.mk (blk_below (bm BK436) hb); have n3_ := Aside0.mk (below_step (bw1 HB GE436) hb); clear HO_5; clear HO444; clear BK436; clear HB; have HO_5 := n0_; have HO444 := n1_; have BK436 := n2_; have HB := n3_; clear n0_ n1_ n2_ n3_; (try clear hb); (try clear hb2); (try clear hk); (try clear hi)) | ((with_reducible refine gate_builtin (b := .append) (xs := #[.tmp 46, .tmp 51]) rfl ?_); at_builtin; refine Kd.R_append k59 (w0 := w) w.heap.size rfl (.tmp 46) (.tmp 51) 26 59 (.agg #[(.int .i64 0), (.int .i64 0), (.int .i64 0)]) 24 rfl Tryd.underlying26 info59 rfl (by decide) (by omega) v443 y442 (⟨t445, t446, t447⟩ : S59) [.int .i64 t445, .int .i64 t446, .int .i64 t447] (fun k_ => some k_ ≠ (.slice Ao20 x5_2.length co20 : Value).ownBlock) (fun _ => False) rfl rfl ?aP (fun _ hk => hk.elim) ?aF ?aO ?aB ?aS ?aL ?_; (case aP => exact k59_mkM _ _ _ (⟨t445, t446, t447⟩ : S59)); (case aB => exact (bw1 HB GE436)); (case aF => exact (fun k_ hk => Kd.fresh' (Kd.R_lt (by (with_reducible repeat (first | apply Kd.R_alloc | apply Kd.R_drewN | apply Kd.R_drew)); exact HO_5.out)) k_ hk)); (case aO => exact (by (with_reducible repeat (first | apply Kd.R_alloc | apply Kd.R_drewN | apply Kd.R_drew)); exact HO444.out)); (case aS => exact (below_size (bw1 HB GE436))); (case aL => have := LMc13.out; omega); intro v449 w22 ho hb hg hat; rw [← Ny448.out] at ho; have n0_ := Aside0.mk (Kd.R_after (ok := (fun _ => True)) (by (with_reducible repeat (first | apply Kd.R_alloc | apply Kd.R_drewN | apply Kd.R_drew)); exact HO_5.out) hg hat); have n1_ := Aside0.mk (blk_grown (g := gb436) (o := .cells #[.slice A0_0 l0_0.length c0_0, .slice A0_1 l0_1.length c0_1, .int .i64 a0_2] 25 (0, 0)) (bm BK436) hg (Kd.R_ne HO444.out BK436.out (by decide))); have n2_ := Aside0.mk (hb); have n3_ := Aside0.mk (ho); clear HO_5; clear BK436; clear HB; clear HO444; have HO_5 := n0_; have BK436 := n1_; have HB := n2_; have HO450 := n3_; clear n0_ n1_ n2_ n3_; clear ho hb hg hat; obtain ⟨hcz23_0, hcz23_1, hcz23_2, hfz23_0, hfz23_1, hfz23_2⟩ := b3 BK436; obtain ⟨Ao24, co24, eo24⟩ := Kd.R_slice HO450.out; subst eo24) | (go_at_call 40; (with_reducible refine (macadamlaw04_lawful.calls k2 _ _ l0_0 _ _ l0_1 a0_2 _ _ y448 true _ ?side1 ?side2 ?side3 ?side4 ?side5 ?side6 A14.out).mono ?_); (case side1 => repeat (first | exact (Kd.C_below HR0_0.out HB.out) | (with_reducible refine Kd.C_alloc ?_ _) | (with_reducible refine Kd.C_drewN ?_ _) | (with_reducible refine Kd.C_drew ?_))); (case side2 => exact HC0_0.out); (case side3 => repeat (first | exact (Kd.C_below HR0_1.out HB.out) | (with_reducible refine Kd.C_alloc ?_ _) | (with_reducible refine Kd.C_drewN ?_ _) | (with_reducible refine Kd.C_drew ?_))); (case side4 => exact HC0_1.out); (case side5 => repeat (first | exact (Kd.R_reads' HO450.out).2.2 | (with_reducible refine Kd.C_alloc ?_ _) | (with_reducible refine Kd.C_drewN ?_ _) | (with_reducible refine Kd.C_drew ?_))); (case side6 => exact (Kd.R_reads' HO450.out).2.1); rintro e w25 ⟨rfl, hb⟩; have n0_ := Aside0.mk (Kd.R_below (by (with_reducible repeat (first | apply Kd.R_alloc | apply Kd.R_drewN | apply Kd.R_drew)); exact HO_5.out) hb); have n1_ := Aside0.mk (Kd.R_below (by (with_reducible repeat (first | apply Kd.R_alloc | apply Kd.R_drewN | apply Kd.R_drew)); exact HO450.out) hb); have n2_ := Aside0.mk (blk_below (bm BK436) hb); have n3_ := Aside0.mk (below_step (bw1 HB GE436) hb); clear HO_5; clear HO450; clear BK436; clear HB; have HO_5 := n0_; have HO450 := n1_; have BK436 := n2_; have HB := n3_; clear n0_ n1_ n2_ n3_; (try clear hb); (try clear hb2); (try clear hk); (try clear hi)))
           repeat (go_quiet (first | (go_at_call 86; (with_reducible refine (macadamref00_Pick.calls _ _ l1 (wrap64 ((wrap64 (x6_1 * (l0_1.length : Int))) + x7_2)) t437 _ ?side1 ?side2 A7.out).mono ?_); (case side1 => repeat (first | exact (Kd.C_below HR1.out HB.out) | (with_reducible refine Kd.C_alloc ?_ _) | (with_reducible refine Kd.C_drewN ?_ _) | (with_reducible refine Kd.C_drew ?_))); (case side2 => exact HC1.out); rintro e w' ⟨rfl, ⟨nd, rfl⟩⟩; (try first | exact ⟨rfl, _, World.drewN_drewN _ _ _⟩ | exact ⟨rfl, _, Eq.trans (World.drewN_drewN _ _ _) (congrArg (World.drewN _) (Nat.add_assoc _ _ _))⟩)) | (go_at_call 39; (with_reducible refine (macadamref00_Wrap.calls (wrap64 (t437 + x6_1)) (wrap64 ((l0_0.length : Int) + 1)) t438 _ A8.out).mono ?_); rintro e w' ⟨rfl, ⟨nd, rfl⟩⟩; (try first | exact ⟨rfl, _, World.drewN_drewN _ _ _⟩ | exact ⟨rfl, _, Eq.trans (World.drewN_drewN _ _ _) (congrArg (World.drewN _) (Nat.add_assoc _ _ _))⟩)) | ((with_reducible refine gate_dst (N := 44) rfl ?_); refine Kd.R_lit k59 _ 59 ?hg (N := 44) ?hd (xs := ([] : List (S59))) (inner := []) (ok := fun _ => True) (okp := fun _ => True) ?hr ?hp (fun _ hk => hk) trivial (Below.refl _ _) (Nat.le_refl _) (by simp) ?_; (case hd => rfl); (case hg => rfl); (case hr => first | (go_simp; done) | (go_simp; rfl)); (case hp => exact (Reps.none _ _)); intro v440 w17 ho18 hb hg_ hnew_; clear hg_ hnew_; (first | rw [← Ny439.out] at ho18 | (simp only [Int.reduceToNat] at ho18; rw [← Ny439.out] at ho18)); have n0_ := Aside0.mk (Kd.R_elder' (by (with_reducible repeat (first | apply Kd.R_alloc | apply Kd.R_drewN | apply Kd.R_drew)); exact HO_5.out) (Kd.R_base ho18) hb); have n1_ := Aside0.mk (Kd.R_lower (Kd.R_new' ho18 (Kd.R_lt (by (with_reducible repeat (first | apply Kd.R_alloc | apply Kd.R_drewN | apply Kd.R_drew)); exact HO_5.out))) (below_size (bw1 HB GE436))); have n2_ := Aside0.mk (blk_below (bm BK436) hb); have n3_ := Aside0.mk (below_step (bw1 HB GE436) hb); clear HO_5; clear BK436; clear HB; have HO_5 := n0_; have HO441 := n1_; have BK436 := n2_; have HB := n3_; clear n0_ n1_ n2_ n3_; clear hb ho18; obtain ⟨Ao20, co20, eo20⟩ := Kd.R_slice HO_5.out; subst eo20) | ((with_reducible refine gate_builtin (b := .append) (xs := #[.tmp 44, .tmp 45]) rfl ?_); at_builtin; refine Kd.R_append_rows k59 (w0 := w) w.heap.size rfl (.tmp 44) (.tmp 45) 26 59 (.agg #[(.int .i64 0), (.int .i64 0), (.int .i64 0)]) 24 rfl Tryd.underlying26 info59 rfl (by decide) (by omega) v440 y439 x5_2 _ _ _ (fun k_ => some k_ ≠ (.slice Ao20 x5_2.length co20 : Value).ownBlock) (fun _ => False) rfl rfl ?aO ?aR (fun _ _ h => h) (fun _ h => h.elim) ?aF ?aB ?aS ?aL ?_; (case aR => repeat (first | exact (Kd.R_reads' HO_5.out).2.2 | (with_reducible refine Kd.C_alloc ?_ _) | (with_reducible refine Kd.C_drewN ?_ _) | (with_reducible refine Kd.C_drew ?_))); (case aB => exact (bw1 HB GE436)); (case aF => exact (fun k_ hk => Kd.fresh' (Kd.R_lt (by (with_reducible repeat (first | apply Kd.R_alloc | apply Kd.R_drewN | apply Kd.R_drew)); exact HO_5.out)) k_ hk)); (case aO => exact (by (with_reducible repeat (first | apply Kd.R_alloc | apply Kd.R_drewN | apply Kd.R_drew)); exact Kd.R_mono HO441.out (fun _ hk => hk.2))); (case aS => exact (below_size (bw1 HB GE436))); (case aL => have := LMc11.out; omega); intro v443 w19 ho hb hg hat; rw [← Ny442.out] at ho; have n0_ := Aside0.mk (Kd.R_after (ok := (fun _ => True)) (by (with_reducible repeat (first | apply Kd.R_alloc | apply Kd.R_drewN | apply Kd.R_drew)); exact HO_5.out) hg hat); have n1_ := Aside0.mk (blk_grown (g := gb436) (o := .cells #[.slice A0_0 l0_0.length c0_0, .slice A0_1 l0_1.length c0_1, .int .i64 a0_2] 25 (0, 0)) (bm BK436) hg (Kd.R_ne HO441.out BK436.out (by decide))); have n2_ := Aside0.mk (hb); have n3_ := Aside0.mk (ho); clear HO_5; clear BK436; clear HB; clear HO441; have HO_5 := n0_; have BK436 := n1_; have HB := n2_; have HO444 := n3_; clear n0_ n1_ n2_ n3_; clear ho hb hg hat) | (go_at_call 44; (with_reducible refine (macadamlaw04_work.calls x6_1 x7_2 t438 t445 t446 t447 _ A12.out).mono ?_); rintro e w21 ⟨rfl, hb⟩; have n0_ := Aside0.mk (Kd.R_below (by (with_reducible repeat (first | apply Kd.R_alloc | apply Kd.R_drewN | apply Kd.R_drew)); exact HO_5.out) hb); have n1_ := Aside0.mk (Kd.R_below (by (with_reducible repeat (first | apply Kd.R_alloc | apply Kd.R_drewN | apply Kd.R_drew)); exact HO444.out) hb); have n2_ := Aside0.mk (blk_below (bm BK436) hb); have n3_ := Aside0.mk (below_step (bw1 HB GE436) hb); clear HO_5; clear HO444; clear BK436; clear HB; have HO_5 := n0_; have HO444 := n1_; have BK436 := n2_; have HB := n3_; clear n0_ n1_ n2_ n3_; (try clear hb); (try clear hb2); (try clear hk); (try clear hi)) | ((with_reducible refine gate_builtin (b := .append) (xs := #[.tmp 46, .tmp 51]) rfl ?_); at_builtin; refine Kd.R_append k59 (w0 := w) w.heap.size rfl (.tmp 46) (.tmp 51) 26 59 (.agg #[(.int .i64 0), (.int .i64 0), (.int .i64 0)]) 24 rfl Tryd.underlying26 info59 rfl (by decide) (by omega) v443 y442 (⟨t445, t446, t447⟩ : S59) [.int .i64 t445, .int .i64 t446, .int .i64 t447] (fun k_ => some k_ ≠ (.slice Ao20 x5_2.length co20 : Value).ownBlock) (fun _ => False) rfl rfl ?aP (fun _ hk => hk.elim) ?aF ?aO ?aB ?aS ?aL ?_; (case aP => exact k59_mkM _ _ _ (⟨t445, t446, t447⟩ : S59)); (case aB => exact (bw1 HB GE436)); (case aF => exact (fun k_ hk => Kd.fresh' (Kd.R_lt (by (with_reducible repeat (first | apply Kd.R_alloc | apply Kd.R_drewN | apply Kd.R_drew)); exact HO_5.out)) k_ hk)); (case aO => exact (by (with_reducible repeat (first | apply Kd.R_alloc | apply Kd.R_drewN | apply Kd.R_drew)); exact HO444.out)); (case aS => exact (below_size (bw1 HB GE436))); (case aL => have := LMc13.out; omega); intro v449 w22 ho hb hg hat; rw [← Ny448.out] at ho; have n0_ := Aside0.mk (Kd.R_after (ok := (fun _ => True)) (by (with_reducible repeat (first | apply Kd.R_alloc | apply Kd.R_drewN | apply Kd.R_drew)); exact HO_5.out) hg hat); have n1_ := Aside0.mk (blk_grown (g := gb436) (o := .cells #[.slice A0_0 l0_0.length c0_0, .slice A0_1 l0_1.length c0_1, .int .i64 a0_2] 25 (0, 0)) (bm BK436) hg (Kd.R_ne HO444.out BK436.out (by decide))); have n2_ := Aside0.mk (hb); have n3_ := Aside0.mk (ho); clear HO_5; clear BK436; clear HB; clear HO444; have HO_5 := n0_; have BK436 := n1_; have HB := n2_; have HO450 := n3_; clear n0_ n1_ n2_ n3_; clear ho hb hg hat; obtain ⟨hcz23_0, hcz23_1, hcz23_2, hfz23_0, hfz23_1, hfz23_2⟩ := b3 BK436; obtain ⟨Ao24, co24, eo24⟩ := Kd.R_slice HO450.out; subst eo24) | (go_at_call 40; (with_reducible refine (macadamlaw04_lawful.calls k2 _ _ l0_0 _ _ l0_1 a0_2 _ _ y448 true _ ?side1 ?side2 ?side3 ?side4 ?side5 ?side6 A14.out).mono ?_); (case side1 => repeat (first | exact (Kd.C_below HR0_0.out HB.out) | (with_reducible refine Kd.C_alloc ?_ _) | (with_reducible refine Kd.C_drewN ?_ _) | (with_reducible refine Kd.C_drew ?_))); (case side2 => exact HC0_0.out); (case side3 => repeat (first | exact (Kd.C_below HR0_1.out HB.out) | (with_reducible refine Kd.C_alloc ?_ _) | (with_reducible refine Kd.C_drewN ?_ _) | (with_reducible refine Kd.C_drew ?_))); (case side4 => exact HC0_1.out); (case side5 => repeat (first | exact (Kd.R_reads' HO450.out).2.2 | (with_reducible refine Kd.C_alloc ?_ _) | (with_reducible refine Kd.C_drewN ?_ _) | (with_reducible refine Kd.C_drew ?_))); (case side6 => exact (Kd.R_reads' HO450.out).2.1); rintro e w25 ⟨rfl, hb⟩; have n0_ := Aside0.mk (Kd.R_below (by (with_reducible repeat (first | apply Kd.R_alloc | apply Kd.R_drewN | apply Kd.R_drew)); exact HO_5.out) hb); have n1_ := Aside0.mk (Kd.R_below (by (with_reducible repeat (first | apply Kd.R_alloc | apply Kd.R_drewN | apply Kd.R_drew)); exact HO450.out) hb); have n2_ := Aside0.mk (blk_below (bm BK436) hb); have n3_ := Aside0.mk (below_step (bw1 HB GE436) hb); clear HO_5; clear HO450; clear BK436; clear HB; have HO_5 := n0_; have HO450 := n1_; have BK436 := n2_; have HB := n3_; clear n0_ n1_ n2_ n3_; (try clear hb); (try clear hb2); (try clear hk); (try clear hi))); try go_wp2_with (first | (go_at_call 86; (with_reducible refine (macadamref00_Pick.calls _ _ l1 (wrap64 ((wrap64 (x6_1 * (l0_1.length : Int))) + x7_2)) t437 _ ?side1 ?side2 A7.out).mono ?_); (case side1 => repeat (first | exact (Kd.C_below HR1.out HB.out) | (with_reducible refine Kd.C_alloc ?_ _) | (with_reducible refine Kd.C_drewN ?_ _) | (with_reducible refine Kd.C_drew ?_))); (case side2 => exact HC1.out); rintro e w' ⟨rfl, ⟨nd, rfl⟩⟩; (try first | exact ⟨rfl, _, World.drewN_drewN _ _ _⟩ | exact ⟨rfl, _, Eq.trans (World.drewN_drewN _ _ _) (congrArg (World.drewN _) (Nat.add_assoc _ _ _))⟩)) | (go_at_call 39; (with_reducible refine (macadamref00_Wrap.calls (wrap64 (t437 + x6_1)) (wrap64 ((l0_0.length : Int) + 1)) t438 _ A8.out).mono ?_); rintro e w' ⟨rfl, ⟨nd, rfl⟩⟩; (try first | exact ⟨rfl, _, World.drewN_drewN _ _ _⟩ | exact ⟨rfl, _, Eq.trans (World.drewN_drewN _ _ _) (congrArg (World.drewN _) (Nat.add_assoc _ _ _))⟩)) | ((with_reducible refine gate_dst (N := 44) rfl ?_); refine Kd.R_lit k59 _ 59 ?hg (N := 44) ?hd (xs := ([] : List (S59))) (inner := []) (ok := fun _ => True) (okp := fun _ => True) ?hr ?hp (fun _ hk => hk) trivial (Below.refl _ _) (Nat.le_refl _) (by simp) ?_; (case hd => rfl); (case hg => rfl); (case hr => first | (go_simp; done) | (go_simp; rfl)); (case hp => exact (Reps.none _ _)); intro v440 w17 ho18 hb hg_ hnew_; clear hg_ hnew_; (first | rw [← Ny439.out] at ho18 | (simp only [Int.reduceToNat] at ho18; rw [← Ny439.out] at ho18)); have n0_ := Aside0.mk (Kd.R_elder' (by (with_reducible repeat (first | apply Kd.R_alloc | apply Kd.R_drewN | apply Kd.R_drew)); exact HO_5.out) (Kd.R_base ho18) hb); have n1_ := Aside0.mk (Kd.R_lower (Kd.R_new' ho18 (Kd.R_lt (by (with_reducible repeat (first | apply Kd.R_alloc | apply Kd.R_drewN | apply Kd.R_drew)); exact HO_5.out))) (below_size (bw1 HB GE436))); have n2_ := Aside0.mk (blk_below (bm BK436) hb); have n3_ := Aside0.mk (below_step (bw1 HB GE436) hb); clear HO_5; clear BK436; clear HB; have HO_5 := n0_; have HO441 := n1_; have BK436 := n2_; have HB := n3_; clear n0_ n1_ n2_ n3_; clear hb ho18; obtain ⟨Ao20, co20, eo20⟩ := Kd.R_slice HO_5.out; subst eo20) | ((with_reducible refine gate_builtin (b := .append) (xs := #[.tmp 44, .tmp 45]) rfl ?_); at_builtin; refine Kd.R_append_rows k59 (w0 := w) w.heap.size rfl (.tmp 44) (.tmp 45) 26 59 (.agg #[(.int .i64 0), (.int .i64 0), (.int .i64 0)]) 24 rfl Tryd.underlying26 info59 rfl (by decide) (by omega) v440 y439 x5_2 _ _ _ (fun k_ => some k_ ≠ (.slice Ao20 x5_2.length co20 : Value).ownBlock) (fun _ => False) rfl rfl ?aO ?aR (fun _ _ h => h) (fun _ h => h.elim) ?aF ?aB ?aS ?aL ?_; (case aR => repeat (first | exact (Kd.R_reads' HO_5.out).2.2 | (with_reducible refine Kd.C_alloc ?_ _) | (with_reducible refine Kd.C_drewN ?_ _) | (with_reducible refine Kd.C_drew ?_))); (case aB => exact (bw1 HB GE436)); (case aF => exact (fun k_ hk => Kd.fresh' (Kd.R_lt (by (with_reducible repeat (first | apply Kd.R_alloc | apply Kd.R_drewN | apply Kd.R_drew)); exact HO_5.out)) k_ hk)); (case aO => exact (by (with_reducible repeat (first | apply Kd.R_alloc | apply Kd.R_drewN | apply Kd.R_drew)); exact Kd.R_mono HO441.out (fun _ hk => hk.2))); (case aS => exact (below_size (bw1 HB GE436))); (case aL => have := LMc11.out; omega); intro v443 w19 ho hb hg hat; rw [← Ny442.out] at ho; have n0_ := Aside0.mk (Kd.R_after (ok := (fun _ => True)) (by (with_reducible repeat (first | apply Kd.R_alloc | apply Kd.R_drewN | apply Kd.R_drew)); exact HO_5.out) hg hat); have n1_ := Aside0.mk (blk_grown (g := gb436) (o := .cells #[.slice A0_0 l0_0.length c0_0, .slice A0_1 l0_1.length c0_1, .int .i64 a0_2] 25 (0, 0)) (bm BK436) hg (Kd.R_ne HO441.out BK436.out (by decide))); have n2_ := Aside0.mk (hb); have n3_ := Aside0.mk (ho); clear HO_5; clear BK436; clear HB; clear HO441; have HO_5 := n0_; have BK436 := n1_; have HB := n2_; have HO444 := n3_; clear n0_ n1_ n2_ n3_; clear ho hb hg hat) | (go_at_call 44; (with_reducible refine (macadamlaw04_work.calls x6_1 x7_2 t438 t445 t446 t447 _ A12.out).mono ?_); rintro e w21 ⟨rfl, hb⟩; have n0_ := Aside0.mk (Kd.R_below (by (with_reducible repeat (first | apply Kd.R_alloc | apply Kd.R_drewN | apply Kd.R_drew)); exact HO_5.out) hb); have n1_ := Aside0.mk (Kd.R_below (by (with_reducible repeat (first | apply Kd.R_alloc | apply Kd.R_drewN | apply Kd.R_drew)); exact HO444.out) hb); have n2_ := Aside0.mk (blk_below (bm BK436) hb); have n3_ := Aside0.mk (below_step (bw1 HB GE436) hb); clear HO_5; clear HO444; clear BK436; clear HB; have HO_5 := n0_; have HO444 := n1_; have BK436 := n2_; have HB := n3_; clear n0_ n1_ n2_ n3_; (try clear hb); (try clear hb2); (try clear hk); (try clear hi)) | ((with_reducible refine gate_builtin (b := .append) (xs := #[.tmp 46, .tmp 51]) rfl ?_); at_builtin; refine Kd.R_append k59 (w0 := w) w.heap.size rfl (.tmp 46) (.tmp 51) 26 59 (.agg #[(.int .i64 0), (.int .i64 0), (.int .i64 0)]) 24 rfl Tryd.underlying26 info59 rfl (by decide) (by omega) v443 y442 (⟨t445, t446, t447⟩ : S59) [.int .i64 t445, .int .i64 t446, .int .i64 t447] (fun k_ => some k_ ≠ (.slice Ao20 x5_2.length co20 : Value).ownBlock) (fun _ => False) rfl rfl ?aP (fun _ hk => hk.elim) ?aF ?aO ?aB ?aS ?aL ?_; (case aP => exact k59_mkM _ _ _ (⟨t445, t446, t447⟩ : S59)); (case aB => exact (bw1 HB GE436)); (case aF => exact (fun k_ hk => Kd.fresh' (Kd.R_lt (by (with_reducible repeat (first | apply Kd.R_alloc | apply Kd.R_drewN | apply Kd.R_drew)); exact HO_5.out)) k_ hk)); (case aO => exact (by (with_reducible repeat (first | apply Kd.R_alloc | apply Kd.R_drewN | apply Kd.R_drew)); exact HO444.out)); (case aS => exact (below_size (bw1 HB GE436))); (case aL => have := LMc13.out; omega); intro v449 w22 ho hb hg hat; rw [← Ny448.out] at ho; have n0_ := Aside0.mk (Kd.R_after (ok := (fun _ => True)) (by (with_reducible repeat (first | apply Kd.R_alloc | apply Kd.R_drewN | apply Kd.R_drew)); exact HO_5.out) hg hat); have n1_ := Aside0.mk (blk_grown (g := gb436) (o := .cells #[.slice A0_0 l0_0.length c0_0, .slice A0_1 l0_1.length c0_1, .int .i64 a0_2] 25 (0, 0)) (bm BK436) hg (Kd.R_ne HO444.out BK436.out (by decide))); have n2_ := Aside0.mk (hb); have n3_ := Aside0.mk (ho); clear HO_5; clear BK436; clear HB; clear HO444; have HO_5 := n0_; have BK436 := n1_; have HB := n2_; have HO450 := n3_; clear n0_ n1_ n2_ n3_; clear ho hb hg hat; obtain ⟨hcz23_0, hcz23_1, hcz23_2, hfz23_0, hfz23_1, hfz23_2⟩ := b3 BK436; obtain ⟨Ao24, co24, eo24⟩ := Kd.R_slice HO450.out; subst eo24) | (go_at_call 40; (with_reducible refine (macadamlaw04_lawful.calls k2 _ _ l0_0 _ _ l0_1 a0_2 _ _ y448 true _ ?side1 ?side2 ?side3 ?side4 ?side5 ?side6 A14.out).mono ?_); (case side1 => repeat (first | exact (Kd.C_below HR0_0.out HB.out) | (with_reducible refine Kd.C_alloc ?_ _) | (with_reducible refine Kd.C_drewN ?_ _) | (with_reducible refine Kd.C_drew ?_))); (case side2 => exact HC0_0.out); (case side3 => repeat (first | exact (Kd.C_below HR0_1.out HB.out) | (with_reducible refine Kd.C_alloc ?_ _) | (with_reducible refine Kd.C_drewN ?_ _) | (with_reducible refine Kd.C_drew ?_))); (case side4 => exact HC0_1.out); (case side5 => repeat (first | exact (Kd.R_reads' HO450.out).2.2 | (with_reducible refine Kd.C_alloc ?_ _) | (with_reducible refine Kd.C_drewN ?_ _) | (with_reducible refine Kd.C_drew ?_))); (case side6 => exact (Kd.R_reads' HO450.out).2.1); rintro e w25 ⟨rfl, hb⟩; have n0_ := Aside0.mk (Kd.R_below (by (with_reducible repeat (first | apply Kd.R_alloc | apply Kd.R_drewN | apply Kd.R_drew)); exact HO_5.out) hb); have n1_ := Aside0.mk (Kd.R_below (by (with_reducible repeat (first | apply Kd.R_alloc | apply Kd.R_drewN | apply Kd.R_drew)); exact HO450.out) hb); have n2_ := Aside0.mk (blk_below (bm BK436) hb); have n3_ := Aside0.mk (below_step (bw1 HB GE436) hb); clear HO_5; clear HO450; clear BK436; clear HB; have HO_5 := n0_; have HO450 := n1_; have BK436 := n2_; have HB := n3_; clear n0_ n1_ n2_ n3_; (try clear hb); (try clear hb2); (try clear hk); (try clear hi))))
           go_roundg k2
           case measure => have := HK1.out; have := HK2.out; omega
           case rel => exact ⟨(y448), (wrap64 (x7_2 + 1)), (by first | rfl | (simp; done) | (simp [*]; done)), H', ⟨by have := HK1.out; have := HK2.out; omega⟩, ⟨by (with_reducible repeat (first | apply Kd.R_alloc | apply Kd.R_drewN | apply Kd.R_drew)); exact Kd.R_mono HO450.out (fun _ hk => trivial)⟩, ⟨bm BK436⟩, ⟨bw1 HB GE436⟩⟩
          ·replace c15 := Bool.eq_false_iff.mpr c15
           subst c15
           have H1 : (macadamlaw04_drawn.l1 k2 l1 x5_2 x6_1 (wrap64 (x7_2 + 1)) l0_0 l0_1 a0_2) = some r := by rw [if_neg (show ¬ (false = true) by decide)] at H; exact H
           clear H
           have H := H1
           clear H1
           have H' := Aside0.mk H
           clear H
           obtain ⟨hcz26_0, hcz26_1, hcz26_2, hfz26_0, hfz26_1, hfz26_2⟩ := b3 BK436
           go_wp2_with (first | (go_at_call 86; (with_reducible refine (macadamref00_Pick.calls _ _ l1 (wrap64 ((wrap64 (x6_1 * (l0_1.length : Int))) + x7_2)) t437 _ ?side1 ?side2 A7.out).mono ?_); (case side1 => repeat (first | exact (Kd.C_below HR1.out HB.out) | (with_reducible refine Kd.C_alloc ?_ _) | (with_reducible refine Kd.C_drewN ?_ _) | (with_reducible refine Kd.C_drew ?_))); (case side2 => exact HC1.out); rintro e w' ⟨rfl, ⟨nd, rfl⟩⟩; (try first | exact ⟨rfl, _, World.drewN_drewN _ _ _⟩ | exact ⟨rfl, _, Eq.trans (World.drewN_drewN _ _ _) (congrArg (World.drewN _) (Nat.add_assoc _ _ _))⟩)) | (go_at_call 39; (with_reducible refine (macadamref00_Wrap.calls (wrap64 (t437 + x6_1)) (wrap64 ((l0_0.length : Int) + 1)) t438 _ A8.out).mono ?_); rintro e w' ⟨rfl, ⟨nd, rfl⟩⟩; (try first | exact ⟨rfl, _, World.drewN_drewN _ _ _⟩ | exact ⟨rfl, _, Eq.trans (World.drewN_drewN _ _ _) (congrArg (World.drewN _) (Nat.add_assoc _ _ _))⟩)) | ((with_reducible refine gate_dst (N := 44) rfl ?_); refine Kd.R_lit k59 _ 59 ?hg (N := 44) ?hd (xs := ([] : List (S59))) (inner := []) (ok := fun _ => True) (okp := fun _ => True) ?hr ?hp (fun _ hk => hk) trivial (Below.refl _ _) (Nat.le_refl _) (by simp) ?_; (case hd => rfl); (case hg => rfl); (case hr => first | (go_simp; done) | (go_simp; rfl)); (case hp => exact (Reps.none _ _)); intro v440 w27 ho28 hb hg_ hnew_; clear hg_ hnew_; (first | rw [← Ny439.out] at ho28 | (simp only [Int.reduceToNat] at ho28; rw [← Ny439.out] at ho28)); have n0_ := Aside0.mk (Kd.R_elder' (by (with_reducible repeat (first | apply Kd.R_alloc | apply Kd.R_drewN | apply Kd.R_drew)); exact HO_5.out) (Kd.R_base ho28) hb); have n1_ := Aside0.mk (Kd.R_lower (Kd.R_new' ho28 (Kd.R_lt (by (with_reducible repeat (first | apply Kd.R_alloc | apply Kd.R_drewN | apply Kd.R_drew)); exact HO_5.out))) (below_size (bw1 HB GE436))); have n2_ := Aside0.mk (blk_below (bm BK436) hb); have n3_ := Aside0.mk (below_step (bw1 HB GE436) hb); clear HO_5; clear BK436; clear HB; have HO_5 := n0_; have HO441 := n1_; have BK436 := n2_; have HB := n3_; clear n0_ n1_ n2_ n3_; clear hb ho28; obtain ⟨Ao30, co30, eo30⟩ := Kd.R_slice HO_5.out; subst eo30) | ((with_reducible refine gate_builtin (b := .append) (xs := #[.tmp 44, .tmp 45]) rfl ?_); at_builtin; refine Kd.R_append_rows k59 (w0 := w) w.heap.size rfl (.tmp 44) (.tmp 45) 26 59 (.agg #[(.int .i64 0), (.int .i64 0), (.int .i64 0)]) 24 rfl Tryd.underlying26 info59 rfl (by decide) (by omega) v440 y439 x5_2 _ _ _ (fun k_ => some k_ ≠ (.slice Ao30 x5_2.length co30 : Value).ownBlock) (fun _ => False) rfl rfl ?aO ?aR (fun _ _ h => h) (fun _ h => h.elim) ?aF ?aB ?aS ?aL ?_; (case aR => repeat (first | exact (Kd.R_reads' HO_5.out).2.2 | (with_reducible refine Kd.C_alloc ?_ _) | (with_reducible refine Kd.C_drewN ?_ _) | (with_reducible refine Kd.C_drew ?_))); (case aB => exact (bw1 HB GE436)); (case aF => exact (fun k_ hk => Kd.fresh' (Kd.R_lt (by (with_reducible repeat (first | apply Kd.R_alloc | apply Kd.R_drewN | apply Kd.R_drew)); exact HO_5.out)) k_ hk)); (case aO => exact (by (with_reducible repeat (first | apply Kd.R_alloc | apply Kd.R_drewN | apply Kd.R_drew)); exact Kd.R_mono HO441.out (fun _ hk => hk.2))); (case aS => exact (below_size (bw1 HB GE436))); (case aL => have := LMc11.out; omega); intro v443 w29 ho hb hg hat; rw [← Ny442.out] at ho; have n0_ := Aside0.mk (Kd.R_after (ok := (fun _ => True)) (by (with_reducible repeat (first | apply Kd.R_alloc | apply Kd.R_drewN | apply Kd.R_drew)); exact HO_5.out) hg hat); have n1_ := Aside0.mk (blk_grown (g := gb436) (o := .cells #[.slice A0_0 l0_0.length c0_0, .slice A0_1 l0_1.length c0_1, .int .i64 a0_2] 25 (0, 0)) (bm BK436) hg (Kd.R_ne HO441.out BK436.out (by decide))); have n2_ := Aside0.mk (hb); have n3_ := Aside0.mk (ho); clear HO_5; clear BK436; clear HB; clear HO441; have HO_5 := n0_; have BK436 := n1_; have HB := n2_; have HO444 := n3_; clear n0_ n1_ n2_ n3_; clear ho hb hg hat) | (go_at_call 44; (with_reducible refine (macadamlaw04_work.calls x6_1 x7_2 t438 t445 t446 t447 _ A12.out).mono ?_); rintro e w31 ⟨rfl, hb⟩; have n0_ := Aside0.mk (Kd.R_below (by (with_reducible repeat (first | apply Kd.R_alloc | apply Kd.R_drewN | apply Kd.R_drew)); exact HO_5.out) hb); have n1_ := Aside0.mk (Kd.R_below (by (with_reducible repeat (first | apply Kd.R_alloc | apply Kd.R_drewN | apply Kd.R_drew)); exact HO444.out) hb); have n2_ := Aside0.mk (blk_below (bm BK436) hb); have n3_ := Aside0.mk (below_step (bw1 HB GE436) hb); clear HO_5; clear HO444; clear BK436; clear HB; have HO_5 := n0_; have HO444 := n1_; have BK436 := n2_; have HB := n3_; clear n0_ n1_ n2_ n3_; (try clear hb); (try clear hb2); (try clear hk); (try clear hi)) | ((with_reducible refine gate_builtin (b := .append) (xs := #[.tmp 46, .tmp 51]) rfl ?_); at_builtin; refine Kd.R_append k59 (w0 := w) w.heap.size rfl (.tmp 46) (.tmp 51) 26 59 (.agg #[(.int .i64 0), (.int .i64 0), (.int .i64 0)]) 24 rfl Tryd.underlying26 info59 rfl (by decide) (by omega) v443 y442 (⟨t445, t446, t447⟩ : S59) [.int .i64 t445, .int .i64 t446, .int .i64 t447] (fun k_ => some k_ ≠ (.slice Ao30 x5_2.length co30 : Value).ownBlock) (fun _ => False) rfl rfl ?aP (fun _ hk => hk.elim) ?aF ?aO ?aB ?aS ?aL ?_; (case aP => exact k59_mkM _ _ _ (⟨t445, t446, t447⟩ : S59)); (case aB => exact (bw1 HB GE436)); (case aF => exact (fun k_ hk => Kd.fresh' (Kd.R_lt (by (with_reducible repeat (first | apply Kd.R_alloc | apply Kd.R_drewN | apply Kd.R_drew)); exact HO_5.out)) k_ hk)); (case aO => exact (by (with_reducible repeat (first | apply Kd.R_alloc | apply Kd.R_drewN | apply Kd.R_drew)); exact HO444.out)); (case aS => exact (below_size (bw1 HB GE436))); (case aL => have := LMc13.out; omega); intro v449 w32 ho hb hg hat; rw [← Ny448.out] at ho; have n0_ := Aside0.mk (Kd.R_after (ok := (fun _ => True)) (by (with_reducible repeat (first | apply Kd.R_alloc | apply Kd.R_drewN | apply Kd.R_drew)); exact HO_5.out) hg hat); have n1_ := Aside0.mk (blk_grown (g := gb436) (o := .cells #[.slice A0_0 l0_0.length c0_0, .slice A0_1 l0_1.length c0_1, .int .i64 a0_2] 25 (0, 0)) (bm BK436) hg (Kd.R_ne HO444.out BK436.out (by decide))); have n2_ := Aside0.mk (hb); have n3_ := Aside0.mk (ho); clear HO_5; clear BK436; clear HB; clear HO444; have HO_5 := n0_; have BK436 := n1_; have HB := n2_; have HO450 := n3_; clear n0_ n1_ n2_ n3_; clear ho hb hg hat; obtain ⟨hcz33_0, hcz33_1, hcz33_2, hfz33_0, hfz33_1, hfz33_2⟩ := b3 BK436; obtain ⟨Ao34, co34, eo34⟩ := Kd.R_slice HO450.out; subst eo34) | (go_at_call 40; (with_reducible refine (macadamlaw04_lawful.calls k2 _ _ l0_0 _ _ l0_1 a0_2 _ _ y448 false _ ?side1 ?side2 ?side3 ?side4 ?side5 ?side6 A14.out).mono ?_); (case side1 => repeat (first | exact (Kd.C_below HR0_0.out HB.out) | (with_reducible refine Kd.C_alloc ?_ _) | (with_reducible refine Kd.C_drewN ?_ _) | (with_reducible refine Kd.C_drew ?_))); (case side2 => exact HC0_0.out); (case side3 => repeat (first | exact (Kd.C_below HR0_1.out HB.out) | (with_reducible refine Kd.C_alloc ?_ _) | (with_reducible refine Kd.C_drewN ?_ _) | (with_reducible refine Kd.C_drew ?_))); (case side4 => exact HC0_1.out); (case side5 => repeat (first | exact (Kd.R_reads' HO450.out).2.2 | (with_reducible refine Kd.C_alloc ?_ _) | (with_reducible refine Kd.C_drewN ?_ _) | (with_reducible refine Kd.C_drew ?_))); (case side6 => exact (Kd.R_reads' HO450.out).2.1); rintro e w35 ⟨rfl, hb⟩; have n0_ := Aside0.mk (Kd.R_below (by (with_reducible repeat (first | apply Kd.R_alloc | apply Kd.R_drewN | apply Kd.R_drew)); exact HO_5.out) hb); have n1_ := Aside0.mk (Kd.R_below (by (with_reducible repeat (first | apply Kd.R_alloc | apply Kd.R_drewN | apply Kd.R_drew)); exact HO450.out) hb); have n2_ := Aside0.mk (blk_below (bm BK436) hb); have n3_ := Aside0.mk (below_step (bw1 HB GE436) hb); clear HO_5; clear HO450; clear BK436; clear HB; have HO_5 := n0_; have HO450 := n1_; have BK436 := n2_; have HB := n3_; clear n0_ n1_ n2_ n3_; (try clear hb); (try clear hb2); (try clear hk); (try clear hi)))
           repeat (go_quiet (first | (go_at_call 86; (with_reducible refine (macadamref00_Pick.calls _ _ l1 (wrap64 ((wrap64 (x6_1 * (l0_1.length : Int))) + x7_2)) t437 _ ?side1 ?side2 A7.out).mono ?_); (case side1 => repeat (first | exact (Kd.C_below HR1.out HB.out) | (with_reducible refine Kd.C_alloc ?_ _) | (with_reducible refine Kd.C_drewN ?_ _) | (with_reducible refine Kd.C_drew ?_))); (case side2 => exact HC1.out); rintro e w' ⟨rfl, ⟨nd, rfl⟩⟩; (try first | exact ⟨rfl, _, World.drewN_drewN _ _ _⟩ | exact ⟨rfl, _, Eq.trans (World.drewN_drewN _ _ _) (congrArg (World.drewN _) (Nat.add_assoc _ _ _))⟩)) | (go_at_call 39; (with_reducible refine (macadamref00_Wrap.calls (wrap64 (t437 + x6_1)) (wrap64 ((l0_0.length : Int) + 1)) t438 _ A8.out).mono ?_); rintro e w' ⟨rfl, ⟨nd, rfl⟩⟩; (try first | exact ⟨rfl, _, World.drewN_drewN _ _ _⟩ | exact ⟨rfl, _, Eq.trans (World.drewN_drewN _ _ _) (congrArg (World.drewN _) (Nat.add_assoc _ _ _))⟩)) | ((with_reducible refine gate_dst (N := 44) rfl ?_); refine Kd.R_lit k59 _ 59 ?hg (N := 44) ?hd (xs := ([] : List (S59))) (inner := []) (ok := fun _ => True) (okp := fun _ => True) ?hr ?hp (fun _ hk => hk) trivial (Below.refl _ _) (Nat.le_refl _) (by simp) ?_; (case hd => rfl); (case hg => rfl); (case hr => first | (go_simp; done) | (go_simp; rfl)); (case hp => exact (Reps.none _ _)); intro v440 w27 ho28 hb hg_ hnew_; clear hg_ hnew_; (first | rw [← Ny439.out] at ho28 | (simp only [Int.reduceToNat] at ho28; rw [← Ny439.out] at ho28)); have n0_ := Aside0.mk (Kd.R_elder' (by (with_reducible repeat (first | apply Kd.R_alloc | apply Kd.R_drewN | apply Kd.R_drew)); exact HO_5.out) (Kd.R_base ho28) hb); have n1_ := Aside0.mk (Kd.R_lower (Kd.R_new' ho28 (Kd.R_lt (by (with_reducible repeat (first | apply Kd.R_alloc | apply Kd.R_drewN | apply Kd.R_drew)); exact HO_5.out))) (below_size (bw1 HB GE436))); have n2_ := Aside0.mk (blk_below (bm BK436) hb); have n3_ := Aside0.mk (below_step (bw1 HB GE436) hb); clear HO_5; clear BK436; clear HB; have HO_5 := n0_; have HO441 := n1_; have BK436 := n2_; have HB := n3_; clear n0_ n1_ n2_ n3_; clear hb ho28; obtain ⟨Ao30, co30, eo30⟩ := Kd.R_slice HO_5.out; subst eo30) | ((with_reducible refine gate_builtin (b := .append) (xs := #[.tmp 44, .tmp 45]) rfl ?_); at_builtin; refine Kd.R_append_rows k59 (w0 := w) w.heap.size rfl (.tmp 44) (.tmp 45) 26 59 (.agg #[(.int .i64 0), (.int .i64 0), (.int .i64 0)]) 24 rfl Tryd.underlying26 info59 rfl (by decide) (by omega) v440 y439 x5_2 _ _ _ (fun k_ => some k_ ≠ (.slice Ao30 x5_2.length co30 : Value).ownBlock) (fun _ => False) rfl rfl ?aO ?aR (fun _ _ h => h) (fun _ h => h.elim) ?aF ?aB ?aS ?aL ?_; (case aR => repeat (first | exact (Kd.R_reads' HO_5.out).2.2 | (with_reducible refine Kd.C_alloc ?_ _) | (with_reducible refine Kd.C_drewN ?_ _) | (with_reducible refine Kd.C_drew ?_))); (case aB => exact (bw1 HB GE436)); (case aF => exact (fun k_ hk => Kd.fresh' (Kd.R_lt (by (with_reducible repeat (first | apply Kd.R_alloc | apply Kd.R_drewN | apply Kd.R_drew)); exact HO_5.out)) k_ hk)); (case aO => exact (by (with_reducible repeat (first | apply Kd.R_alloc | apply Kd.R_drewN | apply Kd.R_drew)); exact Kd.R_mono HO441.out (fun _ hk => hk.2))); (case aS => exact (below_size (bw1 HB GE436))); (case aL => have := LMc11.out; omega); intro v443 w29 ho hb hg hat; rw [← Ny442.out] at ho; have n0_ := Aside0.mk (Kd.R_after (ok := (fun _ => True)) (by (with_reducible repeat (first | apply Kd.R_alloc | apply Kd.R_drewN | apply Kd.R_drew)); exact HO_5.out) hg hat); have n1_ := Aside0.mk (blk_grown (g := gb436) (o := .cells #[.slice A0_0 l0_0.length c0_0, .slice A0_1 l0_1.length c0_1, .int .i64 a0_2] 25 (0, 0)) (bm BK436) hg (Kd.R_ne HO441.out BK436.out (by decide))); have n2_ := Aside0.mk (hb); have n3_ := Aside0.mk (ho); clear HO_5; clear BK436; clear HB; clear HO441; have HO_5 := n0_; have BK436 := n1_; have HB := n2_; have HO444 := n3_; clear n0_ n1_ n2_ n3_; clear ho hb hg hat) | (go_at_call 44; (with_reducible refine (macadamlaw04_work.calls x6_1 x7_2 t438 t445 t446 t447 _ A12.out).mono ?_); rintro e w31 ⟨rfl, hb⟩; have n0_ := Aside0.mk (Kd.R_below (by (with_reducible repeat (first | apply Kd.R_alloc | apply Kd.R_drewN | apply Kd.R_drew)); exact HO_5.out) hb); have n1_ := Aside0.mk (Kd.R_below (by (with_reducible repeat (first | apply Kd.R_alloc | apply Kd.R_drewN | apply Kd.R_drew)); exact HO444.out) hb); have n2_ := Aside0.mk (blk_below (bm BK436) hb); have n3_ := Aside0.mk (below_step (bw1 HB GE436) hb); clear HO_5; clear HO444; clear BK436; clear HB; have HO_5 := n0_; have HO444 := n1_; have BK436 := n2_; have HB := n3_; clear n0_ n1_ n2_ n3_; (try clear hb); (try clear hb2); (try clear hk); (try clear hi)) | ((with_reducible refine gate_builtin (b := .append) (xs := #[.tmp 46, .tmp 51]) rfl ?_); at_builtin; refine Kd.R_append k59 (w0 := w) w.heap.size rfl (.tmp 46) (.tmp 51) 26 59 (.agg #[(.int .i64 0), (.int .i64 0), (.int .i64 0)]) 24 rfl Tryd.underlying26 info59 rfl (by decide) (by omega) v443 y442 (⟨t445, t446, t447⟩ : S59) [.int .i64 t445, .int .i64 t446, .int .i64 t447] (fun k_ => some k_ ≠ (.slice Ao30 x5_2.length co30 : Value).ownBlock) (fun _ => False) rfl rfl ?aP (fun _ hk => hk.elim) ?aF ?aO ?aB ?aS ?aL ?_; (case aP => exact k59_mkM _ _ _ (⟨t445, t446, t447⟩ : S59)); (case aB => exact (bw1 HB GE436)); (case aF => exact (fun k_ hk => Kd.fresh' (Kd.R_lt (by (with_reducible repeat (first | apply Kd.R_alloc | apply Kd.R_drewN | apply Kd.R_drew)); exact HO_5.out)) k_ hk)); (case aO => exact (by (with_reducible repeat (first | apply Kd.R_alloc | apply Kd.R_drewN | apply Kd.R_drew)); exact HO444.out)); (case aS => exact (below_size (bw1 HB GE436))); (case aL => have := LMc13.out; omega); intro v449 w32 ho hb hg hat; rw [← Ny448.out] at ho; have n0_ := Aside0.mk (Kd.R_after (ok := (fun _ => True)) (by (with_reducible repeat (first | apply Kd.R_alloc | apply Kd.R_drewN | apply Kd.R_drew)); exact HO_5.out) hg hat); have n1_ := Aside0.mk (blk_grown (g := gb436) (o := .cells #[.slice A0_0 l0_0.length c0_0, .slice A0_1 l0_1.length c0_1, .int .i64 a0_2] 25 (0, 0)) (bm BK436) hg (Kd.R_ne HO444.out BK436.out (by decide))); have n2_ := Aside0.mk (hb); have n3_ := Aside0.mk (ho); clear HO_5; clear BK436; clear HB; clear HO444; have HO_5 := n0_; have BK436 := n1_; have HB := n2_; have HO450 := n3_; clear n0_ n1_ n2_ n3_; clear ho hb hg hat; obtain ⟨hcz33_0, hcz33_1, hcz33_2, hfz33_0, hfz33_1, hfz33_2⟩ := b3 BK436; obtain ⟨Ao34, co34, eo34⟩ := Kd.R_slice HO450.out; subst eo34) | (go_at_call 40; (with_reducible refine (macadamlaw04_lawful.calls k2 _ _ l0_0 _ _ l0_1 a0_2 _ _ y448 false _ ?side1 ?side2 ?side3 ?side4 ?side5 ?side6 A14.out).mono ?_); (case side1 => repeat (first | exact (Kd.C_below HR0_0.out HB.out) | (with_reducible refine Kd.C_alloc ?_ _) | (with_reducible refine Kd.C_drewN ?_ _) | (with_reducible refine Kd.C_drew ?_))); (case side2 => exact HC0_0.out); (case side3 => repeat (first | exact (Kd.C_below HR0_1.out HB.out) | (with_reducible refine Kd.C_alloc ?_ _) | (with_reducible refine Kd.C_drewN ?_ _) | (with_reducible refine Kd.C_drew ?_))); (case side4 => exact HC0_1.out); (case side5 => repeat (first | exact (Kd.R_reads' HO450.out).2.2 | (with_reducible refine Kd.C_alloc ?_ _) | (with_reducible refine Kd.C_drewN ?_ _) | (with_reducible refine Kd.C_drew ?_))); (case side6 => exact (Kd.R_reads' HO450.out).2.1); rintro e w35 ⟨rfl, hb⟩; have n0_ := Aside0.mk (Kd.R_below (by (with_reducible repeat (first | apply Kd.R_alloc | apply Kd.R_drewN | apply Kd.R_drew)); exact HO_5.out) hb); have n1_ := Aside0.mk (Kd.R_below (by (with_reducible repeat (first | apply Kd.R_alloc | apply Kd.R_drewN | apply Kd.R_drew)); exact HO450.out) hb); have n2_ := Aside0.mk (blk_below (bm BK436) hb); have n3_ := Aside0.mk (below_step (bw1 HB GE436) hb); clear HO_5; clear HO450; clear BK436; clear HB; have HO_5 := n0_; have HO450 := n1_; have BK436 := n2_; have HB := n3_; clear n0_ n1_ n2_ n3_; (try clear hb); (try clear hb2); (try clear hk); (try clear hi))); try go_wp2_with (first | (go_at_call 86; (with_reducible refine (macadamref00_Pick.calls _ _ l1 (wrap64 ((wrap64 (x6_1 * (l0_1.length : Int))) + x7_2)) t437 _ ?side1 ?side2 A7.out).mono ?_); (case side1 => repeat (first | exact (Kd.C_below HR1.out HB.out) | (with_reducible refine Kd.C_alloc ?_ _) | (with_reducible refine Kd.C_drewN ?_ _) | (with_reducible refine Kd.C_drew ?_))); (case side2 => exact HC1.out); rintro e w' ⟨rfl, ⟨nd, rfl⟩⟩; (try first | exact ⟨rfl, _, World.drewN_drewN _ _ _⟩ | exact ⟨rfl, _, Eq.trans (World.drewN_drewN _ _ _) (congrArg (World.drewN _) (Nat.add_assoc _ _ _))⟩)) | (go_at_call 39; (with_reducible refine (macadamref00_Wrap.calls (wrap64 (t437 + x6_1)) (wrap64 ((l0_0.length : Int) + 1)) t438 _ A8.out).mono ?_); rintro e w' ⟨rfl, ⟨nd, rfl⟩⟩; (try first | exact ⟨rfl, _, World.drewN_drewN _ _ _⟩ | exact ⟨rfl, _, Eq.trans (World.drewN_drewN _ _ _) (congrArg (World.drewN _) (Nat.add_assoc _ _ _))⟩)) | ((with_reducible refine gate_dst (N := 44) rfl ?_); refine Kd.R_lit k59 _ 59 ?hg (N := 44) ?hd (xs := ([] : List (S59))) (inner := []) (ok := fun _ => True) (okp := fun _ => True) ?hr ?hp (fun _ hk => hk) trivial (Below.refl _ _) (Nat.le_refl _) (by simp) ?_; (case hd => rfl); (case hg => rfl); (case hr => first | (go_simp; done) | (go_simp; rfl)); (case hp => exact (Reps.none _ _)); intro v440 w27 ho28 hb hg_ hnew_; clear hg_ hnew_; (first | rw [← Ny439.out] at ho28 | (simp only [Int.reduceToNat] at ho28; rw [← Ny439.out] at ho28)); have n0_ := Aside0.mk (Kd.R_elder' (by (with_reducible repeat (first | apply Kd.R_alloc | apply Kd.R_drewN | apply Kd.R_drew)); exact HO_5.out) (Kd.R_base ho28) hb); have n1_ := Aside0.mk (Kd.R_lower (Kd.R_new' ho28 (Kd.R_lt (by (with_reducible repeat (first | apply Kd.R_alloc | apply Kd.R_drewN | apply Kd.R_drew)); exact HO_5.out))) (below_size (bw1 HB GE436))); have n2_ := Aside0.mk (blk_below (bm BK436) hb); have n3_ := Aside0.mk (below_step (bw1 HB GE436) hb); clear HO_5; clear BK436; clear HB; have HO_5 := n0_; have HO441 := n1_; have BK436 := n2_; have HB := n3_; clear n0_ n1_ n2_ n3_; clear hb ho28; obtain ⟨Ao30, co30, eo30⟩ := Kd.R_slice HO_5.out; subst eo30) | ((with_reducible refine gate_builtin (b := .append) (xs := #[.tmp 44, .tmp 45]) rfl ?_); at_builtin; refine Kd.R_append_rows k59 (w0 := w) w.heap.size rfl (.tmp 44) (.tmp 45) 26 59 (.agg #[(.int .i64 0), (.int .i64 0), (.int .i64 0)]) 24 rfl Tryd.underlying26 info59 rfl (by decide) (by omega) v440 y439 x5_2 _ _ _ (fun k_ => some k_ ≠ (.slice Ao30 x5_2.length co30 : Value).ownBlock) (fun _ => False) rfl rfl ?aO ?aR (fun _ _ h => h) (fun _ h => h.elim) ?aF ?aB ?aS ?aL ?_; (case aR => repeat (first | exact (Kd.R_reads' HO_5.out).2.2 | (with_reducible refine Kd.C_alloc ?_ _) | (with_reducible refine Kd.C_drewN ?_ _) | (with_reducible refine Kd.C_drew ?_))); (case aB => exact (bw1 HB GE436)); (case aF => exact (fun k_ hk => Kd.fresh' (Kd.R_lt (by (with_reducible repeat (first | apply Kd.R_alloc | apply Kd.R_drewN | apply Kd.R_drew)); exact HO_5.out)) k_ hk)); (case aO => exact (by (with_reducible repeat (first | apply Kd.R_alloc | apply Kd.R_drewN | apply Kd.R_drew)); exact Kd.R_mono HO441.out (fun _ hk => hk.2))); (case aS => exact (below_size (bw1 HB GE436))); (case aL => have := LMc11.out; omega); intro v443 w29 ho hb hg hat; rw [← Ny442.out] at ho; have n0_ := Aside0.mk (Kd.R_after (ok := (fun _ => True)) (by (with_reducible repeat (first | apply Kd.R_alloc | apply Kd.R_drewN | apply Kd.R_drew)); exact HO_5.out) hg hat); have n1_ := Aside0.mk (blk_grown (g := gb436) (o := .cells #[.slice A0_0 l0_0.length c0_0, .slice A0_1 l0_1.length c0_1, .int .i64 a0_2] 25 (0, 0)) (bm BK436) hg (Kd.R_ne HO441.out BK436.out (by decide))); have n2_ := Aside0.mk (hb); have n3_ := Aside0.mk (ho); clear HO_5; clear BK436; clear HB; clear HO441; have HO_5 := n0_; have BK436 := n1_; have HB := n2_; have HO444 := n3_; clear n0_ n1_ n2_ n3_; clear ho hb hg hat) | (go_at_call 44; (with_reducible refine (macadamlaw04_work.calls x6_1 x7_2 t438 t445 t446 t447 _ A12.out).mono ?_); rintro e w31 ⟨rfl, hb⟩; have n0_ := Aside0.mk (Kd.R_below (by (with_reducible repeat (first | apply Kd.R_alloc | apply Kd.R_drewN | apply Kd.R_drew)); exact HO_5.out) hb); have n1_ := Aside0.mk (Kd.R_below (by (with_reducible repeat (first | apply Kd.R_alloc | apply Kd.R_drewN | apply Kd.R_drew)); exact HO444.out) hb); have n2_ := Aside0.mk (blk_below (bm BK436) hb); have n3_ := Aside0.mk (below_step (bw1 HB GE436) hb); clear HO_5; clear HO444; clear BK436; clear HB; have HO_5 := n0_; have HO444 := n1_; have BK436 := n2_; have HB := n3_; clear n0_ n1_ n2_ n3_; (try clear hb); (try clear hb2); (try clear hk); (try clear hi)) | ((with_reducible refine gate_builtin (b := .append) (xs := #[.tmp 46, .tmp 51]) rfl ?_); at_builtin; refine Kd.R_append k59 (w0 := w) w.heap.size rfl (.tmp 46) (.tmp 51) 26 59 (.agg #[(.int .i64 0), (.int .i64 0), (.int .i64 0)]) 24 rfl Tryd.underlying26 info59 rfl (by decide) (by omega) v443 y442 (⟨t445, t446, t447⟩ : S59) [.int .i64 t445, .int .i64 t446, .int .i64 t447] (fun k_ => some k_ ≠ (.slice Ao30 x5_2.length co30 : Value).ownBlock) (fun _ => False) rfl rfl ?aP (fun _ hk => hk.elim) ?aF ?aO ?aB ?aS ?aL ?_; (case aP => exact k59_mkM _ _ _ (⟨t445, t446, t447⟩ : S59)); (case aB => exact (bw1 HB GE436)); (case aF => exact (fun k_ hk => Kd.fresh' (Kd.R_lt (by (with_reducible repeat (first | apply Kd.R_alloc | apply Kd.R_drewN | apply Kd.R_drew)); exact HO_5.out)) k_ hk)); (case aO => exact (by (with_reducible repeat (first | apply Kd.R_alloc | apply Kd.R_drewN | apply Kd.R_drew)); exact HO444.out)); (case aS => exact (below_size (bw1 HB GE436))); (case aL => have := LMc13.out; omega); intro v449 w32 ho hb hg hat; rw [← Ny448.out] at ho; have n0_ := Aside0.mk (Kd.R_after (ok := (fun _ => True)) (by (with_reducible repeat (first | apply Kd.R_alloc | apply Kd.R_drewN | apply Kd.R_drew)); exact HO_5.out) hg hat); have n1_ := Aside0.mk (blk_grown (g := gb436) (o := .cells #[.slice A0_0 l0_0.length c0_0, .slice A0_1 l0_1.length c0_1, .int .i64 a0_2] 25 (0, 0)) (bm BK436) hg (Kd.R_ne HO444.out BK436.out (by decide))); have n2_ := Aside0.mk (hb); have n3_ := Aside0.mk (ho); clear HO_5; clear BK436; clear HB; clear HO444; have HO_5 := n0_; have BK436 := n1_; have HB := n2_; have HO450 := n3_; clear n0_ n1_ n2_ n3_; clear ho hb hg hat; obtain ⟨hcz33_0, hcz33_1, hcz33_2, hfz33_0, hfz33_1, hfz33_2⟩ := b3 BK436; obtain ⟨Ao34, co34, eo34⟩ := Kd.R_slice HO450.out; subst eo34) | (go_at_call 40; (with_reducible refine (macadamlaw04_lawful.calls k2 _ _ l0_0 _ _ l0_1 a0_2 _ _ y448 false _ ?side1 ?side2 ?side3 ?side4 ?side5 ?side6 A14.out).mono ?_); (case side1 => repeat (first | exact (Kd.C_below HR0_0.out HB.out) | (with_reducible refine Kd.C_alloc ?_ _) | (with_reducible refine Kd.C_drewN ?_ _) | (with_reducible refine Kd.C_drew ?_))); (case side2 => exact HC0_0.out); (case side3 => repeat (first | exact (Kd.C_below HR0_1.out HB.out) | (with_reducible refine Kd.C_alloc ?_ _) | (with_reducible refine Kd.C_drewN ?_ _) | (with_reducible refine Kd.C_drew ?_))); (case side4 => exact HC0_1.out); (case side5 => repeat (first | exact (Kd.R_reads' HO450.out).2.2 | (with_reducible refine Kd.C_alloc ?_ _) | (with_reducible refine Kd.C_drewN ?_ _) | (with_reducible refine Kd.C_drew ?_))); (case side6 => exact (Kd.R_reads' HO450.out).2.1); rintro e w35 ⟨rfl, hb⟩; have n0_ := Aside0.mk (Kd.R_below (by (with_reducible repeat (first | apply Kd.R_alloc | apply Kd.R_drewN | apply Kd.R_drew)); exact HO_5.out) hb); have n1_ := Aside0.mk (Kd.R_below (by (with_reducible repeat (first | apply Kd.R_alloc | apply Kd.R_drewN | apply Kd.R_drew)); exact HO450.out) hb); have n2_ := Aside0.mk (blk_below (bm BK436) hb); have n3_ := Aside0.mk (below_step (bw1 HB GE436) hb); clear HO_5; clear HO450; clear BK436; clear HB; have HO_5 := n0_; have HO450 := n1_; have BK436 := n2_; have HB := n3_; clear n0_ n1_ n2_ n3_; (try clear hb); (try clear hb2); (try clear hk); (try clear hi))))
           go_roundg k2
           case measure => have := HK1.out; have := HK2.out; omega
           case rel => exact ⟨(x5_2), (wrap64 (x7_2 + 1)), (by first | rfl | (simp; done) | (simp [*]; done)), H', ⟨by have := HK1.out; have := HK2.out; omega⟩, ⟨by (with_reducible repeat (first | apply Kd.R_alloc | apply Kd.R_drewN | apply Kd.R_drew)); exact Kd.R_mono HO_5.out (fun _ hk => trivial)⟩, ⟨bm BK436⟩, ⟨bw1 HB GE436⟩⟩
         ·rw [if_neg c13] at H
          exact absurd H (by simp)
        ·rw [if_neg c11] at H
         exact absurd H (by simp)
      ·rw [if_neg c6] at H
       have c6b0 : decide (x7_2 < (l0_1.length : Int)) = false := decide_eq_false c6
       clear c6
       have H' := Aside0.mk H
       clear H
       obtain ⟨hcz36_0, hcz36_1, hcz36_2, hfz36_0, hfz36_1, hfz36_2⟩ := b3 BK436
       go_wp2
       repeat (go_quiet (fail); try go_wp2)
       go_roundg k2
       case measure => have := HK1.out; have := HK2.out; omega
       case rel => exact ⟨(x5_2), (wrap64 (x6_1 + 1)), (by first | rfl | (simp; done) | (simp [*]; done)), H', ⟨by have := HK1.out; have := HK2.out; omega⟩, ⟨by (with_reducible repeat (first | apply Kd.R_alloc | apply Kd.R_drewN | apply Kd.R_drew)); exact HO_5.out⟩, ⟨bm BK436⟩, ⟨bw1 HB GE436⟩⟩
   ·rw [if_neg c4] at H
    have c4b0 : decide (x6_1 < a0_2) = false := decide_eq_false c4
    clear c4
    obtain rfl := Option.some.inj H
    obtain ⟨hcz37_0, hcz37_1, hcz37_2, hfz37_0, hfz37_1, hfz37_2⟩ := b3 BK436
    go_wp2
    repeat (go_quiet (fail); try go_wp2)
    go_ret
    exact ⟨_, by first | rfl | (simp [errW_none, errW_some] <;> rfl) | (simp [*, errW_none, errW_some] <;> rfl), by (with_reducible repeat (first | apply Kd.R_alloc | apply Kd.R_drewN | apply Kd.R_drew)); exact HO_5.out, bw1 HB GE436⟩
def macadamlaw04_least.l0 : Nat → List (S59) → Int → Int → Int → List (S66) → List (S63) → Int → Option (Int)
 | 0, _, _, _, _, _, _, _ => none
 | k + 1, x1, x2, x7, x8, x453000, x453001, x453002 => if x8 < (x1.length : Int) then (if 0 ≤ x8 then (if ((rd_T59 x1 x8).f2) = x2 then (if 0 ≤ ((rd_T59 x1 x8).f1) then (if ((rd_T59 x1 x8).f1) < (x453001.length : Int) then (macadamlaw04_least.l0 k x1 x2 (wrap64 (x7 + ((rd_T63 x453001 ((rd_T59 x1 x8).f1)).f2.f0))) (wrap64 (x8 + 1)) x453000 x453001 x453002) else (none)) else (none)) else (macadamlaw04_least.l0 k x1 x2 x7 (wrap64 (x8 + 1)) x453000 x453001 x453002)) else (none)) else (some x7)
def macadamlaw04_least.f (k : Nat) (l0_0 : List (S66)) (l0_1 : List (S63)) (a0_2 : Int) (l1 : List (S59)) (a2 : Int) : Option (Int) := macadamlaw04_least.l0 k l1 a2 0 0 l0_0 l0_1 a0_2
set_option maxHeartbeats 8000000 in
set_option maxRecDepth 100000 in
theorem macadamlaw04_least.calls (k : Nat) (A0_0 : Option Addr) (c0_0 : Nat) (l0_0 : List (S66)) (A0_1 : Option Addr) (c0_1 : Nat) (l0_1 : List (S63)) (a0_2 : Int) (A1 : Option Addr) (c1 : Nat) (l1 : List (S59)) (a2 : Int) (r : Int) (w : World) (hr0_0 : Kd.C k66 w A0_0 l0_0.length l0_0) (hc0_0 : l0_0.length ≤ c0_0) (hr0_1 : Kd.C k63 w A0_1 l0_1.length l0_1) (hc0_1 : l0_1.length ≤ c0_1) (hr1 : Kd.C k59 w A1 l1.length l1) (hc1 : l1.length ≤ c1) (h : macadamlaw04_least.f k l0_0 l0_1 a0_2 l1 a2 = some r) :
  Calls Tryd.prog 87 #[.agg #[.slice A0_0 l0_0.length c0_0, .slice A0_1 l0_1.length c0_1, .int .i64 a0_2], .slice A1 l1.length c1, .int .i64 a2] w fun e w' => e = .returned (.int .i64 r) ∧ Below w.heap.size w w' := by
 have hu25 := Tryd.underlying25
 have HR0_0 := Aside0.mk hr0_0
 have HC0_0 := Aside0.mk hc0_0
 clear hr0_0 hc0_0
 have HR0_1 := Aside0.mk hr0_1
 have HC0_1 := Aside0.mk hc0_1
 clear hr0_1 hc0_1
 have HR1 := Aside0.mk hr1
 have HC1 := Aside0.mk hc1
 clear hr1 hc1
 have HB := Aside0.mk (Below.refl w.heap.size w)
 have H : (macadamlaw04_least.l0 k l1 a2 0 0 l0_0 l0_1 a0_2) = some r := h
 clear h
 have H' := Aside0.mk H
 clear H
 go_enter Tryd.func87, Tryd.ntmps87
 go_wp2_with (first | ((with_reducible refine gate_dst (N := 3) rfl ?_); refine bx 3 #[.slice A0_0 l0_0.length c0_0, .slice A0_1 l0_1.length c0_1, .int .i64 a0_2] 25 ?_; intro gb452 hg w4 hbox hb; have n0_ := Aside0.mk (below_step (bw HB) hb); have n1_ := Aside0.mk (hbox); have n2_ := Aside0.mk (bz (bw HB) hg); have n3_ := Aside0.mk (bz (bw HB) hg); clear HB; have HB := n0_; have BK452 := n1_; have GW452 := n2_; have GE452 := n3_; clear n0_ n1_ n2_ n3_; clear hb hbox hg))
 repeat (go_quiet (first | ((with_reducible refine gate_dst (N := 3) rfl ?_); refine bx 3 #[.slice A0_0 l0_0.length c0_0, .slice A0_1 l0_1.length c0_1, .int .i64 a0_2] 25 ?_; intro gb452 hg w4 hbox hb; have n0_ := Aside0.mk (below_step (bw HB) hb); have n1_ := Aside0.mk (hbox); have n2_ := Aside0.mk (bz (bw HB) hg); have n3_ := Aside0.mk (bz (bw HB) hg); clear HB; have HB := n0_; have BK452 := n1_; have GW452 := n2_; have GE452 := n3_; clear n0_ n1_ n2_ n3_; clear hb hbox hg)); try go_wp2_with (first | ((with_reducible refine gate_dst (N := 3) rfl ?_); refine bx 3 #[.slice A0_0 l0_0.length c0_0, .slice A0_1 l0_1.length c0_1, .int .i64 a0_2] 25 ?_; intro gb452 hg w4 hbox hb; have n0_ := Aside0.mk (below_step (bw HB) hb); have n1_ := Aside0.mk (hbox); have n2_ := Aside0.mk (bz (bw HB) hg); have n3_ := Aside0.mk (bz (bw HB) hg); clear HB; have HB := n0_; have BK452 := n1_; have GW452 := n2_; have GE452 := n3_; clear n0_ n1_ n2_ n3_; clear hb hbox hg)))
 go_loopg [7, 8] k (fun kq v7 v8 w' => ∃ (x7_1 : Int) (x8_1 : Int), v7 = .int .i64 x7_1 ∧ v8 = .int .i64 x8_1 ∧ Aside0 (macadamlaw04_least.l0 kq l1 a2 x7_1 x8_1 l0_0 l0_1 a0_2 = some r) ∧ Aside0 (kq ≤ k) ∧ Aside0 (w'.heap[gb452]? = some (.cells #[(.slice A0_0 l0_0.length c0_0), (.slice A0_1 l0_1.length c0_1), .int .i64 a0_2] 25 (0, 0))) ∧ Aside0 (Below w.heap.size w w'))
 case atStart => exact ⟨(0), (0), (by first | rfl | (simp; done) | (simp [*]; done)), (by first | rfl | (simp; done) | (simp [*]; done)), H', ⟨Nat.le_refl _⟩, ⟨bm BK452⟩, ⟨bw1 HB GE452⟩⟩
 case round =>
  clear H'
  try clear c1
  try clear p2
  obtain ⟨x7_1, x8_1, rfl, rfl, HA, HK1, BK452, HB⟩ := hrel
  cases gk with
  | zero => exact absurd HA.out (by simp [macadamlaw04_least.l0])
  | succ k1 =>
   have H := HA.out
   clear HA
   simp only [macadamlaw04_least.l0] at H
   by_cases c5 : x8_1 < (l1.length : Int)
   ·rw [if_pos c5] at H
    have c5b0 : decide (x8_1 < (l1.length : Int)) = true := decide_eq_true c5
    clear c5
    by_cases c6 : 0 ≤ x8_1
    ·rw [if_pos c6] at H
     have c6b0 : decide (0 ≤ x8_1) = true := decide_eq_true c6
     clear c6
     by_cases c7 : ((rd_T59 l1 x8_1).f2) = a2
     ·rw [if_pos c7] at H
      have c7b0 : (((rd_T59 l1 x8_1).f2) == a2) = true := beq_iff_eq.mpr c7
      have c7b1 : (((rd_T59 l1 x8_1).f2) != a2) = false := bne_eq_false_iff_eq.mpr c7
      clear c7
      by_cases c8 : 0 ≤ ((rd_T59 l1 x8_1).f1)
      ·rw [if_pos c8] at H
       have c8b0 : decide (0 ≤ ((rd_T59 l1 x8_1).f1)) = true := decide_eq_true c8
       clear c8
       by_cases c9 : ((rd_T59 l1 x8_1).f1) < (l0_1.length : Int)
       ·rw [if_pos c9] at H
        have c9b0 : decide (((rd_T59 l1 x8_1).f1) < (l0_1.length : Int)) = true := decide_eq_true c9
        clear c9
        have H' := Aside0.mk H
        clear H
        have p453 : 0 ≤ (x8_1 : Int) := of_decide_eq_true (by first | (with_reducible assumption) | assumption)
        have q453 : x8_1 < (l1.length : Int) := of_decide_eq_true (by first | (with_reducible assumption) | assumption)
        obtain ⟨ad453, e453, hx453_0, hx453_1, hx453_2⟩ := at_T59 HR1.out x8_1 p453 q453
        cases e453
        replace hx453_0 := cB HB hx453_0
        replace hx453_1 := cB HB hx453_1
        replace hx453_2 := cB HB hx453_2
        replace p453 := eq_true p453
        replace q453 := eq_true q453
        obtain ⟨hcz10_0, hcz10_1, hcz10_2, hfz10_0, hfz10_1, hfz10_2⟩ := b3 BK452
        have p454 : 0 ≤ (x8_1 : Int) := of_decide_eq_true (by first | (with_reducible assumption) | assumption)
        have q454 : x8_1 < (l1.length : Int) := of_decide_eq_true (by first | (with_reducible assumption) | assumption)
        obtain ⟨ad454, e454, hx454_0, hx454_1, hx454_2⟩ := at_T59 HR1.out x8_1 p454 q454
        obtain rfl : ad453 = ad454 := (by injection e454)
        replace hx454_0 := cB HB hx454_0
        replace hx454_1 := cB HB hx454_1
        replace hx454_2 := cB HB hx454_2
        replace p454 := eq_true p454
        replace q454 := eq_true q454
        have p455 : 0 ≤ (((rd_T59 l1 x8_1).f1) : Int) := of_decide_eq_true (by first | (with_reducible assumption) | assumption)
        have q455 : ((rd_T59 l1 x8_1).f1) < (l0_1.length : Int) := of_decide_eq_true (by first | (with_reducible assumption) | assumption)
        obtain ⟨ad455, e455, hx455_0, hx455_1, hx455_2, hx455_3⟩ := at_T63 HR0_1.out ((rd_T59 l1 x8_1).f1) p455 q455
        cases e455
        replace hx455_0 := cB HB hx455_0
        replace hx455_1 := cB HB hx455_1
        replace hx455_2 := cB HB hx455_2
        replace hx455_3 := cB HB hx455_3
        replace p455 := eq_true p455
        replace q455 := eq_true q455
        go_wp2
        repeat (go_quiet (fail); try go_wp2)
        go_roundg k1
        case measure => have := HK1.out; omega
        case rel => exact ⟨(wrap64 (x7_1 + ((rd_T63 l0_1 ((rd_T59 l1 x8_1).f1)).f2.f0))), (wrap64 (x8_1 + 1)), (by first | rfl | (simp; done) | (simp [*]; done)), (by first | rfl | (simp; done) | (simp [*]; done)), H', ⟨by have := HK1.out; omega⟩, ⟨bm BK452⟩, ⟨bw1 HB GE452⟩⟩
       ·rw [if_neg c9] at H
        exact absurd H (by simp)
      ·rw [if_neg c8] at H
       exact absurd H (by simp)
     ·rw [if_neg c7] at H
      have c7b0 : (((rd_T59 l1 x8_1).f2) == a2) = false := beq_eq_false_iff_ne.mpr c7
      have c7b1 : (((rd_T59 l1 x8_1).f2) != a2) = true := bne_iff_ne.mpr c7
      have H' := Aside0.mk H
      clear H
      have p453 : 0 ≤ (x8_1 : Int) := of_decide_eq_true (by first | (with_reducible assumption) | assumption)
      have q453 : x8_1 < (l1.length : Int) := of_decide_eq_true (by first | (with_reducible assumption) | assumption)
      obtain ⟨ad453, e453, hx453_0, hx453_1, hx453_2⟩ := at_T59 HR1.out x8_1 p453 q453
      cases e453
      replace hx453_0 := cB HB hx453_0
      replace hx453_1 := cB HB hx453_1
      replace hx453_2 := cB HB hx453_2
      replace p453 := eq_true p453
      replace q453 := eq_true q453
      go_wp2
      repeat (go_quiet (fail); try go_wp2)
      go_roundg k1
      case measure => have := HK1.out; omega
      case rel => exact ⟨(x7_1), (wrap64 (x8_1 + 1)), (by first | rfl | (simp; done) | (simp [*]; done)), (by first | rfl | (simp; done) | (simp [*]; done)), H', ⟨by have := HK1.out; omega⟩, ⟨bm BK452⟩, ⟨bw1 HB GE452⟩⟩
    ·rw [if_neg c6] at H
     exact absurd H (by simp)
   ·rw [if_neg c5] at H
    have c5b0 : decide (x8_1 < (l1.length : Int)) = false := decide_eq_false c5
    clear c5
    obtain rfl := Option.some.inj H
    go_wp2
    repeat (go_quiet (fail); try go_wp2)
    go_ret
    exact ⟨by first | rfl | (simp [errW_none, errW_some] <;> rfl) | (simp [*, errW_none, errW_some] <;> rfl), bw1 HB GE452⟩
end Go.Proofs.YtikfghnkbgdbgaaDoor.Q
end
section
namespace Go.Proofs.YtikfghnkbgdbgaaDoor.Q
open Go.RowKit Go.Proofs.YtikfghnkbgdbgaaDoorW.PrintWords Go.Proofs.YtikfghnkbgdbgaaDoorW.PrintLast Go.Proofs.YtikfghnkbgdbgaaDoorW.PrintMore
attribute [local go_sem] max2_int min2_int max_two min_two max_three min_three max_four min_four   -- for this text's walks alone
set_option linter.unusedVariables false
set_option linter.unusedSimpArgs false
def macadamlaw04_mended.l0 : Nat → List (S59) → List Int → Int → List (S66) → List (S63) → Int → Option (List Int)
 | 0, _, _, _, _, _, _ => none
 | k + 1, x1, x5, x6, x457000, x457001, x457002 => if x6 < (x457000.length : Int) then ((macadamlaw04_least.f k x457000 x457001 x457002 x1 x6).bind fun t460 => (if 0 ≤ x6 then (if t460 ≥ ((rd_T66 x457000 x6).f0.f1) then (if x5.length < 17592186044416 then (macadamlaw04_mended.l0 k x1 (x5 ++ [x6]) (wrap64 (x6 + 1)) x457000 x457001 x457002) else (none)) else (macadamlaw04_mended.l0 k x1 x5 (wrap64 (x6 + 1)) x457000 x457001 x457002)) else (none))) else (some x5)
def macadamlaw04_mended.f (k : Nat) (l0_0 : List (S66)) (l0_1 : List (S63)) (a0_2 : Int) (l1 : List (S59)) : Option (List Int) := macadamlaw04_mended.l0 k l1 (([] : List Int)) 0 l0_0 l0_1 a0_2
def macadamlaw04_mended.T5 : Bool × List (List Nat × List Nat) := (true, [([], []), ([], []), ([], []), ([0, 1, 2], [0, 1, 2]), ([], []), ([4], [4]), ([], []), ([5, 6], [5, 6]), ([7], [7]), ([8], [8]), ([9], [9]), ([3, 10], [3, 10])])
def macadamlaw04_mended.B5 : List Nat := [0, 0, 0, 7, 0, 16, 0, 112, 240, 496, 1008, 2047]
theorem macadamlaw04_mended.tab5 : rtab .any (opsOf Tryd.f48 5) = macadamlaw04_mended.T5 := by kernel_rfl
theorem macadamlaw04_mended.bits5 : waitsOk macadamlaw04_mended.T5.2 macadamlaw04_mended.B5 = true := by kernel_rfl
set_option maxHeartbeats 8000000 in
set_option maxRecDepth 100000 in
theorem macadamlaw04_mended.calls (k : Nat) (A0_0 : Option Addr) (c0_0 : Nat) (l0_0 : List (S66)) (A0_1 : Option Addr) (c0_1 : Nat) (l0_1 : List (S63)) (a0_2 : Int) (A1 : Option Addr) (c1 : Nat) (l1 : List (S59)) (r : List Int) (w : World) (hr0_0 : Kd.C k66 w A0_0 l0_0.length l0_0) (hc0_0 : l0_0.length ≤ c0_0) (hr0_1 : Kd.C k63 w A0_1 l0_1.length l0_1) (hc0_1 : l0_1.length ≤ c0_1) (hr1 : Kd.C k59 w A1 l1.length l1) (hc1 : l1.length ≤ c1) (h : macadamlaw04_mended.f k l0_0 l0_1 a0_2 l1 = some r) :
  Calls Tryd.prog 48 #[.agg #[.slice A0_0 l0_0.length c0_0, .slice A0_1 l0_1.length c0_1, .int .i64 a0_2], .slice A1 l1.length c1] w fun e w' => ∃ v0_ : Value, e = .returned (v0_) ∧ Kd.R (Kd.int .i64) 3 w' w.heap.size (fun _ => True) v0_ r ∧ Below w.heap.size w w' := by
 have hu25 := Tryd.underlying25
 have HR0_0 := Aside0.mk hr0_0
 have HC0_0 := Aside0.mk hc0_0
 clear hr0_0 hc0_0
 have HR0_1 := Aside0.mk hr0_1
 have HC0_1 := Aside0.mk hc0_1
 clear hr0_1 hc0_1
 have HR1 := Aside0.mk hr1
 have HC1 := Aside0.mk hc1
 clear hr1 hc1
 have HB := Aside0.mk (Below.refl w.heap.size w)
 have H : (macadamlaw04_mended.l0 k l1 (([] : List Int)) 0 l0_0 l0_1 a0_2) = some r := h
 clear h
 obtain ⟨y457, hy457⟩ : ∃ y_ : List Int, y_ = (([] : List Int)) := ⟨_, rfl⟩
 replace H : (macadamlaw04_mended.l0 k l1 y457 0 l0_0 l0_1 a0_2) = some r := by first | (rw [hy457]; with_reducible exact H) | (have H2_ := (Option.bind_some _ _).symm.trans H; rw [hy457]; with_reducible exact H2_) | (have H2_ := (Option.bind_some _ _).symm.trans H; with_reducible exact H2_) | with_reducible exact H | (rw [hy457]; exact H) | exact H
 have Ny457 := Aside0.mk hy457
 clear hy457
 have H' := Aside0.mk H
 clear H
 go_enter Tryd.func48, Tryd.ntmps48
 go_wp2_with (first | ((with_reducible refine gate_dst (N := 2) rfl ?_); refine bx 2 #[.slice A0_0 l0_0.length c0_0, .slice A0_1 l0_1.length c0_1, .int .i64 a0_2] 25 ?_; intro gb456 hg w3 hbox hb; have n0_ := Aside0.mk (below_step (bw HB) hb); have n1_ := Aside0.mk (hbox); have n2_ := Aside0.mk (bz (bw HB) hg); have n3_ := Aside0.mk (bz (bw HB) hg); clear HB; have HB := n0_; have BK456 := n1_; have GW456 := n2_; have GE456 := n3_; clear n0_ n1_ n2_ n3_; clear hb hbox hg) | ((with_reducible refine gate_dst (N := 7) rfl ?_); refine Kd.R_lit (Kd.int .i64) _ 3 ?hg (N := 7) ?hd (xs := ([] : List Int)) (inner := []) (ok := fun _ => True) (okp := fun _ => True) ?hr ?hp (fun _ hk => hk) trivial (Below.refl _ _) (Nat.le_refl _) (by simp) ?_; (case hd => rfl); (case hg => rfl); (case hr => first | (go_simp; done) | (go_simp; rfl)); (case hp => exact (Reps.none _ _)); intro v458 w4 ho5 hb hg_ hnew_; clear hg_ hnew_; (first | rw [← Ny457.out] at ho5 | (simp only [Int.reduceToNat] at ho5; rw [← Ny457.out] at ho5)); have n0_ := Aside0.mk (Kd.R_lower ho5 (below_size (bw1 HB GE456))); have n1_ := Aside0.mk (blk_below (bm BK456) hb); have n2_ := Aside0.mk (below_step (bw1 HB GE456) hb); clear BK456; clear HB; have HO459 := n0_; have BK456 := n1_; have HB := n2_; clear n0_ n1_ n2_; clear hb ho5))
 go_loopg [5, 6] k (fun kq v5 v6 w' => ∃ (x5_1 : List Int) (x6_1 : Int), v6 = .int .i64 x6_1 ∧ Aside0 (macadamlaw04_mended.l0 kq l1 x5_1 x6_1 l0_0 l0_1 a0_2 = some r) ∧ Aside0 (kq ≤ k) ∧ Aside0 (Kd.R (Kd.int .i64) 3 w' w.heap.size (fun _ => True) v5 x5_1) ∧ Aside0 (w'.heap[gb456]? = some (.cells #[(.slice A0_0 l0_0.length c0_0), (.slice A0_1 l0_1.length c0_1), .int .i64 a0_2] 25 (0, 0))) ∧ Aside0 (Below w.heap.size w w'))
 case atStart => exact ⟨(y457), (0), (by first | rfl | (simp; done) | (simp [*]; done)), H', ⟨Nat.le_refl _⟩, ⟨by (with_reducible repeat (first | apply Kd.R_alloc | apply Kd.R_drewN | apply Kd.R_drew)); exact HO459.out⟩, ⟨bm BK456⟩, ⟨bw1 HB GE456⟩⟩
 case round =>
  clear H'
  try clear c1
  try clear p2
  try clear c4
  obtain ⟨x5_1, x6_1, rfl, HA, HK1, HO_5, BK456, HB⟩ := hrel
  cases gk with
  | zero => exact absurd HA.out (by simp [macadamlaw04_mended.l0])
  | succ k1 =>
   have H := HA.out
   clear HA
   simp only [macadamlaw04_mended.l0] at H
   by_cases c6 : x6_1 < (l0_0.length : Int)
   ·rw [if_pos c6] at H
    have c6b0 : decide (x6_1 < (l0_0.length : Int)) = true := decide_eq_true c6
    clear c6
    replace H := Option.bind_eq_some_iff.mp H
    obtain ⟨t460, A70, H⟩ := H
    replace H : (if 0 ≤ x6_1 then (if t460 ≥ ((rd_T66 l0_0 x6_1).f0.f1) then (if x5_1.length < 17592186044416 then (macadamlaw04_mended.l0 k1 l1 (x5_1 ++ [x6_1]) (wrap64 (x6_1 + 1)) l0_0 l0_1 a0_2) else (none)) else (macadamlaw04_mended.l0 k1 l1 x5_1 (wrap64 (x6_1 + 1)) l0_0 l0_1 a0_2)) else (none)) = some r := H
    have A7 := Aside0.mk A70
    clear A70
    by_cases c8 : 0 ≤ x6_1
    ·rw [if_pos c8] at H
     have c8b0 : decide (0 ≤ x6_1) = true := decide_eq_true c8
     clear c8
     by_cases c9 : t460 ≥ ((rd_T66 l0_0 x6_1).f0.f1)
     ·rw [if_pos c9] at H
      have c9b0 : decide (((rd_T66 l0_0 x6_1).f0.f1) ≤ t460) = true := decide_eq_true c9
      clear c9
      by_cases c10 : x5_1.length < 17592186044416
      ·rw [if_pos c10] at H
       have LMc10 := Aside0.mk c10
       clear c10
       obtain ⟨y462, hy462⟩ : ∃ y_ : List Int, y_ = (x5_1 ++ [x6_1]) := ⟨_, rfl⟩
       replace H : (macadamlaw04_mended.l0 k1 l1 y462 (wrap64 (x6_1 + 1)) l0_0 l0_1 a0_2) = some r := by first | (rw [hy462]; with_reducible exact H) | (have H2_ := (Option.bind_some _ _).symm.trans H; rw [hy462]; with_reducible exact H2_) | (have H2_ := (Option.bind_some _ _).symm.trans H; with_reducible exact H2_) | with_reducible exact H | (rw [hy462]; exact H) | exact H
       have Ny462 := Aside0.mk hy462
       clear hy462
       have H' := Aside0.mk H
       clear H
       obtain ⟨hcz11_0, hcz11_1, hcz11_2, hfz11_0, hfz11_1, hfz11_2⟩ := b3 BK456
       try go_wp2
       have n0_ := Aside0.mk (Kd.R_drew HO_5.out)
       have n1_ := Aside0.mk (blk_drew BK456.out)
       have n2_ := Aside0.mk (below_drew1 HB.out)
       clear HO_5
       clear BK456
       clear HB
       have HO_5 := n0_
       have BK456 := n1_
       have HB := n2_
       clear n0_ n1_ n2_
       have p461 : 0 ≤ (x6_1 : Int) := of_decide_eq_true (by first | (with_reducible assumption) | assumption)
       have q461 : x6_1 < (l0_0.length : Int) := of_decide_eq_true (by first | (with_reducible assumption) | assumption)
       obtain ⟨ad461, e461, hx461_0, hx461_1, hx461_2⟩ := at_T66 HR0_0.out x6_1 p461 q461
       have hw461_2 := hx461_2
       have hw461_1 := hx461_1
       have hw461_0 := hx461_0
       cases e461
       replace hx461_0 := cB HB hx461_0
       replace hx461_1 := cB HB hx461_1
       replace hx461_2 := cB HB hx461_2
       replace p461 := eq_true p461
       replace q461 := eq_true q461
       refine start_ (n := 12) (S := fun w' => w'.cell? ⟨gb456, 0, none⟩ = some (.slice (some ad461) l0_0.length c0_0) ∧ w'.cell? ⟨gb456, 1, none⟩ = some (.slice A0_1 l0_1.length c0_1) ∧ w'.cell? ⟨gb456, 2, none⟩ = some (.int .i64 a0_2) ∧ w'.cell? (ad461.add ((x6_1).toNat * 3)) = some (.int .i64 ((rd_T66 l0_0 x6_1).f0.f0)) ∧ w'.cell? ⟨(ad461.add ((x6_1).toNat * 3)).block, (ad461.add ((x6_1).toNat * 3)).off + 1, none⟩ = some (.int .i64 ((rd_T66 l0_0 x6_1).f0.f1)) ∧ w'.cell? ⟨(ad461.add ((x6_1).toNat * 3)).block, (ad461.add ((x6_1).toNat * 3)).off + 2, none⟩ = some (.int .i64 ((rd_T66 l0_0 x6_1).f1))) (ds := []) (bs 12 0) (by kernel_rfl) rfl rfl ⟨(blk_cell BK456.out 0).trans rfl, (blk_cell BK456.out 1).trans rfl, (blk_cell BK456.out 2).trans rfl, (cB HB hw461_0 :), (cB HB hw461_1 :), (cB HB hw461_2 :)⟩ (fun hHeld => ?_); refine with_tabW macadamlaw04_mended.tab5 macadamlaw04_mended.bits5 (fun HT_ HW_ => ?_)
       generalize wr.drew = w12 at HO_5 BK456 HB hx461_0 hx461_1 hx461_2 hHeld ⊢
       refine pu HT_ 1 (some 16) (bs 12 2) ?_
       refine pu HT_ 2 (some 17) (bs 12 6) ?_
       refine pu HT_ 4 (some 19) (bs 12 22) ?_
       refine pu HT_ 6 (some 21) (bs 12 86) ?_
       refine tk6 HT_ HW_ hHeld 0 (some 15) (bs 12 87) ?_
       refine tk6 HT_ HW_ hHeld 5 (some 20) (bs 12 119) ?_
       refine pu HT_ 7 (some 22) (bs 12 247) ?_
       refine pu HT_ 8 (some 23) (bs 12 503) ?_
       refine pu HT_ 9 (some 24) (bs 12 1015) ?_
       refine tk6 HT_ HW_ hHeld 10 (some 25) (bs 12 2039) ?_
       refine on HT_ 3 (some 18) (bs 12 2047) (fun K hK => ?_)
       refine goes_ Tryd.func87 (by kernel_rfl) rfl #[.agg #[.slice (some ad461) l0_0.length c0_0, .slice A0_1 l0_1.length c0_1, .int .i64 a0_2], .slice A1 l1.length c1, .int .i64 x6_1] (by rfl) rfl rfl (by (try simp only [List.map_toArray, List.map_cons, List.map_nil]); first | done | rfl | (simp only [List.length_drop, List.length_take]; rfl)) ?_
       with_reducible refine (macadamlaw04_least.calls k1 _ _ l0_0 _ _ l0_1 a0_2 _ _ l1 x6_1 t460 _ ?side1 ?side2 ?side3 ?side4 ?side5 ?side6 A7.out).mono ?_
       (case side1 => repeat (first | exact (Kd.C_below HR0_0.out HB.out) | (with_reducible refine Kd.C_alloc ?_ _) | (with_reducible refine Kd.C_drewN ?_ _) | (with_reducible refine Kd.C_drew ?_)))
       (case side2 => exact HC0_0.out)
       (case side3 => repeat (first | exact (Kd.C_below HR0_1.out HB.out) | (with_reducible refine Kd.C_alloc ?_ _) | (with_reducible refine Kd.C_drewN ?_ _) | (with_reducible refine Kd.C_drew ?_)))
       (case side4 => exact HC0_1.out)
       (case side5 => repeat (first | exact (Kd.C_below HR1.out HB.out) | (with_reducible refine Kd.C_alloc ?_ _) | (with_reducible refine Kd.C_drewN ?_ _) | (with_reducible refine Kd.C_drew ?_)))
       (case side6 => exact HC1.out)
       rintro e w13 ⟨rfl, hb⟩
       refine ⟨_, rfl, ?_⟩
       have n0_ := Aside0.mk (Kd.R_below (by (with_reducible repeat (first | apply Kd.R_alloc | apply Kd.R_drewN | apply Kd.R_drew)); exact HO_5.out) hb)
       have n1_ := Aside0.mk (blk_below (bm BK456) hb)
       have n2_ := Aside0.mk (below_step (bw1 HB GE456) hb)
       clear HO_5
       clear BK456
       clear HB
       have HO_5 := n0_
       have BK456 := n1_
       have HB := n2_
       clear n0_ n1_ n2_
       (try clear hb)
       (try clear hb2)
       (try clear hk)
       (try clear hi)
       refine hK.out _ _ ⟨(blk_cell BK456.out 0).trans rfl, (blk_cell BK456.out 1).trans rfl, (blk_cell BK456.out 2).trans rfl, (cB HB hw461_0 :), (cB HB hw461_1 :), (cB HB hw461_2 :)⟩ (fun hHeld => ?_)
       clear hK K
       refine nm 18 ?_
       refine pu HT_ 11 (some 26) (bs 12 4095) ?_
       refine done_ (done_of HT_.out (by kernel_rfl)) ?_
       try go_wp2_with (first | ((with_reducible refine gate_builtin (b := .append) (xs := #[.tmp 27, .tmp 29]) rfl ?_); at_builtin; refine Kd.R_append (Kd.int .i64) (w0 := w) w.heap.size rfl (.tmp 27) (.tmp 29) 28 3 (.int .i64 0) 8 rfl Tryd.underlying28 info3 rfl (by decide) (by omega) u5 x5_1 x6_1 [.int .i64 x6_1] (fun _ => True) (fun _ => False) rfl rfl ?aP (fun _ hk => hk.elim) ?aF ?aO ?aB ?aS ?aL ?_; (case aP => exact rfl); (case aB => exact (bw1 HB GE456)); (case aF => exact (fun _ _ => trivial)); (case aO => exact (by (with_reducible repeat (first | apply Kd.R_alloc | apply Kd.R_drewN | apply Kd.R_drew)); exact HO_5.out)); (case aS => exact (below_size (bw1 HB GE456))); (case aL => have := LMc10.out; omega); intro v463 w14 ho hb hg hat; rw [← Ny462.out] at ho; have n0_ := Aside0.mk (blk_grown (g := gb456) (o := .cells #[.slice (some ad461) l0_0.length c0_0, .slice A0_1 l0_1.length c0_1, .int .i64 a0_2] 25 (0, 0)) (bm BK456) hg (Kd.R_ne HO_5.out BK456.out (by decide))); have n1_ := Aside0.mk (hb); have n2_ := Aside0.mk (ho); clear BK456; clear HB; clear HO_5; have BK456 := n0_; have HB := n1_; have HO464 := n2_; clear n0_ n1_ n2_; clear ho hb hg hat))
       go_roundg k1
       case measure => have := HK1.out; omega
       case rel => exact ⟨(y462), (wrap64 (x6_1 + 1)), (by first | rfl | (simp; done) | (simp [*]; done)), H', ⟨by have := HK1.out; omega⟩, ⟨by (with_reducible repeat (first | apply Kd.R_alloc | apply Kd.R_drewN | apply Kd.R_drew)); exact HO464.out⟩, ⟨bm BK456⟩, ⟨bw1 HB GE456⟩⟩
      ·rw [if_neg c10] at H
       exact absurd H (by simp)
     ·rw [if_neg c9] at H
      have c9b0 : decide (((rd_T66 l0_0 x6_1).f0.f1) ≤ t460) = false := decide_eq_false c9
      clear c9
      have H' := Aside0.mk H
      clear H
      obtain ⟨hcz15_0, hcz15_1, hcz15_2, hfz15_0, hfz15_1, hfz15_2⟩ := b3 BK456
      try go_wp2
      have n0_ := Aside0.mk (Kd.R_drew HO_5.out)
      have n1_ := Aside0.mk (blk_drew BK456.out)
      have n2_ := Aside0.mk (below_drew1 HB.out)
      clear HO_5
      clear BK456
      clear HB
      have HO_5 := n0_
      have BK456 := n1_
      have HB := n2_
      clear n0_ n1_ n2_
      have p461 : 0 ≤ (x6_1 : Int) := of_decide_eq_true (by first | (with_reducible assumption) | assumption)
      have q461 : x6_1 < (l0_0.length : Int) := of_decide_eq_true (by first | (with_reducible assumption) | assumption)
      obtain ⟨ad461, e461, hx461_0, hx461_1, hx461_2⟩ := at_T66 HR0_0.out x6_1 p461 q461
      have hw461_2 := hx461_2
      have hw461_1 := hx461_1
      have hw461_0 := hx461_0
      cases e461
      replace hx461_0 := cB HB hx461_0
      replace hx461_1 := cB HB hx461_1
      replace hx461_2 := cB HB hx461_2
      replace p461 := eq_true p461
      replace q461 := eq_true q461
      refine start_ (n := 12) (S := fun w' => w'.cell? ⟨gb456, 0, none⟩ = some (.slice (some ad461) l0_0.length c0_0) ∧ w'.cell? ⟨gb456, 1, none⟩ = some (.slice A0_1 l0_1.length c0_1) ∧ w'.cell? ⟨gb456, 2, none⟩ = some (.int .i64 a0_2) ∧ w'.cell? (ad461.add ((x6_1).toNat * 3)) = some (.int .i64 ((rd_T66 l0_0 x6_1).f0.f0)) ∧ w'.cell? ⟨(ad461.add ((x6_1).toNat * 3)).block, (ad461.add ((x6_1).toNat * 3)).off + 1, none⟩ = some (.int .i64 ((rd_T66 l0_0 x6_1).f0.f1)) ∧ w'.cell? ⟨(ad461.add ((x6_1).toNat * 3)).block, (ad461.add ((x6_1).toNat * 3)).off + 2, none⟩ = some (.int .i64 ((rd_T66 l0_0 x6_1).f1))) (ds := []) (bs 12 0) (by kernel_rfl) rfl rfl ⟨(blk_cell BK456.out 0).trans rfl, (blk_cell BK456.out 1).trans rfl, (blk_cell BK456.out 2).trans rfl, (cB HB hw461_0 :), (cB HB hw461_1 :), (cB HB hw461_2 :)⟩ (fun hHeld => ?_); refine with_tabW macadamlaw04_mended.tab5 macadamlaw04_mended.bits5 (fun HT_ HW_ => ?_)
      generalize wr.drew = w16 at HO_5 BK456 HB hx461_0 hx461_1 hx461_2 hHeld ⊢
      refine pu HT_ 1 (some 16) (bs 12 2) ?_
      refine pu HT_ 2 (some 17) (bs 12 6) ?_
      refine pu HT_ 4 (some 19) (bs 12 22) ?_
      refine pu HT_ 6 (some 21) (bs 12 86) ?_
      refine tk6 HT_ HW_ hHeld 0 (some 15) (bs 12 87) ?_
      refine tk6 HT_ HW_ hHeld 5 (some 20) (bs 12 119) ?_
      refine pu HT_ 7 (some 22) (bs 12 247) ?_
      refine pu HT_ 8 (some 23) (bs 12 503) ?_
      refine pu HT_ 9 (some 24) (bs 12 1015) ?_
      refine tk6 HT_ HW_ hHeld 10 (some 25) (bs 12 2039) ?_
      refine on HT_ 3 (some 18) (bs 12 2047) (fun K hK => ?_)
      refine goes_ Tryd.func87 (by kernel_rfl) rfl #[.agg #[.slice (some ad461) l0_0.length c0_0, .slice A0_1 l0_1.length c0_1, .int .i64 a0_2], .slice A1 l1.length c1, .int .i64 x6_1] (by rfl) rfl rfl (by (try simp only [List.map_toArray, List.map_cons, List.map_nil]); first | done | rfl | (simp only [List.length_drop, List.length_take]; rfl)) ?_
      with_reducible refine (macadamlaw04_least.calls k1 _ _ l0_0 _ _ l0_1 a0_2 _ _ l1 x6_1 t460 _ ?side1 ?side2 ?side3 ?side4 ?side5 ?side6 A7.out).mono ?_
      (case side1 => repeat (first | exact (Kd.C_below HR0_0.out HB.out) | (with_reducible refine Kd.C_alloc ?_ _) | (with_reducible refine Kd.C_drewN ?_ _) | (with_reducible refine Kd.C_drew ?_)))
      (case side2 => exact HC0_0.out)
      (case side3 => repeat (first | exact (Kd.C_below HR0_1.out HB.out) | (with_reducible refine Kd.C_alloc ?_ _) | (with_reducible refine Kd.C_drewN ?_ _) | (with_reducible refine Kd.C_drew ?_)))
      (case side4 => exact HC0_1.out)
      (case side5 => repeat (first | exact (Kd.C_below HR1.out HB.out) | (with_reducible refine Kd.C_alloc ?_ _) | (with_reducible refine Kd.C_drewN ?_ _) | (with_reducible refine Kd.C_drew ?_)))
      (case side6 => exact HC1.out)
      rintro e w17 ⟨rfl, hb⟩
      refine ⟨_, rfl, ?_⟩
      have n0_ := Aside0.mk (Kd.R_below (by (with_reducible repeat (first | apply Kd.R_alloc | apply Kd.R_drewN | apply Kd.R_drew)); exact HO_5.out) hb)
      have n1_ := Aside0.mk (blk_below (bm BK456) hb)
      have n2_ := Aside0.mk (below_step (bw1 HB GE456) hb)
      clear HO_5
      clear BK456
      clear HB
      have HO_5 := n0_
      have BK456 := n1_
      have HB := n2_
      clear n0_ n1_ n2_
      (try clear hb)
      (try clear hb2)
      (try clear hk)
      (try clear hi)
      refine hK.out _ _ ⟨(blk_cell BK456.out 0).trans rfl, (blk_cell BK456.out 1).trans rfl, (blk_cell BK456.out 2).trans rfl, (cB HB hw461_0 :), (cB HB hw461_1 :), (cB HB hw461_2 :)⟩ (fun hHeld => ?_)
      clear hK K
      refine nm 18 ?_
      refine pu HT_ 11 (some 26) (bs 12 4095) ?_
      refine done_ (done_of HT_.out (by kernel_rfl)) ?_
      try go_wp2
      go_roundg k1
      case measure => have := HK1.out; omega
      case rel => exact ⟨(x5_1), (wrap64 (x6_1 + 1)), (by first | rfl | (simp; done) | (simp [*]; done)), H', ⟨by have := HK1.out; omega⟩, ⟨by (with_reducible repeat (first | apply Kd.R_alloc | apply Kd.R_drewN | apply Kd.R_drew)); exact HO_5.out⟩, ⟨bm BK456⟩, ⟨bw1 HB GE456⟩⟩
    ·rw [if_neg c8] at H
     exact absurd H (by simp)
   ·rw [if_neg c6] at H
    have c6b0 : decide (x6_1 < (l0_0.length : Int)) = false := decide_eq_false c6
    clear c6
    obtain rfl := Option.some.inj H
    obtain ⟨hcz18_0, hcz18_1, hcz18_2, hfz18_0, hfz18_1, hfz18_2⟩ := b3 BK456
    go_wp2
    go_ret
    exact ⟨_, by first | rfl | (simp [errW_none, errW_some] <;> rfl) | (simp [*, errW_none, errW_some] <;> rfl), by (with_reducible repeat (first | apply Kd.R_alloc | apply Kd.R_drewN | apply Kd.R_drew)); exact HO_5.out, bw1 HB GE456⟩
end Go.Proofs.YtikfghnkbgdbgaaDoor.Q
end
section
namespace Go.Proofs.YtikfghnkbgdbgaaDoor.Q
open Go.RowKit Go.Proofs.YtikfghnkbgdbgaaDoorW.PrintWords Go.Proofs.YtikfghnkbgdbgaaDoorW.PrintLast Go.Proofs.YtikfghnkbgdbgaaDoorW.PrintMore
attribute [local go_sem] max2_int min2_int max_two min_two max_three min_three max_four min_four   -- for this text's walks alone
set_option linter.unusedVariables false
set_option linter.unusedSimpArgs false
def macadamlaw04_last.f (l0 : List (S59)) : Option (Int) := if (l0.length : Int) = 0 then (some (-1)) else (if 0 ≤ (wrap64 ((l0.length : Int) - 1)) then (if (wrap64 ((l0.length : Int) - 1)) < (l0.length : Int) then (some ((rd_T59 l0 (wrap64 ((l0.length : Int) - 1))).f0)) else (none)) else (none))
set_option maxHeartbeats 8000000 in
set_option maxRecDepth 100000 in
theorem macadamlaw04_last.calls (A0 : Option Addr) (c0 : Nat) (l0 : List (S59)) (r : Int) (w : World) (hr0 : Kd.C k59 w A0 l0.length l0) (hc0 : l0.length ≤ c0) (h : macadamlaw04_last.f l0 = some r) :
  Calls Tryd.prog 52 #[.slice A0 l0.length c0] w fun e w' => e = .returned (.int .i64 r) ∧ Drawn0 w w' := by
 have HR0 := Aside0.mk hr0
 have HC0 := Aside0.mk hc0
 clear hr0 hc0
 have H : (if (l0.length : Int) = 0 then (some (-1)) else (if 0 ≤ (wrap64 ((l0.length : Int) - 1)) then (if (wrap64 ((l0.length : Int) - 1)) < (l0.length : Int) then (some ((rd_T59 l0 (wrap64 ((l0.length : Int) - 1))).f0)) else (none)) else (none))) = some r := h
 clear h
 by_cases c2 : (l0.length : Int) = 0
 ·rw [if_pos c2] at H
  have c2b0 : ((l0.length : Int) == 0) = true := beq_iff_eq.mpr c2
  have c2b1 : ((l0.length : Int) != 0) = false := bne_eq_false_iff_eq.mpr c2
  clear c2
  obtain rfl := Option.some.inj H
  go_enter Tryd.func52, Tryd.ntmps52
  go_wp2
  go_ret
  exact ⟨by first | rfl | (simp; done) | (simp [*]; done), by repeat (first | exact Drawn0.refl _ | apply Drawn0.step)⟩
 ·rw [if_neg c2] at H
  have c2b0 : ((l0.length : Int) == 0) = false := beq_eq_false_iff_ne.mpr c2
  have c2b1 : ((l0.length : Int) != 0) = true := bne_iff_ne.mpr c2
  have c2b2 : ¬ (l0 = []) := fun h_ => c2 (by rw [h_]; rfl)
  obtain ⟨ji3, hji3⟩ : ∃ j_ : Int, (wrap64 ((l0.length : Int) - 1)) = j_ := ⟨_, rfl⟩
  replace H : (if 0 ≤ (ji3) then (if (ji3) < (l0.length : Int) then (some ((rd_T59 l0 (ji3)).f0)) else (none)) else (none)) = some r := by first | (rw [hji3] at H; exact H) | (simp only [hji3] at H ⊢; exact H)
  have hji3w : (IntKind.i64.wrap ((l0.length : Int) - 1)) = ji3 := (i64_w _).trans hji3
  by_cases c4 : 0 ≤ (ji3)
  ·rw [if_pos c4] at H
   have c4b0 : decide (0 ≤ (ji3)) = true := decide_eq_true c4
   clear c4
   by_cases c5 : (ji3) < (l0.length : Int)
   ·rw [if_pos c5] at H
    have c5b0 : decide ((ji3) < (l0.length : Int)) = true := decide_eq_true c5
    clear c5
    obtain rfl := Option.some.inj H
    have p510 : 0 ≤ ((ji3) : Int) := of_decide_eq_true (by first | (with_reducible assumption) | assumption)
    have q510 : (ji3) < (l0.length : Int) := of_decide_eq_true (by first | (with_reducible assumption) | assumption)
    obtain ⟨ad510, e510, hx510_0, hx510_1, hx510_2⟩ := at_T59 HR0.out (ji3) p510 q510
    cases e510
    replace p510 := eq_true p510
    replace q510 := eq_true q510
    go_enter Tryd.func52, Tryd.ntmps52
    go_wp2
    go_ret
    exact ⟨by first | rfl | (simp; done) | (simp only [← hji3] <;> (first | rfl | simp)) | (simp [*]; done), by repeat (first | exact Drawn0.refl _ | apply Drawn0.step)⟩
   ·rw [if_neg c5] at H
    exact absurd H (by simp)
  ·rw [if_neg c4] at H
   exact absurd H (by simp)
end Go.Proofs.YtikfghnkbgdbgaaDoor.Q
end
section
namespace Go.Proofs.YtikfghnkbgdbgaaDoor.Q
set_option linter.unusedSimpArgs false
set_option linter.unusedVariables false
open Go.RowKit Go.Proofs.YtikfghnkbgdbgaaDoorW.PrintWords Go.Proofs.YtikfghnkbgdbgaaDoorW.PrintLast Go.Proofs.YtikfghnkbgdbgaaDoorW.PrintMore
theorem rise_len : ∀ {l : List Int} {a b : Int}, l.Pairwise (· < ·) → (∀ x ∈ l, a ≤ x ∧ x < b) → a ≤ b → (l.length : Int) ≤ b - a := by
  intro l
  induction l with
  | nil => intro a b _ _ h; simp; omega
  | cons x r ih =>
    intro a b hp h hab
    rw [List.pairwise_cons] at hp
    have hx := h x (by simp)
    have := ih (a := x + 1) (b := b) hp.2 (fun y hy => ⟨by have := hp.1 y hy; omega, (h y (by simp [hy])).2⟩) (by omega)
    rw [List.length_cons]
    omega
theorem plan_len {ms : List M} {gs : List G} {n : Int} (ok : okB ms gs n = true) {p : List Wk} (hp : planB ms gs n p = true) : p.length ≤ 8 := by
  obtain ⟨_, ⟨hg1, hg2⟩, hn1, hn2⟩ := okB_sizes ok
  obtain ⟨h1, h2⟩ := (planB_iff _ _ _ _).1 hp
  have hb : ∀ x ∈ p.map (fun x => x.f0 * 2 + x.f1), 0 ≤ x ∧ x < 8 := fun y hy => by
    obtain ⟨x, hx, rfl⟩ := List.mem_map.1 hy
    have := canB_iff.1 (h1 x hx)
    omega
  have hpw : (p.map (fun x => x.f0 * 2 + x.f1)).Pairwise (· < ·) := by
    rw [List.pairwise_map]
    refine List.Pairwise.imp_of_mem ?_ h2
    intro y x hy hx h
    have cy := canB_iff.1 (h1 y hy)
    have cx := canB_iff.1 (h1 x hx)
    have := behindB_iff.1 h
    omega
  have := rise_len hpw hb (by omega)
  rw [List.length_map] at this
  omega
theorem pick_f (l : List Int) (i : Int) (hl : l.length ≤ 9223372036854775807) : ∃ v, macadamref00_Pick.f l i = some v := by
  unfold macadamref00_Pick.f
  by_cases h : (l.length : Int) = 0
  · rw [if_pos h]; exact ⟨_, rfl⟩
  · rw [if_neg h]
    obtain ⟨r, hr, h0, h1⟩ := wrap_f i (show (1 : Int) ≤ (l.length : Int) by omega) (by omega)
    rw [hr]
    simp only [Option.bind_some]
    rw [if_pos h0, if_pos h1]
    exact ⟨_, rfl⟩
theorem work_f (a b c : Int) : macadamlaw04_work.f a b c = some (a, b, c) := rfl
theorem drawn_l1 {ms : List M} {gs : List G} {n : Int} (ok : okB ms gs n = true) {bits : List Int} (hb : bits.length ≤ 9223372036854775807) {t : Nat} (ht : (t : Int) < n)
    (H : ∀ out, planB ms gs n out = true → ∃ q, planB ms gs n q = true ∧ Ev (fun k => macadamlaw04_drawn.l0 k bits out ((t + 1 : Nat) : Int) ms gs n) q) (d : Nat) : ∀ (g : Nat) (out : List Wk), gs.length - g = d → g ≤ gs.length → planB ms gs n out = true →
    ∃ q, planB ms gs n q = true ∧ Ev (fun k => macadamlaw04_drawn.l1 k bits out t g ms gs n) q := by
  obtain ⟨⟨hm1, hm2⟩, ⟨hg1, hg2⟩, hn1, hn2⟩ := okB_sizes ok
  induction d with
  | zero =>
    intro g out hd hg hp
    obtain ⟨q, hq, he⟩ := H out hp
    exact ⟨q, hq, Ev.step (f := fun k => macadamlaw04_drawn.l0 k bits out ((t + 1 : Nat) : Int) ms gs n) (fun k => by simp only [macadamlaw04_drawn.l1]; rw [if_neg (by omega), show wrap64 ((t : Int) + 1) = ((t + 1 : Nat) : Int) by unfold wrap64; omega]) he⟩
  | succ d ih =>
    intro g out hd hg hp
    have hw : wrap64 ((g : Int) + 1) = ((g + 1 : Nat) : Int) := by unfold wrap64; omega
    obtain ⟨v, hv⟩ := pick_f bits (wrap64 (wrap64 ((t : Int) * (gs.length : Int)) + g)) hb
    have hwl : wrap64 ((ms.length : Int) + 1) = (ms.length : Int) + 1 := by unfold wrap64; omega
    obtain ⟨m, hmv, m0, m1⟩ := wrap_f (wrap64 (v + (t : Int))) (show (1 : Int) ≤ (ms.length : Int) + 1 by omega) (by omega)
    by_cases hm : m = (ms.length : Int)
    · obtain ⟨q, hq, he⟩ := ih (g + 1) out (by omega) (by omega) hp
      refine ⟨q, hq, Ev.step (f := fun k => macadamlaw04_drawn.l1 k bits out t ((g + 1 : Nat) : Int) ms gs n) (fun k => ?_) he⟩
      simp only [macadamlaw04_drawn.l1]
      rw [if_pos (by omega), hv, hwl]
      simp only [Option.bind_some]
      rw [hmv]
      simp only [Option.bind_some]
      rw [if_pos hm, hw]
    · have hl := plan_len ok hp
      have hlen : (out ++ [(⟨(t : Int), (g : Int), m⟩ : Wk)]).length * 24 ≤ 140737488351232 := by rw [List.length_append, List.length_singleton]; omega
      have hlaw := lawful_ev ok hlen
      have hr : ∀ k, macadamlaw04_drawn.l1 (k + 1) bits out t g ms gs n = (macadamlaw04_lawful.f k ms gs n (out ++ [(⟨(t : Int), (g : Int), m⟩ : Wk)])).bind fun b => if b = true then macadamlaw04_drawn.l1 k bits (out ++ [(⟨(t : Int), (g : Int), m⟩ : Wk)]) t ((g + 1 : Nat) : Int) ms gs n else macadamlaw04_drawn.l1 k bits out t ((g + 1 : Nat) : Int) ms gs n := fun k => by
        simp only [macadamlaw04_drawn.l1]
        rw [if_pos (by omega), hv, hwl]
        simp only [Option.bind_some]
        rw [hmv]
        simp only [Option.bind_some]
        rw [if_neg hm, if_pos (by simp; omega), work_f]
        simp only [Option.bind_some, List.nil_append]
        rw [if_pos (by omega), hw]
      cases hb2 : planB ms gs n (out ++ [(⟨(t : Int), (g : Int), m⟩ : Wk)]) with
      | true =>
        obtain ⟨q, hq, he⟩ := ih (g + 1) _ (by omega) (by omega) hb2
        rw [hb2] at hlaw
        exact ⟨q, hq, Ev.step hr (Ev.bind hlaw (Ev.pos rfl he))⟩
      | false =>
        obtain ⟨q, hq, he⟩ := ih (g + 1) out (by omega) (by omega) hp
        rw [hb2] at hlaw
        exact ⟨q, hq, Ev.step hr (Ev.bind hlaw (Ev.neg (by simp) he))⟩
theorem drawn_l0 {ms : List M} {gs : List G} {n : Int} (ok : okB ms gs n = true) {bits : List Int} (hb : bits.length ≤ 9223372036854775807) (d : Nat) : ∀ (t : Nat) (out : List Wk), n.toNat - t = d → t ≤ n.toNat → planB ms gs n out = true →
    ∃ q, planB ms gs n q = true ∧ Ev (fun k => macadamlaw04_drawn.l0 k bits out t ms gs n) q := by
  obtain ⟨_, _, hn1, hn2⟩ := okB_sizes ok
  induction d with
  | zero =>
    intro t out hd ht hp
    exact ⟨out, hp, Ev.step (f := fun _ => some out) (fun k => by simp only [macadamlaw04_drawn.l0]; rw [if_neg (by omega)]) (Ev.now _)⟩
  | succ d ih =>
    intro t out hd ht hp
    obtain ⟨q, hq, he⟩ := drawn_l1 ok hb (t := t) (by omega) (fun o ho => ih (t + 1) o (by omega) (by omega) ho) gs.length 0 out (by omega) (by omega) hp
    exact ⟨q, hq, Ev.step (f := fun k => macadamlaw04_drawn.l1 k bits out t 0 ms gs n) (fun k => by simp only [macadamlaw04_drawn.l0]; rw [if_pos (by omega)]) he⟩
theorem drawn_ev {ms : List M} {gs : List G} {n : Int} (ok : okB ms gs n = true) {bits : List Int} (hb : bits.length ≤ 9223372036854775807) : ∃ q, planB ms gs n q = true ∧ Ev (fun k => macadamlaw04_drawn.f k ms gs n bits) q :=
  drawn_l0 ok hb n.toNat 0 [] (by omega) (by omega) rfl
theorem least_l0 {ms : List M} {gs : List G} {n : Int} (ok : okB ms gs n = true) {p : List Wk} (hpl : planB ms gs n p = true) (m : Int) (d : Nat) : ∀ (i : Nat) (a : Int), p.length - i = d → i ≤ p.length → (0 ≤ a ∧ a ≤ 3 * i) → Ev (fun k => macadamlaw04_least.l0 k p m a i ms gs n) (a + doneAt gs false m (p.drop i)) := by
  have hl := plan_len ok hpl
  induction d with
  | zero =>
    intro i a hd hi ha
    rw [List.drop_of_length_le (by omega)]
    exact Ev.step (f := fun _ => some a) (fun k => by simp only [macadamlaw04_least.l0]; rw [if_neg (by omega)]) (Ev.some (by simp [doneAt]))
  | succ d ih =>
    intro i a hd hi ha
    have hlt : i < p.length := by omega
    have hx : rd_T59 p (i : Int) = W3 p i := rfl
    have hw : wrap64 ((i : Int) + 1) = ((i + 1 : Nat) : Int) := by unfold wrap64; omega
    have hc := (canB_iff.1 (((planB_iff _ _ _ _).1 hpl).1 _ (W3_mem hlt))).2.2.2.1
    have hg := (okB_gang ok _ (rd_memG hc.1 hc.2)).2
    rw [drop_W3 p i hlt]
    simp only [doneAt, Bool.false_eq_true, if_false]
    by_cases h : (W3 p i).f2 = m
    · rw [if_pos h]
      have := ih (i + 1) (a + (rd_T63 gs (W3 p i).f1).f2.f0) (by omega) (by omega) (by omega)
      rw [Int.add_assoc] at this
      exact Ev.step (f := fun k => macadamlaw04_least.l0 k p m (a + (rd_T63 gs (W3 p i).f1).f2.f0) ((i + 1 : Nat) : Int) ms gs n) (fun k => by
        simp only [macadamlaw04_least.l0]
        rw [if_pos (by omega), if_pos (by omega), hx, if_pos h, if_pos hc.1, if_pos hc.2, hw, show wrap64 (a + (rd_T63 gs (W3 p i).f1).f2.f0) = a + (rd_T63 gs (W3 p i).f1).f2.f0 by unfold wrap64; omega]) this
    · rw [if_neg h, Int.zero_add]
      exact Ev.step (f := fun k => macadamlaw04_least.l0 k p m a ((i + 1 : Nat) : Int) ms gs n) (fun k => by
        simp only [macadamlaw04_least.l0]
        rw [if_pos (by omega), if_pos (by omega), hx, if_neg h, hw]) (ih (i + 1) a (by omega) (by omega) (by omega))
theorem least_ev {ms : List M} {gs : List G} {n : Int} (ok : okB ms gs n = true) {p : List Wk} (hpl : planB ms gs n p = true) (m : Int) : Ev (fun k => macadamlaw04_least.f k ms gs n p m) (doneAt gs false m p) := by
  have := least_l0 ok hpl m p.length 0 0 (by omega) (by omega) (by omega)
  rw [List.drop_zero, Int.zero_add] at this
  exact this
theorem lmended_l0 {ms : List M} {gs : List G} {n : Int} (ok : okB ms gs n = true) {p : List Wk} (hpl : planB ms gs n p = true) (d : Nat) : ∀ (i : Nat) (out : List Int), ms.length - i = d → i ≤ ms.length → out.length ≤ i →
    Ev (fun k => macadamlaw04_mended.l0 k p out i ms gs n) (out ++ ((upTo ms.length).drop i).filter (fun i => decide (doneAt gs false i p ≥ (rd_T66 ms i).f0.f1))) := by
  obtain ⟨⟨hm1, hm2⟩, _, _⟩ := okB_sizes ok
  induction d with
  | zero =>
    intro i out hd hi ho
    rw [List.drop_of_length_le (by rw [upTo_length]; omega)]
    exact Ev.step (f := fun _ => some out) (fun k => by simp only [macadamlaw04_mended.l0]; rw [if_neg (by omega)]) (Ev.some (by simp))
  | succ d ih =>
    intro i out hd hi ho
    have hw : wrap64 ((i : Int) + 1) = ((i + 1 : Nat) : Int) := by unfold wrap64; omega
    rw [upTo_drop (by omega), List.filter_cons]
    refine Ev.step (f := fun k => (macadamlaw04_least.f k ms gs n p i).bind fun t => if t ≥ (rd_T66 ms i).f0.f1 then macadamlaw04_mended.l0 k p (out ++ [(i : Int)]) ((i + 1 : Nat) : Int) ms gs n else macadamlaw04_mended.l0 k p out ((i + 1 : Nat) : Int) ms gs n) (fun k => by
      simp only [macadamlaw04_mended.l0]
      rw [if_pos (by omega), hw]
      simp only [show (0 : Int) ≤ (i : Int) by omega, show out.length < 17592186044416 by omega, if_true]) ?_
    refine Ev.bind (least_ev ok hpl _) ?_
    by_cases h : doneAt gs false i p ≥ (rd_T66 ms i).f0.f1
    · rw [if_pos (by simpa using h)]
      have := ih (i + 1) (out ++ [(i : Int)]) (by omega) (by omega) (by rw [List.length_append, List.length_singleton]; omega)
      rw [List.append_assoc] at this
      exact Ev.pos h this
    · rw [if_neg (by simpa using h)]
      exact Ev.neg h (ih (i + 1) out (by omega) (by omega) (by omega))
theorem lmended_ev {ms : List M} {gs : List G} {n : Int} (ok : okB ms gs n = true) {p : List Wk} (hpl : planB ms gs n p = true) : Ev (fun k => macadamlaw04_mended.f k ms gs n p) (mendedL ms gs p) := by
  have := lmended_l0 ok hpl ms.length 0 [] (by omega) (by omega) (by simp)
  rw [List.drop_zero, List.nil_append] at this
  exact this
theorem last_f (p : List Wk) (hp : p.length ≤ 9223372036854775807) : macadamlaw04_last.f p = some (lastN p) := by
  unfold macadamlaw04_last.f lastN
  cases hl : p.getLast? with
  | none =>
    rw [List.getLast?_eq_none_iff] at hl
    subst hl
    rw [if_pos (by simp)]
  | some y =>
    obtain ⟨s, rfl⟩ := List.getLast?_eq_some_iff.1 hl
    have e : (s ++ [y]).length = s.length + 1 := by simp
    have ew : wrap64 (((s ++ [y]).length : Int) - 1) = (s.length : Int) := by rw [e] at hp ⊢; unfold wrap64; omega
    rw [if_neg (by omega), ew, if_pos (by omega), if_pos (by omega)]
    have : rd_T59 (s ++ [y]) (s.length : Int) = y := by
      unfold rd_T59
      rw [List.getD_eq_getElem?_getD]
      simp
    rw [this]
end Go.Proofs.YtikfghnkbgdbgaaDoor.Q
end
section
namespace Go.Proofs.YtikfghnkbgdbgaaDoor.Q
open Go.RowKit Go.Proofs.YtikfghnkbgdbgaaDoorW.PrintWords Go.Proofs.YtikfghnkbgdbgaaDoorW.PrintLast Go.Proofs.YtikfghnkbgdbgaaDoorW.PrintMore
attribute [local go_sem] max2_int min2_int max_two min_two max_three min_three max_four min_four   -- for this text's walks alone
set_option linter.unusedVariables false
set_option linter.unusedSimpArgs false
theorem eqA59 (d : Nat) (w : World) (x0 y0 : Int) (x1 y1 : Int) (x2 y2 : Int) :
  (Op.equalIn (d + 2) 59 (.agg #[.int .i64 x0, .int .i64 x1, .int .i64 x2]) (.agg #[.int .i64 y0, .int .i64 y1, .int .i64 y2])).run Tryd.prog w = .ok (x0 == y0 && (x1 == y1 && (x2 == y2))) w := by
 refine eqA_of Tryd.underlying59 (by kernel_rfl) ?_
 refine eqf_cons (by rfl) (by go_simp; rfl) (by go_simp; rfl) (by go_simp) ?_
 refine eqf_cons (by rfl) (by go_simp; rfl) (by go_simp; rfl) (by go_simp) ?_
 exact eqf_last (by rfl) (by go_simp; rfl) (by go_simp; rfl) (by go_simp)
end Go.Proofs.YtikfghnkbgdbgaaDoor.Q
end
section
namespace Go.Proofs.YtikfghnkbgdbgaaDoor.Q
open Go.RowKit Go.Proofs.YtikfghnkbgdbgaaDoorW.PrintWords Go.Proofs.YtikfghnkbgdbgaaDoorW.PrintLast Go.Proofs.YtikfghnkbgdbgaaDoorW.PrintMore
attribute [local go_sem] max2_int min2_int max_two min_two max_three min_three max_four min_four   -- for this text's walks alone
set_option linter.unusedVariables false
set_option linter.unusedSimpArgs false
attribute [local go_sem high] eqA59
def macadamlaw04_same.l0 : Nat → List (S59) → List (S59) → Int → Option (Bool)
 | 0, _, _, _ => none
 | k + 1, x0, x1, x5 => if x5 < (x0.length : Int) then (if 0 ≤ x5 then (if x5 < (x1.length : Int) then (if (!(((rd_T59 x0 x5).f0) == ((rd_T59 x1 x5).f0)) || (!(((rd_T59 x0 x5).f1) == ((rd_T59 x1 x5).f1)) || (!(((rd_T59 x0 x5).f2) == ((rd_T59 x1 x5).f2))))) = true then (some false) else (macadamlaw04_same.l0 k x0 x1 (wrap64 (x5 + 1)))) else (none)) else (none)) else (some true)
def macadamlaw04_same.f (k : Nat) (l0 : List (S59)) (l1 : List (S59)) : Option (Bool) := if (l0.length : Int) = (l1.length : Int) then (macadamlaw04_same.l0 k l0 l1 0) else (some false)
set_option maxHeartbeats 8000000 in
set_option maxRecDepth 100000 in
theorem macadamlaw04_same.calls (k : Nat) (A0 : Option Addr) (c0 : Nat) (l0 : List (S59)) (A1 : Option Addr) (c1 : Nat) (l1 : List (S59)) (r : Bool) (w : World) (hr0 : Kd.C k59 w A0 l0.length l0) (hc0 : l0.length ≤ c0) (hr1 : Kd.C k59 w A1 l1.length l1) (hc1 : l1.length ≤ c1) (h : macadamlaw04_same.f k l0 l1 = some r) :
  Calls Tryd.prog 33 #[.slice A0 l0.length c0, .slice A1 l1.length c1] w fun e w' => e = .returned (.bool r) ∧ Drawn0 w w' := by
 have hu59 := Tryd.underlying59
 have HR0 := Aside0.mk hr0
 have HC0 := Aside0.mk hc0
 clear hr0 hc0
 have HR1 := Aside0.mk hr1
 have HC1 := Aside0.mk hc1
 clear hr1 hc1
 have H : (if (l0.length : Int) = (l1.length : Int) then (macadamlaw04_same.l0 k l0 l1 0) else (some false)) = some r := h
 clear h
 by_cases c3 : (l0.length : Int) = (l1.length : Int)
 ·rw [if_pos c3] at H
  have c3b0 : ((l0.length : Int) == (l1.length : Int)) = true := beq_iff_eq.mpr c3
  have c3b1 : ((l0.length : Int) != (l1.length : Int)) = false := bne_eq_false_iff_eq.mpr c3
  have c3b2 : (l0.length == l1.length) = true := by first | simpa using c3 | (simp at c3 ⊢; omega)
  clear c3
  have H' := Aside0.mk H
  clear H
  go_enter Tryd.func33, Tryd.ntmps33
  go_wp2
  repeat (go_quiet (fail); try go_wp2)
  go_loopg [5] k (fun kq v5 w' => ∃ (x5_1 : Int), v5 = .int .i64 x5_1 ∧ Aside0 (macadamlaw04_same.l0 kq l0 l1 x5_1 = some r) ∧ Aside0 (kq ≤ k) ∧ Drawn0 w w')
  case atStart => exact ⟨(0), (by first | rfl | (simp; done) | (simp [*]; done)), H', ⟨Nat.le_refl _⟩, by repeat (first | exact Drawn0.refl _ | apply Drawn0.step)⟩
  case round =>
   clear H'
   try clear c1
   try clear p2
   try clear c3
   try clear c3b0
   try clear c3b1
   try clear c3b2
   obtain ⟨x5_1, rfl, HA, HK1, ⟨m1, rfl⟩⟩ := hrel
   cases gk with
   | zero => exact absurd HA.out (by simp [macadamlaw04_same.l0])
   | succ k1 =>
    have H := HA.out
    clear HA
    simp only [macadamlaw04_same.l0] at H
    by_cases c4 : x5_1 < (l0.length : Int)
    ·rw [if_pos c4] at H
     have c4b0 : decide (x5_1 < (l0.length : Int)) = true := decide_eq_true c4
     clear c4
     by_cases c5 : 0 ≤ x5_1
     ·rw [if_pos c5] at H
      have c5b0 : decide (0 ≤ x5_1) = true := decide_eq_true c5
      clear c5
      by_cases c6 : x5_1 < (l1.length : Int)
      ·rw [if_pos c6] at H
       have c6b0 : decide (x5_1 < (l1.length : Int)) = true := decide_eq_true c6
       clear c6
       by_cases c7 : (!(((rd_T59 l0 x5_1).f0) == ((rd_T59 l1 x5_1).f0)) || (!(((rd_T59 l0 x5_1).f1) == ((rd_T59 l1 x5_1).f1)) || (!(((rd_T59 l0 x5_1).f2) == ((rd_T59 l1 x5_1).f2))))) = true
       ·rw [if_pos c7] at H
        have c7b0 : (!(((rd_T59 l0 x5_1).f0) == ((rd_T59 l1 x5_1).f0)) || (!(((rd_T59 l0 x5_1).f1) == ((rd_T59 l1 x5_1).f1)) || (!(((rd_T59 l0 x5_1).f2) == ((rd_T59 l1 x5_1).f2))))) = true := c7
        clear c7
        obtain rfl := Option.some.inj H
        have p318 : 0 ≤ (x5_1 : Int) := of_decide_eq_true (by first | (with_reducible assumption) | assumption)
        have q318 : x5_1 < (l0.length : Int) := of_decide_eq_true (by first | (with_reducible assumption) | assumption)
        obtain ⟨ad318, e318, hx318_0, hx318_1, hx318_2⟩ := at_T59 HR0.out x5_1 p318 q318
        cases e318
        replace p318 := eq_true p318
        replace q318 := eq_true q318
        have p319 : 0 ≤ (x5_1 : Int) := of_decide_eq_true (by first | (with_reducible assumption) | assumption)
        have q319 : x5_1 < (l1.length : Int) := of_decide_eq_true (by first | (with_reducible assumption) | assumption)
        obtain ⟨ad319, e319, hx319_0, hx319_1, hx319_2⟩ := at_T59 HR1.out x5_1 p319 q319
        cases e319
        replace p319 := eq_true p319
        replace q319 := eq_true q319
        go_wp2
        repeat (go_quiet (fail); try go_wp2)
        go_ret
        exact ⟨by first | rfl | (simp; done) | (simp [*]; done), by repeat (first | exact Drawn0.refl _ | apply Drawn0.step)⟩
       ·rw [if_neg c7] at H
        have c7b0 : (!(((rd_T59 l0 x5_1).f0) == ((rd_T59 l1 x5_1).f0)) || (!(((rd_T59 l0 x5_1).f1) == ((rd_T59 l1 x5_1).f1)) || (!(((rd_T59 l0 x5_1).f2) == ((rd_T59 l1 x5_1).f2))))) = false := by simpa using c7
        clear c7
        have H' := Aside0.mk H
        clear H
        have p318 : 0 ≤ (x5_1 : Int) := of_decide_eq_true (by first | (with_reducible assumption) | assumption)
        have q318 : x5_1 < (l0.length : Int) := of_decide_eq_true (by first | (with_reducible assumption) | assumption)
        obtain ⟨ad318, e318, hx318_0, hx318_1, hx318_2⟩ := at_T59 HR0.out x5_1 p318 q318
        cases e318
        replace p318 := eq_true p318
        replace q318 := eq_true q318
        have p319 : 0 ≤ (x5_1 : Int) := of_decide_eq_true (by first | (with_reducible assumption) | assumption)
        have q319 : x5_1 < (l1.length : Int) := of_decide_eq_true (by first | (with_reducible assumption) | assumption)
        obtain ⟨ad319, e319, hx319_0, hx319_1, hx319_2⟩ := at_T59 HR1.out x5_1 p319 q319
        cases e319
        replace p319 := eq_true p319
        replace q319 := eq_true q319
        go_wp2
        repeat (go_quiet (fail); try go_wp2)
        go_roundg k1
        case measure => have := HK1.out; omega
        case rel => exact ⟨(wrap64 (x5_1 + 1)), (by first | rfl | (simp; done) | (simp [*]; done)), H', ⟨by have := HK1.out; omega⟩, by repeat (first | exact Drawn0.refl _ | apply Drawn0.step)⟩
      ·rw [if_neg c6] at H
       exact absurd H (by simp)
     ·rw [if_neg c5] at H
      exact absurd H (by simp)
    ·rw [if_neg c4] at H
     have c4b0 : decide (x5_1 < (l0.length : Int)) = false := decide_eq_false c4
     clear c4
     obtain rfl := Option.some.inj H
     go_wp2
     repeat (go_quiet (fail); try go_wp2)
     go_ret
     exact ⟨by first | rfl | (simp; done) | (simp [*]; done), by repeat (first | exact Drawn0.refl _ | apply Drawn0.step)⟩
 ·rw [if_neg c3] at H
  have c3b0 : ((l0.length : Int) == (l1.length : Int)) = false := beq_eq_false_iff_ne.mpr c3
  have c3b1 : ((l0.length : Int) != (l1.length : Int)) = true := bne_iff_ne.mpr c3
  have c3b2 : (l0.length == l1.length) = false := by first | simpa using c3 | (simp at c3 ⊢; omega)
  obtain rfl := Option.some.inj H
  go_enter Tryd.func33, Tryd.ntmps33
  go_wp2
  repeat (go_quiet (fail); try go_wp2)
  go_ret
  exact ⟨by first | rfl | (simp; done) | (simp [*]; done), by repeat (first | exact Drawn0.refl _ | apply Drawn0.step)⟩
mutual
def macadamref00_Sooner.l0 : Nat → List Int → List Int → Int → Option (Bool)
 | 0, _, _, _ => none
 | k + 1, x0, x1, x5 => if x5 < (x0.length : Int) then (macadamref00_Sooner.j1 k x0 x1 x5 (decide (x5 < (x1.length : Int)))) else (macadamref00_Sooner.j1 k x0 x1 x5 false)
def macadamref00_Sooner.j1 : Nat → List Int → List Int → Int → Bool → Option (Bool)
 | 0, _, _, _, _ => none
 | k + 1, x0, x1, x5, x15 => if x15 = true then (if 0 ≤ x5 then (if x5 < (x0.length : Int) then (if x5 < (x1.length : Int) then (if (rd x0 x5) = (rd x1 x5) then (macadamref00_Sooner.l0 k x0 x1 (wrap64 (x5 + 1))) else (some (decide ((rd x0 x5) < (rd x1 x5))))) else (none)) else (none)) else (none)) else (some (decide ((x0.length : Int) < (x1.length : Int))))
end
def macadamref00_Sooner.f (k : Nat) (l0 : List Int) (l1 : List Int) : Option (Bool) := macadamref00_Sooner.l0 k l0 l1 0
set_option maxHeartbeats 8000000 in
set_option maxRecDepth 100000 in
theorem macadamref00_Sooner.calls (k : Nat) (A0 : Option Addr) (c0 : Nat) (l0 : List Int) (A1 : Option Addr) (c1 : Nat) (l1 : List Int) (r : Bool) (w : World) (hr0 : Kd.C (Kd.int .i64) w A0 l0.length l0) (hc0 : l0.length ≤ c0) (hr1 : Kd.C (Kd.int .i64) w A1 l1.length l1) (hc1 : l1.length ≤ c1) (h : macadamref00_Sooner.f k l0 l1 = some r) :
  Calls Tryd.prog 54 #[.slice A0 l0.length c0, .slice A1 l1.length c1] w fun e w' => e = .returned (.bool r) ∧ Drawn0 w w' := by
 have HR0 := Aside0.mk hr0
 have HC0 := Aside0.mk hc0
 clear hr0 hc0
 have HR1 := Aside0.mk hr1
 have HC1 := Aside0.mk hc1
 clear hr1 hc1
 have H : (macadamref00_Sooner.l0 k l0 l1 0) = some r := h
 clear h
 have H' := Aside0.mk H
 clear H
 go_enter Tryd.func54, Tryd.ntmps54
 go_wp2
 repeat (go_quiet (fail); try go_wp2)
 go_loopg [5] k (fun kq v5 w' => ∃ (x5_1 : Int), v5 = .int .i64 x5_1 ∧ Aside0 (macadamref00_Sooner.l0 kq l0 l1 x5_1 = some r) ∧ Aside0 (kq ≤ k) ∧ Drawn0 w w')
 case atStart => exact ⟨(0), (by first | rfl | (simp; done) | (simp [*]; done)), H', ⟨Nat.le_refl _⟩, by repeat (first | exact Drawn0.refl _ | apply Drawn0.step)⟩
 case round =>
  clear H'
  try clear c1
  try clear p2
  obtain ⟨x5_1, rfl, HA, HK1, ⟨m1, rfl⟩⟩ := hrel
  cases gk with
  | zero => exact absurd HA.out (by simp [macadamref00_Sooner.l0])
  | succ k1 =>
   have H := HA.out
   clear HA
   simp only [macadamref00_Sooner.l0] at H
   have HC3 := Aside0.mk H
   clear H
   go_upto_region 2 with (fail)
   repeat (go_quiet (fail); go_upto_region 2 with (fail))
   go_cut [15] (fun v15 wc => ∃ (kq : Nat) (x15_2 : Bool), v15 = .bool x15_2 ∧ Aside0 (macadamref00_Sooner.j1 kq l0 l1 x5_1 x15_2 = some r) ∧ Aside0 (kq ≤ k1) ∧ Drawn0 w wc)
   case first =>
    have H := HC3.out
    clear HC3
    by_cases c4 : x5_1 < (l0.length : Int)
    ·rw [if_pos c4] at H
     have c4b0 : decide (x5_1 < (l0.length : Int)) = true := decide_eq_true c4
     clear c4
     (first | rw [c4b0] | (simp only [i64_w, i32_w]; rw [c4b0]) | skip)
     have H' := Aside0.mk H
     clear H
     go_wp2
     repeat (go_quiet (fail); try go_wp2)
     go_meet
     case rel => exact ⟨_, (decide (x5_1 < (l1.length : Int))), (by first | rfl | (simp; done) | (simp [*]; done)), H', ⟨by have := HK1.out; first | omega | exact Nat.le_refl _⟩, by repeat (first | exact Drawn0.refl _ | apply Drawn0.step)⟩
    ·rw [if_neg c4] at H
     have c4b0 : decide (x5_1 < (l0.length : Int)) = false := decide_eq_false c4
     clear c4
     (first | rw [c4b0] | (simp only [i64_w, i32_w]; rw [c4b0]) | skip)
     have H' := Aside0.mk H
     clear H
     go_wp2
     repeat (go_quiet (fail); try go_wp2)
     go_meet
     case rel => exact ⟨_, (false), (by first | rfl | (simp; done) | (simp [*]; done)), H', ⟨by have := HK1.out; first | omega | exact Nat.le_refl _⟩, by repeat (first | exact Drawn0.refl _ | apply Drawn0.step)⟩
   case rest =>
    clear HC3
    try clear c1
    try clear p2
    try clear c4
    try clear c4b0
    try clear p2
    obtain ⟨kq, x15_2, rfl, HA, HJ2, ⟨mc2, rfl⟩⟩ := hcut
    cases kq with
    | zero => exact absurd HA.out (by simp [macadamref00_Sooner.j1])
    | succ kj2 =>
     have H := HA.out
     clear HA
     simp only [macadamref00_Sooner.j1] at H
     by_cases c5 : x15_2 = true
     ·subst c5
      have H1 : (if 0 ≤ x5_1 then (if x5_1 < (l0.length : Int) then (if x5_1 < (l1.length : Int) then (if (rd l0 x5_1) = (rd l1 x5_1) then (macadamref00_Sooner.l0 kj2 l0 l1 (wrap64 (x5_1 + 1))) else (some (decide ((rd l0 x5_1) < (rd l1 x5_1))))) else (none)) else (none)) else (none)) = some r := by rw [if_pos rfl] at H; exact H
      clear H
      have H := H1
      clear H1
      by_cases c6 : 0 ≤ x5_1
      ·rw [if_pos c6] at H
       have c6b0 : decide (0 ≤ x5_1) = true := decide_eq_true c6
       clear c6
       by_cases c7 : x5_1 < (l0.length : Int)
       ·rw [if_pos c7] at H
        have c7b0 : decide (x5_1 < (l0.length : Int)) = true := decide_eq_true c7
        clear c7
        by_cases c8 : x5_1 < (l1.length : Int)
        ·rw [if_pos c8] at H
         have c8b0 : decide (x5_1 < (l1.length : Int)) = true := decide_eq_true c8
         clear c8
         by_cases c9 : (rd l0 x5_1) = (rd l1 x5_1)
         ·rw [if_pos c9] at H
          have c9b0 : ((rd l0 x5_1) == (rd l1 x5_1)) = true := beq_iff_eq.mpr c9
          have c9b1 : ((rd l0 x5_1) != (rd l1 x5_1)) = false := bne_eq_false_iff_eq.mpr c9
          clear c9
          have H' := Aside0.mk H
          clear H
          have p320 : 0 ≤ (x5_1 : Int) := of_decide_eq_true (by first | (with_reducible assumption) | assumption)
          have q320 : x5_1 < (l0.length : Int) := of_decide_eq_true (by first | (with_reducible assumption) | assumption)
          obtain ⟨ad320, e320, hx320_0⟩ := Kd.at_int HR0.out x5_1 p320 q320
          cases e320
          replace p320 := eq_true p320
          replace q320 := eq_true q320
          have p321 : 0 ≤ (x5_1 : Int) := of_decide_eq_true (by first | (with_reducible assumption) | assumption)
          have q321 : x5_1 < (l1.length : Int) := of_decide_eq_true (by first | (with_reducible assumption) | assumption)
          obtain ⟨ad321, e321, hx321_0⟩ := Kd.at_int HR1.out x5_1 p321 q321
          cases e321
          replace p321 := eq_true p321
          replace q321 := eq_true q321
          go_wp2
          repeat (go_quiet (fail); try go_wp2)
          go_roundg kj2
          case measure => have := HK1.out; have := HJ2.out; omega
          case rel => exact ⟨(wrap64 (x5_1 + 1)), (by first | rfl | (simp; done) | (simp [*]; done)), H', ⟨by have := HK1.out; have := HJ2.out; omega⟩, by repeat (first | exact Drawn0.refl _ | apply Drawn0.step)⟩
         ·rw [if_neg c9] at H
          have c9b0 : ((rd l0 x5_1) == (rd l1 x5_1)) = false := beq_eq_false_iff_ne.mpr c9
          have c9b1 : ((rd l0 x5_1) != (rd l1 x5_1)) = true := bne_iff_ne.mpr c9
          obtain rfl := Option.some.inj H
          have p320 : 0 ≤ (x5_1 : Int) := of_decide_eq_true (by first | (with_reducible assumption) | assumption)
          have q320 : x5_1 < (l0.length : Int) := of_decide_eq_true (by first | (with_reducible assumption) | assumption)
          obtain ⟨ad320, e320, hx320_0⟩ := Kd.at_int HR0.out x5_1 p320 q320
          cases e320
          replace p320 := eq_true p320
          replace q320 := eq_true q320
          have p321 : 0 ≤ (x5_1 : Int) := of_decide_eq_true (by first | (with_reducible assumption) | assumption)
          have q321 : x5_1 < (l1.length : Int) := of_decide_eq_true (by first | (with_reducible assumption) | assumption)
          obtain ⟨ad321, e321, hx321_0⟩ := Kd.at_int HR1.out x5_1 p321 q321
          cases e321
          replace p321 := eq_true p321
          replace q321 := eq_true q321
          have p322 : 0 ≤ (x5_1 : Int) := of_decide_eq_true (by first | (with_reducible assumption) | assumption)
          have q322 : x5_1 < (l0.length : Int) := of_decide_eq_true (by first | (with_reducible assumption) | assumption)
          obtain ⟨ad322, e322, hx322_0⟩ := Kd.at_int HR0.out x5_1 p322 q322
          obtain rfl : ad320 = ad322 := (by injection e322)
          replace p322 := eq_true p322
          replace q322 := eq_true q322
          have p323 : 0 ≤ (x5_1 : Int) := of_decide_eq_true (by first | (with_reducible assumption) | assumption)
          have q323 : x5_1 < (l1.length : Int) := of_decide_eq_true (by first | (with_reducible assumption) | assumption)
          obtain ⟨ad323, e323, hx323_0⟩ := Kd.at_int HR1.out x5_1 p323 q323
          obtain rfl : ad321 = ad323 := (by injection e323)
          replace p323 := eq_true p323
          replace q323 := eq_true q323
          go_wp2
          repeat (go_quiet (fail); try go_wp2)
          go_ret
          exact ⟨by first | rfl | (simp; done) | (simp [*]; done), by repeat (first | exact Drawn0.refl _ | apply Drawn0.step)⟩
        ·rw [if_neg c8] at H
         exact absurd H (by simp)
       ·rw [if_neg c7] at H
        exact absurd H (by simp)
      ·rw [if_neg c6] at H
       exact absurd H (by simp)
     ·replace c5 := Bool.eq_false_iff.mpr c5
      subst c5
      have H1 : (some (decide ((l0.length : Int) < (l1.length : Int)))) = some r := by rw [if_neg (show ¬ (false = true) by decide)] at H; exact H
      clear H
      have H := H1
      clear H1
      obtain rfl := Option.some.inj H
      go_wp2
      repeat (go_quiet (fail); try go_wp2)
      go_ret
      exact ⟨by first | rfl | (simp; done) | (simp [*]; done), by repeat (first | exact Drawn0.refl _ | apply Drawn0.step)⟩
end Go.Proofs.YtikfghnkbgdbgaaDoor.Q
end
section
namespace Go.Proofs.YtikfghnkbgdbgaaDoor.Q
set_option linter.unusedSimpArgs false
set_option linter.unusedVariables false
open Go.RowKit Go.Proofs.YtikfghnkbgdbgaaDoorW.PrintWords Go.Proofs.YtikfghnkbgdbgaaDoorW.PrintLast Go.Proofs.YtikfghnkbgdbgaaDoorW.PrintMore
theorem plan_f {ms : List M} {gs : List G} {n : Int} (ok : okB ms gs n = true) : (∃ p, planL ms gs n = some p ∧ gang_Plan.f ms gs n = some (p, 0)) ∨ (planL ms gs n = none ∧ gang_Plan.f ms gs n = some ([], 4)) := by
  unfold gang_Plan.f
  rw [if_pos ok]
  cases planL ms gs n with
  | some p => exact Or.inl ⟨p, rfl, rfl⟩
  | none => exact Or.inr ⟨rfl, rfl⟩
theorem plan_bad {ms : List M} {gs : List G} {n : Int} (ok : ¬ okB ms gs n = true) : gang_Plan.f ms gs n = some ([], 40) := by
  unfold gang_Plan.f; rw [if_neg ok]
theorem sooner_l (l m : List Int) (hl : l.length ≤ 9223372036854775807) (hm : m.length ≤ 9223372036854775807) (d : Nat) : ∀ (i : Nat), l.length - i = d → i ≤ l.length → i ≤ m.length → l.take i = m.take i → Ev (fun k => macadamref00_Sooner.l0 k l m i) (decide (cmpIL (l.drop i) (m.drop i) < 0)) := by
  induction d with
  | zero =>
    intro i hd hi hi2 he
    have e : i = l.length := by omega
    subst e
    rw [List.drop_of_length_le (Nat.le_refl _)]
    refine Ev.step (f := fun k => macadamref00_Sooner.j1 k l m l.length false) (fun k => by simp only [macadamref00_Sooner.l0]; rw [if_neg (by omega)]) ?_
    refine Ev.step (f := fun _ => some (decide ((l.length : Int) < (m.length : Int)))) (fun k => by simp only [macadamref00_Sooner.j1]; rw [if_neg (by simp)]) (Ev.some ?_)
    congr 1
    rw [decide_eq_decide]
    cases hdm : m.drop l.length with
    | nil => rw [List.drop_eq_nil_iff] at hdm; simp [cmpIL]; omega
    | cons y r =>
      have : (m.drop l.length).length = r.length + 1 := by rw [hdm]; rfl
      rw [List.length_drop] at this
      simp [cmpIL]; omega
  | succ d ih =>
    intro i hd hi hi2 he
    have hlt : i < l.length := by omega
    have hw : wrap64 ((i : Int) + 1) = ((i + 1 : Nat) : Int) := by unfold wrap64; omega
    rw [rd_drop_I l i hlt]
    by_cases hm2 : i < m.length
    · rw [rd_drop_I m i hm2]
      refine Ev.step (f := fun k => macadamref00_Sooner.j1 k l m i true) (fun k => by simp only [macadamref00_Sooner.l0]; rw [if_pos (by omega), show decide ((i : Int) < (m.length : Int)) = true by simp; omega]) ?_
      refine Ev.step (f := fun k => if rd l i = rd m i then macadamref00_Sooner.l0 k l m ((i + 1 : Nat) : Int) else some (decide (rd l i < rd m i))) (fun k => by simp only [macadamref00_Sooner.j1]; rw [if_pos trivial, if_pos (by omega), if_pos (by omega), if_pos (by omega), hw]) ?_
      have hcc := @cmpIL_cons_lt (rd l i) (rd m i) (l.drop (i + 1)) (m.drop (i + 1))
      by_cases h : rd l i = rd m i
      · have hI := ih (i + 1) (by omega) (by omega) (by omega) (by
          rw [List.take_succ_eq_append_getElem hlt, List.take_succ_eq_append_getElem hm2, he]
          congr 2
          have h' := h
          unfold rd at h'
          rw [List.getD_eq_getElem?_getD, List.getD_eq_getElem?_getD] at h'
          simpa [List.getElem?_eq_getElem hlt, List.getElem?_eq_getElem hm2] using h')
        have e : decide (cmpIL (rd l i :: l.drop (i + 1)) (rd m i :: m.drop (i + 1)) < 0) = decide (cmpIL (l.drop (i + 1)) (m.drop (i + 1)) < 0) := by
          rw [decide_eq_decide, hcc]; simp [h]
        rw [e]
        exact Ev.pos h hI
      · have e : decide (cmpIL (rd l i :: l.drop (i + 1)) (rd m i :: m.drop (i + 1)) < 0) = decide (rd l i < rd m i) := by
          rw [decide_eq_decide, hcc]; simp [h]
        rw [e]
        exact Ev.neg h (Ev.now _)
    · have e : i = m.length := by omega
      rw [List.drop_of_length_le (l := m) (by omega)]
      refine Ev.step (f := fun k => macadamref00_Sooner.j1 k l m i false) (fun k => by simp only [macadamref00_Sooner.l0]; rw [if_pos (by omega), show decide ((i : Int) < (m.length : Int)) = false by simp; omega]) ?_
      refine Ev.step (f := fun _ => some (decide ((l.length : Int) < (m.length : Int)))) (fun k => by simp only [macadamref00_Sooner.j1]; rw [if_neg (by simp)]) (Ev.some ?_)
      congr 1
      rw [decide_eq_decide]
      simp [cmpIL]; omega
theorem sooner_ev (l m : List Int) (hl : l.length ≤ 9223372036854775807) (hm : m.length ≤ 9223372036854775807) : Ev (fun k => macadamref00_Sooner.f k l m) (decide (cmpIL l m < 0)) := by
  have := sooner_l l m hl hm l.length 0 (by omega) (by omega) (by omega) (by simp)
  rw [List.drop_zero, List.drop_zero] at this
  exact this
end Go.Proofs.YtikfghnkbgdbgaaDoor.Q
end
section
namespace Go.Proofs.YtikfghnkbgdbgaaDoor.Q
set_option linter.unusedSimpArgs false
set_option linter.unusedVariables false
open Go.RowKit Go.Proofs.YtikfghnkbgdbgaaDoorW.PrintWords Go.Proofs.YtikfghnkbgdbgaaDoorW.PrintLast Go.Proofs.YtikfghnkbgdbgaaDoorW.PrintMore
abbrev OkBook (ms : List M) (gs : List G) (n : Int) : Prop := (ms.length ≤ maxLen ∧ ∀ m ∈ ms, ((Lit.int .i64 m.f0.f0).wf = true ∧ (Lit.int .i64 m.f0.f1).wf = true) ∧ (Lit.int .i64 m.f1).wf = true) ∧
    (gs.length ≤ maxLen ∧ ∀ g ∈ gs, (Lit.int .i64 g.f0).wf = true ∧ (Lit.int .i64 g.f1).wf = true ∧ ((Lit.int .i64 g.f2.f0).wf = true ∧ (Lit.int .i64 g.f2.f1).wf = true)) ∧ (Lit.int .i64 n).wf = true
abbrev OkWorks (p : List Wk) : Prop := p.length ≤ maxLen ∧ ∀ x ∈ p, (Lit.int .i64 x.f0).wf = true ∧ (Lit.int .i64 x.f1).wf = true ∧ (Lit.int .i64 x.f2).wf = true
theorem OkWorks.nights {p : List Wk} (h : OkWorks p) : ∀ x ∈ p, -9223372036854775808 ≤ x.f0 ∧ x.f0 ≤ 9223372036854775807 := fun x hx => bounds_i64 (h.2 x hx).1
end Go.Proofs.YtikfghnkbgdbgaaDoor.Q
end
section
namespace Go.Proofs.YtikfghnkbgdbgaaDoor.Q
open Go.RowKit Go.Proofs.YtikfghnkbgdbgaaDoorW.PrintWords Go.Proofs.YtikfghnkbgdbgaaDoorW.PrintLast Go.Proofs.YtikfghnkbgdbgaaDoorW.PrintMore
attribute [local go_sem] max2_int min2_int max_two min_two max_three min_three max_four min_four   -- for this text's walks alone
set_option linter.unusedVariables false
set_option linter.unusedSimpArgs false
def macadamlaw04_sooner.l0 : Nat → List (S59) → List (S59) → Int → Option (Bool)
 | 0, _, _, _ => none
 | k + 1, x0, x1, x5 => if x5 < (mn (x0.length : Int) (x1.length : Int)) then (if 0 ≤ x5 then (if x5 < (x0.length : Int) then ((some (([(rd_T59 x0 x5).f0, (rd_T59 x0 x5).f1, (rd_T59 x0 x5).f2] : List Int) : List Int)).bind fun y514 => (if x5 < (x1.length : Int) then ((some (([(rd_T59 x1 x5).f0, (rd_T59 x1 x5).f1, (rd_T59 x1 x5).f2] : List Int) : List Int)).bind fun y520 => ((macadamref00_Like.f k y514 y520).bind fun t523 => (if t523 = true then (macadamlaw04_sooner.l0 k x0 x1 (wrap64 (x5 + 1))) else ((macadamref00_Sooner.f k y514 y520).bind fun t524 => (some t524))))) else (none))) else (none)) else (none)) else (some (decide ((x0.length : Int) < (x1.length : Int))))
def macadamlaw04_sooner.f (k : Nat) (l0 : List (S59)) (l1 : List (S59)) : Option (Bool) := macadamlaw04_sooner.l0 k l0 l1 0
def macadamlaw04_sooner.T4 : Bool × List (List Nat × List Nat) := (true, [([], []), ([], []), ([0, 1], [0, 1]), ([2], [2]), ([3], [3]), ([], []), ([], []), ([5, 6], [5, 6]), ([7], [7]), ([8], [8]), ([], []), ([], []), ([10, 11], [10, 11]), ([12], [12]), ([13], [13]), ([4, 9, 14], [4, 9, 14]), ([], []), ([], []), ([16, 17], [16, 17]), ([18], [18]), ([19], [19]), ([], []), ([], []), ([21, 22], [21, 22]), ([23], [23]), ([24], [24]), ([], []), ([], []), ([26, 27], [26, 27]), ([28], [28]), ([29], [29]), ([20, 25, 30], [20, 25, 30]), ([15, 0, 1, 2, 3, 4, 5, 6, 7, 8, 9, 10, 11, 12, 13, 14, 15], [15]), ([31, 32, 0, 1, 2, 3, 4, 5, 6, 7, 8, 9, 10, 11, 12, 13, 14, 15, 16, 17, 18, 19, 20, 21, 22, 23, 24, 25, 26, 27, 28, 29, 30, 31, 32], [31])])
def macadamlaw04_sooner.B4 : List Nat := [0, 0, 3, 7, 15, 0, 0, 96, 224, 480, 0, 0, 3072, 7168, 15360, 32767, 0, 0, 196608, 458752, 983040, 0, 0, 6291456, 14680064, 31457280, 0, 0, 201326592, 469762048, 1006632960, 2147418112, 65535, 8589934591]
theorem macadamlaw04_sooner.tab4 : rtab .any (opsOf Tryd.f53 4) = macadamlaw04_sooner.T4 := by kernel_rfl
theorem macadamlaw04_sooner.bits4 : waitsOk macadamlaw04_sooner.T4.2 macadamlaw04_sooner.B4 = true := by kernel_rfl
set_option maxHeartbeats 8000000 in
set_option maxRecDepth 100000 in
theorem macadamlaw04_sooner.calls (k : Nat) (A0 : Option Addr) (c0 : Nat) (l0 : List (S59)) (A1 : Option Addr) (c1 : Nat) (l1 : List (S59)) (r : Bool) (w : World) (hr0 : Kd.C k59 w A0 l0.length l0) (hc0 : l0.length ≤ c0) (hr1 : Kd.C k59 w A1 l1.length l1) (hc1 : l1.length ≤ c1) (h : macadamlaw04_sooner.f k l0 l1 = some r) :
  Calls Tryd.prog 53 #[.slice A0 l0.length c0, .slice A1 l1.length c1] w fun e w' => e = .returned (.bool r) ∧ Below w.heap.size w w' := by
 have HR0 := Aside0.mk hr0
 have HC0 := Aside0.mk hc0
 clear hr0 hc0
 have HR1 := Aside0.mk hr1
 have HC1 := Aside0.mk hc1
 clear hr1 hc1
 have HB := Aside0.mk (Below.refl w.heap.size w)
 have H : (macadamlaw04_sooner.l0 k l0 l1 0) = some r := h
 clear h
 have H' := Aside0.mk H
 clear H
 go_enter Tryd.func53, Tryd.ntmps53
 go_wp2
 go_loopg [5] k (fun kq v5 w' => ∃ (x5_1 : Int), v5 = .int .i64 x5_1 ∧ Aside0 (macadamlaw04_sooner.l0 kq l0 l1 x5_1 = some r) ∧ Aside0 (kq ≤ k) ∧ Aside0 (Below w.heap.size w w'))
 case atStart => exact ⟨(0), (by first | rfl | (simp; done) | (simp [*]; done)), H', ⟨Nat.le_refl _⟩, ⟨bw HB⟩⟩
 case round =>
  clear H'
  try clear c1
  try clear p2
  obtain ⟨x5_1, rfl, HA, HK1, HB⟩ := hrel
  cases gk with
  | zero => exact absurd HA.out (by simp [macadamlaw04_sooner.l0])
  | succ k1 =>
   have H := HA.out
   clear HA
   simp only [macadamlaw04_sooner.l0] at H
   obtain ⟨ji3, hji3⟩ : ∃ j_ : Int, (mn (l0.length : Int) (l1.length : Int)) = j_ := ⟨_, rfl⟩
   replace H : (if x5_1 < (ji3) then (if 0 ≤ x5_1 then (if x5_1 < (l0.length : Int) then ((some (([(rd_T59 l0 x5_1).f0, (rd_T59 l0 x5_1).f1, (rd_T59 l0 x5_1).f2] : List Int) : List Int)).bind fun y514 => (if x5_1 < (l1.length : Int) then ((some (([(rd_T59 l1 x5_1).f0, (rd_T59 l1 x5_1).f1, (rd_T59 l1 x5_1).f2] : List Int) : List Int)).bind fun y520 => ((macadamref00_Like.f k1 y514 y520).bind fun t523 => (if t523 = true then (macadamlaw04_sooner.l0 k1 l0 l1 (wrap64 (x5_1 + 1))) else ((macadamref00_Sooner.f k1 y514 y520).bind fun t524 => (some t524))))) else (none))) else (none)) else (none)) else (some (decide ((l0.length : Int) < (l1.length : Int))))) = some r := by first | (rw [hji3] at H; exact H) | (simp only [hji3] at H ⊢; exact H)
   have hji3_ : (if (l1.length : Int) < (l0.length : Int) then (l1.length : Int) else (l0.length : Int)) = ji3 := hji3
   have hji3a : (if l1.length < l0.length then (l1.length : Int) else (l0.length : Int)) = ji3 := by rw [← hji3_]; split <;> split <;> omega
   have hji3b : (if l0.length < l1.length then (l0.length : Int) else (l1.length : Int)) = ji3 := by rw [← hji3_]; split <;> split <;> omega
   by_cases c4 : x5_1 < (ji3)
   ·rw [if_pos c4] at H
    have c4b0 : decide (x5_1 < (ji3)) = true := decide_eq_true c4
    clear c4
    by_cases c5 : 0 ≤ x5_1
    ·rw [if_pos c5] at H
     have c5b0 : decide (0 ≤ x5_1) = true := decide_eq_true c5
     clear c5
     by_cases c6 : x5_1 < (l0.length : Int)
     ·rw [if_pos c6] at H
      have c6b0 : decide (x5_1 < (l0.length : Int)) = true := decide_eq_true c6
      clear c6
      obtain ⟨y514, hy514⟩ : ∃ y_ : List Int, y_ = (([(rd_T59 l0 x5_1).f0, (rd_T59 l0 x5_1).f1, (rd_T59 l0 x5_1).f2] : List Int)) := ⟨_, rfl⟩
      replace H : (if x5_1 < (l1.length : Int) then ((some (([(rd_T59 l1 x5_1).f0, (rd_T59 l1 x5_1).f1, (rd_T59 l1 x5_1).f2] : List Int) : List Int)).bind fun y520 => ((macadamref00_Like.f k1 y514 y520).bind fun t523 => (if t523 = true then (macadamlaw04_sooner.l0 k1 l0 l1 (wrap64 (x5_1 + 1))) else ((macadamref00_Sooner.f k1 y514 y520).bind fun t524 => (some t524))))) else (none)) = some r := by first | (rw [hy514]; with_reducible exact H) | (have H2_ := (Option.bind_some _ _).symm.trans H; rw [hy514]; with_reducible exact H2_) | (have H2_ := (Option.bind_some _ _).symm.trans H; with_reducible exact H2_) | with_reducible exact H | (rw [hy514]; exact H) | exact H
      have Ny514 := Aside0.mk hy514
      clear hy514
      by_cases c7 : x5_1 < (l1.length : Int)
      ·rw [if_pos c7] at H
       have c7b0 : decide (x5_1 < (l1.length : Int)) = true := decide_eq_true c7
       clear c7
       obtain ⟨y520, hy520⟩ : ∃ y_ : List Int, y_ = (([(rd_T59 l1 x5_1).f0, (rd_T59 l1 x5_1).f1, (rd_T59 l1 x5_1).f2] : List Int)) := ⟨_, rfl⟩
       replace H : ((macadamref00_Like.f k1 y514 y520).bind fun t523 => (if t523 = true then (macadamlaw04_sooner.l0 k1 l0 l1 (wrap64 (x5_1 + 1))) else ((macadamref00_Sooner.f k1 y514 y520).bind fun t524 => (some t524)))) = some r := by first | (rw [hy520]; with_reducible exact H) | (have H2_ := (Option.bind_some _ _).symm.trans H; rw [hy520]; with_reducible exact H2_) | (have H2_ := (Option.bind_some _ _).symm.trans H; with_reducible exact H2_) | with_reducible exact H | (rw [hy520]; exact H) | exact H
       have Ny520 := Aside0.mk hy520
       clear hy520
       replace H := Option.bind_eq_some_iff.mp H
       obtain ⟨t523, A80, H⟩ := H
       replace H : (if t523 = true then (macadamlaw04_sooner.l0 k1 l0 l1 (wrap64 (x5_1 + 1))) else ((macadamref00_Sooner.f k1 y514 y520).bind fun t524 => (some t524))) = some r := H
       have A8 := Aside0.mk A80
       clear A80
       by_cases c9 : t523 = true
       ·subst c9
        have H1 : (macadamlaw04_sooner.l0 k1 l0 l1 (wrap64 (x5_1 + 1))) = some r := by rw [if_pos rfl] at H; exact H
        clear H
        have H := H1
        clear H1
        have H' := Aside0.mk H
        clear H
        try go_wp2
        have n0_ := Aside0.mk (below_drew1 HB.out)
        clear HB
        have HB := n0_
        clear n0_
        have p511 : 0 ≤ (x5_1 : Int) := of_decide_eq_true (by first | (with_reducible assumption) | assumption)
        have q511 : x5_1 < (l0.length : Int) := of_decide_eq_true (by first | (with_reducible assumption) | assumption)
        obtain ⟨ad511, e511, hx511_0, hx511_1, hx511_2⟩ := at_T59 HR0.out x5_1 p511 q511
        have hw511_2 := hx511_2
        have hw511_1 := hx511_1
        have hw511_0 := hx511_0
        cases e511
        replace hx511_0 := cB HB hx511_0
        replace hx511_1 := cB HB hx511_1
        replace hx511_2 := cB HB hx511_2
        replace p511 := eq_true p511
        replace q511 := eq_true q511
        have p512 : 0 ≤ (x5_1 : Int) := of_decide_eq_true (by first | (with_reducible assumption) | assumption)
        have q512 : x5_1 < (l0.length : Int) := of_decide_eq_true (by first | (with_reducible assumption) | assumption)
        obtain ⟨ad512, e512, hx512_0, hx512_1, hx512_2⟩ := at_T59 HR0.out x5_1 p512 q512
        have hw512_2 := hx512_2
        have hw512_1 := hx512_1
        have hw512_0 := hx512_0
        obtain rfl : ad511 = ad512 := (by injection e512)
        replace hx512_0 := cB HB hx512_0
        replace hx512_1 := cB HB hx512_1
        replace hx512_2 := cB HB hx512_2
        replace p512 := eq_true p512
        replace q512 := eq_true q512
        have p513 : 0 ≤ (x5_1 : Int) := of_decide_eq_true (by first | (with_reducible assumption) | assumption)
        have q513 : x5_1 < (l0.length : Int) := of_decide_eq_true (by first | (with_reducible assumption) | assumption)
        obtain ⟨ad513, e513, hx513_0, hx513_1, hx513_2⟩ := at_T59 HR0.out x5_1 p513 q513
        have hw513_2 := hx513_2
        have hw513_1 := hx513_1
        have hw513_0 := hx513_0
        obtain rfl : ad511 = ad513 := (by injection e513)
        replace hx513_0 := cB HB hx513_0
        replace hx513_1 := cB HB hx513_1
        replace hx513_2 := cB HB hx513_2
        replace p513 := eq_true p513
        replace q513 := eq_true q513
        have p517 : 0 ≤ (x5_1 : Int) := of_decide_eq_true (by first | (with_reducible assumption) | assumption)
        have q517 : x5_1 < (l1.length : Int) := of_decide_eq_true (by first | (with_reducible assumption) | assumption)
        obtain ⟨ad517, e517, hx517_0, hx517_1, hx517_2⟩ := at_T59 HR1.out x5_1 p517 q517
        have hw517_2 := hx517_2
        have hw517_1 := hx517_1
        have hw517_0 := hx517_0
        cases e517
        replace hx517_0 := cB HB hx517_0
        replace hx517_1 := cB HB hx517_1
        replace hx517_2 := cB HB hx517_2
        replace p517 := eq_true p517
        replace q517 := eq_true q517
        have p518 : 0 ≤ (x5_1 : Int) := of_decide_eq_true (by first | (with_reducible assumption) | assumption)
        have q518 : x5_1 < (l1.length : Int) := of_decide_eq_true (by first | (with_reducible assumption) | assumption)
        obtain ⟨ad518, e518, hx518_0, hx518_1, hx518_2⟩ := at_T59 HR1.out x5_1 p518 q518
        have hw518_2 := hx518_2
        have hw518_1 := hx518_1
        have hw518_0 := hx518_0
        obtain rfl : ad517 = ad518 := (by injection e518)
        replace hx518_0 := cB HB hx518_0
        replace hx518_1 := cB HB hx518_1
        replace hx518_2 := cB HB hx518_2
        replace p518 := eq_true p518
        replace q518 := eq_true q518
        have p519 : 0 ≤ (x5_1 : Int) := of_decide_eq_true (by first | (with_reducible assumption) | assumption)
        have q519 : x5_1 < (l1.length : Int) := of_decide_eq_true (by first | (with_reducible assumption) | assumption)
        obtain ⟨ad519, e519, hx519_0, hx519_1, hx519_2⟩ := at_T59 HR1.out x5_1 p519 q519
        have hw519_2 := hx519_2
        have hw519_1 := hx519_1
        have hw519_0 := hx519_0
        obtain rfl : ad517 = ad519 := (by injection e519)
        replace hx519_0 := cB HB hx519_0
        replace hx519_1 := cB HB hx519_1
        replace hx519_2 := cB HB hx519_2
        replace p519 := eq_true p519
        replace q519 := eq_true q519
        refine start_ (n := 34) (S := fun w' => True) (ds := []) (bs 34 0) (by kernel_rfl) rfl rfl trivial (fun hHeld => ?_); refine with_tabW macadamlaw04_sooner.tab4 macadamlaw04_sooner.bits4 (fun HT_ HW_ => ?_)
        generalize wr.drew = w10 at HB hx511_0 hx511_1 hx511_2 hx512_0 hx512_1 hx512_2 hx513_0 hx513_1 hx513_2 hx517_0 hx517_1 hx517_2 hx518_0 hx518_1 hx518_2 hx519_0 hx519_1 hx519_2 hHeld ⊢
        refine pu HT_ 0 (some 17) (bs 34 1) ?_
        refine pu HT_ 1 (some 18) (bs 34 3) ?_
        refine pu HT_ 5 (some 22) (bs 34 35) ?_
        refine pu HT_ 6 (some 23) (bs 34 99) ?_
        refine pu HT_ 10 (some 27) (bs 34 1123) ?_
        refine pu HT_ 11 (some 28) (bs 34 3171) ?_
        refine pu HT_ 16 (some 33) (bs 34 68707) ?_
        refine pu HT_ 17 (some 34) (bs 34 199779) ?_
        refine pu HT_ 21 (some 38) (bs 34 2296931) ?_
        refine pu HT_ 22 (some 39) (bs 34 6491235) ?_
        refine pu HT_ 26 (some 43) (bs 34 73600099) ?_
        refine pu HT_ 27 (some 44) (bs 34 207817827) ?_
        refine inv_at [2, 3, 4, 7, 8, 9, 12, 13, 14, 15, 18, 19, 20, 23, 24, 25, 28, 29, 30, 31, 32, 33] (fun a0_ b a w' => ∃ (v515 : Value) (v521 : Value) (m32_ : Value) (m33_ : Value), a = putSel a0_ b [(2, 19, .pointer (some (ad511.add ((x5_1).toNat * 3)))), (3, 20, .pointer (some (ad511.add ((x5_1).toNat * 3)))), (4, 21, .int .i64 ((rd_T59 l0 x5_1).f0)), (7, 24, .pointer (some (ad511.add ((x5_1).toNat * 3)))), (8, 25, .pointer (some ⟨(ad511.add ((x5_1).toNat * 3)).block, (ad511.add ((x5_1).toNat * 3)).off + 1, none⟩)), (9, 26, .int .i64 ((rd_T59 l0 x5_1).f1)), (12, 29, .pointer (some (ad511.add ((x5_1).toNat * 3)))), (13, 30, .pointer (some ⟨(ad511.add ((x5_1).toNat * 3)).block, (ad511.add ((x5_1).toNat * 3)).off + 2, none⟩)), (14, 31, .int .i64 ((rd_T59 l0 x5_1).f2)), (15, 32, v515), (18, 35, .pointer (some (ad517.add ((x5_1).toNat * 3)))), (19, 36, .pointer (some (ad517.add ((x5_1).toNat * 3)))), (20, 37, .int .i64 ((rd_T59 l1 x5_1).f0)), (23, 40, .pointer (some (ad517.add ((x5_1).toNat * 3)))), (24, 41, .pointer (some ⟨(ad517.add ((x5_1).toNat * 3)).block, (ad517.add ((x5_1).toNat * 3)).off + 1, none⟩)), (25, 42, .int .i64 ((rd_T59 l1 x5_1).f1)), (28, 45, .pointer (some (ad517.add ((x5_1).toNat * 3)))), (29, 46, .pointer (some ⟨(ad517.add ((x5_1).toNat * 3)).block, (ad517.add ((x5_1).toNat * 3)).off + 2, none⟩)), (30, 47, .int .i64 ((rd_T59 l1 x5_1).f2)), (31, 48, v521), (32, 6, m32_), (33, 7, m33_)] ∧ (Below w.heap.size w w') ∧ (b 15 = true → Kd.R (Kd.int .i64) 3 w' w.heap.size (fun _ => True) v515 y514) ∧ (b 31 = true → Kd.R (Kd.int .i64) 3 w' w.heap.size (fun _ => True) v521 y520) ∧ (b 32 = true → (m32_ : Value) = v515) ∧ (b 33 = true → (m33_ : Value) = v521)) HT_.out HW_.out (by kernel_rfl) (by kernel_rfl) ?_ ?_ ?_
        ·exact ⟨.bool false, .bool false, .bool false, .bool false, by simp only [putSel, Bool.false_eq_true, if_false], HB.out, fun h_ => absurd h_ (by decide), fun h_ => absurd h_ (by decide), fun h_ => absurd h_ (by decide), fun h_ => absurd h_ (by decide)⟩
        ·skip
         clear HB
         refine steps_cons ?_ ?_
         ·rintro b a w' ⟨v515, v521, m32_, m33_, ha, Q_HB, Q_HO516, Q_HO522, Q_X32_, Q_X33_⟩ hb_ hon hoff
          refine ⟨_, rfl, fun K hK => ?_⟩
          have e17 : a.tmps[17]? = some (.slice (some ad511) l0.length c0) := by rw [ha]; exact (putSel_off rfl).trans rfl
          have e18 : a.tmps[18]? = some (.int .i64 x5_1) := by rw [ha]; exact (putSel_off rfl).trans rfl
          replace ha := Aside0.mk ha
          have HB := Aside0.mk Q_HB
          have hs0_ : w'.cell? (ad511.add ((x5_1).toNat * 3)) = some (.int .i64 ((rd_T59 l0 x5_1).f0)) := (cB HB hw511_0 :)
          have hs1_ : w'.cell? ⟨(ad511.add ((x5_1).toNat * 3)).block, (ad511.add ((x5_1).toNat * 3)).off + 1, none⟩ = some (.int .i64 ((rd_T59 l0 x5_1).f1)) := (cB HB hw511_1 :)
          have hs2_ : w'.cell? ⟨(ad511.add ((x5_1).toNat * 3)).block, (ad511.add ((x5_1).toNat * 3)).off + 2, none⟩ = some (.int .i64 ((rd_T59 l0 x5_1).f2)) := (cB HB hw511_2 :)
          refine value_ (w1 := w') (v := .pointer (some (ad511.add ((x5_1).toNat * 3)))) (by rfl) rfl ?_ ?_
          ·go_simp
           (try simp only [i64_w])
           try rfl
          refine hK.out _ _ ⟨v515, v521, m32_, m33_, (by rw [ha.out]; exact putSel_upk 0 hb_ rfl rfl rfl), Q_HB, fun h0_ => absurd ((hoff 15 (by kernel_rfl)).symm.trans h0_) (by decide), Q_HO522, fun h0_ => absurd ((hoff 32 (by kernel_rfl)).symm.trans h0_) (by decide), fun h0_ => absurd ((hoff 33 (by kernel_rfl)).symm.trans h0_) (by decide)⟩
         refine steps_cons ?_ ?_
         ·rintro b a w' ⟨v515, v521, m32_, m33_, ha, Q_HB, Q_HO516, Q_HO522, Q_X32_, Q_X33_⟩ hb_ hon hoff
          refine ⟨_, rfl, fun K hK => ?_⟩
          have e19 : a.tmps[19]? = some (.pointer (some (ad511.add ((x5_1).toNat * 3)))) := by rw [ha]; exact putSel_on (e := (2, 19, .pointer (some (ad511.add ((x5_1).toNat * 3))))) 0 rfl rfl (hon 2 (by kernel_rfl)) rfl
          replace ha := Aside0.mk ha
          have HB := Aside0.mk Q_HB
          refine value_ (w1 := w') (v := .pointer (some (ad511.add ((x5_1).toNat * 3)))) (by rfl) rfl ?_ ?_
          ·go_simp
           (try simp only [i64_w])
           try rfl
          refine hK.out _ _ ⟨v515, v521, m32_, m33_, (by rw [ha.out]; exact putSel_upk 1 hb_ rfl rfl rfl), Q_HB, fun h0_ => absurd ((hoff 15 (by kernel_rfl)).symm.trans h0_) (by decide), Q_HO522, fun h0_ => absurd ((hoff 32 (by kernel_rfl)).symm.trans h0_) (by decide), fun h0_ => absurd ((hoff 33 (by kernel_rfl)).symm.trans h0_) (by decide)⟩
         refine steps_cons ?_ ?_
         ·rintro b a w' ⟨v515, v521, m32_, m33_, ha, Q_HB, Q_HO516, Q_HO522, Q_X32_, Q_X33_⟩ hb_ hon hoff
          refine ⟨_, rfl, fun K hK => ?_⟩
          have e20 : a.tmps[20]? = some (.pointer (some (ad511.add ((x5_1).toNat * 3)))) := by rw [ha]; exact putSel_on (e := (3, 20, .pointer (some (ad511.add ((x5_1).toNat * 3))))) 1 rfl rfl (hon 3 (by kernel_rfl)) rfl
          replace ha := Aside0.mk ha
          have HB := Aside0.mk Q_HB
          have hs0_ : w'.cell? (ad511.add ((x5_1).toNat * 3)) = some (.int .i64 ((rd_T59 l0 x5_1).f0)) := (cB HB hw511_0 :)
          have hs1_ : w'.cell? ⟨(ad511.add ((x5_1).toNat * 3)).block, (ad511.add ((x5_1).toNat * 3)).off + 1, none⟩ = some (.int .i64 ((rd_T59 l0 x5_1).f1)) := (cB HB hw511_1 :)
          have hs2_ : w'.cell? ⟨(ad511.add ((x5_1).toNat * 3)).block, (ad511.add ((x5_1).toNat * 3)).off + 2, none⟩ = some (.int .i64 ((rd_T59 l0 x5_1).f2)) := (cB HB hw511_2 :)
          refine value_ (w1 := w') (v := .int .i64 ((rd_T59 l0 x5_1).f0)) (by rfl) rfl ?_ ?_
          ·go_simp
           (try simp only [i64_w])
           try rfl
          refine hK.out _ _ ⟨v515, v521, m32_, m33_, (by rw [ha.out]; exact putSel_upk 2 hb_ rfl rfl rfl), Q_HB, fun h0_ => absurd ((hoff 15 (by kernel_rfl)).symm.trans h0_) (by decide), Q_HO522, fun h0_ => absurd ((hoff 32 (by kernel_rfl)).symm.trans h0_) (by decide), fun h0_ => absurd ((hoff 33 (by kernel_rfl)).symm.trans h0_) (by decide)⟩
         refine steps_cons ?_ ?_
         ·rintro b a w' ⟨v515, v521, m32_, m33_, ha, Q_HB, Q_HO516, Q_HO522, Q_X32_, Q_X33_⟩ hb_ hon hoff
          refine ⟨_, rfl, fun K hK => ?_⟩
          have e22 : a.tmps[22]? = some (.slice (some ad511) l0.length c0) := by rw [ha]; exact (putSel_off rfl).trans rfl
          have e23 : a.tmps[23]? = some (.int .i64 x5_1) := by rw [ha]; exact (putSel_off rfl).trans rfl
          replace ha := Aside0.mk ha
          have HB := Aside0.mk Q_HB
          have hs3_ : w'.cell? (ad511.add ((x5_1).toNat * 3)) = some (.int .i64 ((rd_T59 l0 x5_1).f0)) := (cB HB hw512_0 :)
          have hs4_ : w'.cell? ⟨(ad511.add ((x5_1).toNat * 3)).block, (ad511.add ((x5_1).toNat * 3)).off + 1, none⟩ = some (.int .i64 ((rd_T59 l0 x5_1).f1)) := (cB HB hw512_1 :)
          have hs5_ : w'.cell? ⟨(ad511.add ((x5_1).toNat * 3)).block, (ad511.add ((x5_1).toNat * 3)).off + 2, none⟩ = some (.int .i64 ((rd_T59 l0 x5_1).f2)) := (cB HB hw512_2 :)
          refine value_ (w1 := w') (v := .pointer (some (ad511.add ((x5_1).toNat * 3)))) (by rfl) rfl ?_ ?_
          ·go_simp
           (try simp only [i64_w])
           try rfl
          refine hK.out _ _ ⟨v515, v521, m32_, m33_, (by rw [ha.out]; exact putSel_upk 3 hb_ rfl rfl rfl), Q_HB, fun h0_ => absurd ((hoff 15 (by kernel_rfl)).symm.trans h0_) (by decide), Q_HO522, fun h0_ => absurd ((hoff 32 (by kernel_rfl)).symm.trans h0_) (by decide), fun h0_ => absurd ((hoff 33 (by kernel_rfl)).symm.trans h0_) (by decide)⟩
         refine steps_cons ?_ ?_
         ·rintro b a w' ⟨v515, v521, m32_, m33_, ha, Q_HB, Q_HO516, Q_HO522, Q_X32_, Q_X33_⟩ hb_ hon hoff
          refine ⟨_, rfl, fun K hK => ?_⟩
          have e24 : a.tmps[24]? = some (.pointer (some (ad511.add ((x5_1).toNat * 3)))) := by rw [ha]; exact putSel_on (e := (7, 24, .pointer (some (ad511.add ((x5_1).toNat * 3))))) 3 rfl rfl (hon 7 (by kernel_rfl)) rfl
          replace ha := Aside0.mk ha
          have HB := Aside0.mk Q_HB
          refine value_ (w1 := w') (v := .pointer (some ⟨(ad511.add ((x5_1).toNat * 3)).block, (ad511.add ((x5_1).toNat * 3)).off + 1, none⟩)) (by rfl) rfl ?_ ?_
          ·go_simp
           (try simp only [i64_w])
           try rfl
          refine hK.out _ _ ⟨v515, v521, m32_, m33_, (by rw [ha.out]; exact putSel_upk 4 hb_ rfl rfl rfl), Q_HB, fun h0_ => absurd ((hoff 15 (by kernel_rfl)).symm.trans h0_) (by decide), Q_HO522, fun h0_ => absurd ((hoff 32 (by kernel_rfl)).symm.trans h0_) (by decide), fun h0_ => absurd ((hoff 33 (by kernel_rfl)).symm.trans h0_) (by decide)⟩
         refine steps_cons ?_ ?_
         ·rintro b a w' ⟨v515, v521, m32_, m33_, ha, Q_HB, Q_HO516, Q_HO522, Q_X32_, Q_X33_⟩ hb_ hon hoff
          refine ⟨_, rfl, fun K hK => ?_⟩
          have e25 : a.tmps[25]? = some (.pointer (some ⟨(ad511.add ((x5_1).toNat * 3)).block, (ad511.add ((x5_1).toNat * 3)).off + 1, none⟩)) := by rw [ha]; exact putSel_on (e := (8, 25, .pointer (some ⟨(ad511.add ((x5_1).toNat * 3)).block, (ad511.add ((x5_1).toNat * 3)).off + 1, none⟩))) 4 rfl rfl (hon 8 (by kernel_rfl)) rfl
          replace ha := Aside0.mk ha
          have HB := Aside0.mk Q_HB
          have hs3_ : w'.cell? (ad511.add ((x5_1).toNat * 3)) = some (.int .i64 ((rd_T59 l0 x5_1).f0)) := (cB HB hw512_0 :)
          have hs4_ : w'.cell? ⟨(ad511.add ((x5_1).toNat * 3)).block, (ad511.add ((x5_1).toNat * 3)).off + 1, none⟩ = some (.int .i64 ((rd_T59 l0 x5_1).f1)) := (cB HB hw512_1 :)
          have hs5_ : w'.cell? ⟨(ad511.add ((x5_1).toNat * 3)).block, (ad511.add ((x5_1).toNat * 3)).off + 2, none⟩ = some (.int .i64 ((rd_T59 l0 x5_1).f2)) := (cB HB hw512_2 :)
          refine value_ (w1 := w') (v := .int .i64 ((rd_T59 l0 x5_1).f1)) (by rfl) rfl ?_ ?_
          ·go_simp
           (try simp only [i64_w])
           try rfl
          refine hK.out _ _ ⟨v515, v521, m32_, m33_, (by rw [ha.out]; exact putSel_upk 5 hb_ rfl rfl rfl), Q_HB, fun h0_ => absurd ((hoff 15 (by kernel_rfl)).symm.trans h0_) (by decide), Q_HO522, fun h0_ => absurd ((hoff 32 (by kernel_rfl)).symm.trans h0_) (by decide), fun h0_ => absurd ((hoff 33 (by kernel_rfl)).symm.trans h0_) (by decide)⟩
         refine steps_cons ?_ ?_
         ·rintro b a w' ⟨v515, v521, m32_, m33_, ha, Q_HB, Q_HO516, Q_HO522, Q_X32_, Q_X33_⟩ hb_ hon hoff
          refine ⟨_, rfl, fun K hK => ?_⟩
          have e27 : a.tmps[27]? = some (.slice (some ad511) l0.length c0) := by rw [ha]; exact (putSel_off rfl).trans rfl
          have e28 : a.tmps[28]? = some (.int .i64 x5_1) := by rw [ha]; exact (putSel_off rfl).trans rfl
          replace ha := Aside0.mk ha
          have HB := Aside0.mk Q_HB
          have hs6_ : w'.cell? (ad511.add ((x5_1).toNat * 3)) = some (.int .i64 ((rd_T59 l0 x5_1).f0)) := (cB HB hw513_0 :)
          have hs7_ : w'.cell? ⟨(ad511.add ((x5_1).toNat * 3)).block, (ad511.add ((x5_1).toNat * 3)).off + 1, none⟩ = some (.int .i64 ((rd_T59 l0 x5_1).f1)) := (cB HB hw513_1 :)
          have hs8_ : w'.cell? ⟨(ad511.add ((x5_1).toNat * 3)).block, (ad511.add ((x5_1).toNat * 3)).off + 2, none⟩ = some (.int .i64 ((rd_T59 l0 x5_1).f2)) := (cB HB hw513_2 :)
          refine value_ (w1 := w') (v := .pointer (some (ad511.add ((x5_1).toNat * 3)))) (by rfl) rfl ?_ ?_
          ·go_simp
           (try simp only [i64_w])
           try rfl
          refine hK.out _ _ ⟨v515, v521, m32_, m33_, (by rw [ha.out]; exact putSel_upk 6 hb_ rfl rfl rfl), Q_HB, fun h0_ => absurd ((hoff 15 (by kernel_rfl)).symm.trans h0_) (by decide), Q_HO522, fun h0_ => absurd ((hoff 32 (by kernel_rfl)).symm.trans h0_) (by decide), fun h0_ => absurd ((hoff 33 (by kernel_rfl)).symm.trans h0_) (by decide)⟩
         refine steps_cons ?_ ?_
         ·rintro b a w' ⟨v515, v521, m32_, m33_, ha, Q_HB, Q_HO516, Q_HO522, Q_X32_, Q_X33_⟩ hb_ hon hoff
          refine ⟨_, rfl, fun K hK => ?_⟩
          have e29 : a.tmps[29]? = some (.pointer (some (ad511.add ((x5_1).toNat * 3)))) := by rw [ha]; exact putSel_on (e := (12, 29, .pointer (some (ad511.add ((x5_1).toNat * 3))))) 6 rfl rfl (hon 12 (by kernel_rfl)) rfl
          replace ha := Aside0.mk ha
          have HB := Aside0.mk Q_HB
          refine value_ (w1 := w') (v := .pointer (some ⟨(ad511.add ((x5_1).toNat * 3)).block, (ad511.add ((x5_1).toNat * 3)).off + 2, none⟩)) (by rfl) rfl ?_ ?_
          ·go_simp
           (try simp only [i64_w])
           try rfl
          refine hK.out _ _ ⟨v515, v521, m32_, m33_, (by rw [ha.out]; exact putSel_upk 7 hb_ rfl rfl rfl), Q_HB, fun h0_ => absurd ((hoff 15 (by kernel_rfl)).symm.trans h0_) (by decide), Q_HO522, fun h0_ => absurd ((hoff 32 (by kernel_rfl)).symm.trans h0_) (by decide), fun h0_ => absurd ((hoff 33 (by kernel_rfl)).symm.trans h0_) (by decide)⟩
         refine steps_cons ?_ ?_
         ·rintro b a w' ⟨v515, v521, m32_, m33_, ha, Q_HB, Q_HO516, Q_HO522, Q_X32_, Q_X33_⟩ hb_ hon hoff
          refine ⟨_, rfl, fun K hK => ?_⟩
          have e30 : a.tmps[30]? = some (.pointer (some ⟨(ad511.add ((x5_1).toNat * 3)).block, (ad511.add ((x5_1).toNat * 3)).off + 2, none⟩)) := by rw [ha]; exact putSel_on (e := (13, 30, .pointer (some ⟨(ad511.add ((x5_1).toNat * 3)).block, (ad511.add ((x5_1).toNat * 3)).off + 2, none⟩))) 7 rfl rfl (hon 13 (by kernel_rfl)) rfl
          replace ha := Aside0.mk ha
          have HB := Aside0.mk Q_HB
          have hs6_ : w'.cell? (ad511.add ((x5_1).toNat * 3)) = some (.int .i64 ((rd_T59 l0 x5_1).f0)) := (cB HB hw513_0 :)
          have hs7_ : w'.cell? ⟨(ad511.add ((x5_1).toNat * 3)).block, (ad511.add ((x5_1).toNat * 3)).off + 1, none⟩ = some (.int .i64 ((rd_T59 l0 x5_1).f1)) := (cB HB hw513_1 :)
          have hs8_ : w'.cell? ⟨(ad511.add ((x5_1).toNat * 3)).block, (ad511.add ((x5_1).toNat * 3)).off + 2, none⟩ = some (.int .i64 ((rd_T59 l0 x5_1).f2)) := (cB HB hw513_2 :)
          refine value_ (w1 := w') (v := .int .i64 ((rd_T59 l0 x5_1).f2)) (by rfl) rfl ?_ ?_
          ·go_simp
           (try simp only [i64_w])
           try rfl
          refine hK.out _ _ ⟨v515, v521, m32_, m33_, (by rw [ha.out]; exact putSel_upk 8 hb_ rfl rfl rfl), Q_HB, fun h0_ => absurd ((hoff 15 (by kernel_rfl)).symm.trans h0_) (by decide), Q_HO522, fun h0_ => absurd ((hoff 32 (by kernel_rfl)).symm.trans h0_) (by decide), fun h0_ => absurd ((hoff 33 (by kernel_rfl)).symm.trans h0_) (by decide)⟩
         refine steps_cons ?_ ?_
         ·rintro b a w' ⟨v515, v521, m32_, m33_, ha, Q_HB, Q_HO516, Q_HO522, Q_X32_, Q_X33_⟩ hb_ hon hoff
          refine ⟨_, rfl, fun K hK => ?_⟩
          have e21 : a.tmps[21]? = some (.int .i64 ((rd_T59 l0 x5_1).f0)) := by rw [ha]; exact putSel_on (e := (4, 21, .int .i64 ((rd_T59 l0 x5_1).f0))) 2 rfl rfl (hon 4 (by kernel_rfl)) rfl
          have e26 : a.tmps[26]? = some (.int .i64 ((rd_T59 l0 x5_1).f1)) := by rw [ha]; exact putSel_on (e := (9, 26, .int .i64 ((rd_T59 l0 x5_1).f1))) 5 rfl rfl (hon 9 (by kernel_rfl)) rfl
          have e31 : a.tmps[31]? = some (.int .i64 ((rd_T59 l0 x5_1).f2)) := by rw [ha]; exact putSel_on (e := (14, 31, .int .i64 ((rd_T59 l0 x5_1).f2))) 8 rfl rfl (hon 14 (by kernel_rfl)) rfl
          replace ha := Aside0.mk ha
          have HB := Aside0.mk Q_HB
          refine Kd.R_lit_step (Kd.int .i64) _ 3 ?hg (N := 32) ?hd (xs := ([(rd_T59 l0 x5_1).f0, (rd_T59 l0 x5_1).f1, (rd_T59 l0 x5_1).f2] : List Int)) (inner := [.int .i64 ((rd_T59 l0 x5_1).f0), .int .i64 ((rd_T59 l0 x5_1).f1), .int .i64 ((rd_T59 l0 x5_1).f2)]) (ok := fun _ => True) (okp := fun _ => True) ?hr ?hp (fun _ hk => hk) trivial (Below.refl _ _) (Nat.le_refl _) (by simp) ?_; (case hd => rfl); (case hg => rfl); (case hr => first | (go_simp; done) | (go_simp; rfl)); (case hp => exact (Reps.one (show Kd.M (Kd.int .i64) _ _ _ ((rd_T59 l0 x5_1).f0) [.int .i64 ((rd_T59 l0 x5_1).f0)] from rfl) (Reps.one (show Kd.M (Kd.int .i64) _ _ _ ((rd_T59 l0 x5_1).f1) [.int .i64 ((rd_T59 l0 x5_1).f1)] from rfl) (Reps.one (show Kd.M (Kd.int .i64) _ _ _ ((rd_T59 l0 x5_1).f2) [.int .i64 ((rd_T59 l0 x5_1).f2)] from rfl) (Reps.none _ _)))))
          intro v515 w11 ho12 hb hg_ hnew_
          clear hg_ hnew_
          (first | rw [← Ny514.out] at ho12 | (simp only [Int.reduceToNat] at ho12; rw [← Ny514.out] at ho12))
          have n0_ := Aside0.mk (Kd.R_lower ho12 (below_size (bw HB)))
          have n1_ := Aside0.mk (below_step (bw HB) hb)
          have z_HO522 := fun (h0_ : b 31 = true) => (show Kd.R (Kd.int .i64) 3 w11 w.heap.size (fun _ => True) v521 y520 from by first | exact (Kd.R_elder' (by (with_reducible repeat (first | apply Kd.R_alloc | apply Kd.R_drewN | apply Kd.R_drew)); exact (Q_HO522 h0_)) (Kd.R_base ho12) hb) | exact Kd.R_mono (Kd.R_elder' (by (with_reducible repeat (first | apply Kd.R_alloc | apply Kd.R_drewN | apply Kd.R_drew)); exact (Q_HO522 h0_)) (Kd.R_base ho12) hb) (fun _ h_ => by first | trivial | exact h_ | exact h_.1))
          clear HB
          have HO516 := n0_
          have HB := n1_
          clear n0_ n1_
          clear hb ho12
          refine hK.out _ _ ⟨v515, v521, m32_, m33_, (by rw [ha.out]; exact putSel_upk 9 hb_ rfl rfl rfl), (bw HB), fun _ => (by (with_reducible repeat (first | apply Kd.R_alloc | apply Kd.R_drewN | apply Kd.R_drew)); exact HO516.out), z_HO522, fun h0_ => absurd ((hoff 32 (by kernel_rfl)).symm.trans h0_) (by decide), fun h0_ => absurd ((hoff 33 (by kernel_rfl)).symm.trans h0_) (by decide)⟩
         refine steps_cons ?_ ?_
         ·rintro b a w' ⟨v515, v521, m32_, m33_, ha, Q_HB, Q_HO516, Q_HO522, Q_X32_, Q_X33_⟩ hb_ hon hoff
          refine ⟨_, rfl, fun K hK => ?_⟩
          have e33 : a.tmps[33]? = some (.slice (some ad517) l1.length c1) := by rw [ha]; exact (putSel_off rfl).trans rfl
          have e34 : a.tmps[34]? = some (.int .i64 x5_1) := by rw [ha]; exact (putSel_off rfl).trans rfl
          replace ha := Aside0.mk ha
          have HB := Aside0.mk Q_HB
          have hs9_ : w'.cell? (ad517.add ((x5_1).toNat * 3)) = some (.int .i64 ((rd_T59 l1 x5_1).f0)) := (cB HB hw517_0 :)
          have hs10_ : w'.cell? ⟨(ad517.add ((x5_1).toNat * 3)).block, (ad517.add ((x5_1).toNat * 3)).off + 1, none⟩ = some (.int .i64 ((rd_T59 l1 x5_1).f1)) := (cB HB hw517_1 :)
          have hs11_ : w'.cell? ⟨(ad517.add ((x5_1).toNat * 3)).block, (ad517.add ((x5_1).toNat * 3)).off + 2, none⟩ = some (.int .i64 ((rd_T59 l1 x5_1).f2)) := (cB HB hw517_2 :)
          refine value_ (w1 := w') (v := .pointer (some (ad517.add ((x5_1).toNat * 3)))) (by rfl) rfl ?_ ?_
          ·go_simp
           (try simp only [i64_w])
           try rfl
          refine hK.out _ _ ⟨v515, v521, m32_, m33_, (by rw [ha.out]; exact putSel_upk 10 hb_ rfl rfl rfl), Q_HB, Q_HO516, fun h0_ => absurd ((hoff 31 (by kernel_rfl)).symm.trans h0_) (by decide), Q_X32_, fun h0_ => absurd ((hoff 33 (by kernel_rfl)).symm.trans h0_) (by decide)⟩
         refine steps_cons ?_ ?_
         ·rintro b a w' ⟨v515, v521, m32_, m33_, ha, Q_HB, Q_HO516, Q_HO522, Q_X32_, Q_X33_⟩ hb_ hon hoff
          refine ⟨_, rfl, fun K hK => ?_⟩
          have e35 : a.tmps[35]? = some (.pointer (some (ad517.add ((x5_1).toNat * 3)))) := by rw [ha]; exact putSel_on (e := (18, 35, .pointer (some (ad517.add ((x5_1).toNat * 3))))) 10 rfl rfl (hon 18 (by kernel_rfl)) rfl
          replace ha := Aside0.mk ha
          have HB := Aside0.mk Q_HB
          refine value_ (w1 := w') (v := .pointer (some (ad517.add ((x5_1).toNat * 3)))) (by rfl) rfl ?_ ?_
          ·go_simp
           (try simp only [i64_w])
           try rfl
          refine hK.out _ _ ⟨v515, v521, m32_, m33_, (by rw [ha.out]; exact putSel_upk 11 hb_ rfl rfl rfl), Q_HB, Q_HO516, fun h0_ => absurd ((hoff 31 (by kernel_rfl)).symm.trans h0_) (by decide), Q_X32_, fun h0_ => absurd ((hoff 33 (by kernel_rfl)).symm.trans h0_) (by decide)⟩
         refine steps_cons ?_ ?_
         ·rintro b a w' ⟨v515, v521, m32_, m33_, ha, Q_HB, Q_HO516, Q_HO522, Q_X32_, Q_X33_⟩ hb_ hon hoff
          refine ⟨_, rfl, fun K hK => ?_⟩
          have e36 : a.tmps[36]? = some (.pointer (some (ad517.add ((x5_1).toNat * 3)))) := by rw [ha]; exact putSel_on (e := (19, 36, .pointer (some (ad517.add ((x5_1).toNat * 3))))) 11 rfl rfl (hon 19 (by kernel_rfl)) rfl
          replace ha := Aside0.mk ha
          have HB := Aside0.mk Q_HB
          have hs9_ : w'.cell? (ad517.add ((x5_1).toNat * 3)) = some (.int .i64 ((rd_T59 l1 x5_1).f0)) := (cB HB hw517_0 :)
          have hs10_ : w'.cell? ⟨(ad517.add ((x5_1).toNat * 3)).block, (ad517.add ((x5_1).toNat * 3)).off + 1, none⟩ = some (.int .i64 ((rd_T59 l1 x5_1).f1)) := (cB HB hw517_1 :)
          have hs11_ : w'.cell? ⟨(ad517.add ((x5_1).toNat * 3)).block, (ad517.add ((x5_1).toNat * 3)).off + 2, none⟩ = some (.int .i64 ((rd_T59 l1 x5_1).f2)) := (cB HB hw517_2 :)
          refine value_ (w1 := w') (v := .int .i64 ((rd_T59 l1 x5_1).f0)) (by rfl) rfl ?_ ?_
          ·go_simp
           (try simp only [i64_w])
           try rfl
          refine hK.out _ _ ⟨v515, v521, m32_, m33_, (by rw [ha.out]; exact putSel_upk 12 hb_ rfl rfl rfl), Q_HB, Q_HO516, fun h0_ => absurd ((hoff 31 (by kernel_rfl)).symm.trans h0_) (by decide), Q_X32_, fun h0_ => absurd ((hoff 33 (by kernel_rfl)).symm.trans h0_) (by decide)⟩
         refine steps_cons ?_ ?_
         ·rintro b a w' ⟨v515, v521, m32_, m33_, ha, Q_HB, Q_HO516, Q_HO522, Q_X32_, Q_X33_⟩ hb_ hon hoff
          refine ⟨_, rfl, fun K hK => ?_⟩
          have e38 : a.tmps[38]? = some (.slice (some ad517) l1.length c1) := by rw [ha]; exact (putSel_off rfl).trans rfl
          have e39 : a.tmps[39]? = some (.int .i64 x5_1) := by rw [ha]; exact (putSel_off rfl).trans rfl
          replace ha := Aside0.mk ha
          have HB := Aside0.mk Q_HB
          have hs12_ : w'.cell? (ad517.add ((x5_1).toNat * 3)) = some (.int .i64 ((rd_T59 l1 x5_1).f0)) := (cB HB hw518_0 :)
          have hs13_ : w'.cell? ⟨(ad517.add ((x5_1).toNat * 3)).block, (ad517.add ((x5_1).toNat * 3)).off + 1, none⟩ = some (.int .i64 ((rd_T59 l1 x5_1).f1)) := (cB HB hw518_1 :)
          have hs14_ : w'.cell? ⟨(ad517.add ((x5_1).toNat * 3)).block, (ad517.add ((x5_1).toNat * 3)).off + 2, none⟩ = some (.int .i64 ((rd_T59 l1 x5_1).f2)) := (cB HB hw518_2 :)
          refine value_ (w1 := w') (v := .pointer (some (ad517.add ((x5_1).toNat * 3)))) (by rfl) rfl ?_ ?_
          ·go_simp
           (try simp only [i64_w])
           try rfl
          refine hK.out _ _ ⟨v515, v521, m32_, m33_, (by rw [ha.out]; exact putSel_upk 13 hb_ rfl rfl rfl), Q_HB, Q_HO516, fun h0_ => absurd ((hoff 31 (by kernel_rfl)).symm.trans h0_) (by decide), Q_X32_, fun h0_ => absurd ((hoff 33 (by kernel_rfl)).symm.trans h0_) (by decide)⟩
         refine steps_cons ?_ ?_
         ·rintro b a w' ⟨v515, v521, m32_, m33_, ha, Q_HB, Q_HO516, Q_HO522, Q_X32_, Q_X33_⟩ hb_ hon hoff
          refine ⟨_, rfl, fun K hK => ?_⟩
          have e40 : a.tmps[40]? = some (.pointer (some (ad517.add ((x5_1).toNat * 3)))) := by rw [ha]; exact putSel_on (e := (23, 40, .pointer (some (ad517.add ((x5_1).toNat * 3))))) 13 rfl rfl (hon 23 (by kernel_rfl)) rfl
          replace ha := Aside0.mk ha
          have HB := Aside0.mk Q_HB
          refine value_ (w1 := w') (v := .pointer (some ⟨(ad517.add ((x5_1).toNat * 3)).block, (ad517.add ((x5_1).toNat * 3)).off + 1, none⟩)) (by rfl) rfl ?_ ?_
          ·go_simp
           (try simp only [i64_w])
           try rfl
          refine hK.out _ _ ⟨v515, v521, m32_, m33_, (by rw [ha.out]; exact putSel_upk 14 hb_ rfl rfl rfl), Q_HB, Q_HO516, fun h0_ => absurd ((hoff 31 (by kernel_rfl)).symm.trans h0_) (by decide), Q_X32_, fun h0_ => absurd ((hoff 33 (by kernel_rfl)).symm.trans h0_) (by decide)⟩
         refine steps_cons ?_ ?_
         ·rintro b a w' ⟨v515, v521, m32_, m33_, ha, Q_HB, Q_HO516, Q_HO522, Q_X32_, Q_X33_⟩ hb_ hon hoff
          refine ⟨_, rfl, fun K hK => ?_⟩
          have e41 : a.tmps[41]? = some (.pointer (some ⟨(ad517.add ((x5_1).toNat * 3)).block, (ad517.add ((x5_1).toNat * 3)).off + 1, none⟩)) := by rw [ha]; exact putSel_on (e := (24, 41, .pointer (some ⟨(ad517.add ((x5_1).toNat * 3)).block, (ad517.add ((x5_1).toNat * 3)).off + 1, none⟩))) 14 rfl rfl (hon 24 (by kernel_rfl)) rfl
          replace ha := Aside0.mk ha
          have HB := Aside0.mk Q_HB
          have hs12_ : w'.cell? (ad517.add ((x5_1).toNat * 3)) = some (.int .i64 ((rd_T59 l1 x5_1).f0)) := (cB HB hw518_0 :)
          have hs13_ : w'.cell? ⟨(ad517.add ((x5_1).toNat * 3)).block, (ad517.add ((x5_1).toNat * 3)).off + 1, none⟩ = some (.int .i64 ((rd_T59 l1 x5_1).f1)) := (cB HB hw518_1 :)
          have hs14_ : w'.cell? ⟨(ad517.add ((x5_1).toNat * 3)).block, (ad517.add ((x5_1).toNat * 3)).off + 2, none⟩ = some (.int .i64 ((rd_T59 l1 x5_1).f2)) := (cB HB hw518_2 :)
          refine value_ (w1 := w') (v := .int .i64 ((rd_T59 l1 x5_1).f1)) (by rfl) rfl ?_ ?_
          ·go_simp
           (try simp only [i64_w])
           try rfl
          refine hK.out _ _ ⟨v515, v521, m32_, m33_, (by rw [ha.out]; exact putSel_upk 15 hb_ rfl rfl rfl), Q_HB, Q_HO516, fun h0_ => absurd ((hoff 31 (by kernel_rfl)).symm.trans h0_) (by decide), Q_X32_, fun h0_ => absurd ((hoff 33 (by kernel_rfl)).symm.trans h0_) (by decide)⟩
         refine steps_cons ?_ ?_
         ·rintro b a w' ⟨v515, v521, m32_, m33_, ha, Q_HB, Q_HO516, Q_HO522, Q_X32_, Q_X33_⟩ hb_ hon hoff
          refine ⟨_, rfl, fun K hK => ?_⟩
          have e43 : a.tmps[43]? = some (.slice (some ad517) l1.length c1) := by rw [ha]; exact (putSel_off rfl).trans rfl
          have e44 : a.tmps[44]? = some (.int .i64 x5_1) := by rw [ha]; exact (putSel_off rfl).trans rfl
          replace ha := Aside0.mk ha
          have HB := Aside0.mk Q_HB
          have hs15_ : w'.cell? (ad517.add ((x5_1).toNat * 3)) = some (.int .i64 ((rd_T59 l1 x5_1).f0)) := (cB HB hw519_0 :)
          have hs16_ : w'.cell? ⟨(ad517.add ((x5_1).toNat * 3)).block, (ad517.add ((x5_1).toNat * 3)).off + 1, none⟩ = some (.int .i64 ((rd_T59 l1 x5_1).f1)) := (cB HB hw519_1 :)
          have hs17_ : w'.cell? ⟨(ad517.add ((x5_1).toNat * 3)).block, (ad517.add ((x5_1).toNat * 3)).off + 2, none⟩ = some (.int .i64 ((rd_T59 l1 x5_1).f2)) := (cB HB hw519_2 :)
          refine value_ (w1 := w') (v := .pointer (some (ad517.add ((x5_1).toNat * 3)))) (by rfl) rfl ?_ ?_
          ·go_simp
           (try simp only [i64_w])
           try rfl
          refine hK.out _ _ ⟨v515, v521, m32_, m33_, (by rw [ha.out]; exact putSel_upk 16 hb_ rfl rfl rfl), Q_HB, Q_HO516, fun h0_ => absurd ((hoff 31 (by kernel_rfl)).symm.trans h0_) (by decide), Q_X32_, fun h0_ => absurd ((hoff 33 (by kernel_rfl)).symm.trans h0_) (by decide)⟩
         refine steps_cons ?_ ?_
         ·rintro b a w' ⟨v515, v521, m32_, m33_, ha, Q_HB, Q_HO516, Q_HO522, Q_X32_, Q_X33_⟩ hb_ hon hoff
          refine ⟨_, rfl, fun K hK => ?_⟩
          have e45 : a.tmps[45]? = some (.pointer (some (ad517.add ((x5_1).toNat * 3)))) := by rw [ha]; exact putSel_on (e := (28, 45, .pointer (some (ad517.add ((x5_1).toNat * 3))))) 16 rfl rfl (hon 28 (by kernel_rfl)) rfl
          replace ha := Aside0.mk ha
          have HB := Aside0.mk Q_HB
          refine value_ (w1 := w') (v := .pointer (some ⟨(ad517.add ((x5_1).toNat * 3)).block, (ad517.add ((x5_1).toNat * 3)).off + 2, none⟩)) (by rfl) rfl ?_ ?_
          ·go_simp
           (try simp only [i64_w])
           try rfl
          refine hK.out _ _ ⟨v515, v521, m32_, m33_, (by rw [ha.out]; exact putSel_upk 17 hb_ rfl rfl rfl), Q_HB, Q_HO516, fun h0_ => absurd ((hoff 31 (by kernel_rfl)).symm.trans h0_) (by decide), Q_X32_, fun h0_ => absurd ((hoff 33 (by kernel_rfl)).symm.trans h0_) (by decide)⟩
         refine steps_cons ?_ ?_
         ·rintro b a w' ⟨v515, v521, m32_, m33_, ha, Q_HB, Q_HO516, Q_HO522, Q_X32_, Q_X33_⟩ hb_ hon hoff
          refine ⟨_, rfl, fun K hK => ?_⟩
          have e46 : a.tmps[46]? = some (.pointer (some ⟨(ad517.add ((x5_1).toNat * 3)).block, (ad517.add ((x5_1).toNat * 3)).off + 2, none⟩)) := by rw [ha]; exact putSel_on (e := (29, 46, .pointer (some ⟨(ad517.add ((x5_1).toNat * 3)).block, (ad517.add ((x5_1).toNat * 3)).off + 2, none⟩))) 17 rfl rfl (hon 29 (by kernel_rfl)) rfl
          replace ha := Aside0.mk ha
          have HB := Aside0.mk Q_HB
          have hs15_ : w'.cell? (ad517.add ((x5_1).toNat * 3)) = some (.int .i64 ((rd_T59 l1 x5_1).f0)) := (cB HB hw519_0 :)
          have hs16_ : w'.cell? ⟨(ad517.add ((x5_1).toNat * 3)).block, (ad517.add ((x5_1).toNat * 3)).off + 1, none⟩ = some (.int .i64 ((rd_T59 l1 x5_1).f1)) := (cB HB hw519_1 :)
          have hs17_ : w'.cell? ⟨(ad517.add ((x5_1).toNat * 3)).block, (ad517.add ((x5_1).toNat * 3)).off + 2, none⟩ = some (.int .i64 ((rd_T59 l1 x5_1).f2)) := (cB HB hw519_2 :)
          refine value_ (w1 := w') (v := .int .i64 ((rd_T59 l1 x5_1).f2)) (by rfl) rfl ?_ ?_
          ·go_simp
           (try simp only [i64_w])
           try rfl
          refine hK.out _ _ ⟨v515, v521, m32_, m33_, (by rw [ha.out]; exact putSel_upk 18 hb_ rfl rfl rfl), Q_HB, Q_HO516, fun h0_ => absurd ((hoff 31 (by kernel_rfl)).symm.trans h0_) (by decide), Q_X32_, fun h0_ => absurd ((hoff 33 (by kernel_rfl)).symm.trans h0_) (by decide)⟩
         refine steps_cons ?_ ?_
         ·rintro b a w' ⟨v515, v521, m32_, m33_, ha, Q_HB, Q_HO516, Q_HO522, Q_X32_, Q_X33_⟩ hb_ hon hoff
          refine ⟨_, rfl, fun K hK => ?_⟩
          have e37 : a.tmps[37]? = some (.int .i64 ((rd_T59 l1 x5_1).f0)) := by rw [ha]; exact putSel_on (e := (20, 37, .int .i64 ((rd_T59 l1 x5_1).f0))) 12 rfl rfl (hon 20 (by kernel_rfl)) rfl
          have e42 : a.tmps[42]? = some (.int .i64 ((rd_T59 l1 x5_1).f1)) := by rw [ha]; exact putSel_on (e := (25, 42, .int .i64 ((rd_T59 l1 x5_1).f1))) 15 rfl rfl (hon 25 (by kernel_rfl)) rfl
          have e47 : a.tmps[47]? = some (.int .i64 ((rd_T59 l1 x5_1).f2)) := by rw [ha]; exact putSel_on (e := (30, 47, .int .i64 ((rd_T59 l1 x5_1).f2))) 18 rfl rfl (hon 30 (by kernel_rfl)) rfl
          replace ha := Aside0.mk ha
          have HB := Aside0.mk Q_HB
          refine Kd.R_lit_step (Kd.int .i64) _ 3 ?hg (N := 48) ?hd (xs := ([(rd_T59 l1 x5_1).f0, (rd_T59 l1 x5_1).f1, (rd_T59 l1 x5_1).f2] : List Int)) (inner := [.int .i64 ((rd_T59 l1 x5_1).f0), .int .i64 ((rd_T59 l1 x5_1).f1), .int .i64 ((rd_T59 l1 x5_1).f2)]) (ok := fun _ => True) (okp := fun _ => True) ?hr ?hp (fun _ hk => hk) trivial (Below.refl _ _) (Nat.le_refl _) (by simp) ?_; (case hd => rfl); (case hg => rfl); (case hr => first | (go_simp; done) | (go_simp; rfl)); (case hp => exact (Reps.one (show Kd.M (Kd.int .i64) _ _ _ ((rd_T59 l1 x5_1).f0) [.int .i64 ((rd_T59 l1 x5_1).f0)] from rfl) (Reps.one (show Kd.M (Kd.int .i64) _ _ _ ((rd_T59 l1 x5_1).f1) [.int .i64 ((rd_T59 l1 x5_1).f1)] from rfl) (Reps.one (show Kd.M (Kd.int .i64) _ _ _ ((rd_T59 l1 x5_1).f2) [.int .i64 ((rd_T59 l1 x5_1).f2)] from rfl) (Reps.none _ _)))))
          intro v521 w11 ho12 hb hg_ hnew_
          clear hg_ hnew_
          (first | rw [← Ny520.out] at ho12 | (simp only [Int.reduceToNat] at ho12; rw [← Ny520.out] at ho12))
          have n0_ := Aside0.mk (Kd.R_lower ho12 (below_size (bw HB)))
          have n1_ := Aside0.mk (below_step (bw HB) hb)
          have z_HO516 := fun (h0_ : b 15 = true) => (show Kd.R (Kd.int .i64) 3 w11 w.heap.size (fun _ => True) v515 y514 from by first | exact (Kd.R_elder' (by (with_reducible repeat (first | apply Kd.R_alloc | apply Kd.R_drewN | apply Kd.R_drew)); exact (Q_HO516 h0_)) (Kd.R_base ho12) hb) | exact Kd.R_mono (Kd.R_elder' (by (with_reducible repeat (first | apply Kd.R_alloc | apply Kd.R_drewN | apply Kd.R_drew)); exact (Q_HO516 h0_)) (Kd.R_base ho12) hb) (fun _ h_ => by first | trivial | exact h_ | exact h_.1))
          clear HB
          have HO522 := n0_
          have HB := n1_
          clear n0_ n1_
          clear hb ho12
          refine hK.out _ _ ⟨v515, v521, m32_, m33_, (by rw [ha.out]; exact putSel_upk 19 hb_ rfl rfl rfl), (bw HB), z_HO516, fun _ => (by (with_reducible repeat (first | apply Kd.R_alloc | apply Kd.R_drewN | apply Kd.R_drew)); exact HO522.out), Q_X32_, fun h0_ => absurd ((hoff 33 (by kernel_rfl)).symm.trans h0_) (by decide)⟩
         refine steps_cons ?_ ?_
         ·rintro b a w' ⟨v515, v521, m32_, m33_, ha, Q_HB, Q_HO516, Q_HO522, Q_X32_, Q_X33_⟩ hb_ hon hoff
          refine ⟨_, rfl, fun K hK => ?_⟩
          have e32 : a.tmps[32]? = some (v515) := by rw [ha]; exact putSel_on (e := (15, 32, v515)) 9 rfl rfl (hon 15 (by kernel_rfl)) rfl
          replace ha := Aside0.mk ha
          have HB := Aside0.mk Q_HB
          have HO516 := Aside0.mk (Q_HO516 (hon 15 (by kernel_rfl)))
          refine value_ (w1 := w') (v := v515) (by rfl) rfl ?_ ?_
          ·go_simp
           (try simp only [i64_w])
           try rfl
          refine hK.out _ _ ⟨v515, v521, (v515), m33_, (by rw [ha.out]; exact putSel_upk 20 hb_ rfl rfl rfl), Q_HB, Q_HO516, Q_HO522, fun _ => rfl, fun h0_ => absurd ((hoff 33 (by kernel_rfl)).symm.trans h0_) (by decide)⟩
         refine steps_cons ?_ ?_
         ·rintro b a w' ⟨v515, v521, m32_, m33_, ha, Q_HB, Q_HO516, Q_HO522, Q_X32_, Q_X33_⟩ hb_ hon hoff
          refine ⟨_, rfl, fun K hK => ?_⟩
          have e48 : a.tmps[48]? = some (v521) := by rw [ha]; exact putSel_on (e := (31, 48, v521)) 19 rfl rfl (hon 31 (by kernel_rfl)) rfl
          replace ha := Aside0.mk ha
          have HB := Aside0.mk Q_HB
          have HO516 := Aside0.mk (Q_HO516 (hon 15 (by kernel_rfl)))
          have HO522 := Aside0.mk (Q_HO522 (hon 31 (by kernel_rfl)))
          refine value_ (w1 := w') (v := v521) (by rfl) rfl ?_ ?_
          ·go_simp
           (try simp only [i64_w])
           try rfl
          refine hK.out _ _ ⟨v515, v521, m32_, (v521), (by rw [ha.out]; exact putSel_upk 21 hb_ rfl rfl rfl), Q_HB, Q_HO516, Q_HO522, Q_X32_, fun _ => rfl⟩
         exact steps_nil
        rintro b a w15 hall ⟨v515, v521, m32_, m33_, ha, Q_HB, Q_HO516, Q_HO522, Q_X32_, Q_X33_⟩
        clear HB
        have hb2_ := hall 2 (by kernel_rfl)
        have hb3_ := hall 3 (by kernel_rfl)
        have hb4_ := hall 4 (by kernel_rfl)
        have hb7_ := hall 7 (by kernel_rfl)
        have hb8_ := hall 8 (by kernel_rfl)
        have hb9_ := hall 9 (by kernel_rfl)
        have hb12_ := hall 12 (by kernel_rfl)
        have hb13_ := hall 13 (by kernel_rfl)
        have hb14_ := hall 14 (by kernel_rfl)
        have hb15_ := hall 15 (by kernel_rfl)
        have hb18_ := hall 18 (by kernel_rfl)
        have hb19_ := hall 19 (by kernel_rfl)
        have hb20_ := hall 20 (by kernel_rfl)
        have hb23_ := hall 23 (by kernel_rfl)
        have hb24_ := hall 24 (by kernel_rfl)
        have hb25_ := hall 25 (by kernel_rfl)
        have hb28_ := hall 28 (by kernel_rfl)
        have hb29_ := hall 29 (by kernel_rfl)
        have hb30_ := hall 30 (by kernel_rfl)
        have hb31_ := hall 31 (by kernel_rfl)
        have hb32_ := hall 32 (by kernel_rfl)
        have hb33_ := hall 33 (by kernel_rfl)
        subst ha
        obtain rfl := Q_X32_ hb32_
        obtain rfl := Q_X33_ hb33_
        simp only [putSel, hb2_, hb3_, hb4_, hb7_, hb8_, hb9_, hb12_, hb13_, hb14_, hb15_, hb18_, hb19_, hb20_, hb23_, hb24_, hb25_, hb28_, hb29_, hb30_, hb31_, hb32_, hb33_, if_true, Act.put, List.setIfInBounds_toArray, List.set_cons_zero, List.set_cons_succ]
        have HB := Aside0.mk Q_HB
        clear Q_HB
        have HO516 := Aside0.mk (Q_HO516 hb15_)
        clear Q_HO516
        have HO522 := Aside0.mk (Q_HO522 hb31_)
        clear Q_HO522
        clear hall hb2_ hb3_ hb4_ hb7_ hb8_ hb9_ hb12_ hb13_ hb14_ hb15_ hb18_ hb19_ hb20_ hb23_ hb24_ hb25_ hb28_ hb29_ hb30_ hb31_ hb32_ hb33_
        obtain ⟨Ao16, co16, eo16⟩ := Kd.R_slice HO516.out
        subst eo16
        obtain ⟨Ao17, co17, eo17⟩ := Kd.R_slice HO522.out
        subst eo17
        try go_wp2_with (first | ((with_reducible refine gate_callee (f := 17) rfl ?_); refine gL (some 51) Tryd.func17 #[.slice Ao16 y514.length co16, .slice Ao17 y520.length co17] ?_; (with_reducible refine (macadamref00_Like.calls k1 _ _ y514 _ _ y520 true _ ?side1 ?side2 ?side3 ?side4 A8.out).mono ?_); (case side1 => repeat (first | exact (Kd.R_reads' HO516.out).2.2 | (with_reducible refine Kd.C_alloc ?_ _) | (with_reducible refine Kd.C_drewN ?_ _) | (with_reducible refine Kd.C_drew ?_))); (case side2 => exact (Kd.R_reads' HO516.out).2.1); (case side3 => repeat (first | exact (Kd.R_reads' HO522.out).2.2 | (with_reducible refine Kd.C_alloc ?_ _) | (with_reducible refine Kd.C_drewN ?_ _) | (with_reducible refine Kd.C_drew ?_))); (case side4 => exact (Kd.R_reads' HO522.out).2.1); rintro e w' ⟨rfl, ⟨nd, rfl⟩⟩; refine ⟨_, rfl, ?_⟩))
        go_roundg k1
        case measure => have := HK1.out; omega
        case rel => exact ⟨(wrap64 (x5_1 + 1)), (by first | rfl | (simp; done) | (simp [*]; done)), H', ⟨by have := HK1.out; omega⟩, ⟨bw HB⟩⟩
       ·replace c9 := Bool.eq_false_iff.mpr c9
        subst c9
        have H1 : ((macadamref00_Sooner.f k1 y514 y520).bind fun t524 => (some t524)) = some r := by rw [if_neg (show ¬ (false = true) by decide)] at H; exact H
        clear H
        have H := H1
        clear H1
        replace H := Option.bind_eq_some_iff.mp H
        obtain ⟨t524, A180, H⟩ := H
        replace H : (some t524) = some r := H
        have A18 := Aside0.mk A180
        clear A180
        obtain rfl := Option.some.inj H
        try go_wp2
        have n0_ := Aside0.mk (below_drew1 HB.out)
        clear HB
        have HB := n0_
        clear n0_
        have p511 : 0 ≤ (x5_1 : Int) := of_decide_eq_true (by first | (with_reducible assumption) | assumption)
        have q511 : x5_1 < (l0.length : Int) := of_decide_eq_true (by first | (with_reducible assumption) | assumption)
        obtain ⟨ad511, e511, hx511_0, hx511_1, hx511_2⟩ := at_T59 HR0.out x5_1 p511 q511
        have hw511_2 := hx511_2
        have hw511_1 := hx511_1
        have hw511_0 := hx511_0
        cases e511
        replace hx511_0 := cB HB hx511_0
        replace hx511_1 := cB HB hx511_1
        replace hx511_2 := cB HB hx511_2
        replace p511 := eq_true p511
        replace q511 := eq_true q511
        have p512 : 0 ≤ (x5_1 : Int) := of_decide_eq_true (by first | (with_reducible assumption) | assumption)
        have q512 : x5_1 < (l0.length : Int) := of_decide_eq_true (by first | (with_reducible assumption) | assumption)
        obtain ⟨ad512, e512, hx512_0, hx512_1, hx512_2⟩ := at_T59 HR0.out x5_1 p512 q512
        have hw512_2 := hx512_2
        have hw512_1 := hx512_1
        have hw512_0 := hx512_0
        obtain rfl : ad511 = ad512 := (by injection e512)
        replace hx512_0 := cB HB hx512_0
        replace hx512_1 := cB HB hx512_1
        replace hx512_2 := cB HB hx512_2
        replace p512 := eq_true p512
        replace q512 := eq_true q512
        have p513 : 0 ≤ (x5_1 : Int) := of_decide_eq_true (by first | (with_reducible assumption) | assumption)
        have q513 : x5_1 < (l0.length : Int) := of_decide_eq_true (by first | (with_reducible assumption) | assumption)
        obtain ⟨ad513, e513, hx513_0, hx513_1, hx513_2⟩ := at_T59 HR0.out x5_1 p513 q513
        have hw513_2 := hx513_2
        have hw513_1 := hx513_1
        have hw513_0 := hx513_0
        obtain rfl : ad511 = ad513 := (by injection e513)
        replace hx513_0 := cB HB hx513_0
        replace hx513_1 := cB HB hx513_1
        replace hx513_2 := cB HB hx513_2
        replace p513 := eq_true p513
        replace q513 := eq_true q513
        have p517 : 0 ≤ (x5_1 : Int) := of_decide_eq_true (by first | (with_reducible assumption) | assumption)
        have q517 : x5_1 < (l1.length : Int) := of_decide_eq_true (by first | (with_reducible assumption) | assumption)
        obtain ⟨ad517, e517, hx517_0, hx517_1, hx517_2⟩ := at_T59 HR1.out x5_1 p517 q517
        have hw517_2 := hx517_2
        have hw517_1 := hx517_1
        have hw517_0 := hx517_0
        cases e517
        replace hx517_0 := cB HB hx517_0
        replace hx517_1 := cB HB hx517_1
        replace hx517_2 := cB HB hx517_2
        replace p517 := eq_true p517
        replace q517 := eq_true q517
        have p518 : 0 ≤ (x5_1 : Int) := of_decide_eq_true (by first | (with_reducible assumption) | assumption)
        have q518 : x5_1 < (l1.length : Int) := of_decide_eq_true (by first | (with_reducible assumption) | assumption)
        obtain ⟨ad518, e518, hx518_0, hx518_1, hx518_2⟩ := at_T59 HR1.out x5_1 p518 q518
        have hw518_2 := hx518_2
        have hw518_1 := hx518_1
        have hw518_0 := hx518_0
        obtain rfl : ad517 = ad518 := (by injection e518)
        replace hx518_0 := cB HB hx518_0
        replace hx518_1 := cB HB hx518_1
        replace hx518_2 := cB HB hx518_2
        replace p518 := eq_true p518
        replace q518 := eq_true q518
        have p519 : 0 ≤ (x5_1 : Int) := of_decide_eq_true (by first | (with_reducible assumption) | assumption)
        have q519 : x5_1 < (l1.length : Int) := of_decide_eq_true (by first | (with_reducible assumption) | assumption)
        obtain ⟨ad519, e519, hx519_0, hx519_1, hx519_2⟩ := at_T59 HR1.out x5_1 p519 q519
        have hw519_2 := hx519_2
        have hw519_1 := hx519_1
        have hw519_0 := hx519_0
        obtain rfl : ad517 = ad519 := (by injection e519)
        replace hx519_0 := cB HB hx519_0
        replace hx519_1 := cB HB hx519_1
        replace hx519_2 := cB HB hx519_2
        replace p519 := eq_true p519
        replace q519 := eq_true q519
        refine start_ (n := 34) (S := fun w' => True) (ds := []) (bs 34 0) (by kernel_rfl) rfl rfl trivial (fun hHeld => ?_); refine with_tabW macadamlaw04_sooner.tab4 macadamlaw04_sooner.bits4 (fun HT_ HW_ => ?_)
        generalize wr.drew = w19 at HB hx511_0 hx511_1 hx511_2 hx512_0 hx512_1 hx512_2 hx513_0 hx513_1 hx513_2 hx517_0 hx517_1 hx517_2 hx518_0 hx518_1 hx518_2 hx519_0 hx519_1 hx519_2 hHeld ⊢
        refine pu HT_ 0 (some 17) (bs 34 1) ?_
        refine pu HT_ 1 (some 18) (bs 34 3) ?_
        refine pu HT_ 5 (some 22) (bs 34 35) ?_
        refine pu HT_ 6 (some 23) (bs 34 99) ?_
        refine pu HT_ 10 (some 27) (bs 34 1123) ?_
        refine pu HT_ 11 (some 28) (bs 34 3171) ?_
        refine pu HT_ 16 (some 33) (bs 34 68707) ?_
        refine pu HT_ 17 (some 34) (bs 34 199779) ?_
        refine pu HT_ 21 (some 38) (bs 34 2296931) ?_
        refine pu HT_ 22 (some 39) (bs 34 6491235) ?_
        refine pu HT_ 26 (some 43) (bs 34 73600099) ?_
        refine pu HT_ 27 (some 44) (bs 34 207817827) ?_
        refine inv_at [2, 3, 4, 7, 8, 9, 12, 13, 14, 15, 18, 19, 20, 23, 24, 25, 28, 29, 30, 31, 32, 33] (fun a0_ b a w' => ∃ (v515 : Value) (v521 : Value) (m32_ : Value) (m33_ : Value), a = putSel a0_ b [(2, 19, .pointer (some (ad511.add ((x5_1).toNat * 3)))), (3, 20, .pointer (some (ad511.add ((x5_1).toNat * 3)))), (4, 21, .int .i64 ((rd_T59 l0 x5_1).f0)), (7, 24, .pointer (some (ad511.add ((x5_1).toNat * 3)))), (8, 25, .pointer (some ⟨(ad511.add ((x5_1).toNat * 3)).block, (ad511.add ((x5_1).toNat * 3)).off + 1, none⟩)), (9, 26, .int .i64 ((rd_T59 l0 x5_1).f1)), (12, 29, .pointer (some (ad511.add ((x5_1).toNat * 3)))), (13, 30, .pointer (some ⟨(ad511.add ((x5_1).toNat * 3)).block, (ad511.add ((x5_1).toNat * 3)).off + 2, none⟩)), (14, 31, .int .i64 ((rd_T59 l0 x5_1).f2)), (15, 32, v515), (18, 35, .pointer (some (ad517.add ((x5_1).toNat * 3)))), (19, 36, .pointer (some (ad517.add ((x5_1).toNat * 3)))), (20, 37, .int .i64 ((rd_T59 l1 x5_1).f0)), (23, 40, .pointer (some (ad517.add ((x5_1).toNat * 3)))), (24, 41, .pointer (some ⟨(ad517.add ((x5_1).toNat * 3)).block, (ad517.add ((x5_1).toNat * 3)).off + 1, none⟩)), (25, 42, .int .i64 ((rd_T59 l1 x5_1).f1)), (28, 45, .pointer (some (ad517.add ((x5_1).toNat * 3)))), (29, 46, .pointer (some ⟨(ad517.add ((x5_1).toNat * 3)).block, (ad517.add ((x5_1).toNat * 3)).off + 2, none⟩)), (30, 47, .int .i64 ((rd_T59 l1 x5_1).f2)), (31, 48, v521), (32, 6, m32_), (33, 7, m33_)] ∧ (Below w.heap.size w w') ∧ (b 15 = true → Kd.R (Kd.int .i64) 3 w' w.heap.size (fun _ => True) v515 y514) ∧ (b 31 = true → Kd.R (Kd.int .i64) 3 w' w.heap.size (fun _ => True) v521 y520) ∧ (b 32 = true → (m32_ : Value) = v515) ∧ (b 33 = true → (m33_ : Value) = v521)) HT_.out HW_.out (by kernel_rfl) (by kernel_rfl) ?_ ?_ ?_
        ·exact ⟨.bool false, .bool false, .bool false, .bool false, by simp only [putSel, Bool.false_eq_true, if_false], HB.out, fun h_ => absurd h_ (by decide), fun h_ => absurd h_ (by decide), fun h_ => absurd h_ (by decide), fun h_ => absurd h_ (by decide)⟩
        ·skip
         clear HB
         refine steps_cons ?_ ?_
         ·rintro b a w' ⟨v515, v521, m32_, m33_, ha, Q_HB, Q_HO516, Q_HO522, Q_X32_, Q_X33_⟩ hb_ hon hoff
          refine ⟨_, rfl, fun K hK => ?_⟩
          have e17 : a.tmps[17]? = some (.slice (some ad511) l0.length c0) := by rw [ha]; exact (putSel_off rfl).trans rfl
          have e18 : a.tmps[18]? = some (.int .i64 x5_1) := by rw [ha]; exact (putSel_off rfl).trans rfl
          replace ha := Aside0.mk ha
          have HB := Aside0.mk Q_HB
          have hs0_ : w'.cell? (ad511.add ((x5_1).toNat * 3)) = some (.int .i64 ((rd_T59 l0 x5_1).f0)) := (cB HB hw511_0 :)
          have hs1_ : w'.cell? ⟨(ad511.add ((x5_1).toNat * 3)).block, (ad511.add ((x5_1).toNat * 3)).off + 1, none⟩ = some (.int .i64 ((rd_T59 l0 x5_1).f1)) := (cB HB hw511_1 :)
          have hs2_ : w'.cell? ⟨(ad511.add ((x5_1).toNat * 3)).block, (ad511.add ((x5_1).toNat * 3)).off + 2, none⟩ = some (.int .i64 ((rd_T59 l0 x5_1).f2)) := (cB HB hw511_2 :)
          refine value_ (w1 := w') (v := .pointer (some (ad511.add ((x5_1).toNat * 3)))) (by rfl) rfl ?_ ?_
          ·go_simp
           (try simp only [i64_w])
           try rfl
          refine hK.out _ _ ⟨v515, v521, m32_, m33_, (by rw [ha.out]; exact putSel_upk 0 hb_ rfl rfl rfl), Q_HB, fun h0_ => absurd ((hoff 15 (by kernel_rfl)).symm.trans h0_) (by decide), Q_HO522, fun h0_ => absurd ((hoff 32 (by kernel_rfl)).symm.trans h0_) (by decide), fun h0_ => absurd ((hoff 33 (by kernel_rfl)).symm.trans h0_) (by decide)⟩
         refine steps_cons ?_ ?_
         ·rintro b a w' ⟨v515, v521, m32_, m33_, ha, Q_HB, Q_HO516, Q_HO522, Q_X32_, Q_X33_⟩ hb_ hon hoff
          refine ⟨_, rfl, fun K hK => ?_⟩
          have e19 : a.tmps[19]? = some (.pointer (some (ad511.add ((x5_1).toNat * 3)))) := by rw [ha]; exact putSel_on (e := (2, 19, .pointer (some (ad511.add ((x5_1).toNat * 3))))) 0 rfl rfl (hon 2 (by kernel_rfl)) rfl
          replace ha := Aside0.mk ha
          have HB := Aside0.mk Q_HB
          refine value_ (w1 := w') (v := .pointer (some (ad511.add ((x5_1).toNat * 3)))) (by rfl) rfl ?_ ?_
          ·go_simp
           (try simp only [i64_w])
           try rfl
          refine hK.out _ _ ⟨v515, v521, m32_, m33_, (by rw [ha.out]; exact putSel_upk 1 hb_ rfl rfl rfl), Q_HB, fun h0_ => absurd ((hoff 15 (by kernel_rfl)).symm.trans h0_) (by decide), Q_HO522, fun h0_ => absurd ((hoff 32 (by kernel_rfl)).symm.trans h0_) (by decide), fun h0_ => absurd ((hoff 33 (by kernel_rfl)).symm.trans h0_) (by decide)⟩
         refine steps_cons ?_ ?_
         ·rintro b a w' ⟨v515, v521, m32_, m33_, ha, Q_HB, Q_HO516, Q_HO522, Q_X32_, Q_X33_⟩ hb_ hon hoff
          refine ⟨_, rfl, fun K hK => ?_⟩
          have e20 : a.tmps[20]? = some (.pointer (some (ad511.add ((x5_1).toNat * 3)))) := by rw [ha]; exact putSel_on (e := (3, 20, .pointer (some (ad511.add ((x5_1).toNat * 3))))) 1 rfl rfl (hon 3 (by kernel_rfl)) rfl
          replace ha := Aside0.mk ha
          have HB := Aside0.mk Q_HB
          have hs0_ : w'.cell? (ad511.add ((x5_1).toNat * 3)) = some (.int .i64 ((rd_T59 l0 x5_1).f0)) := (cB HB hw511_0 :)
          have hs1_ : w'.cell? ⟨(ad511.add ((x5_1).toNat * 3)).block, (ad511.add ((x5_1).toNat * 3)).off + 1, none⟩ = some (.int .i64 ((rd_T59 l0 x5_1).f1)) := (cB HB hw511_1 :)
          have hs2_ : w'.cell? ⟨(ad511.add ((x5_1).toNat * 3)).block, (ad511.add ((x5_1).toNat * 3)).off + 2, none⟩ = some (.int .i64 ((rd_T59 l0 x5_1).f2)) := (cB HB hw511_2 :)
          refine value_ (w1 := w') (v := .int .i64 ((rd_T59 l0 x5_1).f0)) (by rfl) rfl ?_ ?_
          ·go_simp
           (try simp only [i64_w])
           try rfl
          refine hK.out _ _ ⟨v515, v521, m32_, m33_, (by rw [ha.out]; exact putSel_upk 2 hb_ rfl rfl rfl), Q_HB, fun h0_ => absurd ((hoff 15 (by kernel_rfl)).symm.trans h0_) (by decide), Q_HO522, fun h0_ => absurd ((hoff 32 (by kernel_rfl)).symm.trans h0_) (by decide), fun h0_ => absurd ((hoff 33 (by kernel_rfl)).symm.trans h0_) (by decide)⟩
         refine steps_cons ?_ ?_
         ·rintro b a w' ⟨v515, v521, m32_, m33_, ha, Q_HB, Q_HO516, Q_HO522, Q_X32_, Q_X33_⟩ hb_ hon hoff
          refine ⟨_, rfl, fun K hK => ?_⟩
          have e22 : a.tmps[22]? = some (.slice (some ad511) l0.length c0) := by rw [ha]; exact (putSel_off rfl).trans rfl
          have e23 : a.tmps[23]? = some (.int .i64 x5_1) := by rw [ha]; exact (putSel_off rfl).trans rfl
          replace ha := Aside0.mk ha
          have HB := Aside0.mk Q_HB
          have hs3_ : w'.cell? (ad511.add ((x5_1).toNat * 3)) = some (.int .i64 ((rd_T59 l0 x5_1).f0)) := (cB HB hw512_0 :)
          have hs4_ : w'.cell? ⟨(ad511.add ((x5_1).toNat * 3)).block, (ad511.add ((x5_1).toNat * 3)).off + 1, none⟩ = some (.int .i64 ((rd_T59 l0 x5_1).f1)) := (cB HB hw512_1 :)
          have hs5_ : w'.cell? ⟨(ad511.add ((x5_1).toNat * 3)).block, (ad511.add ((x5_1).toNat * 3)).off + 2, none⟩ = some (.int .i64 ((rd_T59 l0 x5_1).f2)) := (cB HB hw512_2 :)
          refine value_ (w1 := w') (v := .pointer (some (ad511.add ((x5_1).toNat * 3)))) (by rfl) rfl ?_ ?_
          ·go_simp
           (try simp only [i64_w])
           try rfl
          refine hK.out _ _ ⟨v515, v521, m32_, m33_, (by rw [ha.out]; exact putSel_upk 3 hb_ rfl rfl rfl), Q_HB, fun h0_ => absurd ((hoff 15 (by kernel_rfl)).symm.trans h0_) (by decide), Q_HO522, fun h0_ => absurd ((hoff 32 (by kernel_rfl)).symm.trans h0_) (by decide), fun h0_ => absurd ((hoff 33 (by kernel_rfl)).symm.trans h0_) (by decide)⟩
         refine steps_cons ?_ ?_
         ·rintro b a w' ⟨v515, v521, m32_, m33_, ha, Q_HB, Q_HO516, Q_HO522, Q_X32_, Q_X33_⟩ hb_ hon hoff
          refine ⟨_, rfl, fun K hK => ?_⟩
          have e24 : a.tmps[24]? = some (.pointer (some (ad511.add ((x5_1).toNat * 3)))) := by rw [ha]; exact putSel_on (e := (7, 24, .pointer (some (ad511.add ((x5_1).toNat * 3))))) 3 rfl rfl (hon 7 (by kernel_rfl)) rfl
          replace ha := Aside0.mk ha
          have HB := Aside0.mk Q_HB
          refine value_ (w1 := w') (v := .pointer (some ⟨(ad511.add ((x5_1).toNat * 3)).block, (ad511.add ((x5_1).toNat * 3)).off + 1, none⟩)) (by rfl) rfl ?_ ?_
          ·go_simp
           (try simp only [i64_w])
           try rfl
          refine hK.out _ _ ⟨v515, v521, m32_, m33_, (by rw [ha.out]; exact putSel_upk 4 hb_ rfl rfl rfl), Q_HB, fun h0_ => absurd ((hoff 15 (by kernel_rfl)).symm.trans h0_) (by decide), Q_HO522, fun h0_ => absurd ((hoff 32 (by kernel_rfl)).symm.trans h0_) (by decide), fun h0_ => absurd ((hoff 33 (by kernel_rfl)).symm.trans h0_) (by decide)⟩
         refine steps_cons ?_ ?_
         ·rintro b a w' ⟨v515, v521, m32_, m33_, ha, Q_HB, Q_HO516, Q_HO522, Q_X32_, Q_X33_⟩ hb_ hon hoff
          refine ⟨_, rfl, fun K hK => ?_⟩
          have e25 : a.tmps[25]? = some (.pointer (some ⟨(ad511.add ((x5_1).toNat * 3)).block, (ad511.add ((x5_1).toNat * 3)).off + 1, none⟩)) := by rw [ha]; exact putSel_on (e := (8, 25, .pointer (some ⟨(ad511.add ((x5_1).toNat * 3)).block, (ad511.add ((x5_1).toNat * 3)).off + 1, none⟩))) 4 rfl rfl (hon 8 (by kernel_rfl)) rfl
          replace ha := Aside0.mk ha
          have HB := Aside0.mk Q_HB
          have hs3_ : w'.cell? (ad511.add ((x5_1).toNat * 3)) = some (.int .i64 ((rd_T59 l0 x5_1).f0)) := (cB HB hw512_0 :)
          have hs4_ : w'.cell? ⟨(ad511.add ((x5_1).toNat * 3)).block, (ad511.add ((x5_1).toNat * 3)).off + 1, none⟩ = some (.int .i64 ((rd_T59 l0 x5_1).f1)) := (cB HB hw512_1 :)
          have hs5_ : w'.cell? ⟨(ad511.add ((x5_1).toNat * 3)).block, (ad511.add ((x5_1).toNat * 3)).off + 2, none⟩ = some (.int .i64 ((rd_T59 l0 x5_1).f2)) := (cB HB hw512_2 :)
          refine value_ (w1 := w') (v := .int .i64 ((rd_T59 l0 x5_1).f1)) (by rfl) rfl ?_ ?_
          ·go_simp
           (try simp only [i64_w])
           try rfl
          refine hK.out _ _ ⟨v515, v521, m32_, m33_, (by rw [ha.out]; exact putSel_upk 5 hb_ rfl rfl rfl), Q_HB, fun h0_ => absurd ((hoff 15 (by kernel_rfl)).symm.trans h0_) (by decide), Q_HO522, fun h0_ => absurd ((hoff 32 (by kernel_rfl)).symm.trans h0_) (by decide), fun h0_ => absurd ((hoff 33 (by kernel_rfl)).symm.trans h0_) (by decide)⟩
         refine steps_cons ?_ ?_
         ·rintro b a w' ⟨v515, v521, m32_, m33_, ha, Q_HB, Q_HO516, Q_HO522, Q_X32_, Q_X33_⟩ hb_ hon hoff
          refine ⟨_, rfl, fun K hK => ?_⟩
          have e27 : a.tmps[27]? = some (.slice (some ad511) l0.length c0) := by rw [ha]; exact (putSel_off rfl).trans rfl
          have e28 : a.tmps[28]? = some (.int .i64 x5_1) := by rw [ha]; exact (putSel_off rfl).trans rfl
          replace ha := Aside0.mk ha
          have HB := Aside0.mk Q_HB
          have hs6_ : w'.cell? (ad511.add ((x5_1).toNat * 3)) = some (.int .i64 ((rd_T59 l0 x5_1).f0)) := (cB HB hw513_0 :)
          have hs7_ : w'.cell? ⟨(ad511.add ((x5_1).toNat * 3)).block, (ad511.add ((x5_1).toNat * 3)).off + 1, none⟩ = some (.int .i64 ((rd_T59 l0 x5_1).f1)) := (cB HB hw513_1 :)
          have hs8_ : w'.cell? ⟨(ad511.add ((x5_1).toNat * 3)).block, (ad511.add ((x5_1).toNat * 3)).off + 2, none⟩ = some (.int .i64 ((rd_T59 l0 x5_1).f2)) := (cB HB hw513_2 :)
          refine value_ (w1 := w') (v := .pointer (some (ad511.add ((x5_1).toNat * 3)))) (by rfl) rfl ?_ ?_
          ·go_simp
           (try simp only [i64_w])
           try rfl
          refine hK.out _ _ ⟨v515, v521, m32_, m33_, (by rw [ha.out]; exact putSel_upk 6 hb_ rfl rfl rfl), Q_HB, fun h0_ => absurd ((hoff 15 (by kernel_rfl)).symm.trans h0_) (by decide), Q_HO522, fun h0_ => absurd ((hoff 32 (by kernel_rfl)).symm.trans h0_) (by decide), fun h0_ => absurd ((hoff 33 (by kernel_rfl)).symm.trans h0_) (by decide)⟩
         refine steps_cons ?_ ?_
         ·rintro b a w' ⟨v515, v521, m32_, m33_, ha, Q_HB, Q_HO516, Q_HO522, Q_X32_, Q_X33_⟩ hb_ hon hoff
          refine ⟨_, rfl, fun K hK => ?_⟩
          have e29 : a.tmps[29]? = some (.pointer (some (ad511.add ((x5_1).toNat * 3)))) := by rw [ha]; exact putSel_on (e := (12, 29, .pointer (some (ad511.add ((x5_1).toNat * 3))))) 6 rfl rfl (hon 12 (by kernel_rfl)) rfl
          replace ha := Aside0.mk ha
          have HB := Aside0.mk Q_HB
          refine value_ (w1 := w') (v := .pointer (some ⟨(ad511.add ((x5_1).toNat * 3)).block, (ad511.add ((x5_1).toNat * 3)).off + 2, none⟩)) (by rfl) rfl ?_ ?_
          ·go_simp
           (try simp only [i64_w])
           try rfl
          refine hK.out _ _ ⟨v515, v521, m32_, m33_, (by rw [ha.out]; exact putSel_upk 7 hb_ rfl rfl rfl), Q_HB, fun h0_ => absurd ((hoff 15 (by kernel_rfl)).symm.trans h0_) (by decide), Q_HO522, fun h0_ => absurd ((hoff 32 (by kernel_rfl)).symm.trans h0_) (by decide), fun h0_ => absurd ((hoff 33 (by kernel_rfl)).symm.trans h0_) (by decide)⟩
         refine steps_cons ?_ ?_
         ·rintro b a w' ⟨v515, v521, m32_, m33_, ha, Q_HB, Q_HO516, Q_HO522, Q_X32_, Q_X33_⟩ hb_ hon hoff
          refine ⟨_, rfl, fun K hK => ?_⟩
          have e30 : a.tmps[30]? = some (.pointer (some ⟨(ad511.add ((x5_1).toNat * 3)).block, (ad511.add ((x5_1).toNat * 3)).off + 2, none⟩)) := by rw [ha]; exact putSel_on (e := (13, 30, .pointer (some ⟨(ad511.add ((x5_1).toNat * 3)).block, (ad511.add ((x5_1).toNat * 3)).off + 2, none⟩))) 7 rfl rfl (hon 13 (by kernel_rfl)) rfl
          replace ha := Aside0.mk ha
          have HB := Aside0.mk Q_HB
          have hs6_ : w'.cell? (ad511.add ((x5_1).toNat * 3)) = some (.int .i64 ((rd_T59 l0 x5_1).f0)) := (cB HB hw513_0 :)
          have hs7_ : w'.cell? ⟨(ad511.add ((x5_1).toNat * 3)).block, (ad511.add ((x5_1).toNat * 3)).off + 1, none⟩ = some (.int .i64 ((rd_T59 l0 x5_1).f1)) := (cB HB hw513_1 :)
          have hs8_ : w'.cell? ⟨(ad511.add ((x5_1).toNat * 3)).block, (ad511.add ((x5_1).toNat * 3)).off + 2, none⟩ = some (.int .i64 ((rd_T59 l0 x5_1).f2)) := (cB HB hw513_2 :)
          refine value_ (w1 := w') (v := .int .i64 ((rd_T59 l0 x5_1).f2)) (by rfl) rfl ?_ ?_
          ·go_simp
           (try simp only [i64_w])
           try rfl
          refine hK.out _ _ ⟨v515, v521, m32_, m33_, (by rw [ha.out]; exact putSel_upk 8 hb_ rfl rfl rfl), Q_HB, fun h0_ => absurd ((hoff 15 (by kernel_rfl)).symm.trans h0_) (by decide), Q_HO522, fun h0_ => absurd ((hoff 32 (by kernel_rfl)).symm.trans h0_) (by decide), fun h0_ => absurd ((hoff 33 (by kernel_rfl)).symm.trans h0_) (by decide)⟩
         refine steps_cons ?_ ?_
         ·rintro b a w' ⟨v515, v521, m32_, m33_, ha, Q_HB, Q_HO516, Q_HO522, Q_X32_, Q_X33_⟩ hb_ hon hoff
          refine ⟨_, rfl, fun K hK => ?_⟩
          have e21 : a.tmps[21]? = some (.int .i64 ((rd_T59 l0 x5_1).f0)) := by rw [ha]; exact putSel_on (e := (4, 21, .int .i64 ((rd_T59 l0 x5_1).f0))) 2 rfl rfl (hon 4 (by kernel_rfl)) rfl
          have e26 : a.tmps[26]? = some (.int .i64 ((rd_T59 l0 x5_1).f1)) := by rw [ha]; exact putSel_on (e := (9, 26, .int .i64 ((rd_T59 l0 x5_1).f1))) 5 rfl rfl (hon 9 (by kernel_rfl)) rfl
          have e31 : a.tmps[31]? = some (.int .i64 ((rd_T59 l0 x5_1).f2)) := by rw [ha]; exact putSel_on (e := (14, 31, .int .i64 ((rd_T59 l0 x5_1).f2))) 8 rfl rfl (hon 14 (by kernel_rfl)) rfl
          replace ha := Aside0.mk ha
          have HB := Aside0.mk Q_HB
          refine Kd.R_lit_step (Kd.int .i64) _ 3 ?hg (N := 32) ?hd (xs := ([(rd_T59 l0 x5_1).f0, (rd_T59 l0 x5_1).f1, (rd_T59 l0 x5_1).f2] : List Int)) (inner := [.int .i64 ((rd_T59 l0 x5_1).f0), .int .i64 ((rd_T59 l0 x5_1).f1), .int .i64 ((rd_T59 l0 x5_1).f2)]) (ok := fun _ => True) (okp := fun _ => True) ?hr ?hp (fun _ hk => hk) trivial (Below.refl _ _) (Nat.le_refl _) (by simp) ?_; (case hd => rfl); (case hg => rfl); (case hr => first | (go_simp; done) | (go_simp; rfl)); (case hp => exact (Reps.one (show Kd.M (Kd.int .i64) _ _ _ ((rd_T59 l0 x5_1).f0) [.int .i64 ((rd_T59 l0 x5_1).f0)] from rfl) (Reps.one (show Kd.M (Kd.int .i64) _ _ _ ((rd_T59 l0 x5_1).f1) [.int .i64 ((rd_T59 l0 x5_1).f1)] from rfl) (Reps.one (show Kd.M (Kd.int .i64) _ _ _ ((rd_T59 l0 x5_1).f2) [.int .i64 ((rd_T59 l0 x5_1).f2)] from rfl) (Reps.none _ _)))))
          intro v515 w20 ho21 hb hg_ hnew_
          clear hg_ hnew_
          (first | rw [← Ny514.out] at ho21 | (simp only [Int.reduceToNat] at ho21; rw [← Ny514.out] at ho21))
          have n0_ := Aside0.mk (Kd.R_lower ho21 (below_size (bw HB)))
          have n1_ := Aside0.mk (below_step (bw HB) hb)
          have z_HO522 := fun (h0_ : b 31 = true) => (show Kd.R (Kd.int .i64) 3 w20 w.heap.size (fun _ => True) v521 y520 from by first | exact (Kd.R_elder' (by (with_reducible repeat (first | apply Kd.R_alloc | apply Kd.R_drewN | apply Kd.R_drew)); exact (Q_HO522 h0_)) (Kd.R_base ho21) hb) | exact Kd.R_mono (Kd.R_elder' (by (with_reducible repeat (first | apply Kd.R_alloc | apply Kd.R_drewN | apply Kd.R_drew)); exact (Q_HO522 h0_)) (Kd.R_base ho21) hb) (fun _ h_ => by first | trivial | exact h_ | exact h_.1))
          clear HB
          have HO516 := n0_
          have HB := n1_
          clear n0_ n1_
          clear hb ho21
          refine hK.out _ _ ⟨v515, v521, m32_, m33_, (by rw [ha.out]; exact putSel_upk 9 hb_ rfl rfl rfl), (bw HB), fun _ => (by (with_reducible repeat (first | apply Kd.R_alloc | apply Kd.R_drewN | apply Kd.R_drew)); exact HO516.out), z_HO522, fun h0_ => absurd ((hoff 32 (by kernel_rfl)).symm.trans h0_) (by decide), fun h0_ => absurd ((hoff 33 (by kernel_rfl)).symm.trans h0_) (by decide)⟩
         refine steps_cons ?_ ?_
         ·rintro b a w' ⟨v515, v521, m32_, m33_, ha, Q_HB, Q_HO516, Q_HO522, Q_X32_, Q_X33_⟩ hb_ hon hoff
          refine ⟨_, rfl, fun K hK => ?_⟩
          have e33 : a.tmps[33]? = some (.slice (some ad517) l1.length c1) := by rw [ha]; exact (putSel_off rfl).trans rfl
          have e34 : a.tmps[34]? = some (.int .i64 x5_1) := by rw [ha]; exact (putSel_off rfl).trans rfl
          replace ha := Aside0.mk ha
          have HB := Aside0.mk Q_HB
          have hs9_ : w'.cell? (ad517.add ((x5_1).toNat * 3)) = some (.int .i64 ((rd_T59 l1 x5_1).f0)) := (cB HB hw517_0 :)
          have hs10_ : w'.cell? ⟨(ad517.add ((x5_1).toNat * 3)).block, (ad517.add ((x5_1).toNat * 3)).off + 1, none⟩ = some (.int .i64 ((rd_T59 l1 x5_1).f1)) := (cB HB hw517_1 :)
          have hs11_ : w'.cell? ⟨(ad517.add ((x5_1).toNat * 3)).block, (ad517.add ((x5_1).toNat * 3)).off + 2, none⟩ = some (.int .i64 ((rd_T59 l1 x5_1).f2)) := (cB HB hw517_2 :)
          refine value_ (w1 := w') (v := .pointer (some (ad517.add ((x5_1).toNat * 3)))) (by rfl) rfl ?_ ?_
          ·go_simp
           (try simp only [i64_w])
           try rfl
          refine hK.out _ _ ⟨v515, v521, m32_, m33_, (by rw [ha.out]; exact putSel_upk 10 hb_ rfl rfl rfl), Q_HB, Q_HO516, fun h0_ => absurd ((hoff 31 (by kernel_rfl)).symm.trans h0_) (by decide), Q_X32_, fun h0_ => absurd ((hoff 33 (by kernel_rfl)).symm.trans h0_) (by decide)⟩
         refine steps_cons ?_ ?_
         ·rintro b a w' ⟨v515, v521, m32_, m33_, ha, Q_HB, Q_HO516, Q_HO522, Q_X32_, Q_X33_⟩ hb_ hon hoff
          refine ⟨_, rfl, fun K hK => ?_⟩
          have e35 : a.tmps[35]? = some (.pointer (some (ad517.add ((x5_1).toNat * 3)))) := by rw [ha]; exact putSel_on (e := (18, 35, .pointer (some (ad517.add ((x5_1).toNat * 3))))) 10 rfl rfl (hon 18 (by kernel_rfl)) rfl
          replace ha := Aside0.mk ha
          have HB := Aside0.mk Q_HB
          refine value_ (w1 := w') (v := .pointer (some (ad517.add ((x5_1).toNat * 3)))) (by rfl) rfl ?_ ?_
          ·go_simp
           (try simp only [i64_w])
           try rfl
          refine hK.out _ _ ⟨v515, v521, m32_, m33_, (by rw [ha.out]; exact putSel_upk 11 hb_ rfl rfl rfl), Q_HB, Q_HO516, fun h0_ => absurd ((hoff 31 (by kernel_rfl)).symm.trans h0_) (by decide), Q_X32_, fun h0_ => absurd ((hoff 33 (by kernel_rfl)).symm.trans h0_) (by decide)⟩
         refine steps_cons ?_ ?_
         ·rintro b a w' ⟨v515, v521, m32_, m33_, ha, Q_HB, Q_HO516, Q_HO522, Q_X32_, Q_X33_⟩ hb_ hon hoff
          refine ⟨_, rfl, fun K hK => ?_⟩
          have e36 : a.tmps[36]? = some (.pointer (some (ad517.add ((x5_1).toNat * 3)))) := by rw [ha]; exact putSel_on (e := (19, 36, .pointer (some (ad517.add ((x5_1).toNat * 3))))) 11 rfl rfl (hon 19 (by kernel_rfl)) rfl
          replace ha := Aside0.mk ha
          have HB := Aside0.mk Q_HB
          have hs9_ : w'.cell? (ad517.add ((x5_1).toNat * 3)) = some (.int .i64 ((rd_T59 l1 x5_1).f0)) := (cB HB hw517_0 :)
          have hs10_ : w'.cell? ⟨(ad517.add ((x5_1).toNat * 3)).block, (ad517.add ((x5_1).toNat * 3)).off + 1, none⟩ = some (.int .i64 ((rd_T59 l1 x5_1).f1)) := (cB HB hw517_1 :)
          have hs11_ : w'.cell? ⟨(ad517.add ((x5_1).toNat * 3)).block, (ad517.add ((x5_1).toNat * 3)).off + 2, none⟩ = some (.int .i64 ((rd_T59 l1 x5_1).f2)) := (cB HB hw517_2 :)
          refine value_ (w1 := w') (v := .int .i64 ((rd_T59 l1 x5_1).f0)) (by rfl) rfl ?_ ?_
          ·go_simp
           (try simp only [i64_w])
           try rfl
          refine hK.out _ _ ⟨v515, v521, m32_, m33_, (by rw [ha.out]; exact putSel_upk 12 hb_ rfl rfl rfl), Q_HB, Q_HO516, fun h0_ => absurd ((hoff 31 (by kernel_rfl)).symm.trans h0_) (by decide), Q_X32_, fun h0_ => absurd ((hoff 33 (by kernel_rfl)).symm.trans h0_) (by decide)⟩
         refine steps_cons ?_ ?_
         ·rintro b a w' ⟨v515, v521, m32_, m33_, ha, Q_HB, Q_HO516, Q_HO522, Q_X32_, Q_X33_⟩ hb_ hon hoff
          refine ⟨_, rfl, fun K hK => ?_⟩
          have e38 : a.tmps[38]? = some (.slice (some ad517) l1.length c1) := by rw [ha]; exact (putSel_off rfl).trans rfl
          have e39 : a.tmps[39]? = some (.int .i64 x5_1) := by rw [ha]; exact (putSel_off rfl).trans rfl
          replace ha := Aside0.mk ha
          have HB := Aside0.mk Q_HB
          have hs12_ : w'.cell? (ad517.add ((x5_1).toNat * 3)) = some (.int .i64 ((rd_T59 l1 x5_1).f0)) := (cB HB hw518_0 :)
          have hs13_ : w'.cell? ⟨(ad517.add ((x5_1).toNat * 3)).block, (ad517.add ((x5_1).toNat * 3)).off + 1, none⟩ = some (.int .i64 ((rd_T59 l1 x5_1).f1)) := (cB HB hw518_1 :)
          have hs14_ : w'.cell? ⟨(ad517.add ((x5_1).toNat * 3)).block, (ad517.add ((x5_1).toNat * 3)).off + 2, none⟩ = some (.int .i64 ((rd_T59 l1 x5_1).f2)) := (cB HB hw518_2 :)
          refine value_ (w1 := w') (v := .pointer (some (ad517.add ((x5_1).toNat * 3)))) (by rfl) rfl ?_ ?_
          ·go_simp
           (try simp only [i64_w])
           try rfl
          refine hK.out _ _ ⟨v515, v521, m32_, m33_, (by rw [ha.out]; exact putSel_upk 13 hb_ rfl rfl rfl), Q_HB, Q_HO516, fun h0_ => absurd ((hoff 31 (by kernel_rfl)).symm.trans h0_) (by decide), Q_X32_, fun h0_ => absurd ((hoff 33 (by kernel_rfl)).symm.trans h0_) (by decide)⟩
         refine steps_cons ?_ ?_
         ·rintro b a w' ⟨v515, v521, m32_, m33_, ha, Q_HB, Q_HO516, Q_HO522, Q_X32_, Q_X33_⟩ hb_ hon hoff
          refine ⟨_, rfl, fun K hK => ?_⟩
          have e40 : a.tmps[40]? = some (.pointer (some (ad517.add ((x5_1).toNat * 3)))) := by rw [ha]; exact putSel_on (e := (23, 40, .pointer (some (ad517.add ((x5_1).toNat * 3))))) 13 rfl rfl (hon 23 (by kernel_rfl)) rfl
          replace ha := Aside0.mk ha
          have HB := Aside0.mk Q_HB
          refine value_ (w1 := w') (v := .pointer (some ⟨(ad517.add ((x5_1).toNat * 3)).block, (ad517.add ((x5_1).toNat * 3)).off + 1, none⟩)) (by rfl) rfl ?_ ?_
          ·go_simp
           (try simp only [i64_w])
           try rfl
          refine hK.out _ _ ⟨v515, v521, m32_, m33_, (by rw [ha.out]; exact putSel_upk 14 hb_ rfl rfl rfl), Q_HB, Q_HO516, fun h0_ => absurd ((hoff 31 (by kernel_rfl)).symm.trans h0_) (by decide), Q_X32_, fun h0_ => absurd ((hoff 33 (by kernel_rfl)).symm.trans h0_) (by decide)⟩
         refine steps_cons ?_ ?_
         ·rintro b a w' ⟨v515, v521, m32_, m33_, ha, Q_HB, Q_HO516, Q_HO522, Q_X32_, Q_X33_⟩ hb_ hon hoff
          refine ⟨_, rfl, fun K hK => ?_⟩
          have e41 : a.tmps[41]? = some (.pointer (some ⟨(ad517.add ((x5_1).toNat * 3)).block, (ad517.add ((x5_1).toNat * 3)).off + 1, none⟩)) := by rw [ha]; exact putSel_on (e := (24, 41, .pointer (some ⟨(ad517.add ((x5_1).toNat * 3)).block, (ad517.add ((x5_1).toNat * 3)).off + 1, none⟩))) 14 rfl rfl (hon 24 (by kernel_rfl)) rfl
          replace ha := Aside0.mk ha
          have HB := Aside0.mk Q_HB
          have hs12_ : w'.cell? (ad517.add ((x5_1).toNat * 3)) = some (.int .i64 ((rd_T59 l1 x5_1).f0)) := (cB HB hw518_0 :)
          have hs13_ : w'.cell? ⟨(ad517.add ((x5_1).toNat * 3)).block, (ad517.add ((x5_1).toNat * 3)).off + 1, none⟩ = some (.int .i64 ((rd_T59 l1 x5_1).f1)) := (cB HB hw518_1 :)
          have hs14_ : w'.cell? ⟨(ad517.add ((x5_1).toNat * 3)).block, (ad517.add ((x5_1).toNat * 3)).off + 2, none⟩ = some (.int .i64 ((rd_T59 l1 x5_1).f2)) := (cB HB hw518_2 :)
          refine value_ (w1 := w') (v := .int .i64 ((rd_T59 l1 x5_1).f1)) (by rfl) rfl ?_ ?_
          ·go_simp
           (try simp only [i64_w])
           try rfl
          refine hK.out _ _ ⟨v515, v521, m32_, m33_, (by rw [ha.out]; exact putSel_upk 15 hb_ rfl rfl rfl), Q_HB, Q_HO516, fun h0_ => absurd ((hoff 31 (by kernel_rfl)).symm.trans h0_) (by decide), Q_X32_, fun h0_ => absurd ((hoff 33 (by kernel_rfl)).symm.trans h0_) (by decide)⟩
         refine steps_cons ?_ ?_
         ·rintro b a w' ⟨v515, v521, m32_, m33_, ha, Q_HB, Q_HO516, Q_HO522, Q_X32_, Q_X33_⟩ hb_ hon hoff
          refine ⟨_, rfl, fun K hK => ?_⟩
          have e43 : a.tmps[43]? = some (.slice (some ad517) l1.length c1) := by rw [ha]; exact (putSel_off rfl).trans rfl
          have e44 : a.tmps[44]? = some (.int .i64 x5_1) := by rw [ha]; exact (putSel_off rfl).trans rfl
          replace ha := Aside0.mk ha
          have HB := Aside0.mk Q_HB
          have hs15_ : w'.cell? (ad517.add ((x5_1).toNat * 3)) = some (.int .i64 ((rd_T59 l1 x5_1).f0)) := (cB HB hw519_0 :)
          have hs16_ : w'.cell? ⟨(ad517.add ((x5_1).toNat * 3)).block, (ad517.add ((x5_1).toNat * 3)).off + 1, none⟩ = some (.int .i64 ((rd_T59 l1 x5_1).f1)) := (cB HB hw519_1 :)
          have hs17_ : w'.cell? ⟨(ad517.add ((x5_1).toNat * 3)).block, (ad517.add ((x5_1).toNat * 3)).off + 2, none⟩ = some (.int .i64 ((rd_T59 l1 x5_1).f2)) := (cB HB hw519_2 :)
          refine value_ (w1 := w') (v := .pointer (some (ad517.add ((x5_1).toNat * 3)))) (by rfl) rfl ?_ ?_
          ·go_simp
           (try simp only [i64_w])
           try rfl
          refine hK.out _ _ ⟨v515, v521, m32_, m33_, (by rw [ha.out]; exact putSel_upk 16 hb_ rfl rfl rfl), Q_HB, Q_HO516, fun h0_ => absurd ((hoff 31 (by kernel_rfl)).symm.trans h0_) (by decide), Q_X32_, fun h0_ => absurd ((hoff 33 (by kernel_rfl)).symm.trans h0_) (by decide)⟩
         refine steps_cons ?_ ?_
         ·rintro b a w' ⟨v515, v521, m32_, m33_, ha, Q_HB, Q_HO516, Q_HO522, Q_X32_, Q_X33_⟩ hb_ hon hoff
          refine ⟨_, rfl, fun K hK => ?_⟩
          have e45 : a.tmps[45]? = some (.pointer (some (ad517.add ((x5_1).toNat * 3)))) := by rw [ha]; exact putSel_on (e := (28, 45, .pointer (some (ad517.add ((x5_1).toNat * 3))))) 16 rfl rfl (hon 28 (by kernel_rfl)) rfl
          replace ha := Aside0.mk ha
          have HB := Aside0.mk Q_HB
          refine value_ (w1 := w') (v := .pointer (some ⟨(ad517.add ((x5_1).toNat * 3)).block, (ad517.add ((x5_1).toNat * 3)).off + 2, none⟩)) (by rfl) rfl ?_ ?_
          ·go_simp
           (try simp only [i64_w])
           try rfl
          refine hK.out _ _ ⟨v515, v521, m32_, m33_, (by rw [ha.out]; exact putSel_upk 17 hb_ rfl rfl rfl), Q_HB, Q_HO516, fun h0_ => absurd ((hoff 31 (by kernel_rfl)).symm.trans h0_) (by decide), Q_X32_, fun h0_ => absurd ((hoff 33 (by kernel_rfl)).symm.trans h0_) (by decide)⟩
         refine steps_cons ?_ ?_
         ·rintro b a w' ⟨v515, v521, m32_, m33_, ha, Q_HB, Q_HO516, Q_HO522, Q_X32_, Q_X33_⟩ hb_ hon hoff
          refine ⟨_, rfl, fun K hK => ?_⟩
          have e46 : a.tmps[46]? = some (.pointer (some ⟨(ad517.add ((x5_1).toNat * 3)).block, (ad517.add ((x5_1).toNat * 3)).off + 2, none⟩)) := by rw [ha]; exact putSel_on (e := (29, 46, .pointer (some ⟨(ad517.add ((x5_1).toNat * 3)).block, (ad517.add ((x5_1).toNat * 3)).off + 2, none⟩))) 17 rfl rfl (hon 29 (by kernel_rfl)) rfl
          replace ha := Aside0.mk ha
          have HB := Aside0.mk Q_HB
          have hs15_ : w'.cell? (ad517.add ((x5_1).toNat * 3)) = some (.int .i64 ((rd_T59 l1 x5_1).f0)) := (cB HB hw519_0 :)
          have hs16_ : w'.cell? ⟨(ad517.add ((x5_1).toNat * 3)).block, (ad517.add ((x5_1).toNat * 3)).off + 1, none⟩ = some (.int .i64 ((rd_T59 l1 x5_1).f1)) := (cB HB hw519_1 :)
          have hs17_ : w'.cell? ⟨(ad517.add ((x5_1).toNat * 3)).block, (ad517.add ((x5_1).toNat * 3)).off + 2, none⟩ = some (.int .i64 ((rd_T59 l1 x5_1).f2)) := (cB HB hw519_2 :)
          refine value_ (w1 := w') (v := .int .i64 ((rd_T59 l1 x5_1).f2)) (by rfl) rfl ?_ ?_
          ·go_simp
           (try simp only [i64_w])
           try rfl
          refine hK.out _ _ ⟨v515, v521, m32_, m33_, (by rw [ha.out]; exact putSel_upk 18 hb_ rfl rfl rfl), Q_HB, Q_HO516, fun h0_ => absurd ((hoff 31 (by kernel_rfl)).symm.trans h0_) (by decide), Q_X32_, fun h0_ => absurd ((hoff 33 (by kernel_rfl)).symm.trans h0_) (by decide)⟩
         refine steps_cons ?_ ?_
         ·rintro b a w' ⟨v515, v521, m32_, m33_, ha, Q_HB, Q_HO516, Q_HO522, Q_X32_, Q_X33_⟩ hb_ hon hoff
          refine ⟨_, rfl, fun K hK => ?_⟩
          have e37 : a.tmps[37]? = some (.int .i64 ((rd_T59 l1 x5_1).f0)) := by rw [ha]; exact putSel_on (e := (20, 37, .int .i64 ((rd_T59 l1 x5_1).f0))) 12 rfl rfl (hon 20 (by kernel_rfl)) rfl
          have e42 : a.tmps[42]? = some (.int .i64 ((rd_T59 l1 x5_1).f1)) := by rw [ha]; exact putSel_on (e := (25, 42, .int .i64 ((rd_T59 l1 x5_1).f1))) 15 rfl rfl (hon 25 (by kernel_rfl)) rfl
          have e47 : a.tmps[47]? = some (.int .i64 ((rd_T59 l1 x5_1).f2)) := by rw [ha]; exact putSel_on (e := (30, 47, .int .i64 ((rd_T59 l1 x5_1).f2))) 18 rfl rfl (hon 30 (by kernel_rfl)) rfl
          replace ha := Aside0.mk ha
          have HB := Aside0.mk Q_HB
          refine Kd.R_lit_step (Kd.int .i64) _ 3 ?hg (N := 48) ?hd (xs := ([(rd_T59 l1 x5_1).f0, (rd_T59 l1 x5_1).f1, (rd_T59 l1 x5_1).f2] : List Int)) (inner := [.int .i64 ((rd_T59 l1 x5_1).f0), .int .i64 ((rd_T59 l1 x5_1).f1), .int .i64 ((rd_T59 l1 x5_1).f2)]) (ok := fun _ => True) (okp := fun _ => True) ?hr ?hp (fun _ hk => hk) trivial (Below.refl _ _) (Nat.le_refl _) (by simp) ?_; (case hd => rfl); (case hg => rfl); (case hr => first | (go_simp; done) | (go_simp; rfl)); (case hp => exact (Reps.one (show Kd.M (Kd.int .i64) _ _ _ ((rd_T59 l1 x5_1).f0) [.int .i64 ((rd_T59 l1 x5_1).f0)] from rfl) (Reps.one (show Kd.M (Kd.int .i64) _ _ _ ((rd_T59 l1 x5_1).f1) [.int .i64 ((rd_T59 l1 x5_1).f1)] from rfl) (Reps.one (show Kd.M (Kd.int .i64) _ _ _ ((rd_T59 l1 x5_1).f2) [.int .i64 ((rd_T59 l1 x5_1).f2)] from rfl) (Reps.none _ _)))))
          intro v521 w20 ho21 hb hg_ hnew_
          clear hg_ hnew_
          (first | rw [← Ny520.out] at ho21 | (simp only [Int.reduceToNat] at ho21; rw [← Ny520.out] at ho21))
          have n0_ := Aside0.mk (Kd.R_lower ho21 (below_size (bw HB)))
          have n1_ := Aside0.mk (below_step (bw HB) hb)
          have z_HO516 := fun (h0_ : b 15 = true) => (show Kd.R (Kd.int .i64) 3 w20 w.heap.size (fun _ => True) v515 y514 from by first | exact (Kd.R_elder' (by (with_reducible repeat (first | apply Kd.R_alloc | apply Kd.R_drewN | apply Kd.R_drew)); exact (Q_HO516 h0_)) (Kd.R_base ho21) hb) | exact Kd.R_mono (Kd.R_elder' (by (with_reducible repeat (first | apply Kd.R_alloc | apply Kd.R_drewN | apply Kd.R_drew)); exact (Q_HO516 h0_)) (Kd.R_base ho21) hb) (fun _ h_ => by first | trivial | exact h_ | exact h_.1))
          clear HB
          have HO522 := n0_
          have HB := n1_
          clear n0_ n1_
          clear hb ho21
          refine hK.out _ _ ⟨v515, v521, m32_, m33_, (by rw [ha.out]; exact putSel_upk 19 hb_ rfl rfl rfl), (bw HB), z_HO516, fun _ => (by (with_reducible repeat (first | apply Kd.R_alloc | apply Kd.R_drewN | apply Kd.R_drew)); exact HO522.out), Q_X32_, fun h0_ => absurd ((hoff 33 (by kernel_rfl)).symm.trans h0_) (by decide)⟩
         refine steps_cons ?_ ?_
         ·rintro b a w' ⟨v515, v521, m32_, m33_, ha, Q_HB, Q_HO516, Q_HO522, Q_X32_, Q_X33_⟩ hb_ hon hoff
          refine ⟨_, rfl, fun K hK => ?_⟩
          have e32 : a.tmps[32]? = some (v515) := by rw [ha]; exact putSel_on (e := (15, 32, v515)) 9 rfl rfl (hon 15 (by kernel_rfl)) rfl
          replace ha := Aside0.mk ha
          have HB := Aside0.mk Q_HB
          have HO516 := Aside0.mk (Q_HO516 (hon 15 (by kernel_rfl)))
          refine value_ (w1 := w') (v := v515) (by rfl) rfl ?_ ?_
          ·go_simp
           (try simp only [i64_w])
           try rfl
          refine hK.out _ _ ⟨v515, v521, (v515), m33_, (by rw [ha.out]; exact putSel_upk 20 hb_ rfl rfl rfl), Q_HB, Q_HO516, Q_HO522, fun _ => rfl, fun h0_ => absurd ((hoff 33 (by kernel_rfl)).symm.trans h0_) (by decide)⟩
         refine steps_cons ?_ ?_
         ·rintro b a w' ⟨v515, v521, m32_, m33_, ha, Q_HB, Q_HO516, Q_HO522, Q_X32_, Q_X33_⟩ hb_ hon hoff
          refine ⟨_, rfl, fun K hK => ?_⟩
          have e48 : a.tmps[48]? = some (v521) := by rw [ha]; exact putSel_on (e := (31, 48, v521)) 19 rfl rfl (hon 31 (by kernel_rfl)) rfl
          replace ha := Aside0.mk ha
          have HB := Aside0.mk Q_HB
          have HO516 := Aside0.mk (Q_HO516 (hon 15 (by kernel_rfl)))
          have HO522 := Aside0.mk (Q_HO522 (hon 31 (by kernel_rfl)))
          refine value_ (w1 := w') (v := v521) (by rfl) rfl ?_ ?_
          ·go_simp
           (try simp only [i64_w])
           try rfl
          refine hK.out _ _ ⟨v515, v521, m32_, (v521), (by rw [ha.out]; exact putSel_upk 21 hb_ rfl rfl rfl), Q_HB, Q_HO516, Q_HO522, Q_X32_, fun _ => rfl⟩
         exact steps_nil
        rintro b a w24 hall ⟨v515, v521, m32_, m33_, ha, Q_HB, Q_HO516, Q_HO522, Q_X32_, Q_X33_⟩
        clear HB
        have hb2_ := hall 2 (by kernel_rfl)
        have hb3_ := hall 3 (by kernel_rfl)
        have hb4_ := hall 4 (by kernel_rfl)
        have hb7_ := hall 7 (by kernel_rfl)
        have hb8_ := hall 8 (by kernel_rfl)
        have hb9_ := hall 9 (by kernel_rfl)
        have hb12_ := hall 12 (by kernel_rfl)
        have hb13_ := hall 13 (by kernel_rfl)
        have hb14_ := hall 14 (by kernel_rfl)
        have hb15_ := hall 15 (by kernel_rfl)
        have hb18_ := hall 18 (by kernel_rfl)
        have hb19_ := hall 19 (by kernel_rfl)
        have hb20_ := hall 20 (by kernel_rfl)
        have hb23_ := hall 23 (by kernel_rfl)
        have hb24_ := hall 24 (by kernel_rfl)
        have hb25_ := hall 25 (by kernel_rfl)
        have hb28_ := hall 28 (by kernel_rfl)
        have hb29_ := hall 29 (by kernel_rfl)
        have hb30_ := hall 30 (by kernel_rfl)
        have hb31_ := hall 31 (by kernel_rfl)
        have hb32_ := hall 32 (by kernel_rfl)
        have hb33_ := hall 33 (by kernel_rfl)
        subst ha
        obtain rfl := Q_X32_ hb32_
        obtain rfl := Q_X33_ hb33_
        simp only [putSel, hb2_, hb3_, hb4_, hb7_, hb8_, hb9_, hb12_, hb13_, hb14_, hb15_, hb18_, hb19_, hb20_, hb23_, hb24_, hb25_, hb28_, hb29_, hb30_, hb31_, hb32_, hb33_, if_true, Act.put, List.setIfInBounds_toArray, List.set_cons_zero, List.set_cons_succ]
        have HB := Aside0.mk Q_HB
        clear Q_HB
        have HO516 := Aside0.mk (Q_HO516 hb15_)
        clear Q_HO516
        have HO522 := Aside0.mk (Q_HO522 hb31_)
        clear Q_HO522
        clear hall hb2_ hb3_ hb4_ hb7_ hb8_ hb9_ hb12_ hb13_ hb14_ hb15_ hb18_ hb19_ hb20_ hb23_ hb24_ hb25_ hb28_ hb29_ hb30_ hb31_ hb32_ hb33_
        obtain ⟨Ao25, co25, eo25⟩ := Kd.R_slice HO516.out
        subst eo25
        obtain ⟨Ao26, co26, eo26⟩ := Kd.R_slice HO522.out
        subst eo26
        try go_wp2_with (first | ((with_reducible refine gate_callee (f := 17) rfl ?_); refine gL (some 51) Tryd.func17 #[.slice Ao25 y514.length co25, .slice Ao26 y520.length co26] ?_; (with_reducible refine (macadamref00_Like.calls k1 _ _ y514 _ _ y520 false _ ?side1 ?side2 ?side3 ?side4 A8.out).mono ?_); (case side1 => repeat (first | exact (Kd.R_reads' HO516.out).2.2 | (with_reducible refine Kd.C_alloc ?_ _) | (with_reducible refine Kd.C_drewN ?_ _) | (with_reducible refine Kd.C_drew ?_))); (case side2 => exact (Kd.R_reads' HO516.out).2.1); (case side3 => repeat (first | exact (Kd.R_reads' HO522.out).2.2 | (with_reducible refine Kd.C_alloc ?_ _) | (with_reducible refine Kd.C_drewN ?_ _) | (with_reducible refine Kd.C_drew ?_))); (case side4 => exact (Kd.R_reads' HO522.out).2.1); rintro e w' ⟨rfl, ⟨nd, rfl⟩⟩; refine ⟨_, rfl, ?_⟩) | ((with_reducible refine gate_callee (f := 54) rfl ?_); refine gL (some 55) Tryd.func54 #[.slice Ao25 y514.length co25, .slice Ao26 y520.length co26] ?_; (with_reducible refine (macadamref00_Sooner.calls k1 _ _ y514 _ _ y520 t524 _ ?side1 ?side2 ?side3 ?side4 A18.out).mono ?_); (case side1 => repeat (first | exact (Kd.R_reads' HO516.out).2.2 | (with_reducible refine Kd.C_alloc ?_ _) | (with_reducible refine Kd.C_drewN ?_ _) | (with_reducible refine Kd.C_drew ?_))); (case side2 => exact (Kd.R_reads' HO516.out).2.1); (case side3 => repeat (first | exact (Kd.R_reads' HO522.out).2.2 | (with_reducible refine Kd.C_alloc ?_ _) | (with_reducible refine Kd.C_drewN ?_ _) | (with_reducible refine Kd.C_drew ?_))); (case side4 => exact (Kd.R_reads' HO522.out).2.1); rintro e w' ⟨rfl, ⟨nd, rfl⟩⟩; refine ⟨_, rfl, ?_⟩))
        go_ret
        exact ⟨by first | rfl | (simp [errW_none, errW_some] <;> rfl) | (simp only [← hji3]; first | rfl | (simp [errW_none, errW_some] <;> rfl)) | (simp [*, errW_none, errW_some] <;> rfl), bw HB⟩
      ·rw [if_neg c7] at H
       exact absurd H (by simp)
     ·rw [if_neg c6] at H
      exact absurd H (by simp)
    ·rw [if_neg c5] at H
     exact absurd H (by simp)
   ·rw [if_neg c4] at H
    have c4b0 : decide (x5_1 < (ji3)) = false := decide_eq_false c4
    clear c4
    obtain rfl := Option.some.inj H
    go_wp2
    go_ret
    exact ⟨by first | rfl | (simp [errW_none, errW_some] <;> rfl) | (simp only [← hji3]; first | rfl | (simp [errW_none, errW_some] <;> rfl)) | (simp [*, errW_none, errW_some] <;> rfl), bw HB⟩
end Go.Proofs.YtikfghnkbgdbgaaDoor.Q
end
section
namespace Go.Proofs.YtikfghnkbgdbgaaDoor.Q
set_option linter.unusedSimpArgs false
set_option linter.unusedVariables false
open Go.RowKit Go.Proofs.YtikfghnkbgdbgaaDoorW.PrintWords Go.Proofs.YtikfghnkbgdbgaaDoorW.PrintLast Go.Proofs.YtikfghnkbgdbgaaDoorW.PrintMore
theorem okB_bounds {ms : List M} {gs : List G} {n : Int} (h : okB ms gs n = true) : (1 ≤ ms.length ∧ ms.length ≤ 4) ∧ (1 ≤ gs.length ∧ gs.length ≤ 2) ∧ (1 ≤ n ∧ n ≤ 4) := by
  simp only [okB, Bool.and_eq_true, decide_eq_true_eq] at h
  omega
theorem check_calls (ms : List M) (gs : List G) (A0 : Option Addr) (c0 : Nat) (A1 : Option Addr) (c1 : Nat) (n : Int) (r : Int) (w : World) (hr0 : Kd.C k66 w A0 ms.length ms) (hc0 : ms.length ≤ c0) (hr1 : Kd.C k63 w A1 gs.length gs) (hc1 : gs.length ≤ c1)
    (h : (if okB ms gs n = true then (0 : Int) else 40) = r) :
    Calls Tryd.prog 18 #[.agg #[.slice A0 ms.length c0, .slice A1 gs.length c1, .int .i64 n]] w fun e w' => e = .returned (.int .i64 r) ∧ Below w.heap.size w w' :=
  gang_Check.calls (ms.length + gs.length + 3) A0 c0 ms A1 c1 gs n r w hr0 hc0 hr1 hc1 (by rw [check_f ms gs n hr0.2.1 hr1.2.1, h])
set_option maxHeartbeats 4000000 in
set_option maxRecDepth 100000 in
theorem asked_bad (ms : List M) (gs : List G) (A0 : Option Addr) (c0 : Nat) (A1 : Option Addr) (c1 : Nat) (n : Int) (A2 : Option Addr) (c2 l2 : Nat) (w : World) (hr0 : Kd.C k66 w A0 ms.length ms) (hc0 : ms.length ≤ c0) (hr1 : Kd.C k63 w A1 gs.length gs) (hc1 : gs.length ≤ c1) (hok : okB ms gs n = false) :
    Calls Tryd.prog 61 #[.agg #[.slice A0 ms.length c0, .slice A1 gs.length c1, .int .i64 n], .slice A2 l2 c2] w fun e w' =>
      e = .returned (.tuple #[.agg #[.slice none 0 0, .slice none 0 0, .int .i64 0, .map none], .int .i64 40]) ∧ Below w.heap.size w w' := by
  have HR0 := Aside0.mk hr0
  have HR1 := Aside0.mk hr1
  have HO := Aside0.mk hok
  clear hr0 hr1 hok
  go_enter Tryd.func61, Tryd.ntmps61
  go_wp2_with (fail)
  have hB := ((Below.refl w.heap.size w).alloc (Nat.le_refl _) (.cells #[.slice A0 ms.length c0, .slice A1 gs.length c1, .int .i64 n] 25)).alloc (by simp) (.cells #[.slice none 0 0, .slice none 0 0, .int .i64 0, .map none] 86)
  refine (check_calls ms gs A0 c0 A1 c1 n 40 _ ?s1 hc0 ?s2 hc1 (by rw [HO.out]; rfl)).mono ?_
  case s1 => exact Kd.C_below HR0.out hB
  case s2 => exact Kd.C_below HR1.out hB
  rintro e w1 ⟨rfl, hb⟩
  have HB := Aside0.mk (below_then hB (by simp; omega) hb)
  have hg : w1.heap[w.heap.size + 1]? = some (.cells #[.slice none 0 0, .slice none 0 0, .int .i64 0, .map none] 86 (0, 0)) := (hb.block _ (by simp)).trans (by have := World.alloc_heap_new (w.alloc (.cells #[.slice A0 ms.length c0, .slice A1 gs.length c1, .int .i64 n] 25)) (.cells #[.slice none 0 0, .slice none 0 0, .int .i64 0, .map none] 86); rwa [World.size_alloc] at this)
  have HG := Aside0.mk hg
  have hs0 : w1.cell? ⟨w.heap.size + 1, 0, none⟩ = some (.slice none 0 0) := (blk_cell HG.out 0).trans rfl
  have hs1 : w1.cell? ⟨w.heap.size + 1, 1, none⟩ = some (.slice none 0 0) := (blk_cell HG.out 1).trans rfl
  have hs2 : w1.cell? ⟨w.heap.size + 1, 2, none⟩ = some (.int .i64 0) := (blk_cell HG.out 2).trans rfl
  have hs3 : w1.cell? ⟨w.heap.size + 1, 3, none⟩ = some (.map none) := (blk_cell HG.out 3).trans rfl
  have hf0 := blk_frozen HG.out 0
  have hf1 := blk_frozen HG.out 1
  have hf2 := blk_frozen HG.out 2
  have hf3 := blk_frozen HG.out 3
  clear hb hB hg
  go_wp2
  refine bodyPost_ret (v := .tuple #[.agg #[.slice none 0 0, .slice none 0 0, .int .i64 0, .map none], .int .i64 40]) (by simp [results, Tryd.results61, go_sem, hs0, hs1, hs2, hs3]) rfl ⟨rfl, ?_⟩
  exact (((HB.out.setCell (by simp) _).setCell (by simp) _).setCell (by simp) _).setCell (by simp) _
set_option maxHeartbeats 4000000 in
set_option maxRecDepth 100000 in
theorem asked_ok (ms : List M) (gs : List G) (A0 : Option Addr) (c0 : Nat) (A1 : Option Addr) (c1 : Nat) (n : Int) (A2 : Option Addr) (c2 : Nat) (p : List Wk) (w : World) (hr0 : Kd.C k66 w A0 ms.length ms) (hc0 : ms.length ≤ c0) (hr1 : Kd.C k63 w A1 gs.length gs) (hc1 : gs.length ≤ c1)
    (hr2 : Kd.C k59 w A2 p.length p) (hc2 : p.length ≤ c2) (hG : GV w) (hok : okB ms gs n = true) (q : Bool) (hq : planB ms gs n p = q) (E : Int) (hE : (if q = true then (0 : Int) else 41) = E) :
    Calls Tryd.prog 61 #[.agg #[.slice A0 ms.length c0, .slice A1 gs.length c1, .int .i64 n], .slice A2 p.length c2] w fun e w' =>
      ∃ b, e = .returned (.tuple #[.agg #[.slice A0 ms.length c0, .slice A1 gs.length c1, .int .i64 n, .map (some b)], .int .i64 E]) ∧ MapIs w' b (spotsL ms n.toNat) ∧ w.heap.size ≤ b ∧ Below w.heap.size w w' := by
  have hbd := okB_bounds hok
  have hm4 := hbd.1.2
  have hg2 := hbd.2.1.2
  have hn0 : 0 ≤ n := by omega
  have hn4 := hbd.2.2.2
  clear hbd
  have HR0 := Aside0.mk hr0
  have HR1 := Aside0.mk hr1
  have HR2 := Aside0.mk hr2
  have HG0 := Aside0.mk hG
  have HO := Aside0.mk hok
  clear hr0 hr1 hr2 hG hok
  go_enter Tryd.func61, Tryd.ntmps61
  go_wp2_with (fail)
  have hB := ((Below.refl w.heap.size w).alloc (Nat.le_refl _) (.cells #[.slice A0 ms.length c0, .slice A1 gs.length c1, .int .i64 n] 25)).alloc (by simp) (.cells #[.slice none 0 0, .slice none 0 0, .int .i64 0, .map none] 86)
  refine (check_calls ms gs A0 c0 A1 c1 n 0 _ ?s1 hc0 ?s2 hc1 (by rw [HO.out]; rfl)).mono ?_
  case s1 => exact Kd.C_below HR0.out hB
  case s2 => exact Kd.C_below HR1.out hB
  rintro e w1 ⟨rfl, hb⟩
  have HB := Aside0.mk (below_then hB (by simp; omega) hb)
  have HG := Aside0.mk ((hb.block (w.heap.size + 1) (by simp)).trans (show _ = some (Obj.cells #[.slice none 0 0, .slice none 0 0, .int .i64 0, .map none] 86 (0, 0)) by have := World.alloc_heap_new (w.alloc (.cells #[.slice A0 ms.length c0, .slice A1 gs.length c1, .int .i64 n] 25)) (.cells #[.slice none 0 0, .slice none 0 0, .int .i64 0, .map none] 86); rwa [World.size_alloc] at this))
  have hbx : w1.heap[w.heap.size]? = some (.cells #[.slice A0 ms.length c0, .slice A1 gs.length c1, .int .i64 n] 25 (0, 0)) := (hb.block _ (by simp; omega)).trans ((Below.heap_alloc _ _ _ (by simp)).trans (World.alloc_heap_new w _))
  have hs0 : w1.cell? ⟨w.heap.size, 0, none⟩ = some (.slice A0 ms.length c0) := (blk_cell hbx 0).trans rfl
  have hs1 : w1.cell? ⟨w.heap.size, 1, none⟩ = some (.slice A1 gs.length c1) := (blk_cell hbx 1).trans rfl
  have hs2 : w1.cell? ⟨w.heap.size, 2, none⟩ = some (.int .i64 n) := (blk_cell hbx 2).trans rfl
  clear hb hB hbx
  go_wp2_with (fail)
  refine (opened_calls ms gs A0 c0 A1 c1 n _ ?s3 ?s4 hm4 hn0 hn4).mono ?_
  case s3 => exact gv_below HG0.out HB.out
  case s4 => exact Kd.C_below HR0.out HB.out
  rintro e w2 ⟨b, rfl, hm, hlo, hb⟩
  have HM := Aside0.mk hm
  have HLO := Aside0.mk (Nat.le_trans HB.out.size hlo)
  have HB2 := Aside0.mk (below_then HB.out HB.out.size hb)
  have HG2 := Aside0.mk ((hb.block _ (Array.getElem?_eq_some_iff.1 HG.out).1).trans HG.out)
  clear hb hm hlo hs0 hs1 hs2 HG HB
  go_wp2_with (fail)
  have hB3 := HB2.out.alloc HB2.out.size (.cells #[.slice A0 ms.length c0, .slice A1 gs.length c1, .int .i64 n, .map (some b)] 86)
  refine (isPlan_calls ms gs A0 c0 A1 c1 n b A2 c2 p _ ?s5 ?s6 hc2 hn0 ?s7 ?s8 hg2 hm4).mono ?_
  case s5 => exact Kd.C_below HR1.out hB3
  case s6 => exact Kd.C_below HR2.out hB3
  case s7 => exact HM.out.below ((Below.refl _ w2).alloc (Nat.le_refl _) _)
  case s8 => exact gv_below HG0.out hB3
  rintro e w3 ⟨he, hb⟩
  rw [hq] at he
  subst he
  have HM3 := Aside0.mk ((HM.out.below ((Below.refl _ w2).alloc (Nat.le_refl _) _)).below hb)
  have HB3 := Aside0.mk (below_then hB3 hB3.size hb)
  have HG3 := Aside0.mk ((hb.block _ (by simp; have := (Array.getElem?_eq_some_iff.1 HG2.out).1; omega)).trans ((Below.heap_alloc _ _ _ (Array.getElem?_eq_some_iff.1 HG2.out).1).trans HG2.out))
  have hbx : w3.heap[w2.heap.size]? = some (.cells #[.slice A0 ms.length c0, .slice A1 gs.length c1, .int .i64 n, .map (some b)] 86 (0, 0)) := (hb.block _ (by simp)).trans (World.alloc_heap_new w2 _)
  have hz0 : w3.cell? ⟨w2.heap.size, 0, none⟩ = some (.slice A0 ms.length c0) := (blk_cell hbx 0).trans rfl
  have hz1 : w3.cell? ⟨w2.heap.size, 1, none⟩ = some (.slice A1 gs.length c1) := (blk_cell hbx 1).trans rfl
  have hz2 : w3.cell? ⟨w2.heap.size, 2, none⟩ = some (.int .i64 n) := (blk_cell hbx 2).trans rfl
  have hz3 : w3.cell? ⟨w2.heap.size, 3, none⟩ = some (.map (some b)) := (blk_cell hbx 3).trans rfl
  have hs0 : w3.cell? ⟨w.heap.size + 1, 0, none⟩ = some (.slice none 0 0) := (blk_cell HG3.out 0).trans rfl
  have hs1 : w3.cell? ⟨w.heap.size + 1, 1, none⟩ = some (.slice none 0 0) := (blk_cell HG3.out 1).trans rfl
  have hs2 : w3.cell? ⟨w.heap.size + 1, 2, none⟩ = some (.int .i64 0) := (blk_cell HG3.out 2).trans rfl
  have hs3 : w3.cell? ⟨w.heap.size + 1, 3, none⟩ = some (.map none) := (blk_cell HG3.out 3).trans rfl
  have hf0 := blk_frozen HG3.out 0
  have hf1 := blk_frozen HG3.out 1
  have hf2 := blk_frozen HG3.out 2
  have hf3 := blk_frozen HG3.out 3
  have HNE : Aside0 (b ≠ w.heap.size + 1) := ⟨fun e => by
    obtain ⟨es, cl, h1, _⟩ := HM3.out
    rw [e, HG3.out] at h1; cases h1⟩
  clear hb hB3 hbx
  have fin : Aside0 (∀ (W : World), W = (((w3.setCell ⟨w.heap.size + 1, 0, none⟩ (.slice A0 ms.length c0)).setCell ⟨w.heap.size + 1, 1, none⟩ (.slice A1 gs.length c1)).setCell ⟨w.heap.size + 1, 2, none⟩ (.int .i64 n)).setCell ⟨w.heap.size + 1, 3, none⟩ (.map (some b)) →
      MapIs W b (spotsL ms n.toNat) ∧ w.heap.size ≤ b ∧ Below w.heap.size w W) := ⟨fun W hW => by
    subst hW
    refine ⟨HM3.out.kept ?_, HLO.out, (((HB3.out.setCell (by simp) _).setCell (by simp) _).setCell (by simp) _).setCell (by simp) _⟩
    rw [Below.heap_setCell _ _ _ _ HNE.out, Below.heap_setCell _ _ _ _ HNE.out, Below.heap_setCell _ _ _ _ HNE.out, Below.heap_setCell _ _ _ _ HNE.out]⟩
  cases q with
  | true =>
    obtain rfl : (0 : Int) = E := by simpa using hE
    go_wp2
    refine bodyPost_ret (v := .tuple #[.agg #[.slice A0 ms.length c0, .slice A1 gs.length c1, .int .i64 n, .map (some b)], .int .i64 0]) (by simp [results, Tryd.results61, go_sem, hs0, hs1, hs2, hs3]) rfl ⟨b, rfl, fin.out _ rfl⟩
  | false =>
    obtain rfl : (41 : Int) = E := by simpa using hE
    go_wp2
    refine bodyPost_ret (v := .tuple #[.agg #[.slice A0 ms.length c0, .slice A1 gs.length c1, .int .i64 n, .map (some b)], .int .i64 41]) (by simp [results, Tryd.results61, go_sem, hs0, hs1, hs2, hs3]) rfl ⟨b, rfl, fin.out _ rfl⟩
end Go.Proofs.YtikfghnkbgdbgaaDoor.Q
end
