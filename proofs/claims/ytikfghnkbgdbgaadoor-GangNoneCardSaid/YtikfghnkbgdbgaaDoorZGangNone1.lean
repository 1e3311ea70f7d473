/- A part of the proof of the statement GangNone: For any book and any number the statement GangNone holds: from the plan that is told no work can be left out, nor can it be done a night sooner. -/
import Derived.Test.YtikfghnkbgdbgaaDoorZGangNone0
import Derived.MapKept
import Derived.ChangeMaps
import Derived.Maps.Own
import Derived.Carry
import Derived.ChangeAlike
import Derived.BigRegion
import Derived.RangeFuncNested
import Derived.StillTailTactics
set_option linter.unusedSimpArgs false
set_option linter.unusedVariables false
section
namespace Go.Proofs.YtikfghnkbgdbgaaDoor.Q
set_option linter.unusedSimpArgs false
set_option linter.unusedVariables false
open Go.RowKit Go.Proofs.YtikfghnkbgdbgaaDoorW.PrintWords Go.Proofs.YtikfghnkbgdbgaaDoorW.PrintLast Go.Proofs.YtikfghnkbgdbgaaDoorW.PrintMore
theorem eqSpot (d : Nat) (w : World) (x0 y0 x1 y1 : Int) :
    (Op.equalIn (d + 2) 116 (.agg #[.int .i64 x0, .int .i64 x1]) (.agg #[.int .i64 y0, .int .i64 y1])).run Tryd.prog w = .ok (x0 == y0 && (x1 == y1)) w := by
  refine eqA_of Tryd.underlying116 (by kernel_rfl) ?_
  refine eqf_cons (by rfl) (by go_simp; rfl) (by go_simp; rfl) (by go_simp) ?_
  exact eqf_last (by rfl) (by go_simp; rfl) (by go_simp; rfl) (by go_simp)
theorem checkSpot (em : Bool) (w : World) (i j : Int) : (Instr.checkKey em 10000 116 (.agg #[.int .i64 i, .int .i64 j])).run Tryd.prog w = .ok () w := by kernel_rfl
abbrev Spots := List ((Int × Int) × Bool)
def MapIs (w : World) (b : Nat) (l : Spots) : Prop :=
  ∃ (es : Array MapEntry) (clock : Nat), w.heap[b]? = some (.map es clock) ∧ es.toList.map (fun e => (e.key, e.val)) = l.map (fun x => (.agg #[.int .i64 x.1.1, .int .i64 x.1.2], .bool x.2))
def lk (l : Spots) (i j : Int) : Option Bool := (l.find? (fun x => i == x.1.1 && (j == x.1.2))).map (·.2)
theorem findSpot (w : World) (i j : Int) : ∀ (es : List MapEntry) (l : Spots) (n : Nat), es.map (fun e => (e.key, e.val)) = l.map (fun x => (Value.agg #[.int .i64 x.1.1, .int .i64 x.1.2], Value.bool x.2)) →
    ∃ r, (Instr.findAsking 116 (.agg #[.int .i64 i, .int .i64 j]) es n).run Tryd.prog w = .ok r w ∧ r.map (·.2) = (lk l i j).map Value.bool
  | [], [], n, _ => ⟨none, rfl, rfl⟩
  | [], _ :: _, _, h => by simp at h
  | _ :: _, [], _, h => by simp at h
  | e :: es, x :: l, n, h => by
    simp only [List.map_cons, List.cons.injEq, Prod.mk.injEq] at h
    obtain ⟨⟨hk, hv⟩, hr⟩ := h
    have heq : (Op.equal 116 (.agg #[.int .i64 i, .int .i64 j]) e.key).run Tryd.prog w = .ok (i == x.1.1 && (j == x.1.2)) w := by
      rw [hk]; exact eqSpot 9998 w i x.1.1 j x.1.2
    cases hc : (i == x.1.1 && (j == x.1.2)) with
    | true =>
      refine ⟨some (n, e.val), ?_, ?_⟩
      · simp [Instr.findAsking, Sem.run_bind, heq, hc, Result.andThen]
      · simp [lk, List.find?_cons, hc, hv]
    | false =>
      obtain ⟨r, hrun, hm⟩ := findSpot w i j es l (n + 1) hr
      refine ⟨r, ?_, ?_⟩
      · simp [Instr.findAsking, Sem.run_bind, heq, hc, Result.andThen, hrun]
      · rw [hm]; simp only [lk, List.find?_cons, hc]
theorem findKeySpot (w : World) (i j : Int) (es : List MapEntry) (l : Spots) (h : es.map (fun e => (e.key, e.val)) = l.map (fun x => (Value.agg #[.int .i64 x.1.1, .int .i64 x.1.2], Value.bool x.2))) :
    ∃ r, (Instr.findKey 116 (.agg #[.int .i64 i, .int .i64 j]) es).run Tryd.prog w = .ok r w ∧ r.map (·.2) = (lk l i j).map Value.bool := by
  obtain ⟨r, hrun, hm⟩ := findSpot w i j es l 0 h
  cases es with
  | nil =>
    cases l with
    | nil => exact ⟨none, by simp [Instr.findKey, Sem.run_bind, run_underlying Tryd.underlying116, Instr.findNow, Result.andThen], rfl⟩
    | cons => simp at h
  | cons e es =>
    refine ⟨r, ?_, hm⟩
    have hk : ∃ a b, e.key = .agg #[.int .i64 a, .int .i64 b] := by
      cases l with
      | nil => simp at h
      | cons x l => simp only [List.map_cons, List.cons.injEq, Prod.mk.injEq] at h; exact ⟨_, _, h.1.1⟩
    obtain ⟨a, b, hk⟩ := hk
    simp [Instr.findKey, Sem.run_bind, run_underlying Tryd.underlying116, Instr.findNow, Instr.sameNow, hk, Result.andThen, hrun]
theorem run_look {w : World} {b : Nat} {l : Spots} (h : MapIs w b l) (i j : Int) :
    (Instr.lookup 84 (.map (some b)) (.agg #[.int .i64 i, .int .i64 j]) false).run Tryd.prog w = .ok (.bool ((lk l i j).getD false)) w := by
  obtain ⟨es, clock, hb, he⟩ := h
  obtain ⟨r, hrun, hm⟩ := findKeySpot w i j es.toList l he
  have hz : (zeroValue 4).run Tryd.prog w = .ok (.bool false) w := by kernel_rfl
  cases r with
  | none =>
    have : lk l i j = none := by cases hl : lk l i j with
      | none => rfl
      | some x => rw [hl] at hm; simp at hm
    simp [Instr.lookup, Sem.run_bind, run_underlying Tryd.underlying84, MapKept.run_getObj_map hb, checkSpot, hrun, hz, this, Result.andThen]
  | some y =>
    obtain ⟨k, v⟩ := y
    have : ∃ x, lk l i j = some x ∧ v = .bool x := by cases hl : lk l i j with
      | none => rw [hl] at hm; simp at hm
      | some x => rw [hl] at hm; simp at hm; exact ⟨x, rfl, hm⟩
    obtain ⟨x, hx, rfl⟩ := this
    simp [Instr.lookup, Sem.run_bind, run_underlying Tryd.underlying84, MapKept.run_getObj_map hb, checkSpot, hrun, hx, Result.andThen]
theorem run_put {w : World} {b : Nat} {l : Spots} (h : MapIs w b l) (i j : Int) (v : Bool) (hn : lk l i j = none) :
    ∃ w', (Instr.mapUpdate 84 (.map (some b)) (.agg #[.int .i64 i, .int .i64 j]) (.bool v)).run Tryd.prog w = .ok () w' ∧ MapIs w' b (l ++ [((i, j), v)]) ∧ w.grownBy w' (some b) := by
  obtain ⟨es, clock, hb, he⟩ := h
  obtain ⟨r, hrun, hm⟩ := findKeySpot w i j es.toList l he
  have hr : r = none := by cases r with
    | none => rfl
    | some y => rw [hn] at hm; simp at hm
  subst hr
  refine ⟨_, by simp only [Instr.mapUpdate, Sem.run_bind, run_underlying Tryd.underlying84, MapKept.run_getObj_map hb, checkSpot, hrun, Result.andThen_ok, MapKept.run_setObj_map _ hb]; rfl, ?_, ?_⟩
  · refine ⟨_, _, Go.ChangeMaps.heap_setBlock_same hb _, ?_⟩
    simp [he]
  · exact ⟨rfl, rfl, rfl, by simp [Go.ChangeMaps.setBlock], fun k _ hk => Go.ChangeMaps.heap_setBlock_other hb _ (fun e => hk (by rw [e]))⟩
theorem MapIs.kept {w w' : World} {b : Nat} {l : Spots} (h : MapIs w b l) (hb : w'.heap[b]? = w.heap[b]?) : MapIs w' b l := by
  obtain ⟨es, clock, h1, h2⟩ := h
  exact ⟨es, clock, hb.trans h1, h2⟩
theorem MapIs.lt {w : World} {b : Nat} {l : Spots} (h : MapIs w b l) : b < w.heap.size := by
  obtain ⟨es, clock, h1, h2⟩ := h
  exact (Array.getElem?_eq_some_iff.1 h1).1
theorem MapIs.below {w w' : World} {b : Nat} {l : Spots} (h : MapIs w b l) (hb : Below w.heap.size w w') : MapIs w' b l := h.kept (hb.block b h.lt)
theorem MapIs.made (w : World) : MapIs (w.alloc (.map #[] 0)) w.heap.size [] := ⟨#[], 0, (MapKept.heap_alloc w _).1, rfl⟩
end Go.Proofs.YtikfghnkbgdbgaaDoor.Q
end
section
namespace Go.Proofs.YtikfghnkbgdbgaaDoor.Q
set_option linter.unusedSimpArgs false
set_option linter.unusedVariables false
open Go.RowKit Go.Proofs.YtikfghnkbgdbgaaDoorW.PrintWords Go.Proofs.YtikfghnkbgdbgaaDoorW.PrintLast Go.Proofs.YtikfghnkbgdbgaaDoorW.PrintMore
theorem putObj_last (X : World) (o o' : Obj) : (X.alloc o).putObj X.heap.size o' = X.alloc o' := by
  simp only [World.putObj, World.alloc]; congr 1
  apply Array.ext
  · simp
  · intro i h1 h2
    rw [Array.getElem_setIfInBounds (by simpa using h1)]
    simp only [Array.getElem_push]
    simp at h1
    by_cases e : X.heap.size = i
    · simp [e]
    · rw [if_neg e]
      split
      · rfl
      · omega
theorem putObj_last2 (X : World) (o o' c : Obj) : ((X.alloc o).alloc c).putObj X.heap.size o' = (X.alloc o').alloc c := by
  simp only [World.putObj, World.alloc]; congr 1
  apply Array.ext
  · simp
  · intro i h1 h2
    rw [Array.getElem_setIfInBounds (by simpa using h1)]
    simp only [Array.getElem_push, Array.size_push]
    simp at h1
    by_cases e : X.heap.size = i
    · subst e; simp
    · rw [if_neg e]
      by_cases e2 : i < X.heap.size
      · simp [e2, show i < X.heap.size + 1 by omega]
      · have : ¬ i < X.heap.size + 1 := by omega
        simp [this]
def one (i j : Int) (v : Bool) : Array MapEntry := #[{ key := .agg #[.int .i64 i, .int .i64 j], val := .bool v, born := 0 }]
theorem run_put0 (W : World) (b : Nat) (i j : Int) (v : Bool) (h : W.heap[b]? = some (.map #[] 0)) :
    (Instr.mapUpdate 84 (.map (some b)) (.agg #[.int .i64 i, .int .i64 j]) (.bool v)).run Tryd.prog W = .ok () (W.putObj b (.map (one i j v) 1)) := by
  obtain ⟨r, hrun, hm⟩ := findKeySpot W i j [] [] rfl
  have hr : r = none := by cases r with
    | none => rfl
    | some y => simp [lk] at hm
  subst hr
  simp only [Instr.mapUpdate, Sem.run_bind, run_underlying Tryd.underlying84, MapKept.run_getObj_map h, checkSpot, Array.toList_empty, hrun, Result.andThen_ok, MapKept.run_setObj_map _ h]
  rfl
theorem put_new (X : World) (n : Nat) (hn : n = X.heap.size) (i j : Int) (v : Bool) :
    (Instr.mapUpdate 84 (.map (some n)) (.agg #[.int .i64 i, .int .i64 j]) (.bool v)).run Tryd.prog (X.alloc (.map #[] 0)).drew = .ok () (X.alloc (.map (one i j v) 1)).drew := by
  subst hn
  rw [run_put0 _ _ i j v (show (X.alloc (.map #[] 0)).drew.heap[X.heap.size]? = _ from World.alloc_heap_new X _)]
  exact congrArg (fun w => Result.ok () (World.drew w)) (putObj_last X _ _)
theorem put_new2 (X : World) (c : Obj) (n : Nat) (hn : n = X.heap.size) (i j : Int) (v : Bool) :
    (Instr.mapUpdate 84 (.map (some n)) (.agg #[.int .i64 i, .int .i64 j]) (.bool v)).run Tryd.prog ((X.alloc (.map #[] 0)).alloc c).drew = .ok () ((X.alloc (.map (one i j v) 1)).alloc c).drew := by
  subst hn
  rw [run_put0 _ _ i j v (show ((X.alloc (.map #[] 0)).alloc c).drew.heap[X.heap.size]? = _ from (Below.heap_alloc _ _ _ (by simp)).trans (World.alloc_heap_new X _))]
  exact congrArg (fun w => Result.ok () (World.drew w)) (putObj_last2 X _ _ c)
theorem one_is {w : World} {b c : Nat} {i j : Int} {v : Bool} (h : w.heap[b]? = some (.map (one i j v) c)) : MapIs w b [((i, j), v)] := ⟨_, _, h, rfl⟩
def spotsAt (ms : List M) (k j : Nat) : Spots := (List.range j).map (fun (i : Nat) => (((k : Int), (i : Int)), !bitB (rd_T66 ms i).f1 k))
def spotsL (ms : List M) (k : Nat) : Spots := ((-1, -1), false) :: (List.range k).flatMap (fun t => spotsAt ms t ms.length)
theorem spotsL_succ (ms : List M) (k : Nat) : spotsL ms (k + 1) = spotsL ms k ++ spotsAt ms k ms.length := by simp [spotsL, List.range_succ, List.flatMap_append]
theorem spotsAt_succ (ms : List M) (k j : Nat) : spotsAt ms k (j + 1) = spotsAt ms k j ++ [(((k : Int), (j : Int)), !bitB (rd_T66 ms j).f1 k)] := by simp [spotsAt, List.range_succ]
theorem lk_none {l : Spots} {i j : Int} (h : ∀ x ∈ l, ¬ (i = x.1.1 ∧ j = x.1.2)) : lk l i j = none := by
  simp only [lk, Option.map_eq_none_iff, List.find?_eq_none]
  intro x hx
  have := h x hx
  simp only [Bool.and_eq_true, beq_iff_eq]
  exact this
theorem spots_new (ms : List M) (k j : Nat) : lk (spotsL ms k ++ spotsAt ms k j) (k : Int) (j : Int) = none := by
  apply lk_none
  intro x hx
  simp only [spotsL, List.cons_append, List.mem_cons, List.mem_append, List.mem_flatMap, List.mem_range, spotsAt, List.mem_map] at hx
  rcases hx with rfl | ⟨t, ht, i, hi, rfl⟩ | ⟨i, hi, rfl⟩
  · simp
    try omega
  · simp
    omega
  · simp
    omega
section
variable {P : Program} {ops : Array Oper} {rest : List Oper} {o : Oper} {a : Act} {Q : Exit → Act → World → Prop}
end
structure OpenedAt (w wc : World) (A0 : Option Addr) (n0 c0 : Nat) (A1 : Option Addr) (n1 c1 : Nat) (n : Int) (b g : Nat) (l : Spots) : Prop where
  map : MapIs wc b l
  low : w.heap.size ≤ b
  ne1 : b ≠ w.heap.size
  ne2 : b ≠ w.heap.size + 1
  ne3 : b ≠ g
  gne : g ≠ w.heap.size + 1
  glow : w.heap.size ≤ g
  box : wc.heap[w.heap.size]? = some (.cells #[.slice A0 n0 c0, .slice A1 n1 c1, .int .i64 n] 25 (0, 0))
  res : wc.heap[w.heap.size + 1]? = some (.cells #[.slice none 0 0, .slice none 0 0, .int .i64 0, .map none] 86 (0, 0))
  bk : wc.heap[g]? = some (.cells #[.slice A0 n0 c0, .slice A1 n1 c1, .int .i64 n, .map (some b)] 86 (0, 0))
  bel : Below w.heap.size w wc
theorem OpenedAt.step {w wc w' : World} {A0 : Option Addr} {n0 c0 : Nat} {A1 : Option Addr} {n1 c1 : Nat} {n : Int} {b g : Nat} {l l' : Spots} (h : OpenedAt w wc A0 n0 c0 A1 n1 c1 n b g l) (hm : MapIs w' b l') (hg : wc.grownBy w' (some b)) :
    OpenedAt w w' A0 n0 c0 A1 n1 c1 n b g l' :=
  ⟨hm, h.low, h.ne1, h.ne2, h.ne3, h.gne, h.glow, (hg.block _ (Array.getElem?_eq_some_iff.1 h.box).1 (fun e => h.ne1 (by injection e with e; exact e.symm))).trans h.box,
   (hg.block _ (Array.getElem?_eq_some_iff.1 h.res).1 (fun e => h.ne2 (by injection e with e; exact e.symm))).trans h.res, (hg.block _ (Array.getElem?_eq_some_iff.1 h.bk).1 (fun e => h.ne3 (by injection e with e; exact e.symm))).trans h.bk,
   h.bel.grown hg h.bel.size (fun k e => by injection e with e; subst e; exact h.low)⟩
theorem OpenedAt.grow {w wc w' : World} {A0 : Option Addr} {n0 c0 : Nat} {A1 : Option Addr} {n1 c1 : Nat} {n : Int} {b g : Nat} {l : Spots} (h : OpenedAt w wc A0 n0 c0 A1 n1 c1 n b g l) (hb : Below wc.heap.size wc w') :
    OpenedAt w w' A0 n0 c0 A1 n1 c1 n b g l :=
  ⟨h.map.below hb, h.low, h.ne1, h.ne2, h.ne3, h.gne, h.glow, (hb.block _ (Array.getElem?_eq_some_iff.1 h.box).1).trans h.box,
   (hb.block _ (Array.getElem?_eq_some_iff.1 h.res).1).trans h.res, (hb.block _ (Array.getElem?_eq_some_iff.1 h.bk).1).trans h.bk, below_then h.bel h.bel.size hb⟩
end Go.Proofs.YtikfghnkbgdbgaaDoor.Q
end
section
namespace Go.Proofs.YtikfghnkbgdbgaaDoor.Q
set_option linter.unusedSimpArgs false
set_option linter.unusedVariables false
open Go.RowKit Go.Proofs.YtikfghnkbgdbgaaDoorW.PrintWords Go.Proofs.YtikfghnkbgdbgaaDoorW.PrintLast Go.Proofs.YtikfghnkbgdbgaaDoorW.PrintMore
theorem heap_alloc_if (w : World) (o : Obj) (k : Nat) : (w.alloc o).heap[k]? = if k = w.heap.size then some o else w.heap[k]? := by
  show (w.heap.push o)[k]? = _
  rw [Array.getElem?_push]
theorem heap_drew (w : World) : w.drew.heap = w.heap := rfl
theorem opened_start1 (w : World) (A0 : Option Addr) (n0 c0 : Nat) (A1 : Option Addr) (n1 c1 : Nat) (n : Int) :
    OpenedAt w ((((w.alloc (.cells #[.slice A0 n0 c0, .slice A1 n1 c1, .int .i64 n] 25)).alloc (.cells #[.slice none 0 0, .slice none 0 0, .int .i64 0, .map none] 86)).alloc (.map (one (-1) (-1) false) 1)).alloc (.cells #[.slice A0 n0 c0, .slice A1 n1 c1, .int .i64 n, .map (some (w.heap.size + 1 + 1))] 86)).drew
      A0 n0 c0 A1 n1 c1 n (w.heap.size + 1 + 1) (w.heap.size + 1 + 1 + 1) [((-1, -1), false)] where
  map := one_is (c := 1) (by (simp only [heap_drew, heap_alloc_if, World.size_alloc]; repeat (first | rw [if_pos (by first | trivial | omega)] | rw [if_neg (by omega)])))
  low := by omega
  ne1 := by omega
  ne2 := by omega
  ne3 := by omega
  gne := by omega
  glow := by omega
  box := by (simp only [heap_drew, heap_alloc_if, World.size_alloc]; repeat (first | rw [if_pos (by first | trivial | omega)] | rw [if_neg (by omega)]))
  res := by (simp only [heap_drew, heap_alloc_if, World.size_alloc]; repeat (first | rw [if_pos (by first | trivial | omega)] | rw [if_neg (by omega)]))
  bk := by (simp only [heap_drew, heap_alloc_if, World.size_alloc]; repeat (first | rw [if_pos (by first | trivial | omega)] | rw [if_neg (by omega)]))
  bel := by
    refine Below.drew ?_
    exact ((((Below.refl _ w).alloc (Nat.le_refl _) _).alloc (by simp) _).alloc (by simp; omega) _).alloc (by simp; omega) _
theorem opened_start2 (w : World) (A0 : Option Addr) (n0 c0 : Nat) (A1 : Option Addr) (n1 c1 : Nat) (n : Int) :
    OpenedAt w ((((w.alloc (.cells #[.slice A0 n0 c0, .slice A1 n1 c1, .int .i64 n] 25)).alloc (.cells #[.slice none 0 0, .slice none 0 0, .int .i64 0, .map none] 86)).alloc (.cells #[.slice A0 n0 c0, .slice A1 n1 c1, .int .i64 n, .map (some (w.heap.size + 1 + 1 + 1))] 86)).alloc (.map (one (-1) (-1) false) 1)).drew
      A0 n0 c0 A1 n1 c1 n (w.heap.size + 1 + 1 + 1) (w.heap.size + 1 + 1) [((-1, -1), false)] where
  map := one_is (c := 1) (by (simp only [heap_drew, heap_alloc_if, World.size_alloc]; repeat (first | rw [if_pos (by first | trivial | omega)] | rw [if_neg (by omega)])))
  low := by omega
  ne1 := by omega
  ne2 := by omega
  ne3 := by omega
  gne := by omega
  glow := by omega
  box := by (simp only [heap_drew, heap_alloc_if, World.size_alloc]; repeat (first | rw [if_pos (by first | trivial | omega)] | rw [if_neg (by omega)]))
  res := by (simp only [heap_drew, heap_alloc_if, World.size_alloc]; repeat (first | rw [if_pos (by first | trivial | omega)] | rw [if_neg (by omega)]))
  bk := by (simp only [heap_drew, heap_alloc_if, World.size_alloc]; repeat (first | rw [if_pos (by first | trivial | omega)] | rw [if_neg (by omega)]))
  bel := by
    refine Below.drew ?_
    exact ((((Below.refl _ w).alloc (Nat.le_refl _) _).alloc (by simp) _).alloc (by simp; omega) _).alloc (by simp; omega) _
set_option maxHeartbeats 2000000 in
set_option maxRecDepth 100000 in
theorem opened_calls (ms : List M) (gs : List G) (A0 : Option Addr) (c0 : Nat) (A1 : Option Addr) (c1 : Nat) (n : Int) (w : World) (hG : GV w) (hr0 : Kd.C k66 w A0 ms.length ms) (hm4 : ms.length ≤ 4) (hn0 : 0 ≤ n) (hn4 : n ≤ 4) :
    Calls Tryd.prog 90 #[.agg #[.slice A0 ms.length c0, .slice A1 gs.length c1, .int .i64 n]] w fun e w' =>
      ∃ b, e = .returned (.agg #[.slice A0 ms.length c0, .slice A1 gs.length c1, .int .i64 n, .map (some b)]) ∧ MapIs w' b (spotsL ms n.toNat) ∧ w.heap.size ≤ b ∧ Below w.heap.size w w' := by
  have hg0 := hG.1
  have hg1 := hG.2.1
  have hlt0 : 0 < w.heap.size := World.block_lt_of_cell? w _ hg0
  have hmm := @run_makeMap Tryd.prog
  have HR := Aside0.mk hr0
  clear hG hr0
  obtain ⟨N, rfl⟩ := Int.eq_ofNat_of_zero_le hn0
  rw [Int.toNat_natCast]
  go_enter Tryd.func90, Tryd.ntmps90
  go_wp2
  go_cut [3] (fun v3 wc => ∃ b g, v3 = .pointer (some ⟨g, 0, none⟩) ∧ Aside0 (OpenedAt w wc A0 ms.length c0 A1 gs.length c1 N b g (spotsL ms 0)))
  case first =>
    have p1 := put_new ((w.alloc (.cells #[.slice A0 ms.length c0, .slice A1 gs.length c1, .int .i64 N] 25)).alloc (.cells #[.slice none 0 0, .slice none 0 0, .int .i64 0, .map none] 86)) (w.heap.size + 1 + 1) (by simp) (-1) (-1) false
    have p2 := put_new2 ((w.alloc (.cells #[.slice A0 ms.length c0, .slice A1 gs.length c1, .int .i64 N] 25)).alloc (.cells #[.slice none 0 0, .slice none 0 0, .int .i64 0, .map none] 86)) (.cells #[.slice none 0 0, .slice none 0 0, .int .i64 0, .map none] 86) (w.heap.size + 1 + 1) (by simp) (-1) (-1) false
    have p3 := put_new (((w.alloc (.cells #[.slice A0 ms.length c0, .slice A1 gs.length c1, .int .i64 N] 25)).alloc (.cells #[.slice none 0 0, .slice none 0 0, .int .i64 0, .map none] 86)).alloc (.cells #[.slice none 0 0, .slice none 0 0, .int .i64 0, .map none] 86)) (w.heap.size + 1 + 1 + 1) (by simp) (-1) (-1) false
    go_region
    all_goals clear p1 p2 p3
    all_goals go_wp2
    all_goals
      go_meet
      case rel => first | exact ⟨_, _, rfl, ⟨opened_start1 w _ _ _ _ _ _ _⟩⟩ | exact ⟨_, _, rfl, ⟨opened_start2 w _ _ _ _ _ _ _⟩⟩
  case rest =>
    obtain ⟨b, g, rfl, HO⟩ := hcut
    clear hg0 hg1 hlt0 hmm
    have hbx2 : wc.cell? ⟨w.heap.size, 2, none⟩ = some (.int .i64 N) := (blk_cell HO.out.box 2).trans rfl
    go_wp2
    clear hbx2
    go_loopw [14] (fun v14 wr => ∃ k : Nat, k ≤ N ∧ v14 = .int .i64 k ∧ Aside0 (OpenedAt w wr A0 ms.length c0 A1 gs.length c1 N b g (spotsL ms k))) (fun v14 _ => N - (intOf v14).toNat)
    case atStart => exact ⟨0, Nat.zero_le _, rfl, HO⟩
    case round =>
      obtain ⟨k, hk, rfl, HK⟩ := hrel
      by_cases hlt : k < N
      · have hbx0 : wr.cell? ⟨w.heap.size, 0, none⟩ = some (.slice A0 ms.length c0) := (blk_cell HK.out.box 0).trans rfl
        go_wp2
        clear hbx0

        go_loopw [20] (fun v20 wi => ∃ j : Nat, j ≤ ms.length ∧ v20 = .int .i64 j ∧ Aside0 (OpenedAt w wi A0 ms.length c0 A1 gs.length c1 N b g (spotsL ms k ++ spotsAt ms k j))) (fun v20 _ => ms.length - (intOf v20).toNat)
        case atStart => exact ⟨0, Nat.zero_le _, rfl, ⟨by simpa [spotsAt] using HK.out⟩⟩
        case round =>
          obtain ⟨j, hj, rfl, HJ⟩ := hrel
          by_cases hlj : j < ms.length
          · obtain ⟨ad, rfl, hc0, hc1, hc2⟩ := at_T66 (Kd.C_below HR.out HJ.out.bel) (j : Int) (by omega) (by omega)
            rw [Int.toNat_natCast] at hc0 hc1 hc2
            go_wp2
            have hgb3 : wr.cell? ⟨g, 3, none⟩ = some (.map (some b)) := (blk_cell HJ.out.bk 3).trans rfl
            have hgl : g < wr.heap.size := (Array.getElem?_eq_some_iff.1 HJ.out.bk).1
            clear hc0 hc1 hc2
            have HJ2 := Aside0.mk (HJ.out.grow (w' := (wr.alloc (.cells #[.int .i64 (rd_T66 ms j).f0.f0, .int .i64 (rd_T66 ms j).f0.f1, .int .i64 (rd_T66 ms j).f1] 66)).drew) (Below.drew ((Below.refl _ wr).alloc (Nat.le_refl _) _)))
            obtain ⟨W3, hrun, hm3, hg3⟩ := run_put HJ2.out.map (k : Int) (j : Int) (bits BinOp.and IntKind.i64 ((rd_T66 ms j).f1 / 2 ^ k) 1 == 0) (spots_new ms k j)
            have HM3 := Aside0.mk (HJ2.out.step hm3 hg3)
            clear hm3 hg3 HJ2
            go_region
            go_wp2
            go_roundw
            case rel => exact ⟨j + 1, by omega, by go_num, ⟨by rw [spotsAt_succ, ← List.append_assoc]; simpa [bitB] using HM3.out⟩⟩
            case measure => simp [intOf]; omega
          · obtain rfl : j = ms.length := by omega
            go_wp2
            go_roundw
            case rel => exact ⟨k + 1, by omega, by go_num, ⟨by rw [spotsL_succ]; exact HJ.out⟩⟩
            case measure => simp [intOf]; omega
      · obtain rfl : k = N := by omega
        have hgb0 : wr.cell? ⟨g, 0, none⟩ = some (.slice A0 ms.length c0) := (blk_cell HK.out.bk 0).trans rfl
        have hgb1 : wr.cell? ⟨g, 1, none⟩ = some (.slice A1 gs.length c1) := (blk_cell HK.out.bk 1).trans rfl
        have hgb2 : wr.cell? ⟨g, 2, none⟩ = some (.int .i64 k) := (blk_cell HK.out.bk 2).trans rfl
        have hgb3 : wr.cell? ⟨g, 3, none⟩ = some (.map (some b)) := (blk_cell HK.out.bk 3).trans rfl
        have hs0 : wr.cell? ⟨w.heap.size + 1, 0, none⟩ = some (.slice none 0 0) := (blk_cell HK.out.res 0).trans rfl
        have hs1 : wr.cell? ⟨w.heap.size + 1, 1, none⟩ = some (.slice none 0 0) := (blk_cell HK.out.res 1).trans rfl
        have hs2 : wr.cell? ⟨w.heap.size + 1, 2, none⟩ = some (.int .i64 0) := (blk_cell HK.out.res 2).trans rfl
        have hs3 : wr.cell? ⟨w.heap.size + 1, 3, none⟩ = some (.map none) := (blk_cell HK.out.res 3).trans rfl
        have hf0 := blk_frozen HK.out.res 0
        have hf1 := blk_frozen HK.out.res 1
        have hf2 := blk_frozen HK.out.res 2
        have hf3 := blk_frozen HK.out.res 3
        go_wp2
        refine bodyPost_ret (v := .agg #[.slice A0 ms.length c0, .slice A1 gs.length c1, .int .i64 k, .map (some b)]) (by simp [results, Tryd.results90, go_sem, hs0, hs1, hs2, hs3]) rfl ⟨b, rfl, ?_, HK.out.low, ?_⟩
        · refine HK.out.map.kept ?_
          rw [Below.heap_setCell _ _ _ _ HK.out.ne2, Below.heap_setCell _ _ _ _ HK.out.ne2, Below.heap_setCell _ _ _ _ HK.out.ne2, Below.heap_setCell _ _ _ _ HK.out.ne2]
        · exact (((HK.out.bel.setCell (by simp) _).setCell (by simp) _).setCell (by simp) _).setCell (by simp) _
end Go.Proofs.YtikfghnkbgdbgaaDoor.Q
end
section
namespace Go.Proofs.YtikfghnkbgdbgaaDoor.Q
set_option linter.unusedSimpArgs false
set_option linter.unusedVariables false
open Go.RowKit Go.Proofs.YtikfghnkbgdbgaaDoorW.PrintWords Go.Proofs.YtikfghnkbgdbgaaDoorW.PrintLast Go.Proofs.YtikfghnkbgdbgaaDoorW.PrintMore
theorem within_f (a b c : Int) : gang_within.f a b c = some (within a b c) := by
  unfold gang_within.f within
  by_cases h : b ≤ a <;> simp [h]
theorem within_quiet (a b c : Int) (r : Bool) (hr : within a b c = r) (w : World) (n : Nat) : Calls Tryd.prog 62 #[.int .i64 a, .int .i64 b, .int .i64 c] (w.drewN n) fun e w'' => e = .returned (.bool r) ∧ ∃ m, w'' = w.drewN m :=
  Calls.quiet_of ((gang_within.calls a b c r (w.drewN n) (by rw [within_f, hr])).mono fun e w' ⟨he, hd⟩ => ⟨he, hd.out⟩)
theorem lk_spots (ms : List M) (n : Nat) (i j : Int) : (lk (spotsL ms n) i j).getD false = openB ms n i j := by
  by_cases h : 0 ≤ i ∧ i < n ∧ 0 ≤ j ∧ j < ms.length
  · obtain ⟨h1, h2, h3, h4⟩ := h
    have : lk (spotsL ms n) i j = some (!bitB (rd_T66 ms j).f1 i) := by
      have key : ∀ m : Nat, i < m → m ≤ n → lk (spotsL ms m) i j = some (!bitB (rd_T66 ms j).f1 i) := by
        intro m hm hmn
        induction m with
        | zero => omega
        | succ m ih =>
          rw [spotsL_succ]
          simp only [lk, List.find?_append]
          by_cases hi : i < m
          · have := ih hi (by omega)
            simp only [lk, Option.map_eq_some_iff] at this
            obtain ⟨x, hx, hx2⟩ := this
            rw [hx]; simp [hx2]
          · obtain rfl : i = m := by omega
            have h0 : (spotsL ms m).find? (fun x => (m : Int) == x.1.1 && (j == x.1.2)) = none := by
              rw [List.find?_eq_none]
              intro x hx
              simp only [spotsL, List.mem_cons, List.mem_flatMap, List.mem_range, spotsAt, List.mem_map] at hx
              rcases hx with rfl | ⟨t, ht, q, hq, rfl⟩
              · simp
                try omega
              · simp
                try omega
            rw [h0, Option.none_or]
            have key2 : ∀ q : Nat, j < q → q ≤ ms.length → ((spotsAt ms m q).find? (fun x => (m : Int) == x.1.1 && (j == x.1.2))).map (·.2) = some (!bitB (rd_T66 ms j).f1 m) := by
              intro q hq hql
              induction q with
              | zero => omega
              | succ q ih2 =>
                rw [spotsAt_succ]
                simp only [List.find?_append]
                by_cases hj : j < q
                · have := ih2 hj (by omega)
                  simp only [Option.map_eq_some_iff] at this
                  obtain ⟨x, hx, hx2⟩ := this
                  rw [hx]; simp [hx2]
                · obtain rfl : j = q := by omega
                  have h0 : (spotsAt ms m q).find? (fun x => (m : Int) == x.1.1 && ((q : Int) == x.1.2)) = none := by
                    rw [List.find?_eq_none]
                    intro x hx
                    simp only [spotsAt, List.mem_map, List.mem_range] at hx
                    obtain ⟨y, hy, rfl⟩ := hx
                    simp; omega
                  rw [h0, Option.none_or]
                  simp
            exact key2 ms.length h4 (Nat.le_refl _)
      exact key n h2 (Nat.le_refl _)
    rw [this]
    simp [openB, h1, h2, h3, h4]
  · have h0 : openB ms n i j = false := by
      simp only [openB]
      by_cases a : 0 ≤ i <;> by_cases b : i < (n : Int) <;> by_cases c : 0 ≤ j <;> by_cases d : j < (ms.length : Int) <;> simp [a, b, c, d]
      exact absurd ⟨a, b, c, d⟩ h
    rw [h0]
    cases hl : lk (spotsL ms n) i j with
    | none => rfl
    | some v =>
      simp only [lk, Option.map_eq_some_iff] at hl
      obtain ⟨x, hx, rfl⟩ := hl
      have hm := List.mem_of_find?_eq_some hx
      have hp := List.find?_some hx
      simp only [spotsL, List.mem_cons, List.mem_flatMap, List.mem_range, spotsAt, List.mem_map] at hm
      rcases hm with rfl | ⟨t, ht, q, hq, rfl⟩
      · rfl
      · simp at hp
        exact absurd ⟨by omega, by omega, by omega, by omega⟩ h
theorem look_at {w W : World} {b : Nat} {ms : List M} {N : Nat} (hm : MapIs w b (spotsL ms N)) (hB : Below w.heap.size w W) (i j : Int) :
    ∀ nq, (Instr.lookup 84 (.map (some b)) (.agg #[.int .i64 i, .int .i64 j]) false).run Tryd.prog (W.drewN nq) = .ok (.bool (openB ms N i j)) (W.drewN nq) := fun nq => by
  rw [← lk_spots]
  exact run_look (hm.below (pw_below_drewN hB nq)) i j
end Go.Proofs.YtikfghnkbgdbgaaDoor.Q
end
section
namespace Go.Proofs.YtikfghnkbgdbgaaDoor.Q
set_option linter.unusedSimpArgs false
set_option linter.unusedVariables false
open Go.RowKit Go.Proofs.YtikfghnkbgdbgaaDoorW.PrintWords Go.Proofs.YtikfghnkbgdbgaaDoorW.PrintLast Go.Proofs.YtikfghnkbgdbgaaDoorW.PrintMore
attribute [local go_sem high] eqSpot
set_option maxHeartbeats 2000000 in
set_option maxRecDepth 100000 in
theorem can_calls (ms : List M) (gs : List G) (A0 : Option Addr) (c0 : Nat) (A1 : Option Addr) (c1 : Nat) (n : Int) (b : Nat) (x0 x1 x2 : Int) (w : World) (hr1 : Kd.C k63 w A1 gs.length gs) (hn0 : 0 ≤ n) (hm : MapIs w b (spotsL ms n.toNat)) (hG : GV w) (hg2 : gs.length ≤ 2) :
    Calls Tryd.prog 63 #[.agg #[.slice A0 ms.length c0, .slice A1 gs.length c1, .int .i64 n, .map (some b)], .agg #[.int .i64 x0, .int .i64 x1, .int .i64 x2]] w fun e w' =>
      e = .returned (.bool (canB ms gs n ⟨x0, x1, x2⟩)) ∧ Below w.heap.size w w' := by
  have hg0 := hG.1
  have hg1 := hG.2.1
  have hlt0 : 0 < w.heap.size := World.block_lt_of_cell? w _ hg0
  have HR := Aside0.mk hr1
  obtain ⟨N, rfl⟩ := Int.eq_ofNat_of_zero_le hn0
  rw [Int.toNat_natCast] at hm
  have HM := Aside0.mk hm
  clear hG hr1 hm
  have HB := Aside0.mk (((Below.refl w.heap.size w).alloc (Nat.le_refl _) (.cells #[.slice A0 ms.length c0, .slice A1 gs.length c1, .int .i64 N, .map (some b)] 86)).alloc (by simp) (.cells #[.int .i64 x0, .int .i64 x1, .int .i64 x2] 59) |>.alloc (by simp; omega) (.cells #[.int .i64 x0, .int .i64 x2] 116))
  have hlk := look_at HM.out HB.out x0 x2
  have hfin : ∀ nq, Below w.heap.size w (World.drewN _ nq) := fun nq => pw_below_drewN HB.out nq
  have HF := Aside0.mk hfin
  clear hfin
  cases h1 : (x0 == -1 && (x2 == -1)) with
  | true =>
    have hb : canB ms gs N ⟨x0, x1, x2⟩ = false := by
      have : x0 = -1 := by simp at h1; exact h1.1
      subst this
      simp [canB, openB]
    have Hb := Aside0.mk hb
    clear hb
    have hx0 : x0 = -1 := by simp at h1; exact h1.1
    have hx2 : x2 = -1 := by simp at h1; exact h1.2
    subst hx0 hx2
    clear h1
    go_enter Tryd.func63, Tryd.ntmps63
    go_wp2
    go_quiet (fail)
    go_wp2
    go_ret
    exact ⟨by first | (rw [Hb.out]; done) | (rw [Hb.out]; rfl), HF.out _⟩
  | false =>
    cases h2 : openB ms N x0 x2 with
    | false =>
      have hb : canB ms gs N ⟨x0, x1, x2⟩ = false := by simp [canB, h2]
      have Hb := Aside0.mk hb
      clear hb
      rw [h2] at hlk
      clear h2
      go_enter Tryd.func63, Tryd.ntmps63
      go_wp2
      go_quiet (fail)
      go_wp2
      go_ret
      exact ⟨by first | (rw [Hb.out]; done) | (rw [Hb.out]; rfl), HF.out _⟩
    | true =>
      rw [h2] at hlk
      cases h3 : within x1 0 ((gs.length : Int) - 1) with
      | false =>
        have hb : canB ms gs N ⟨x0, x1, x2⟩ = false := by
          simp only [within, Bool.and_eq_false_iff, decide_eq_false_iff_not] at h3
          simp only [canB, h2, Bool.true_and, Bool.and_eq_false_iff, decide_eq_false_iff_not]
          omega
        have Hb := Aside0.mk hb
        clear hb h2
        go_enter Tryd.func63, Tryd.ntmps63
        go_wp2
        go_quiet ((go_at_call 62; exact within_quiet _ _ _ _ rfl _ _))
        go_wp2
        go_ret
        exact ⟨by first | (rw [Hb.out]; done) | (rw [Hb.out]; rfl), HF.out _⟩
      | true =>
        have hx1 : 0 ≤ x1 ∧ x1 < gs.length := by simp [within] at h3; omega
        have hb : canB ms gs N ⟨x0, x1, x2⟩ = within x2 (rd_T63 gs x1).f0 (rd_T63 gs x1).f1 := by
          simp [canB, h2, hx1.1, hx1.2, within]
        have Hb := Aside0.mk hb
        clear hb h2
        obtain ⟨ad, rfl, hc0, hc1, hc2, hc3⟩ := at_T63 (Kd.C_below HR.out HB.out) x1 hx1.1 hx1.2
        have hx10 := hx1.1
        have hx11 := hx1.2
        clear hx1 hc2 hc3
        go_enter Tryd.func63, Tryd.ntmps63
        go_wp2
        go_quiet ((go_at_call 62; exact within_quiet _ _ _ _ rfl _ _))
        go_wp2
        go_ret
        exact ⟨by first | (rw [Hb.out]; done) | (rw [Hb.out]; rfl), HF.out _⟩
end Go.Proofs.YtikfghnkbgdbgaaDoor.Q
end
section
namespace Go.Proofs.YtikfghnkbgdbgaaDoor.Q
set_option linter.unusedSimpArgs false
set_option linter.unusedVariables false
open Go.RowKit Go.Proofs.YtikfghnkbgdbgaaDoorW.PrintWords Go.Proofs.YtikfghnkbgdbgaaDoorW.PrintLast Go.Proofs.YtikfghnkbgdbgaaDoorW.PrintMore
theorem canB_bounds {ms : List M} {gs : List G} {n : Int} {x : Wk} (h : canB ms gs n x = true) : (0 ≤ x.f0 ∧ x.f0 < n) ∧ (0 ≤ x.f1 ∧ x.f1 < gs.length) ∧ (0 ≤ x.f2 ∧ x.f2 < ms.length) := by
  simp only [canB, openB, Bool.and_eq_true, decide_eq_true_eq] at h
  omega
def W3 (p : List Wk) (k : Nat) : Wk := rd_T59 p k
theorem drop_W3 (p : List Wk) (k : Nat) (h : k < p.length) : p.drop k = W3 p k :: p.drop (k + 1) := by
  rw [List.drop_eq_getElem_cons h]
  simp [W3, rd_T59, List.getD_eq_getElem?_getD, List.getElem?_eq_getElem h]
theorem take_W3 (p : List Wk) (k : Nat) (h : k < p.length) : p.take (k + 1) = p.take k ++ [W3 p k] := by
  rw [List.take_succ_eq_append_getElem h]
  simp [W3, rd_T59, List.getD_eq_getElem?_getD, List.getElem?_eq_getElem h]
structure PlanAt (ms : List M) (gs : List G) (n : Int) (p : List Wk) (k : Nat) : Prop where
  rest : planB ms gs n p = planFrom ms gs n (p.take k) (p.drop k)
  had : ∀ j, j < k → canB ms gs n (W3 p j) = true
theorem PlanAt.start (ms : List M) (gs : List G) (n : Int) (p : List Wk) : PlanAt ms gs n p 0 := ⟨rfl, fun j h => absurd h (by omega)⟩
theorem PlanAt.no {ms : List M} {gs : List G} {n : Int} {p : List Wk} {k : Nat} (h : PlanAt ms gs n p k) (hk : k < p.length) (hc : canB ms gs n (W3 p k) = false) : planB ms gs n p = false := by
  rw [h.rest, drop_W3 p k hk]; simp [planFrom, hc]
theorem take_all (p : List Wk) (f : Wk → Bool) (k : Nat) (hk : k ≤ p.length) : (p.take k).all f = true ↔ ∀ j, j < k → f (W3 p j) = true := by
  induction k with
  | zero => simp
  | succ k ih =>
    rw [take_W3 p k (by omega), List.all_append, Bool.and_eq_true, ih (by omega)]
    simp only [List.all_cons, List.all_nil, Bool.and_true]
    constructor
    · rintro ⟨h1, h2⟩ j hj
      by_cases e : j = k
      · rw [e]; exact h2
      · exact h1 j (by omega)
    · intro h
      exact ⟨fun j hj => h j (by omega), h k (by omega)⟩
theorem PlanAt.bad {ms : List M} {gs : List G} {n : Int} {p : List Wk} {k j : Nat} (h : PlanAt ms gs n p k) (hk : k < p.length) (hj : j < k) (hc : behindB (W3 p j) (W3 p k) = false) : planB ms gs n p = false := by
  rw [h.rest, drop_W3 p k hk]
  have : (p.take k).all (fun y => behindB y (W3 p k)) = false := by
    cases e : (p.take k).all (fun y => behindB y (W3 p k)) with
    | false => rfl
    | true =>
      have := (take_all p _ k (by omega)).1 e j hj
      rw [hc] at this; cases this
  simp [planFrom, this]
theorem PlanAt.next {ms : List M} {gs : List G} {n : Int} {p : List Wk} {k : Nat} (h : PlanAt ms gs n p k) (hk : k < p.length) (hc : canB ms gs n (W3 p k) = true) (ha : ∀ j, j < k → behindB (W3 p j) (W3 p k) = true) : PlanAt ms gs n p (k + 1) := by
  refine ⟨?_, fun j hj => ?_⟩
  · rw [h.rest, drop_W3 p k hk, take_W3 p k hk]
    have := (take_all p (fun y => behindB y (W3 p k)) k (by omega)).2 ha
    simp [planFrom, hc, this]
  · by_cases e : j = k
    · rw [e]; exact hc
    · exact h.had j (by omega)
theorem PlanAt.end_ {ms : List M} {gs : List G} {n : Int} {p : List Wk} (h : PlanAt ms gs n p p.length) : planB ms gs n p = true := by
  rw [h.rest]; simp [planFrom]
theorem within_calls (a b c : Int) (r : Bool) (hr : within a b c = r) (w : World) : Calls Tryd.prog 62 #[.int .i64 a, .int .i64 b, .int .i64 c] w fun e w' => e = .returned (.bool r) ∧ Below w.heap.size w w' :=
  (gang_within.calls a b c r w (by rw [within_f, hr])).mono fun e w' ⟨he, hd⟩ => ⟨he, hd.below⟩
structure BoxAt (w wr : World) (A0 : Option Addr) (n0 c0 : Nat) (A1 : Option Addr) (n1 c1 : Nat) (n : Int) (b : Nat) (g : Nat) : Prop where
  box : wr.heap[g]? = some (.cells #[.slice A0 n0 c0, .slice A1 n1 c1, .int .i64 n, .map (some b)] 86 (0, 0))
  bel : Below w.heap.size w wr
theorem BoxAt.step {w wr w' : World} {A0 : Option Addr} {n0 c0 : Nat} {A1 : Option Addr} {n1 c1 : Nat} {n : Int} {b g : Nat} (h : BoxAt w wr A0 n0 c0 A1 n1 c1 n b g) (hb : Below wr.heap.size wr w') : BoxAt w w' A0 n0 c0 A1 n1 c1 n b g :=
  ⟨(hb.block _ (Array.getElem?_eq_some_iff.1 h.box).1).trans h.box, below_then h.bel h.bel.size hb⟩
set_option maxHeartbeats 4000000 in
set_option maxRecDepth 100000 in
theorem isPlan_calls (ms : List M) (gs : List G) (A0 : Option Addr) (c0 : Nat) (A1 : Option Addr) (c1 : Nat) (n : Int) (b : Nat) (A2 : Option Addr) (c2 : Nat) (p : List Wk) (w : World) (hr1 : Kd.C k63 w A1 gs.length gs) (hr2 : Kd.C k59 w A2 p.length p) (hc2 : p.length ≤ c2)
    (hn0 : 0 ≤ n) (hm : MapIs w b (spotsL ms n.toNat)) (hG : GV w) (hg2 : gs.length ≤ 2) (hm4 : ms.length ≤ 4) :
    Calls Tryd.prog 91 #[.agg #[.slice A0 ms.length c0, .slice A1 gs.length c1, .int .i64 n, .map (some b)], .slice A2 p.length c2] w fun e w' =>
      e = .returned (.bool (planB ms gs n p)) ∧ Below w.heap.size w w' := by
  have HR1 := Aside0.mk hr1
  have HR2 := Aside0.mk hr2
  have HM := Aside0.mk hm
  have HG := Aside0.mk hG
  have hpl : p.length ≤ 9223372036854775807 := hr2.2.1
  clear hr1 hr2 hm hG
  obtain ⟨i0, hi0, hz1, hsz, hz2⟩ := info_parts info59
  have HI := Aside0.mk hi0
  clear hi0 hsz hz1 hz2
  go_enter Tryd.func91, Tryd.ntmps91
  go_wp2
  go_loopw [11] (fun v11 wr => ∃ k : Nat, k ≤ p.length ∧ v11 = .int .i64 k ∧ Aside0 (PlanAt ms gs n p k) ∧ Aside0 (BoxAt w wr A0 ms.length c0 A1 gs.length c1 n b w.heap.size)) (fun v11 _ => p.length - (intOf v11).toNat)
  case atStart => exact ⟨0, Nat.zero_le _, rfl, ⟨PlanAt.start _ _ _ _⟩, ⟨⟨World.alloc_heap_new w _, (Below.refl _ w).alloc (Nat.le_refl _) _⟩⟩⟩
  case round =>
    obtain ⟨k, hk, rfl, HP, HX⟩ := hrel
    by_cases hlt : k < p.length
    · obtain ⟨ad, hA2, hx0, hx1, hx2⟩ := at_T59 (Kd.C_below HR2.out HX.out.bel) (k : Int) (by omega) (by omega)
      have HA2 := Aside0.mk hA2
      rw [Int.toNat_natCast] at hx0 hx1 hx2
      have hb0 : wr.cell? ⟨w.heap.size, 0, none⟩ = some (.slice A0 ms.length c0) := (blk_cell HX.out.box 0).trans rfl
      have hb1 : wr.cell? ⟨w.heap.size, 1, none⟩ = some (.slice A1 gs.length c1) := (blk_cell HX.out.box 1).trans rfl
      have hb2 : wr.cell? ⟨w.heap.size, 2, none⟩ = some (.int .i64 n) := (blk_cell HX.out.box 2).trans rfl
      have hb3 : wr.cell? ⟨w.heap.size, 3, none⟩ = some (.map (some b)) := (blk_cell HX.out.box 3).trans rfl
      have hbl : w.heap.size < wr.heap.size := (Array.getElem?_eq_some_iff.1 HX.out.box).1
      subst hA2
      clear HA2
      cases hc : canB ms gs n (W3 p k) with
      | false =>
        have HC := Aside0.mk hc
        clear hc
        go_wp2_with (fail)
        refine (can_calls ms gs A0 c0 A1 c1 n b _ _ _ _ ?s1 hn0 ?s2 ?s3 hg2).mono ?_
        case s1 => exact Kd.C_below HR1.out (HX.out.bel.alloc HX.out.bel.size _)
        case s2 => exact HM.out.below (HX.out.bel.alloc HX.out.bel.size _)
        case s3 => exact gv_below HG.out (HX.out.bel.alloc HX.out.bel.size _)
        rintro e w1 ⟨he, hb⟩
        rw [show canB ms gs n ⟨(rd_T59 p k).f0, (rd_T59 p k).f1, (rd_T59 p k).f2⟩ = false from HC.out] at he
        subst he
        have HB := Aside0.mk (below_then (HX.out.bel.alloc HX.out.bel.size _) (by simp; have := HX.out.bel.size; omega) hb)
        clear hb hx0 hx1 hx2 hb0 hb1 hb2 hb3 hbl
        go_wp2
        go_ret
        exact ⟨by rw [HP.out.no hlt HC.out]; first | done | rfl, HB.out⟩
      | true =>
        have HC := Aside0.mk hc
        have hxb := canB_bounds hc
        have hxb0 : 0 ≤ (rd_T59 p k).f2 := hxb.2.2.1
        have hxb1 : (rd_T59 p k).f2 < ms.length := hxb.2.2.2
        clear hc hxb
        go_wp2_with (fail)
        refine (can_calls ms gs A0 c0 A1 c1 n b _ _ _ _ ?s4 hn0 ?s5 ?s6 hg2).mono ?_
        case s4 => exact Kd.C_below HR1.out (HX.out.bel.alloc HX.out.bel.size _)
        case s5 => exact HM.out.below (HX.out.bel.alloc HX.out.bel.size _)
        case s6 => exact gv_below HG.out (HX.out.bel.alloc HX.out.bel.size _)
        rintro e w1 ⟨he, hb⟩
        rw [show canB ms gs n ⟨(rd_T59 p k).f0, (rd_T59 p k).f1, (rd_T59 p k).f2⟩ = true from HC.out] at he
        subst he
        have HX1 := Aside0.mk (HX.out.step (below_then ((Below.refl _ wr).alloc (Nat.le_refl _) _) (by simp) hb))
        have HBx := Aside0.mk (((hb.block wr.heap.size (by simp)).trans (World.alloc_heap_new wr _)))
        clear hb hx0 hx1 hx2 hb0 hb1 hb2 hb3 hbl
        have hcut := cut_to (P := Tryd.prog) 26 59 .i64 Tryd.underlying26 HI.out (some ad) p.length c2 (k : Int) (by omega) (by omega) hc2
        rw [Int.toNat_natCast] at hcut
        go_wp2
        clear hcut
        go_loopw [24] (fun v24 wi => ∃ j : Nat, j ≤ k ∧ v24 = .int .i64 j ∧ Aside0 (∀ i, i < j → behindB (W3 p i) (W3 p k) = true) ∧ Aside0 (BoxAt w wi A0 ms.length c0 A1 gs.length c1 n b w.heap.size) ∧
          Aside0 (wi.heap[wr.heap.size]? = some (.cells #[.int .i64 (rd_T59 p k).f0, .int .i64 (rd_T59 p k).f1, .int .i64 (rd_T59 p k).f2] 59 (0, 0)))) (fun v24 _ => k - (intOf v24).toNat)
        case atStart => exact ⟨0, Nat.zero_le _, rfl, ⟨fun i h => absurd h (by omega)⟩, HX1, HBx⟩
        case round =>
          obtain ⟨j, hj, rfl, HA, HY, HZ⟩ := hrel
          by_cases hlj : j < k
          · have hyb := canB_bounds (HP.out.had j hlj)
            have hyb0 : 0 ≤ (rd_T59 p j).f2 := hyb.2.2.1
            have hyb1 : (rd_T59 p j).f2 < ms.length := hyb.2.2.2
            clear hyb
            obtain ⟨ad', hA2, hy0, hy1, hy2⟩ := at_T59 (Kd.C_below HR2.out HY.out.bel) (j : Int) (by omega) (by omega)
            obtain rfl : ad = ad' := Option.some.inj hA2
            clear hA2
            rw [Int.toNat_natCast] at hy0 hy1 hy2
            have hz0 : wr.cell? ⟨_, 0, none⟩ = some (.int .i64 (rd_T59 p k).f0) := (blk_cell HZ.out 0).trans rfl
            have hz1 : wr.cell? ⟨_, 1, none⟩ = some (.int .i64 (rd_T59 p k).f1) := (blk_cell HZ.out 1).trans rfl
            have hz2 : wr.cell? ⟨_, 2, none⟩ = some (.int .i64 (rd_T59 p k).f2) := (blk_cell HZ.out 2).trans rfl
            have hzl := (Array.getElem?_eq_some_iff.1 HZ.out).1
            have HY2 := Aside0.mk (HY.out.step ((Below.refl _ wr).alloc (Nat.le_refl _) (.cells #[.int .i64 (rd_T59 p j).f0, .int .i64 (rd_T59 p j).f1, .int .i64 (rd_T59 p j).f2] 59)))
            by_cases e1 : (rd_T59 p k).f0 < (rd_T59 p j).f0
            · have HF := Aside0.mk (HP.out.bad hlt hlj (by simp [behindB, W3, e1]))
              go_wp2
              go_ret
              exact ⟨by rw [HF.out]; first | done | rfl, HY2.out.bel⟩
            · by_cases e2 : (rd_T59 p j).f0 = (rd_T59 p k).f0
              · have e2b : ((rd_T59 p j).f0 == (rd_T59 p k).f0) = true := beq_iff_eq.2 e2
                have E2 := Aside0.mk e2
                clear e2
                by_cases e3 : (rd_T59 p k).f1 ≤ (rd_T59 p j).f1
                · have HF := Aside0.mk (HP.out.bad hlt hlj (by simp [behindB, W3, E2.out, e3]))
                  go_wp2
                  go_ret
                  exact ⟨by rw [HF.out]; first | done | rfl, HY2.out.bel⟩
                · cases e4 : within ((rd_T59 p k).f2 - (rd_T59 p j).f2) (-1) 1 with
                  | true =>
                    have HF := Aside0.mk (HP.out.bad hlt hlj (by simp [within] at e4; simp [behindB, W3, E2.out, e4]))
                    have E4 := Aside0.mk e4
                    clear e4
                    go_wp2_with (fail)
                    refine (within_calls _ _ _ true E4.out _).mono ?_
                    rintro e w2 ⟨rfl, hb⟩
                    have HB := Aside0.mk (below_then HY2.out.bel HY2.out.bel.size hb)
                    clear hb hy0 hy1 hy2 hz0 hz1 hz2 hzl
                    go_wp2
                    go_ret
                    exact ⟨by rw [HF.out]; first | done | rfl, HB.out⟩
                  | false =>
                    have HF : Aside0 (behindB (W3 p j) (W3 p k) = true) := ⟨by
                      have q1 : decide ((rd_T59 p j).f0 > (rd_T59 p k).f0) = false := decide_eq_false (by omega)
                      have q2 : decide ((rd_T59 p j).f1 ≥ (rd_T59 p k).f1) = false := decide_eq_false (by omega)
                      have q3 : (decide (-1 ≤ (rd_T59 p k).f2 - (rd_T59 p j).f2) && decide ((rd_T59 p k).f2 - (rd_T59 p j).f2 ≤ 1)) = false := e4
                      unfold behindB W3
                      rw [q1, q2, q3]
                      simp⟩
                    have E4 := Aside0.mk e4
                    clear e4
                    go_wp2_with (fail)
                    refine (within_calls _ _ _ false E4.out _).mono ?_
                    rintro e w2 ⟨rfl, hb⟩
                    have HY3 := Aside0.mk (HY2.out.step hb)
                    have HZ3 := Aside0.mk ((hb.block _ (by simp; omega)).trans ((Below.heap_alloc wr _ _ hzl).trans HZ.out))
                    clear hb hy0 hy1 hy2 hz0 hz1 hz2 hzl
                    go_wp2
                    go_roundw
                    case rel => exact ⟨j + 1, by omega, by go_num, ⟨fun i hi => by
                      by_cases q : i = j
                      · rw [q]; exact HF.out
                      · exact HA.out i (by omega)⟩, HY3, HZ3⟩
                    case measure => simp [intOf]; omega
              · have e2b : ((rd_T59 p j).f0 == (rd_T59 p k).f0) = false := beq_eq_false_iff_ne.2 e2
                have HF : Aside0 (behindB (W3 p j) (W3 p k) = true) := ⟨by simp [behindB, W3, e2]; omega⟩
                have HZ3 := Aside0.mk ((Below.heap_alloc wr (.cells #[.int .i64 (rd_T59 p j).f0, .int .i64 (rd_T59 p j).f1, .int .i64 (rd_T59 p j).f2] 59) _ hzl).trans HZ.out)
                go_wp2
                go_roundw
                case rel => exact ⟨j + 1, by omega, by go_num, ⟨fun i hi => by
                    by_cases q : i = j
                    · rw [q]; exact HF.out
                    · exact HA.out i (by omega)⟩, HY2, HZ3⟩
                case measure => simp [intOf]; omega
          · obtain rfl : j = k := by omega
            go_wp2
            go_roundw
            case rel => exact ⟨j + 1, by omega, by go_num, ⟨HP.out.next hlt HC.out HA.out⟩, HY⟩
            case measure => simp [intOf]; omega
    · obtain rfl : k = p.length := by omega
      go_wp2
      go_ret
      exact ⟨by rw [HP.out.end_]; first | done | rfl, HX.out.bel⟩
end Go.Proofs.YtikfghnkbgdbgaaDoor.Q
end
section
namespace Go.Proofs.YtikfghnkbgdbgaaDoor.Q
set_option linter.unusedSimpArgs false
set_option linter.unusedVariables false
open Go.RowKit Go.Proofs.YtikfghnkbgdbgaaDoorW.PrintWords Go.Proofs.YtikfghnkbgdbgaaDoorW.PrintLast Go.Proofs.YtikfghnkbgdbgaaDoorW.PrintMore
theorem span_f (lo hi m : Int) (hm : m ≤ 100) : gang_isSpan.f lo hi m = some (spanB ⟨lo, hi⟩ m) := by
  unfold gang_isSpan.f spanB
  by_cases h1 : 1 ≤ lo
  · by_cases h2 : lo ≤ hi
    · by_cases h3 : hi ≤ m
      · have : wrap64 (hi - lo) = hi - lo := by unfold wrap64; omega
        simp [h1, h2, h3, this]
      · simp [h1, h2, h3]
    · simp [h1, h2]
  · simp [h1]
def mileB (x : M) : Bool := spanB x.f0 6 && decide (0 ≤ x.f1) && decide (x.f1 ≤ 15)
def gangB (m : Int) (x : G) : Bool := decide (0 ≤ x.f0) && decide (x.f0 ≤ x.f1) && decide (x.f1 < m) && spanB x.f2 3
theorem rd_drop_M (l : List M) (j : Nat) (h : j < l.length) : l.drop j = rd_T66 l j :: l.drop (j + 1) := by
  rw [List.drop_eq_getElem_cons h]; simp [rd_T66, List.getD_eq_getElem?_getD, List.getElem?_eq_getElem h]
theorem rd_drop_G (l : List G) (j : Nat) (h : j < l.length) : l.drop j = rd_T63 l j :: l.drop (j + 1) := by
  rw [List.drop_eq_getElem_cons h]; simp [rd_T63, List.getD_eq_getElem?_getD, List.getElem?_eq_getElem h]
theorem wrap_up {i n : Nat} (h : i < n) (hn : n ≤ 9223372036854775807) : wrap64 ((i : Int) + 1) = ((i + 1 : Nat) : Int) := by unfold wrap64; omega
theorem check_l1 (ms : List M) (gs : List G) (n : Int) (hg : gs.length ≤ 9223372036854775807) (d : Nat) : ∀ (k j : Nat) (b : Bool), gs.length - j = d → j ≤ gs.length → d < k →
    gang_Check.l1 k b gs (gs.length : Int) j ms gs n = some (if b && (gs.drop j).all (gangB ms.length) then 0 else 40) := by
  induction d with
  | zero =>
    intro k j b hd hj hk
    obtain ⟨k, rfl⟩ : ∃ m, k = m + 1 := ⟨k - 1, by omega⟩
    obtain rfl : j = gs.length := by omega
    simp only [gang_Check.l1]; rw [if_neg (by omega)]
    cases b <;> simp
  | succ d ih =>
    intro k j b hd hj hk
    obtain ⟨k, rfl⟩ : ∃ m, k = m + 1 := ⟨k - 1, by omega⟩
    have hlt : j < gs.length := by omega
    have hr := rd_drop_G gs j hlt
    simp only [gang_Check.l1]; rw [if_pos (by omega), if_pos (by omega), if_pos (by omega), wrap_up hlt hg, hr]
    have I := fun b => ih k (j + 1) b (by omega) (by omega) (by omega)
    cases b with
    | false =>
      rw [if_neg (by simp), I false]
      simp
    | true =>
      rw [if_pos rfl, within_f]
      simp only [Option.bind_some, List.all_cons, gangB]
      by_cases h1 : 0 ≤ (rd_T63 gs j).f0 <;> by_cases h2 : (rd_T63 gs j).f0 ≤ (rd_T63 gs j).f1
      · rw [show within (rd_T63 gs j).f0 0 (rd_T63 gs j).f1 = true by simp [within, h1, h2], if_pos rfl]
        by_cases h3 : (rd_T63 gs j).f1 < (ms.length : Int)
        · rw [if_pos h3, span_f _ _ _ (by omega)]
          simp only [Option.bind_some]
          rw [I]
          simp [h1, h2, h3]
          try rfl
        · rw [if_neg h3, I false]
          simp [h1, h2, h3]
      · rw [show within (rd_T63 gs j).f0 0 (rd_T63 gs j).f1 = false by simp [within, h1, h2], if_neg (by simp), I false]
        simp [h1, h2]
      · rw [show within (rd_T63 gs j).f0 0 (rd_T63 gs j).f1 = false by simp [within, h1, h2], if_neg (by simp), I false]
        simp [h1, h2]
      · rw [show within (rd_T63 gs j).f0 0 (rd_T63 gs j).f1 = false by simp [within, h1, h2], if_neg (by simp), I false]
        simp [h1, h2]
theorem check_l0 (ms : List M) (gs : List G) (n : Int) (hm : ms.length ≤ 9223372036854775807) (hg : gs.length ≤ 9223372036854775807) (d : Nat) : ∀ (k j : Nat) (b : Bool), ms.length - j = d → j ≤ ms.length → d + gs.length + 1 < k →
    gang_Check.l0 k b ms (ms.length : Int) j ms gs n = some (if b && (ms.drop j).all mileB && gs.all (gangB ms.length) then 0 else 40) := by
  induction d with
  | zero =>
    intro k j b hd hj hk
    obtain ⟨k, rfl⟩ : ∃ m, k = m + 1 := ⟨k - 1, by omega⟩
    obtain rfl : j = ms.length := by omega
    simp only [gang_Check.l0]; rw [if_neg (by omega)]
    refine (check_l1 ms gs n hg gs.length k 0 b (by omega) (by omega) (by omega)).trans ?_
    simp
  | succ d ih =>
    intro k j b hd hj hk
    obtain ⟨k, rfl⟩ : ∃ m, k = m + 1 := ⟨k - 1, by omega⟩
    have hlt : j < ms.length := by omega
    have hr := rd_drop_M ms j hlt
    simp only [gang_Check.l0]; rw [if_pos (by omega), if_pos (by omega), if_pos (by omega), wrap_up hlt hm, hr]
    have I := fun b => ih k (j + 1) b (by omega) (by omega) (by omega)
    cases b with
    | false =>
      rw [if_neg (by simp), I false]
      simp
    | true =>
      rw [if_pos rfl, span_f _ _ _ (by omega)]
      simp only [Option.bind_some, List.all_cons, mileB]
      by_cases h1 : spanB (rd_T66 ms j).f0 6 = true
      · rw [if_pos h1, within_f]
        simp only [Option.bind_some]
        rw [I]
        simp [h1, within]
      · rw [if_neg h1, I false]
        simp [h1]
theorem check_f (ms : List M) (gs : List G) (n : Int) (hm : ms.length ≤ 9223372036854775807) (hg : gs.length ≤ 9223372036854775807) : gang_Check.f (ms.length + gs.length + 3) ms gs n = some (if okB ms gs n = true then 0 else 40) := by
  have J : ∀ b, gang_Check.j0 (ms.length + gs.length + 3) b ms gs n = some (if b && ms.all mileB && gs.all (gangB ms.length) then 0 else 40) := fun b => by
    simp only [gang_Check.j0]
    refine (check_l0 ms gs n hm hg ms.length (ms.length + gs.length + 2) 0 b (by omega) (by omega) (by omega)).trans ?_
    simp
  unfold gang_Check.f
  rw [within_f, within_f, within_f]
  simp only [Option.bind_some, J]
  have e : okB ms gs n = (within ms.length 1 4 && within gs.length 1 2 && within n 1 4 && (ms.all mileB && gs.all (gangB ms.length))) := by
    have a1 : decide ((1 : Nat) ≤ ms.length) = decide ((1 : Int) ≤ (ms.length : Int)) := by congr 1; simp; omega
    have a2 : decide (ms.length ≤ 4) = decide ((ms.length : Int) ≤ 4) := by congr 1; simp; omega
    have a3 : decide ((1 : Nat) ≤ gs.length) = decide ((1 : Int) ≤ (gs.length : Int)) := by congr 1; simp; omega
    have a4 : decide (gs.length ≤ 2) = decide ((gs.length : Int) ≤ 2) := by congr 1; simp; omega
    unfold okB within
    rw [a1, a2, a3, a4, show (fun x : M => spanB x.f0 6 && decide (0 ≤ x.f1) && decide (x.f1 ≤ 15)) = mileB from rfl, show (fun x : G => decide (0 ≤ x.f0) && decide (x.f0 ≤ x.f1) && decide (x.f1 < (ms.length : Int)) && spanB x.f2 3) = gangB ms.length from rfl]
    simp only [Bool.and_assoc]
  rw [e]
  cases within (ms.length : Int) 1 4 <;> cases within (gs.length : Int) 1 2 <;> cases within n 1 4 <;> simp
end Go.Proofs.YtikfghnkbgdbgaaDoor.Q
end
section
namespace Go.Proofs.YtikfghnkbgdbgaaDoor.Q
set_option linter.unusedSimpArgs false
set_option linter.unusedVariables false
open Go.RowKit Go.Proofs.YtikfghnkbgdbgaaDoorW.PrintWords Go.Proofs.YtikfghnkbgdbgaaDoorW.PrintLast Go.Proofs.YtikfghnkbgdbgaaDoorW.PrintMore
theorem Ev.pos {α : Type} {c : Prop} [Decidable c] {f g : Nat → Option α} {r : α} (h : c) (k : Ev f r) : Ev (fun n => if c then f n else g n) r := by
  obtain ⟨K, k⟩ := k
  exact ⟨K, fun n hn => (if_pos h).trans (k n hn)⟩
theorem Ev.neg {α : Type} {c : Prop} [Decidable c] {f g : Nat → Option α} {r : α} (h : ¬ c) (k : Ev g r) : Ev (fun n => if c then f n else g n) r := by
  obtain ⟨K, k⟩ := k
  exact ⟨K, fun n hn => (if_neg h).trans (k n hn)⟩
theorem Ev.some {α : Type} {x : Option α} {r : α} (h : x = Option.some r) : Ev (fun _ => x) r := ⟨0, fun _ _ => h⟩
theorem upTo_drop {n : Int} {i : Nat} (h : (i : Int) < n) : (upTo n).drop i = (i : Int) :: (upTo n).drop (i + 1) := by
  have hl : i < (upTo n).length := by rw [upTo_length]; omega
  rw [List.drop_eq_getElem_cons hl]
  congr 1
  simp [upTo]
end Go.Proofs.YtikfghnkbgdbgaaDoor.Q
end
section
namespace Go.Proofs.YtikfghnkbgdbgaaDoor.Q
open Go.RowKit Go.Proofs.YtikfghnkbgdbgaaDoorW.PrintWords Go.Proofs.YtikfghnkbgdbgaaDoorW.PrintLast Go.Proofs.YtikfghnkbgdbgaaDoorW.PrintMore
attribute [local go_sem] max2_int min2_int max_two min_two max_three min_three max_four min_four   -- for this text's walks alone
set_option linter.unusedVariables false
set_option linter.unusedSimpArgs false
mutual
def macadamlaw04_sound.j0 : Nat → Bool → List (S66) → List (S63) → Int → Option (Bool)
 | 0, _, _, _, _ => none
 | k + 1, x3, x334000, x334001, x334002 => macadamlaw04_sound.l0 k x3 0 x334000 x334001 x334002
def macadamlaw04_sound.l0 : Nat → Bool → Int → List (S66) → List (S63) → Int → Option (Bool)
 | 0, _, _, _, _, _ => none
 | k + 1, x3, x4, x334000, x334001, x334002 => if x3 = true then (macadamlaw04_sound.j2 k x3 x4 (decide (x4 < (x334000.length : Int))) x334000 x334001 x334002) else (macadamlaw04_sound.j2 k x3 x4 false x334000 x334001 x334002)
def macadamlaw04_sound.j2 : Nat → Bool → Int → Bool → List (S66) → List (S63) → Int → Option (Bool)
 | 0, _, _, _, _, _, _ => none
 | k + 1, x3, x4, x34, x334000, x334001, x334002 => if x34 = true then (if 0 ≤ x4 then (if x4 < (x334000.length : Int) then ((macadamref00_Sane.f ((rd_T66 x334000 x4).f0.f0) ((rd_T66 x334000 x4).f0.f1) 1 6 2).bind fun t339 => (if t339 = true then ((macadamref00_Amid.f ((rd_T66 x334000 x4).f1) 0 15).bind fun t341 => (macadamlaw04_sound.l0 k t341 (wrap64 (x4 + 1)) x334000 x334001 x334002)) else (macadamlaw04_sound.l0 k false (wrap64 (x4 + 1)) x334000 x334001 x334002))) else (none)) else (none)) else (macadamlaw04_sound.l1 k x3 0 x334000 x334001 x334002)
def macadamlaw04_sound.l1 : Nat → Bool → Int → List (S66) → List (S63) → Int → Option (Bool)
 | 0, _, _, _, _, _ => none
 | k + 1, x3, x5, x334000, x334001, x334002 => if x3 = true then (macadamlaw04_sound.j4 k x3 x5 (decide (x5 < (x334001.length : Int))) x334000 x334001 x334002) else (macadamlaw04_sound.j4 k x3 x5 false x334000 x334001 x334002)
def macadamlaw04_sound.j4 : Nat → Bool → Int → Bool → List (S66) → List (S63) → Int → Option (Bool)
 | 0, _, _, _, _, _, _ => none
 | k + 1, x3, x5, x60, x334000, x334001, x334002 => if x60 = true then (if 0 ≤ x5 then (if x5 < (x334001.length : Int) then ((macadamref00_Amid.f ((rd_T63 x334001 x5).f0) 0 ((rd_T63 x334001 x5).f1)).bind fun t344 => (if t344 = true then (if ((rd_T63 x334001 x5).f1) < (x334000.length : Int) then ((macadamref00_Sane.f ((rd_T63 x334001 x5).f2.f0) ((rd_T63 x334001 x5).f2.f1) 1 3 2).bind fun t345 => (macadamlaw04_sound.l1 k t345 (wrap64 (x5 + 1)) x334000 x334001 x334002)) else (macadamlaw04_sound.l1 k false (wrap64 (x5 + 1)) x334000 x334001 x334002)) else (macadamlaw04_sound.l1 k false (wrap64 (x5 + 1)) x334000 x334001 x334002))) else (none)) else (none)) else (some x3)
end
def macadamlaw04_sound.f (k : Nat) (l0_0 : List (S66)) (l0_1 : List (S63)) (a0_2 : Int) : Option (Bool) := (gang_Check.f k l0_0 l0_1 a0_2).bind fun t334 => (if t334 = 0 then ((macadamref00_Amid.f (l0_0.length : Int) 1 4).bind fun t335 => (if t335 = true then ((macadamref00_Amid.f (l0_1.length : Int) 1 2).bind fun t336 => (if t336 = true then ((macadamref00_Amid.f a0_2 1 4).bind fun t337 => (macadamlaw04_sound.j0 k t337 l0_0 l0_1 a0_2)) else (macadamlaw04_sound.j0 k false l0_0 l0_1 a0_2))) else (macadamlaw04_sound.j0 k false l0_0 l0_1 a0_2))) else (macadamlaw04_sound.j0 k false l0_0 l0_1 a0_2))
set_option maxHeartbeats 8000000 in
set_option maxRecDepth 100000 in
theorem macadamlaw04_sound.calls (k : Nat) (A0_0 : Option Addr) (c0_0 : Nat) (l0_0 : List (S66)) (A0_1 : Option Addr) (c0_1 : Nat) (l0_1 : List (S63)) (a0_2 : Int) (r : Bool) (w : World) (hr0_0 : Kd.C k66 w A0_0 l0_0.length l0_0) (hc0_0 : l0_0.length ≤ c0_0) (hr0_1 : Kd.C k63 w A0_1 l0_1.length l0_1) (hc0_1 : l0_1.length ≤ c0_1) (h : macadamlaw04_sound.f k l0_0 l0_1 a0_2 = some r) :
  Calls Tryd.prog 38 #[.agg #[.slice A0_0 l0_0.length c0_0, .slice A0_1 l0_1.length c0_1, .int .i64 a0_2]] w fun e w' => e = .returned (.bool r) ∧ Below w.heap.size w w' := by
 have hu25 := Tryd.underlying25
 have hu40 := Tryd.underlying40
 have hu63 := Tryd.underlying63
 have HR0_0 := Aside0.mk hr0_0
 have HC0_0 := Aside0.mk hc0_0
 clear hr0_0 hc0_0
 have HR0_1 := Aside0.mk hr0_1
 have HC0_1 := Aside0.mk hc0_1
 clear hr0_1 hc0_1
 have HB := Aside0.mk (Below.refl w.heap.size w)
 have H : ((gang_Check.f k l0_0 l0_1 a0_2).bind fun t334 => (if t334 = 0 then ((macadamref00_Amid.f (l0_0.length : Int) 1 4).bind fun t335 => (if t335 = true then ((macadamref00_Amid.f (l0_1.length : Int) 1 2).bind fun t336 => (if t336 = true then ((macadamref00_Amid.f a0_2 1 4).bind fun t337 => (macadamlaw04_sound.j0 k t337 l0_0 l0_1 a0_2)) else (macadamlaw04_sound.j0 k false l0_0 l0_1 a0_2))) else (macadamlaw04_sound.j0 k false l0_0 l0_1 a0_2))) else (macadamlaw04_sound.j0 k false l0_0 l0_1 a0_2))) = some r := h
 clear h
 have HC2 := Aside0.mk H
 clear H
 go_enter Tryd.func38, Tryd.ntmps38
 go_upto_region 1 with (first | ((with_reducible refine gate_dst (N := 1) rfl ?_); (try (refine gate_guard (by rfl) ?_; dsimp only)); refine bx 1 #[.slice A0_0 l0_0.length c0_0, .slice A0_1 l0_1.length c0_1, .int .i64 a0_2] 25 ?_; intro gb333 hg w3 hbox hb; have n0_ := Aside0.mk (below_step (bw HB) hb); have n1_ := Aside0.mk (hbox); have n2_ := Aside0.mk (bz (bw HB) hg); have n3_ := Aside0.mk (bz (bw HB) hg); clear HB; have HB := n0_; have BK333 := n1_; have GW333 := n2_; have GE333 := n3_; clear n0_ n1_ n2_ n3_; clear hb hbox hg))
 (try simp only [Act.put, List.setIfInBounds_toArray, List.set_cons_zero, List.set_cons_succ])
 go_cut [3] (fun v3 wc => ∃ (kq : Nat) (x3_1 : Bool), v3 = .bool x3_1 ∧ Aside0 (macadamlaw04_sound.j0 kq x3_1 l0_0 l0_1 a0_2 = some r) ∧ Aside0 (kq ≤ k) ∧ Aside0 (wc.heap[gb333]? = some (.cells #[(.slice A0_0 l0_0.length c0_0), (.slice A0_1 l0_1.length c0_1), .int .i64 a0_2] 25 (0, 0))) ∧ Aside0 (Below w.heap.size w wc))
 case first =>
  have H := HC2.out
  clear HC2
  replace H := Option.bind_eq_some_iff.mp H
  obtain ⟨t334, A40, H⟩ := H
  replace H : (if t334 = 0 then ((macadamref00_Amid.f (l0_0.length : Int) 1 4).bind fun t335 => (if t335 = true then ((macadamref00_Amid.f (l0_1.length : Int) 1 2).bind fun t336 => (if t336 = true then ((macadamref00_Amid.f a0_2 1 4).bind fun t337 => (macadamlaw04_sound.j0 k t337 l0_0 l0_1 a0_2)) else (macadamlaw04_sound.j0 k false l0_0 l0_1 a0_2))) else (macadamlaw04_sound.j0 k false l0_0 l0_1 a0_2))) else (macadamlaw04_sound.j0 k false l0_0 l0_1 a0_2)) = some r := H
  have A4 := Aside0.mk A40
  clear A40
  by_cases c5 : t334 = 0
  ·rw [if_pos c5] at H
   have c5b0 : (t334 == 0) = true := beq_iff_eq.mpr c5
   have c5b1 : (t334 != 0) = false := bne_eq_false_iff_eq.mpr c5
   clear c5
   (first | rw [c5b0] | (simp only [i64_w, i32_w]; rw [c5b0]) | skip)
   replace H := Option.bind_eq_some_iff.mp H
   obtain ⟨t335, A60, H⟩ := H
   replace H : (if t335 = true then ((macadamref00_Amid.f (l0_1.length : Int) 1 2).bind fun t336 => (if t336 = true then ((macadamref00_Amid.f a0_2 1 4).bind fun t337 => (macadamlaw04_sound.j0 k t337 l0_0 l0_1 a0_2)) else (macadamlaw04_sound.j0 k false l0_0 l0_1 a0_2))) else (macadamlaw04_sound.j0 k false l0_0 l0_1 a0_2)) = some r := H
   have A6 := Aside0.mk A60
   clear A60
   by_cases c7 : t335 = true
   ·subst c7
    have H1 : ((macadamref00_Amid.f (l0_1.length : Int) 1 2).bind fun t336 => (if t336 = true then ((macadamref00_Amid.f a0_2 1 4).bind fun t337 => (macadamlaw04_sound.j0 k t337 l0_0 l0_1 a0_2)) else (macadamlaw04_sound.j0 k false l0_0 l0_1 a0_2))) = some r := by rw [if_pos rfl] at H; exact H
    clear H
    have H := H1
    clear H1
    replace H := Option.bind_eq_some_iff.mp H
    obtain ⟨t336, A80, H⟩ := H
    replace H : (if t336 = true then ((macadamref00_Amid.f a0_2 1 4).bind fun t337 => (macadamlaw04_sound.j0 k t337 l0_0 l0_1 a0_2)) else (macadamlaw04_sound.j0 k false l0_0 l0_1 a0_2)) = some r := H
    have A8 := Aside0.mk A80
    clear A80
    by_cases c9 : t336 = true
    ·subst c9
     have H1 : ((macadamref00_Amid.f a0_2 1 4).bind fun t337 => (macadamlaw04_sound.j0 k t337 l0_0 l0_1 a0_2)) = some r := by rw [if_pos rfl] at H; exact H
     clear H
     have H := H1
     clear H1
     replace H := Option.bind_eq_some_iff.mp H
     obtain ⟨t337, A100, H⟩ := H
     replace H : (macadamlaw04_sound.j0 k t337 l0_0 l0_1 a0_2) = some r := H
     have A10 := Aside0.mk A100
     clear A100
     have H' := Aside0.mk H
     clear H
     obtain ⟨hcz11_0, hcz11_1, hcz11_2, hfz11_0, hfz11_1, hfz11_2⟩ := b3 BK333
     go_wp2_with (first | ((with_reducible refine gate_callee (f := 18) rfl ?_); refine gL (some 8) Tryd.func18 #[.agg #[.slice A0_0 l0_0.length c0_0, .slice A0_1 l0_1.length c0_1, .int .i64 a0_2]] ?_; (with_reducible refine (gang_Check.calls k _ _ l0_0 _ _ l0_1 a0_2 t334 _ ?side1 ?side2 ?side3 ?side4 A4.out).mono ?_); (case side1 => repeat (first | exact (Kd.C_below HR0_0.out HB.out) | (with_reducible refine Kd.C_alloc ?_ _) | (with_reducible refine Kd.C_drewN ?_ _) | (with_reducible refine Kd.C_drew ?_))); (case side2 => exact HC0_0.out); (case side3 => repeat (first | exact (Kd.C_below HR0_1.out HB.out) | (with_reducible refine Kd.C_alloc ?_ _) | (with_reducible refine Kd.C_drewN ?_ _) | (with_reducible refine Kd.C_drew ?_))); (case side4 => exact HC0_1.out); rintro e w12 ⟨rfl, hb⟩; refine ⟨_, rfl, ?_⟩; have n0_ := Aside0.mk (blk_below (bm BK333) hb); have n1_ := Aside0.mk (below_step (bw1 HB GE333) hb); clear BK333; clear HB; have BK333 := n0_; have HB := n1_; clear n0_ n1_; (try clear hb); (try clear hb2); (try clear hk); (try clear hi); obtain ⟨hcz13_0, hcz13_1, hcz13_2, hfz13_0, hfz13_1, hfz13_2⟩ := b3 BK333) | (go_at_call 45; (with_reducible refine (macadamref00_Amid.calls (l0_0.length : Int) 1 4 true _ A6.out).mono ?_); rintro e w' ⟨rfl, ⟨nd, rfl⟩⟩) | (go_at_call 45; (with_reducible refine (macadamref00_Amid.calls (l0_1.length : Int) 1 2 true _ A8.out).mono ?_); rintro e w' ⟨rfl, ⟨nd, rfl⟩⟩) | (go_at_call 45; (with_reducible refine (macadamref00_Amid.calls a0_2 1 4 t337 _ A10.out).mono ?_); rintro e w' ⟨rfl, ⟨nd, rfl⟩⟩))
     go_meet
     case rel => exact ⟨_, (t337), (by first | rfl | (simp; done) | (simp [*]; done)), H', ⟨by first | omega | exact Nat.le_refl _⟩, ⟨bm BK333⟩, ⟨bw1 HB GE333⟩⟩
    ·replace c9 := Bool.eq_false_iff.mpr c9
     subst c9
     have H1 : (macadamlaw04_sound.j0 k false l0_0 l0_1 a0_2) = some r := by rw [if_neg (show ¬ (false = true) by decide)] at H; exact H
     clear H
     have H := H1
     clear H1
     have H' := Aside0.mk H
     clear H
     obtain ⟨hcz14_0, hcz14_1, hcz14_2, hfz14_0, hfz14_1, hfz14_2⟩ := b3 BK333
     go_wp2_with (first | ((with_reducible refine gate_callee (f := 18) rfl ?_); refine gL (some 8) Tryd.func18 #[.agg #[.slice A0_0 l0_0.length c0_0, .slice A0_1 l0_1.length c0_1, .int .i64 a0_2]] ?_; (with_reducible refine (gang_Check.calls k _ _ l0_0 _ _ l0_1 a0_2 t334 _ ?side1 ?side2 ?side3 ?side4 A4.out).mono ?_); (case side1 => repeat (first | exact (Kd.C_below HR0_0.out HB.out) | (with_reducible refine Kd.C_alloc ?_ _) | (with_reducible refine Kd.C_drewN ?_ _) | (with_reducible refine Kd.C_drew ?_))); (case side2 => exact HC0_0.out); (case side3 => repeat (first | exact (Kd.C_below HR0_1.out HB.out) | (with_reducible refine Kd.C_alloc ?_ _) | (with_reducible refine Kd.C_drewN ?_ _) | (with_reducible refine Kd.C_drew ?_))); (case side4 => exact HC0_1.out); rintro e w15 ⟨rfl, hb⟩; refine ⟨_, rfl, ?_⟩; have n0_ := Aside0.mk (blk_below (bm BK333) hb); have n1_ := Aside0.mk (below_step (bw1 HB GE333) hb); clear BK333; clear HB; have BK333 := n0_; have HB := n1_; clear n0_ n1_; (try clear hb); (try clear hb2); (try clear hk); (try clear hi); obtain ⟨hcz16_0, hcz16_1, hcz16_2, hfz16_0, hfz16_1, hfz16_2⟩ := b3 BK333) | (go_at_call 45; (with_reducible refine (macadamref00_Amid.calls (l0_0.length : Int) 1 4 true _ A6.out).mono ?_); rintro e w' ⟨rfl, ⟨nd, rfl⟩⟩) | (go_at_call 45; (with_reducible refine (macadamref00_Amid.calls (l0_1.length : Int) 1 2 false _ A8.out).mono ?_); rintro e w' ⟨rfl, ⟨nd, rfl⟩⟩))
     go_meet
     case rel => exact ⟨_, (false), (by first | rfl | (simp; done) | (simp [*]; done)), H', ⟨by first | omega | exact Nat.le_refl _⟩, ⟨bm BK333⟩, ⟨bw1 HB GE333⟩⟩
   ·replace c7 := Bool.eq_false_iff.mpr c7
    subst c7
    have H1 : (macadamlaw04_sound.j0 k false l0_0 l0_1 a0_2) = some r := by rw [if_neg (show ¬ (false = true) by decide)] at H; exact H
    clear H
    have H := H1
    clear H1
    have H' := Aside0.mk H
    clear H
    obtain ⟨hcz17_0, hcz17_1, hcz17_2, hfz17_0, hfz17_1, hfz17_2⟩ := b3 BK333
    go_wp2_with (first | ((with_reducible refine gate_callee (f := 18) rfl ?_); refine gL (some 8) Tryd.func18 #[.agg #[.slice A0_0 l0_0.length c0_0, .slice A0_1 l0_1.length c0_1, .int .i64 a0_2]] ?_; (with_reducible refine (gang_Check.calls k _ _ l0_0 _ _ l0_1 a0_2 t334 _ ?side1 ?side2 ?side3 ?side4 A4.out).mono ?_); (case side1 => repeat (first | exact (Kd.C_below HR0_0.out HB.out) | (with_reducible refine Kd.C_alloc ?_ _) | (with_reducible refine Kd.C_drewN ?_ _) | (with_reducible refine Kd.C_drew ?_))); (case side2 => exact HC0_0.out); (case side3 => repeat (first | exact (Kd.C_below HR0_1.out HB.out) | (with_reducible refine Kd.C_alloc ?_ _) | (with_reducible refine Kd.C_drewN ?_ _) | (with_reducible refine Kd.C_drew ?_))); (case side4 => exact HC0_1.out); rintro e w18 ⟨rfl, hb⟩; refine ⟨_, rfl, ?_⟩; have n0_ := Aside0.mk (blk_below (bm BK333) hb); have n1_ := Aside0.mk (below_step (bw1 HB GE333) hb); clear BK333; clear HB; have BK333 := n0_; have HB := n1_; clear n0_ n1_; (try clear hb); (try clear hb2); (try clear hk); (try clear hi); obtain ⟨hcz19_0, hcz19_1, hcz19_2, hfz19_0, hfz19_1, hfz19_2⟩ := b3 BK333) | (go_at_call 45; (with_reducible refine (macadamref00_Amid.calls (l0_0.length : Int) 1 4 false _ A6.out).mono ?_); rintro e w' ⟨rfl, ⟨nd, rfl⟩⟩))
    go_meet
    case rel => exact ⟨_, (false), (by first | rfl | (simp; done) | (simp [*]; done)), H', ⟨by first | omega | exact Nat.le_refl _⟩, ⟨bm BK333⟩, ⟨bw1 HB GE333⟩⟩
  ·rw [if_neg c5] at H
   have c5b0 : (t334 == 0) = false := beq_eq_false_iff_ne.mpr c5
   have c5b1 : (t334 != 0) = true := bne_iff_ne.mpr c5
   (first | rw [c5b0] | (simp only [i64_w, i32_w]; rw [c5b0]) | skip)
   have H' := Aside0.mk H
   clear H
   obtain ⟨hcz20_0, hcz20_1, hcz20_2, hfz20_0, hfz20_1, hfz20_2⟩ := b3 BK333
   go_wp2_with (first | ((with_reducible refine gate_callee (f := 18) rfl ?_); refine gL (some 8) Tryd.func18 #[.agg #[.slice A0_0 l0_0.length c0_0, .slice A0_1 l0_1.length c0_1, .int .i64 a0_2]] ?_; (with_reducible refine (gang_Check.calls k _ _ l0_0 _ _ l0_1 a0_2 t334 _ ?side1 ?side2 ?side3 ?side4 A4.out).mono ?_); (case side1 => repeat (first | exact (Kd.C_below HR0_0.out HB.out) | (with_reducible refine Kd.C_alloc ?_ _) | (with_reducible refine Kd.C_drewN ?_ _) | (with_reducible refine Kd.C_drew ?_))); (case side2 => exact HC0_0.out); (case side3 => repeat (first | exact (Kd.C_below HR0_1.out HB.out) | (with_reducible refine Kd.C_alloc ?_ _) | (with_reducible refine Kd.C_drewN ?_ _) | (with_reducible refine Kd.C_drew ?_))); (case side4 => exact HC0_1.out); rintro e w21 ⟨rfl, hb⟩; refine ⟨_, rfl, ?_⟩; have n0_ := Aside0.mk (blk_below (bm BK333) hb); have n1_ := Aside0.mk (below_step (bw1 HB GE333) hb); clear BK333; clear HB; have BK333 := n0_; have HB := n1_; clear n0_ n1_; (try clear hb); (try clear hb2); (try clear hk); (try clear hi)))
   go_meet
   case rel => exact ⟨_, (false), (by first | rfl | (simp; done) | (simp [*]; done)), H', ⟨by first | omega | exact Nat.le_refl _⟩, ⟨bm BK333⟩, ⟨bw1 HB GE333⟩⟩
 case rest =>
  clear HC2
  try clear c1
  try clear p2
  try clear c3
  try clear c5
  try clear c5b0
  try clear c5b1
  try clear c7
  try clear c9
  try clear c18
  try clear hcz11_0
  try clear hcz11_1
  try clear hcz11_2
  try clear hcz13_0
  try clear hcz13_1
  try clear hcz13_2
  try clear hcz14_0
  try clear hcz14_1
  try clear hcz14_2
  try clear hcz16_0
  try clear hcz16_1
  try clear hcz16_2
  try clear hcz17_0
  try clear hcz17_1
  try clear hcz17_2
  try clear hcz19_0
  try clear hcz19_1
  try clear hcz19_2
  try clear hcz20_0
  try clear hcz20_1
  try clear hcz20_2
  try clear hfz11_0
  try clear hfz11_1
  try clear hfz11_2
  try clear hfz13_0
  try clear hfz13_1
  try clear hfz13_2
  try clear hfz14_0
  try clear hfz14_1
  try clear hfz14_2
  try clear hfz16_0
  try clear hfz16_1
  try clear hfz16_2
  try clear hfz17_0
  try clear hfz17_1
  try clear hfz17_2
  try clear hfz19_0
  try clear hfz19_1
  try clear hfz19_2
  try clear hfz20_0
  try clear hfz20_1
  try clear hfz20_2
  obtain ⟨kq, x3_1, rfl, HA, HJ1, BK333, HB⟩ := hcut
  cases kq with
  | zero => exact absurd HA.out (by simp [macadamlaw04_sound.j0])
  | succ kj1 =>
   have H := HA.out
   clear HA
   simp only [macadamlaw04_sound.j0] at H
   have H' := Aside0.mk H
   clear H
   go_wp2
   go_loopg [3, 4] kj1 (fun kq v3 v4 w' => ∃ (x3_2 : Bool) (x4_2 : Int), v3 = .bool x3_2 ∧ v4 = .int .i64 x4_2 ∧ Aside0 (macadamlaw04_sound.l0 kq x3_2 x4_2 l0_0 l0_1 a0_2 = some r) ∧ Aside0 (kq ≤ kj1) ∧ Aside0 (w'.heap[gb333]? = some (.cells #[(.slice A0_0 l0_0.length c0_0), (.slice A0_1 l0_1.length c0_1), .int .i64 a0_2] 25 (0, 0))) ∧ Aside0 (Below w.heap.size w w'))
   case atStart => exact ⟨(x3_1), (0), (by first | rfl | (simp; done) | (simp [*]; done)), (by first | rfl | (simp; done) | (simp [*]; done)), H', ⟨Nat.le_refl _⟩, ⟨bm BK333⟩, ⟨bw1 HB GE333⟩⟩
   case round =>
    clear H'
    try clear c1
    try clear p2
    try clear c3
    try clear c5
    try clear c5b0
    try clear c5b1
    try clear c7
    try clear c9
    try clear c18
    try clear hcz11_0
    try clear hcz11_1
    try clear hcz11_2
    try clear hcz13_0
    try clear hcz13_1
    try clear hcz13_2
    try clear hcz14_0
    try clear hcz14_1
    try clear hcz14_2
    try clear hcz16_0
    try clear hcz16_1
    try clear hcz16_2
    try clear hcz17_0
    try clear hcz17_1
    try clear hcz17_2
    try clear hcz19_0
    try clear hcz19_1
    try clear hcz19_2
    try clear hcz20_0
    try clear hcz20_1
    try clear hcz20_2
    try clear hfz11_0
    try clear hfz11_1
    try clear hfz11_2
    try clear hfz13_0
    try clear hfz13_1
    try clear hfz13_2
    try clear hfz14_0
    try clear hfz14_1
    try clear hfz14_2
    try clear hfz16_0
    try clear hfz16_1
    try clear hfz16_2
    try clear hfz17_0
    try clear hfz17_1
    try clear hfz17_2
    try clear hfz19_0
    try clear hfz19_1
    try clear hfz19_2
    try clear hfz20_0
    try clear hfz20_1
    try clear hfz20_2
    try clear p2
    obtain ⟨x3_2, x4_2, rfl, rfl, HA, HK2, BK333, HB⟩ := hrel
    cases gk with
    | zero => exact absurd HA.out (by simp [macadamlaw04_sound.l0])
    | succ k2 =>
     have H := HA.out
     clear HA
     simp only [macadamlaw04_sound.l0] at H
     have HC22 := Aside0.mk H
     clear H
     go_upto_region 3 with (fail)
     go_cut [34] (fun v34 wc => ∃ (kq : Nat) (x34_21 : Bool), v34 = .bool x34_21 ∧ Aside0 (macadamlaw04_sound.j2 kq x3_2 x4_2 x34_21 l0_0 l0_1 a0_2 = some r) ∧ Aside0 (kq ≤ k2) ∧ Aside0 (wc.heap[gb333]? = some (.cells #[(.slice A0_0 l0_0.length c0_0), (.slice A0_1 l0_1.length c0_1), .int .i64 a0_2] 25 (0, 0))) ∧ Aside0 (Below w.heap.size w wc))
     case first =>
      have H := HC22.out
      clear HC22
      by_cases c23 : x3_2 = true
      ·subst c23
       have H1 : (macadamlaw04_sound.j2 k2 true x4_2 (decide (x4_2 < (l0_0.length : Int))) l0_0 l0_1 a0_2) = some r := by rw [if_pos rfl] at H; exact H
       clear H
       have H := H1
       clear H1
       have H' := Aside0.mk H
       clear H
       obtain ⟨hcz24_0, hcz24_1, hcz24_2, hfz24_0, hfz24_1, hfz24_2⟩ := b3 BK333
       go_wp2
       go_meet
       case rel => exact ⟨_, (decide (x4_2 < (l0_0.length : Int))), (by first | rfl | (simp; done) | (simp [*]; done)), H', ⟨by have := HJ1.out; have := HK2.out; first | omega | exact Nat.le_refl _⟩, ⟨bm BK333⟩, ⟨bw1 HB GE333⟩⟩
      ·replace c23 := Bool.eq_false_iff.mpr c23
       subst c23
       have H1 : (macadamlaw04_sound.j2 k2 false x4_2 false l0_0 l0_1 a0_2) = some r := by rw [if_neg (show ¬ (false = true) by decide)] at H; exact H
       clear H
       have H := H1
       clear H1
       have H' := Aside0.mk H
       clear H
       go_wp2
       go_meet
       case rel => exact ⟨_, (false), (by first | rfl | (simp; done) | (simp [*]; done)), H', ⟨by have := HJ1.out; have := HK2.out; first | omega | exact Nat.le_refl _⟩, ⟨bm BK333⟩, ⟨bw1 HB GE333⟩⟩
     case rest =>
      clear HC22
      try clear c1
      try clear c2
      try clear p2
      try clear c3
      try clear c5
      try clear c5b0
      try clear c5b1
      try clear c7
      try clear c9
      try clear c18
      try clear c23
      try clear hcz11_0
      try clear hcz11_1
      try clear hcz11_2
      try clear hcz13_0
      try clear hcz13_1
      try clear hcz13_2
      try clear hcz14_0
      try clear hcz14_1
      try clear hcz14_2
      try clear hcz16_0
      try clear hcz16_1
      try clear hcz16_2
      try clear hcz17_0
      try clear hcz17_1
      try clear hcz17_2
      try clear hcz19_0
      try clear hcz19_1
      try clear hcz19_2
      try clear hcz20_0
      try clear hcz20_1
      try clear hcz20_2
      try clear hcz24_0
      try clear hcz24_1
      try clear hcz24_2
      try clear hfz11_0
      try clear hfz11_1
      try clear hfz11_2
      try clear hfz13_0
      try clear hfz13_1
      try clear hfz13_2
      try clear hfz14_0
      try clear hfz14_1
      try clear hfz14_2
      try clear hfz16_0
      try clear hfz16_1
      try clear hfz16_2
      try clear hfz17_0
      try clear hfz17_1
      try clear hfz17_2
      try clear hfz19_0
      try clear hfz19_1
      try clear hfz19_2
      try clear hfz20_0
      try clear hfz20_1
      try clear hfz20_2
      try clear hfz24_0
      try clear hfz24_1
      try clear hfz24_2
      try clear p2
      obtain ⟨kq, x34_21, rfl, HA, HJ21, BK333, HB⟩ := hcut
      cases kq with
      | zero => exact absurd HA.out (by simp [macadamlaw04_sound.j2])
      | succ kj21 =>
       have H := HA.out
       clear HA
       simp only [macadamlaw04_sound.j2] at H
       by_cases c25 : x34_21 = true
       ·subst c25
        have H1 : (if 0 ≤ x4_2 then (if x4_2 < (l0_0.length : Int) then ((macadamref00_Sane.f ((rd_T66 l0_0 x4_2).f0.f0) ((rd_T66 l0_0 x4_2).f0.f1) 1 6 2).bind fun t339 => (if t339 = true then ((macadamref00_Amid.f ((rd_T66 l0_0 x4_2).f1) 0 15).bind fun t341 => (macadamlaw04_sound.l0 kj21 t341 (wrap64 (x4_2 + 1)) l0_0 l0_1 a0_2)) else (macadamlaw04_sound.l0 kj21 false (wrap64 (x4_2 + 1)) l0_0 l0_1 a0_2))) else (none)) else (none)) = some r := by rw [if_pos rfl] at H; exact H
        clear H
        have H := H1
        clear H1
        by_cases c26 : 0 ≤ x4_2
        ·rw [if_pos c26] at H
         have c26b0 : decide (0 ≤ x4_2) = true := decide_eq_true c26
         clear c26
         by_cases c27 : x4_2 < (l0_0.length : Int)
         ·rw [if_pos c27] at H
          have c27b0 : decide (x4_2 < (l0_0.length : Int)) = true := decide_eq_true c27
          clear c27
          replace H := Option.bind_eq_some_iff.mp H
          obtain ⟨t339, A280, H⟩ := H
          replace H : (if t339 = true then ((macadamref00_Amid.f ((rd_T66 l0_0 x4_2).f1) 0 15).bind fun t341 => (macadamlaw04_sound.l0 kj21 t341 (wrap64 (x4_2 + 1)) l0_0 l0_1 a0_2)) else (macadamlaw04_sound.l0 kj21 false (wrap64 (x4_2 + 1)) l0_0 l0_1 a0_2)) = some r := H
          have A28 := Aside0.mk A280
          clear A280
          by_cases c29 : t339 = true
          ·subst c29
           have H1 : ((macadamref00_Amid.f ((rd_T66 l0_0 x4_2).f1) 0 15).bind fun t341 => (macadamlaw04_sound.l0 kj21 t341 (wrap64 (x4_2 + 1)) l0_0 l0_1 a0_2)) = some r := by rw [if_pos rfl] at H; exact H
           clear H
           have H := H1
           clear H1
           replace H := Option.bind_eq_some_iff.mp H
           obtain ⟨t341, A300, H⟩ := H
           replace H : (macadamlaw04_sound.l0 kj21 t341 (wrap64 (x4_2 + 1)) l0_0 l0_1 a0_2) = some r := H
           have A30 := Aside0.mk A300
           clear A300
           have H' := Aside0.mk H
           clear H
           obtain ⟨hcz31_0, hcz31_1, hcz31_2, hfz31_0, hfz31_1, hfz31_2⟩ := b3 BK333
           have p338 : 0 ≤ (x4_2 : Int) := of_decide_eq_true (by first | (with_reducible assumption) | assumption)
           have q338 : x4_2 < (l0_0.length : Int) := of_decide_eq_true (by first | (with_reducible assumption) | assumption)
           obtain ⟨ad338, e338, hx338_0, hx338_1, hx338_2⟩ := at_T66 HR0_0.out x4_2 p338 q338
           cases e338
           replace hx338_0 := cB HB hx338_0
           replace hx338_1 := cB HB hx338_1
           replace hx338_2 := cB HB hx338_2
           replace p338 := eq_true p338
           replace q338 := eq_true q338
           go_wp2_with (first | ((with_reducible refine gate_callee (f := 68) rfl ?_); refine gL (some 43) Tryd.func68 #[.agg #[.int .i64 ((rd_T66 l0_0 x4_2).f0.f0), .int .i64 ((rd_T66 l0_0 x4_2).f0.f1)], .int .i64 1, .int .i64 6, .int .i64 2] ?_; (with_reducible refine (macadamref00_Sane.calls ((rd_T66 l0_0 x4_2).f0.f0) ((rd_T66 l0_0 x4_2).f0.f1) 1 6 2 true _ A28.out).mono ?_); rintro e w32 ⟨rfl, hb⟩; refine ⟨_, rfl, ?_⟩; have n0_ := Aside0.mk (blk_below (bm BK333) hb); have n1_ := Aside0.mk (below_step (bw1 HB GE333) hb); clear BK333; clear HB; have BK333 := n0_; have HB := n1_; clear n0_ n1_; (try clear hb); (try clear hb2); (try clear hk); (try clear hi); obtain ⟨hcz33_0, hcz33_1, hcz33_2, hfz33_0, hfz33_1, hfz33_2⟩ := b3 BK333; have p340 : 0 ≤ (x4_2 : Int) := of_decide_eq_true (by first | (with_reducible assumption) | assumption); have q340 : x4_2 < (l0_0.length : Int) := of_decide_eq_true (by first | (with_reducible assumption) | assumption); obtain ⟨ad340, e340, hx340_0, hx340_1, hx340_2⟩ := at_T66 HR0_0.out x4_2 p340 q340; obtain rfl : ad338 = ad340 := (by injection e340); replace hx340_0 := cB HB hx340_0; replace hx340_1 := cB HB hx340_1; replace hx340_2 := cB HB hx340_2; replace p340 := eq_true p340; replace q340 := eq_true q340) | (go_at_call 45; (with_reducible refine (macadamref00_Amid.calls ((rd_T66 l0_0 x4_2).f1) 0 15 t341 _ A30.out).mono ?_); rintro e w' ⟨rfl, ⟨nd, rfl⟩⟩))
           go_roundg kj21
           case measure => have := HJ1.out; have := HK2.out; have := HJ21.out; omega
           case rel => exact ⟨(t341), (wrap64 (x4_2 + 1)), (by first | rfl | (simp; done) | (simp [*]; done)), (by first | rfl | (simp; done) | (simp [*]; done)), H', ⟨by have := HJ1.out; have := HK2.out; have := HJ21.out; omega⟩, ⟨bm BK333⟩, ⟨bw1 HB GE333⟩⟩
          ·replace c29 := Bool.eq_false_iff.mpr c29
           subst c29
           have H1 : (macadamlaw04_sound.l0 kj21 false (wrap64 (x4_2 + 1)) l0_0 l0_1 a0_2) = some r := by rw [if_neg (show ¬ (false = true) by decide)] at H; exact H
           clear H
           have H := H1
           clear H1
           have H' := Aside0.mk H
           clear H
           obtain ⟨hcz34_0, hcz34_1, hcz34_2, hfz34_0, hfz34_1, hfz34_2⟩ := b3 BK333
           have p338 : 0 ≤ (x4_2 : Int) := of_decide_eq_true (by first | (with_reducible assumption) | assumption)
           have q338 : x4_2 < (l0_0.length : Int) := of_decide_eq_true (by first | (with_reducible assumption) | assumption)
           obtain ⟨ad338, e338, hx338_0, hx338_1, hx338_2⟩ := at_T66 HR0_0.out x4_2 p338 q338
           cases e338
           replace hx338_0 := cB HB hx338_0
           replace hx338_1 := cB HB hx338_1
           replace hx338_2 := cB HB hx338_2
           replace p338 := eq_true p338
           replace q338 := eq_true q338
           go_wp2_with (first | ((with_reducible refine gate_callee (f := 68) rfl ?_); refine gL (some 43) Tryd.func68 #[.agg #[.int .i64 ((rd_T66 l0_0 x4_2).f0.f0), .int .i64 ((rd_T66 l0_0 x4_2).f0.f1)], .int .i64 1, .int .i64 6, .int .i64 2] ?_; (with_reducible refine (macadamref00_Sane.calls ((rd_T66 l0_0 x4_2).f0.f0) ((rd_T66 l0_0 x4_2).f0.f1) 1 6 2 false _ A28.out).mono ?_); rintro e w35 ⟨rfl, hb⟩; refine ⟨_, rfl, ?_⟩; have n0_ := Aside0.mk (blk_below (bm BK333) hb); have n1_ := Aside0.mk (below_step (bw1 HB GE333) hb); clear BK333; clear HB; have BK333 := n0_; have HB := n1_; clear n0_ n1_; (try clear hb); (try clear hb2); (try clear hk); (try clear hi)))
           go_roundg kj21
           case measure => have := HJ1.out; have := HK2.out; have := HJ21.out; omega
           case rel => exact ⟨(false), (wrap64 (x4_2 + 1)), (by first | rfl | (simp; done) | (simp [*]; done)), (by first | rfl | (simp; done) | (simp [*]; done)), H', ⟨by have := HJ1.out; have := HK2.out; have := HJ21.out; omega⟩, ⟨bm BK333⟩, ⟨bw1 HB GE333⟩⟩
         ·rw [if_neg c27] at H
          exact absurd H (by simp)
        ·rw [if_neg c26] at H
         exact absurd H (by simp)
       ·replace c25 := Bool.eq_false_iff.mpr c25
        subst c25
        have H1 : (macadamlaw04_sound.l1 kj21 x3_2 0 l0_0 l0_1 a0_2) = some r := by rw [if_neg (show ¬ (false = true) by decide)] at H; exact H
        clear H
        have H := H1
        clear H1
        have H' := Aside0.mk H
        clear H
        go_wp2
        go_loopg [3, 5] kj21 (fun kq v3 v5 w' => ∃ (x3_4 : Bool) (x5_4 : Int), v3 = .bool x3_4 ∧ v5 = .int .i64 x5_4 ∧ Aside0 (macadamlaw04_sound.l1 kq x3_4 x5_4 l0_0 l0_1 a0_2 = some r) ∧ Aside0 (kq ≤ kj21) ∧ Aside0 (w'.heap[gb333]? = some (.cells #[(.slice A0_0 l0_0.length c0_0), (.slice A0_1 l0_1.length c0_1), .int .i64 a0_2] 25 (0, 0))) ∧ Aside0 (Below w.heap.size w w'))
        case atStart => exact ⟨(x3_2), (0), (by first | rfl | (simp; done) | (simp [*]; done)), (by first | rfl | (simp; done) | (simp [*]; done)), H', ⟨Nat.le_refl _⟩, ⟨bm BK333⟩, ⟨bw1 HB GE333⟩⟩
        case round =>
         clear H'
         try clear c1
         try clear c2
         try clear p2
         try clear c3
         try clear p3
         try clear q3
         try clear hx3
         try clear c5
         try clear c5b0
         try clear c5b1
         try clear c6
         try clear p6
         try clear c7
         try clear c9
         try clear c18
         try clear c23
         try clear c25
         try clear c26
         try clear c26b0
         try clear c27
         try clear c27b0
         try clear c29
         try clear p33
         try clear q33
         try clear hx33
         try clear p34
         try clear q34
         try clear hx34
         try clear hcz11_0
         try clear hcz11_1
         try clear hcz11_2
         try clear hcz13_0
         try clear hcz13_1
         try clear hcz13_2
         try clear hcz14_0
         try clear hcz14_1
         try clear hcz14_2
         try clear hcz16_0
         try clear hcz16_1
         try clear hcz16_2
         try clear hcz17_0
         try clear hcz17_1
         try clear hcz17_2
         try clear hcz19_0
         try clear hcz19_1
         try clear hcz19_2
         try clear hcz20_0
         try clear hcz20_1
         try clear hcz20_2
         try clear hcz24_0
         try clear hcz24_1
         try clear hcz24_2
         try clear hcz31_0
         try clear hcz31_1
         try clear hcz31_2
         try clear hcz33_0
         try clear hcz33_1
         try clear hcz33_2
         try clear hcz34_0
         try clear hcz34_1
         try clear hcz34_2
         try clear hfz11_0
         try clear hfz11_1
         try clear hfz11_2
         try clear hfz13_0
         try clear hfz13_1
         try clear hfz13_2
         try clear hfz14_0
         try clear hfz14_1
         try clear hfz14_2
         try clear hfz16_0
         try clear hfz16_1
         try clear hfz16_2
         try clear hfz17_0
         try clear hfz17_1
         try clear hfz17_2
         try clear hfz19_0
         try clear hfz19_1
         try clear hfz19_2
         try clear hfz20_0
         try clear hfz20_1
         try clear hfz20_2
         try clear hfz24_0
         try clear hfz24_1
         try clear hfz24_2
         try clear hfz31_0
         try clear hfz31_1
         try clear hfz31_2
         try clear hfz33_0
         try clear hfz33_1
         try clear hfz33_2
         try clear hfz34_0
         try clear hfz34_1
         try clear hfz34_2
         try clear hx338_0
         try clear hx338_1
         try clear hx338_2
         try clear hx340_0
         try clear hx340_1
         try clear hx340_2
         try clear p2
         try clear p338
         try clear p340
         try clear q338
         try clear q340
         obtain ⟨x3_4, x5_4, rfl, rfl, HA, HK4, BK333, HB⟩ := hrel
         cases gk with
         | zero => exact absurd HA.out (by simp [macadamlaw04_sound.l1])
         | succ k4 =>
          have H := HA.out
          clear HA
          simp only [macadamlaw04_sound.l1] at H
          have HC36 := Aside0.mk H
          clear H
          go_upto_region 7 with (fail)
          go_cut [60] (fun v60 wc => ∃ (kq : Nat) (x60_35 : Bool), v60 = .bool x60_35 ∧ Aside0 (macadamlaw04_sound.j4 kq x3_4 x5_4 x60_35 l0_0 l0_1 a0_2 = some r) ∧ Aside0 (kq ≤ k4) ∧ Aside0 (wc.heap[gb333]? = some (.cells #[(.slice A0_0 l0_0.length c0_0), (.slice A0_1 l0_1.length c0_1), .int .i64 a0_2] 25 (0, 0))) ∧ Aside0 (Below w.heap.size w wc))
          case first =>
           have H := HC36.out
           clear HC36
           by_cases c37 : x3_4 = true
           ·subst c37
            have H1 : (macadamlaw04_sound.j4 k4 true x5_4 (decide (x5_4 < (l0_1.length : Int))) l0_0 l0_1 a0_2) = some r := by rw [if_pos rfl] at H; exact H
            clear H
            have H := H1
            clear H1
            have H' := Aside0.mk H
            clear H
            obtain ⟨hcz38_0, hcz38_1, hcz38_2, hfz38_0, hfz38_1, hfz38_2⟩ := b3 BK333
            go_wp2
            go_meet
            case rel => exact ⟨_, (decide (x5_4 < (l0_1.length : Int))), (by first | rfl | (simp; done) | (simp [*]; done)), H', ⟨by have := HJ1.out; have := HK2.out; have := HJ21.out; have := HK4.out; first | omega | exact Nat.le_refl _⟩, ⟨bm BK333⟩, ⟨bw1 HB GE333⟩⟩
           ·replace c37 := Bool.eq_false_iff.mpr c37
            subst c37
            have H1 : (macadamlaw04_sound.j4 k4 false x5_4 false l0_0 l0_1 a0_2) = some r := by rw [if_neg (show ¬ (false = true) by decide)] at H; exact H
            clear H
            have H := H1
            clear H1
            have H' := Aside0.mk H
            clear H
            go_wp2
            go_meet
            case rel => exact ⟨_, (false), (by first | rfl | (simp; done) | (simp [*]; done)), H', ⟨by have := HJ1.out; have := HK2.out; have := HJ21.out; have := HK4.out; first | omega | exact Nat.le_refl _⟩, ⟨bm BK333⟩, ⟨bw1 HB GE333⟩⟩
          case rest =>
           clear HC36
           try clear c1
           try clear c2
           try clear p2
           try clear c3
           try clear p3
           try clear q3
           try clear hx3
           try clear c5
           try clear c5b0
           try clear c5b1
           try clear c6
           try clear p6
           try clear c7
           try clear c9
           try clear c18
           try clear c23
           try clear c25
           try clear c26
           try clear c26b0
           try clear c27
           try clear c27b0
           try clear c29
           try clear p33
           try clear q33
           try clear hx33
           try clear p34
           try clear q34
           try clear hx34
           try clear c37
           try clear c38
           try clear hcz11_0
           try clear hcz11_1
           try clear hcz11_2
           try clear hcz13_0
           try clear hcz13_1
           try clear hcz13_2
           try clear hcz14_0
           try clear hcz14_1
           try clear hcz14_2
           try clear hcz16_0
           try clear hcz16_1
           try clear hcz16_2
           try clear hcz17_0
           try clear hcz17_1
           try clear hcz17_2
           try clear hcz19_0
           try clear hcz19_1
           try clear hcz19_2
           try clear hcz20_0
           try clear hcz20_1
           try clear hcz20_2
           try clear hcz24_0
           try clear hcz24_1
           try clear hcz24_2
           try clear hcz31_0
           try clear hcz31_1
           try clear hcz31_2
           try clear hcz33_0
           try clear hcz33_1
           try clear hcz33_2
           try clear hcz34_0
           try clear hcz34_1
           try clear hcz34_2
           try clear hcz38_0
           try clear hcz38_1
           try clear hcz38_2
           try clear hfz11_0
           try clear hfz11_1
           try clear hfz11_2
           try clear hfz13_0
           try clear hfz13_1
           try clear hfz13_2
           try clear hfz14_0
           try clear hfz14_1
           try clear hfz14_2
           try clear hfz16_0
           try clear hfz16_1
           try clear hfz16_2
           try clear hfz17_0
           try clear hfz17_1
           try clear hfz17_2
           try clear hfz19_0
           try clear hfz19_1
           try clear hfz19_2
           try clear hfz20_0
           try clear hfz20_1
           try clear hfz20_2
           try clear hfz24_0
           try clear hfz24_1
           try clear hfz24_2
           try clear hfz31_0
           try clear hfz31_1
           try clear hfz31_2
           try clear hfz33_0
           try clear hfz33_1
           try clear hfz33_2
           try clear hfz34_0
           try clear hfz34_1
           try clear hfz34_2
           try clear hfz38_0
           try clear hfz38_1
           try clear hfz38_2
           try clear hx338_0
           try clear hx338_1
           try clear hx338_2
           try clear hx340_0
           try clear hx340_1
           try clear hx340_2
           try clear p2
           try clear p3
           try clear p33
           try clear p338
           try clear p34
           try clear p340
           try clear p6
           try clear q3
           try clear q33
           try clear q338
           try clear q34
           try clear q340
           obtain ⟨kq, x60_35, rfl, HA, HJ35, BK333, HB⟩ := hcut
           cases kq with
           | zero => exact absurd HA.out (by simp [macadamlaw04_sound.j4])
           | succ kj35 =>
            have H := HA.out
            clear HA
            simp only [macadamlaw04_sound.j4] at H
            by_cases c39 : x60_35 = true
            ·subst c39
             have H1 : (if 0 ≤ x5_4 then (if x5_4 < (l0_1.length : Int) then ((macadamref00_Amid.f ((rd_T63 l0_1 x5_4).f0) 0 ((rd_T63 l0_1 x5_4).f1)).bind fun t344 => (if t344 = true then (if ((rd_T63 l0_1 x5_4).f1) < (l0_0.length : Int) then ((macadamref00_Sane.f ((rd_T63 l0_1 x5_4).f2.f0) ((rd_T63 l0_1 x5_4).f2.f1) 1 3 2).bind fun t345 => (macadamlaw04_sound.l1 kj35 t345 (wrap64 (x5_4 + 1)) l0_0 l0_1 a0_2)) else (macadamlaw04_sound.l1 kj35 false (wrap64 (x5_4 + 1)) l0_0 l0_1 a0_2)) else (macadamlaw04_sound.l1 kj35 false (wrap64 (x5_4 + 1)) l0_0 l0_1 a0_2))) else (none)) else (none)) = some r := by rw [if_pos rfl] at H; exact H
             clear H
             have H := H1
             clear H1
             by_cases c40 : 0 ≤ x5_4
             ·rw [if_pos c40] at H
              have c40b0 : decide (0 ≤ x5_4) = true := decide_eq_true c40
              clear c40
              by_cases c41 : x5_4 < (l0_1.length : Int)
              ·rw [if_pos c41] at H
               have c41b0 : decide (x5_4 < (l0_1.length : Int)) = true := decide_eq_true c41
               clear c41
               replace H := Option.bind_eq_some_iff.mp H
               obtain ⟨t344, A420, H⟩ := H
               replace H : (if t344 = true then (if ((rd_T63 l0_1 x5_4).f1) < (l0_0.length : Int) then ((macadamref00_Sane.f ((rd_T63 l0_1 x5_4).f2.f0) ((rd_T63 l0_1 x5_4).f2.f1) 1 3 2).bind fun t345 => (macadamlaw04_sound.l1 kj35 t345 (wrap64 (x5_4 + 1)) l0_0 l0_1 a0_2)) else (macadamlaw04_sound.l1 kj35 false (wrap64 (x5_4 + 1)) l0_0 l0_1 a0_2)) else (macadamlaw04_sound.l1 kj35 false (wrap64 (x5_4 + 1)) l0_0 l0_1 a0_2)) = some r := H
               have A42 := Aside0.mk A420
               clear A420
               by_cases c43 : t344 = true
               ·subst c43
                have H1 : (if ((rd_T63 l0_1 x5_4).f1) < (l0_0.length : Int) then ((macadamref00_Sane.f ((rd_T63 l0_1 x5_4).f2.f0) ((rd_T63 l0_1 x5_4).f2.f1) 1 3 2).bind fun t345 => (macadamlaw04_sound.l1 kj35 t345 (wrap64 (x5_4 + 1)) l0_0 l0_1 a0_2)) else (macadamlaw04_sound.l1 kj35 false (wrap64 (x5_4 + 1)) l0_0 l0_1 a0_2)) = some r := by rw [if_pos rfl] at H; exact H
                clear H
                have H := H1
                clear H1
                by_cases c44 : ((rd_T63 l0_1 x5_4).f1) < (l0_0.length : Int)
                ·rw [if_pos c44] at H
                 have c44b0 : decide (((rd_T63 l0_1 x5_4).f1) < (l0_0.length : Int)) = true := decide_eq_true c44
                 clear c44
                 replace H := Option.bind_eq_some_iff.mp H
                 obtain ⟨t345, A450, H⟩ := H
                 replace H : (macadamlaw04_sound.l1 kj35 t345 (wrap64 (x5_4 + 1)) l0_0 l0_1 a0_2) = some r := H
                 have A45 := Aside0.mk A450
                 clear A450
                 have H' := Aside0.mk H
                 clear H
                 obtain ⟨hcz46_0, hcz46_1, hcz46_2, hfz46_0, hfz46_1, hfz46_2⟩ := b3 BK333
                 have p342 : 0 ≤ (x5_4 : Int) := of_decide_eq_true (by first | (with_reducible assumption) | assumption)
                 have q342 : x5_4 < (l0_1.length : Int) := of_decide_eq_true (by first | (with_reducible assumption) | assumption)
                 obtain ⟨ad342, e342, hx342_0, hx342_1, hx342_2, hx342_3⟩ := at_T63 HR0_1.out x5_4 p342 q342
                 cases e342
                 replace hx342_0 := cB HB hx342_0
                 replace hx342_1 := cB HB hx342_1
                 replace hx342_2 := cB HB hx342_2
                 replace hx342_3 := cB HB hx342_3
                 replace p342 := eq_true p342
                 replace q342 := eq_true q342
                 go_wp2_with (first | ((with_reducible refine gate_dst (N := 6) rfl ?_); (try (refine gate_guard (by rfl) ?_; dsimp only)); refine bx 6 #[.int .i64 0, .int .i64 0, .int .i64 0, .int .i64 0] 63 ?_; intro gb343 hg w47 hbox hb; have n0_ := Aside0.mk (blk_below (bm BK333) hb); have n1_ := Aside0.mk (below_step (bw1 HB GE333) hb); have n2_ := Aside0.mk (hbox); have n3_ := Aside0.mk (bz (bw1 HB GE333) hg); have n4_ := Aside0.mk (bz (bw1 HB GE333) hg); have n5_ := Aside0.mk (bl (bm BK333) hg); have n6_ := Aside0.mk (bg (bm BK333) hg); clear BK333; clear HB; have BK333 := n0_; have HB := n1_; have BK343 := n2_; have GW343 := n3_; have GE343 := n4_; have NB333_343 := n5_; have NB343_333 := n6_; clear n0_ n1_ n2_ n3_ n4_ n5_ n6_; clear hb hbox hg; have hnb48 := NB343_333.out; have hnc48 := NB333_343.out; obtain ⟨hcz49_0, hcz49_1, hcz49_2, hcz49_3, hfz49_0, hfz49_1, hfz49_2, hfz49_3⟩ := b4 BK343) | ((with_reducible refine gate_callee (f := 45) rfl ?_); refine gL (some 72) Tryd.func45 #[.int .i64 ((rd_T63 l0_1 x5_4).f0), .int .i64 0, .int .i64 ((rd_T63 l0_1 x5_4).f1)] ?_; (with_reducible refine (macadamref00_Amid.calls ((rd_T63 l0_1 x5_4).f0) 0 ((rd_T63 l0_1 x5_4).f1) true _ A42.out).mono ?_); rintro e w' ⟨rfl, ⟨nd, rfl⟩⟩; refine ⟨_, rfl, ?_⟩; obtain ⟨hcz50_0, hcz50_1, hcz50_2, hfz50_0, hfz50_1, hfz50_2⟩ := b3 BK333) | (go_at_call 68; (with_reducible refine (macadamref00_Sane.calls ((rd_T63 l0_1 x5_4).f2.f0) ((rd_T63 l0_1 x5_4).f2.f1) 1 3 2 t345 _ A45.out).mono ?_); rintro e w51 ⟨rfl, hb⟩; have n0_ := Aside0.mk (blk_below (g := gb333) (o := .cells #[.slice A0_0 l0_0.length c0_0, .slice (some ad342) l0_1.length c0_1, .int .i64 a0_2] 25 (0, 0)) (by (with_reducible repeat (first | refine blk_drewN ?_ _ | refine blk_drew ?_ | refine blk_alloc ?_ _)); refine blk_far ?_ NB333_343.out _; (with_reducible repeat (first | refine blk_drewN ?_ _ | refine blk_drew ?_ | refine blk_alloc ?_ _)); refine blk_far ?_ NB333_343.out _; (with_reducible repeat (first | refine blk_drewN ?_ _ | refine blk_drew ?_ | refine blk_alloc ?_ _)); refine blk_far ?_ NB333_343.out _; (with_reducible repeat (first | refine blk_drewN ?_ _ | refine blk_drew ?_ | refine blk_alloc ?_ _)); refine blk_far ?_ NB333_343.out _; (with_reducible repeat (first | refine blk_drewN ?_ _ | refine blk_drew ?_ | refine blk_alloc ?_ _)); exact BK333.out) hb); have n1_ := Aside0.mk (blk_below (g := gb343) (o := .cells #[.int .i64 ((rd_T63 l0_1 x5_4).f0), .int .i64 ((rd_T63 l0_1 x5_4).f1), .int .i64 ((rd_T63 l0_1 x5_4).f2.f0), .int .i64 ((rd_T63 l0_1 x5_4).f2.f1)] 63 (0, 0)) (by (with_reducible repeat (first | refine blk_drewN ?_ _ | refine blk_drew ?_ | refine blk_alloc ?_ _)); refine blk_put (cs := #[.int .i64 ((rd_T63 l0_1 x5_4).f0), .int .i64 ((rd_T63 l0_1 x5_4).f1), .int .i64 ((rd_T63 l0_1 x5_4).f2.f0), .int .i64 0]) ?_ 3 _ rfl; (with_reducible repeat (first | refine blk_drewN ?_ _ | refine blk_drew ?_ | refine blk_alloc ?_ _)); refine blk_put (cs := #[.int .i64 ((rd_T63 l0_1 x5_4).f0), .int .i64 ((rd_T63 l0_1 x5_4).f1), .int .i64 0, .int .i64 0]) ?_ 2 _ rfl; (with_reducible repeat (first | refine blk_drewN ?_ _ | refine blk_drew ?_ | refine blk_alloc ?_ _)); refine blk_put (cs := #[.int .i64 ((rd_T63 l0_1 x5_4).f0), .int .i64 0, .int .i64 0, .int .i64 0]) ?_ 1 _ rfl; (with_reducible repeat (first | refine blk_drewN ?_ _ | refine blk_drew ?_ | refine blk_alloc ?_ _)); refine blk_put (cs := #[.int .i64 0, .int .i64 0, .int .i64 0, .int .i64 0]) ?_ 0 _ rfl; (with_reducible repeat (first | refine blk_drewN ?_ _ | refine blk_drew ?_ | refine blk_alloc ?_ _)); exact BK343.out) hb); have n2_ := Aside0.mk (below_step (bw2 HB GE333 GE343) hb); clear BK333; clear BK343; clear HB; have BK333 := n0_; have BK343 := n1_; have HB := n2_; clear n0_ n1_ n2_; (try clear hb); (try clear hb2); (try clear hk); (try clear hi)))
                 go_roundg kj35
                 case measure => have := HJ1.out; have := HK2.out; have := HJ21.out; have := HK4.out; have := HJ35.out; omega
                 case rel => exact ⟨(t345), (wrap64 (x5_4 + 1)), (by first | rfl | (simp; done) | (simp [*]; done)), (by first | rfl | (simp; done) | (simp [*]; done)), H', ⟨by have := HJ1.out; have := HK2.out; have := HJ21.out; have := HK4.out; have := HJ35.out; omega⟩, ⟨bm BK333⟩, ⟨bw2 HB GE333 GE343⟩⟩
                ·rw [if_neg c44] at H
                 have c44b0 : decide (((rd_T63 l0_1 x5_4).f1) < (l0_0.length : Int)) = false := decide_eq_false c44
                 clear c44
                 have H' := Aside0.mk H
                 clear H
                 obtain ⟨hcz52_0, hcz52_1, hcz52_2, hfz52_0, hfz52_1, hfz52_2⟩ := b3 BK333
                 have p342 : 0 ≤ (x5_4 : Int) := of_decide_eq_true (by first | (with_reducible assumption) | assumption)
                 have q342 : x5_4 < (l0_1.length : Int) := of_decide_eq_true (by first | (with_reducible assumption) | assumption)
                 obtain ⟨ad342, e342, hx342_0, hx342_1, hx342_2, hx342_3⟩ := at_T63 HR0_1.out x5_4 p342 q342
                 cases e342
                 replace hx342_0 := cB HB hx342_0
                 replace hx342_1 := cB HB hx342_1
                 replace hx342_2 := cB HB hx342_2
                 replace hx342_3 := cB HB hx342_3
                 replace p342 := eq_true p342
                 replace q342 := eq_true q342
                 go_wp2_with (first | ((with_reducible refine gate_dst (N := 6) rfl ?_); (try (refine gate_guard (by rfl) ?_; dsimp only)); refine bx 6 #[.int .i64 0, .int .i64 0, .int .i64 0, .int .i64 0] 63 ?_; intro gb343 hg w53 hbox hb; have n0_ := Aside0.mk (blk_below (bm BK333) hb); have n1_ := Aside0.mk (below_step (bw1 HB GE333) hb); have n2_ := Aside0.mk (hbox); have n3_ := Aside0.mk (bz (bw1 HB GE333) hg); have n4_ := Aside0.mk (bz (bw1 HB GE333) hg); have n5_ := Aside0.mk (bl (bm BK333) hg); have n6_ := Aside0.mk (bg (bm BK333) hg); clear BK333; clear HB; have BK333 := n0_; have HB := n1_; have BK343 := n2_; have GW343 := n3_; have GE343 := n4_; have NB333_343 := n5_; have NB343_333 := n6_; clear n0_ n1_ n2_ n3_ n4_ n5_ n6_; clear hb hbox hg; have hnb54 := NB343_333.out; have hnc54 := NB333_343.out; obtain ⟨hcz55_0, hcz55_1, hcz55_2, hcz55_3, hfz55_0, hfz55_1, hfz55_2, hfz55_3⟩ := b4 BK343) | ((with_reducible refine gate_callee (f := 45) rfl ?_); refine gL (some 72) Tryd.func45 #[.int .i64 ((rd_T63 l0_1 x5_4).f0), .int .i64 0, .int .i64 ((rd_T63 l0_1 x5_4).f1)] ?_; (with_reducible refine (macadamref00_Amid.calls ((rd_T63 l0_1 x5_4).f0) 0 ((rd_T63 l0_1 x5_4).f1) true _ A42.out).mono ?_); rintro e w' ⟨rfl, ⟨nd, rfl⟩⟩; refine ⟨_, rfl, ?_⟩; obtain ⟨hcz56_0, hcz56_1, hcz56_2, hfz56_0, hfz56_1, hfz56_2⟩ := b3 BK333))
                 go_roundg kj35
                 case measure => have := HJ1.out; have := HK2.out; have := HJ21.out; have := HK4.out; have := HJ35.out; omega
                 case rel => exact ⟨(false), (wrap64 (x5_4 + 1)), (by first | rfl | (simp; done) | (simp [*]; done)), (by first | rfl | (simp; done) | (simp [*]; done)), H', ⟨by have := HJ1.out; have := HK2.out; have := HJ21.out; have := HK4.out; have := HJ35.out; omega⟩, ⟨by (with_reducible repeat (first | refine blk_drewN ?_ _ | refine blk_drew ?_ | refine blk_alloc ?_ _)); refine blk_far ?_ NB333_343.out _; (with_reducible repeat (first | refine blk_drewN ?_ _ | refine blk_drew ?_ | refine blk_alloc ?_ _)); refine blk_far ?_ NB333_343.out _; (with_reducible repeat (first | refine blk_drewN ?_ _ | refine blk_drew ?_ | refine blk_alloc ?_ _)); refine blk_far ?_ NB333_343.out _; (with_reducible repeat (first | refine blk_drewN ?_ _ | refine blk_drew ?_ | refine blk_alloc ?_ _)); refine blk_far ?_ NB333_343.out _; (with_reducible repeat (first | refine blk_drewN ?_ _ | refine blk_drew ?_ | refine blk_alloc ?_ _)); exact BK333.out⟩, ⟨bw2 HB GE333 GE343⟩⟩
               ·replace c43 := Bool.eq_false_iff.mpr c43
                subst c43
                have H1 : (macadamlaw04_sound.l1 kj35 false (wrap64 (x5_4 + 1)) l0_0 l0_1 a0_2) = some r := by rw [if_neg (show ¬ (false = true) by decide)] at H; exact H
                clear H
                have H := H1
                clear H1
                have H' := Aside0.mk H
                clear H
                obtain ⟨hcz57_0, hcz57_1, hcz57_2, hfz57_0, hfz57_1, hfz57_2⟩ := b3 BK333
                have p342 : 0 ≤ (x5_4 : Int) := of_decide_eq_true (by first | (with_reducible assumption) | assumption)
                have q342 : x5_4 < (l0_1.length : Int) := of_decide_eq_true (by first | (with_reducible assumption) | assumption)
                obtain ⟨ad342, e342, hx342_0, hx342_1, hx342_2, hx342_3⟩ := at_T63 HR0_1.out x5_4 p342 q342
                cases e342
                replace hx342_0 := cB HB hx342_0
                replace hx342_1 := cB HB hx342_1
                replace hx342_2 := cB HB hx342_2
                replace hx342_3 := cB HB hx342_3
                replace p342 := eq_true p342
                replace q342 := eq_true q342
                go_wp2_with (first | ((with_reducible refine gate_dst (N := 6) rfl ?_); (try (refine gate_guard (by rfl) ?_; dsimp only)); refine bx 6 #[.int .i64 0, .int .i64 0, .int .i64 0, .int .i64 0] 63 ?_; intro gb343 hg w58 hbox hb; have n0_ := Aside0.mk (blk_below (bm BK333) hb); have n1_ := Aside0.mk (below_step (bw1 HB GE333) hb); have n2_ := Aside0.mk (hbox); have n3_ := Aside0.mk (bz (bw1 HB GE333) hg); have n4_ := Aside0.mk (bz (bw1 HB GE333) hg); have n5_ := Aside0.mk (bl (bm BK333) hg); have n6_ := Aside0.mk (bg (bm BK333) hg); clear BK333; clear HB; have BK333 := n0_; have HB := n1_; have BK343 := n2_; have GW343 := n3_; have GE343 := n4_; have NB333_343 := n5_; have NB343_333 := n6_; clear n0_ n1_ n2_ n3_ n4_ n5_ n6_; clear hb hbox hg; have hnb59 := NB343_333.out; have hnc59 := NB333_343.out; obtain ⟨hcz60_0, hcz60_1, hcz60_2, hcz60_3, hfz60_0, hfz60_1, hfz60_2, hfz60_3⟩ := b4 BK343) | ((with_reducible refine gate_callee (f := 45) rfl ?_); refine gL (some 72) Tryd.func45 #[.int .i64 ((rd_T63 l0_1 x5_4).f0), .int .i64 0, .int .i64 ((rd_T63 l0_1 x5_4).f1)] ?_; (with_reducible refine (macadamref00_Amid.calls ((rd_T63 l0_1 x5_4).f0) 0 ((rd_T63 l0_1 x5_4).f1) false _ A42.out).mono ?_); rintro e w' ⟨rfl, ⟨nd, rfl⟩⟩; refine ⟨_, rfl, ?_⟩))
                go_roundg kj35
                case measure => have := HJ1.out; have := HK2.out; have := HJ21.out; have := HK4.out; have := HJ35.out; omega
                case rel => exact ⟨(false), (wrap64 (x5_4 + 1)), (by first | rfl | (simp; done) | (simp [*]; done)), (by first | rfl | (simp; done) | (simp [*]; done)), H', ⟨by have := HJ1.out; have := HK2.out; have := HJ21.out; have := HK4.out; have := HJ35.out; omega⟩, ⟨by (with_reducible repeat (first | refine blk_drewN ?_ _ | refine blk_drew ?_ | refine blk_alloc ?_ _)); refine blk_far ?_ NB333_343.out _; (with_reducible repeat (first | refine blk_drewN ?_ _ | refine blk_drew ?_ | refine blk_alloc ?_ _)); refine blk_far ?_ NB333_343.out _; (with_reducible repeat (first | refine blk_drewN ?_ _ | refine blk_drew ?_ | refine blk_alloc ?_ _)); refine blk_far ?_ NB333_343.out _; (with_reducible repeat (first | refine blk_drewN ?_ _ | refine blk_drew ?_ | refine blk_alloc ?_ _)); refine blk_far ?_ NB333_343.out _; (with_reducible repeat (first | refine blk_drewN ?_ _ | refine blk_drew ?_ | refine blk_alloc ?_ _)); exact BK333.out⟩, ⟨bw2 HB GE333 GE343⟩⟩
              ·rw [if_neg c41] at H
               exact absurd H (by simp)
             ·rw [if_neg c40] at H
              exact absurd H (by simp)
            ·replace c39 := Bool.eq_false_iff.mpr c39
             subst c39
             have H1 : (some x3_4) = some r := by rw [if_neg (show ¬ (false = true) by decide)] at H; exact H
             clear H
             have H := H1
             clear H1
             obtain rfl := Option.some.inj H
             go_wp2
             go_ret
             exact ⟨by first | rfl | (simp [errW_none, errW_some] <;> rfl) | (simp [*, errW_none, errW_some] <;> rfl), bw1 HB GE333⟩
end Go.Proofs.YtikfghnkbgdbgaaDoor.Q
end
section
namespace Go.Proofs.YtikfghnkbgdbgaaDoor.Q
open Go.RowKit Go.Proofs.YtikfghnkbgdbgaaDoorW.PrintWords Go.Proofs.YtikfghnkbgdbgaaDoorW.PrintLast Go.Proofs.YtikfghnkbgdbgaaDoorW.PrintMore
attribute [local go_sem] max2_int min2_int max_two min_two max_three min_three max_four min_four   -- for this text's walks alone
set_option linter.unusedVariables false
set_option linter.unusedSimpArgs false
def macadamref00_Wrap.f (a0 : Int) (a1 : Int) : Option (Int) := if a1 ≤ 0 then (some 0) else (if a1 = 0 then (none) else (if (Int.tmod a0 a1) < 0 then (some (wrap64 ((Int.tmod a0 a1) + a1))) else (some (Int.tmod a0 a1))))
set_option maxHeartbeats 8000000 in
set_option maxRecDepth 100000 in
theorem macadamref00_Wrap.calls (a0 : Int) (a1 : Int) (r : Int) (w : World) (h : macadamref00_Wrap.f a0 a1 = some r) :
  Calls Tryd.prog 39 #[.int .i64 a0, .int .i64 a1] w fun e w' => e = .returned (.int .i64 r) ∧ Drawn0 w w' := by
 have H : (if a1 ≤ 0 then (some 0) else (if a1 = 0 then (none) else (if (Int.tmod a0 a1) < 0 then (some (wrap64 ((Int.tmod a0 a1) + a1))) else (some (Int.tmod a0 a1))))) = some r := h
 clear h
 by_cases c3 : a1 ≤ 0
 ·rw [if_pos c3] at H
  have c3b0 : decide (a1 ≤ 0) = true := decide_eq_true c3
  clear c3
  obtain rfl := Option.some.inj H
  go_enter Tryd.func39, Tryd.ntmps39
  go_wp2
  go_ret
  exact ⟨by first | rfl | (simp; done) | (simp [*]; done), by repeat (first | exact Drawn0.refl _ | apply Drawn0.step)⟩
 ·rw [if_neg c3] at H
  have c3b0 : decide (a1 ≤ 0) = false := decide_eq_false c3
  clear c3
  by_cases c4 : a1 = 0
  ·rw [if_pos c4] at H
   exact absurd H (by simp)
  ·rw [if_neg c4] at H
   have c4b0 : (a1 == 0) = false := beq_eq_false_iff_ne.mpr c4
   have c4b1 : (a1 != 0) = true := bne_iff_ne.mpr c4
   by_cases c5 : (Int.tmod a0 a1) < 0
   ·rw [if_pos c5] at H
    have c5b0 : decide ((Int.tmod a0 a1) < 0) = true := decide_eq_true c5
    clear c5
    obtain rfl := Option.some.inj H
    go_enter Tryd.func39, Tryd.ntmps39
    go_wp2
    go_ret
    exact ⟨by first | rfl | (simp; done) | (simp [*]; done), by repeat (first | exact Drawn0.refl _ | apply Drawn0.step)⟩
   ·rw [if_neg c5] at H
    have c5b0 : decide ((Int.tmod a0 a1) < 0) = false := decide_eq_false c5
    clear c5
    obtain rfl := Option.some.inj H
    go_enter Tryd.func39, Tryd.ntmps39
    go_wp2
    go_ret
    exact ⟨by first | rfl | (simp; done) | (simp [*]; done), by repeat (first | exact Drawn0.refl _ | apply Drawn0.step)⟩
def macadamlaw04_shut.l0 : Nat → List (S59) → Int → List Int → Int → Option (List Int)
 | 0, _, _, _, _ => none
 | k + 1, x0, x1, x5, x6 => if x6 < (x0.length : Int) then (if 0 ≤ x6 then (if ((rd_T59 x0 x6).f0) = x1 then (if x5.length < 17592186044416 then (macadamlaw04_shut.l0 k x0 x1 (x5 ++ [(rd_T59 x0 x6).f2]) (wrap64 (x6 + 1))) else (none)) else (macadamlaw04_shut.l0 k x0 x1 x5 (wrap64 (x6 + 1)))) else (none)) else (some x5)
def macadamlaw04_shut.f (k : Nat) (l0 : List (S59)) (a1 : Int) : Option (List Int) := macadamlaw04_shut.l0 k l0 a1 (([] : List Int)) 0
set_option maxHeartbeats 8000000 in
set_option maxRecDepth 100000 in
theorem macadamlaw04_shut.calls (k : Nat) (A0 : Option Addr) (c0 : Nat) (l0 : List (S59)) (a1 : Int) (r : List Int) (w : World) (hr0 : Kd.C k59 w A0 l0.length l0) (hc0 : l0.length ≤ c0) (h : macadamlaw04_shut.f k l0 a1 = some r) :
  Calls Tryd.prog 41 #[.slice A0 l0.length c0, .int .i64 a1] w fun e w' => ∃ v0_ : Value, e = .returned (v0_) ∧ Kd.R (Kd.int .i64) 3 w' w.heap.size (fun _ => True) v0_ r ∧ Below w.heap.size w w' := by
 have HR0 := Aside0.mk hr0
 have HC0 := Aside0.mk hc0
 clear hr0 hc0
 have HB := Aside0.mk (Below.refl w.heap.size w)
 have H : (macadamlaw04_shut.l0 k l0 a1 (([] : List Int)) 0) = some r := h
 clear h
 obtain ⟨y346, hy346⟩ : ∃ y_ : List Int, y_ = (([] : List Int)) := ⟨_, rfl⟩
 replace H : (macadamlaw04_shut.l0 k l0 a1 y346 0) = some r := by first | (rw [hy346]; with_reducible exact H) | (have H2_ := (Option.bind_some _ _).symm.trans H; rw [hy346]; with_reducible exact H2_) | (have H2_ := (Option.bind_some _ _).symm.trans H; with_reducible exact H2_) | with_reducible exact H | (rw [hy346]; exact H) | exact H
 have Ny346 := Aside0.mk hy346
 clear hy346
 have H' := Aside0.mk H
 clear H
 go_enter Tryd.func41, Tryd.ntmps41
 go_wp2_with (first | ((with_reducible refine gate_dst (N := 7) rfl ?_); refine Kd.R_lit (Kd.int .i64) _ 3 ?hg (N := 7) ?hd (xs := ([] : List Int)) (inner := []) (ok := fun _ => True) (okp := fun _ => True) ?hr ?hp (fun _ hk => hk) trivial (Below.refl _ _) (Nat.le_refl _) (by simp) ?_; (case hd => rfl); (case hg => rfl); (case hr => first | (go_simp; done) | (go_simp; rfl)); (case hp => exact (Reps.none _ _)); intro v347 w3 ho4 hb hg_ hnew_; clear hg_ hnew_; (first | rw [← Ny346.out] at ho4 | (simp only [Int.reduceToNat] at ho4; rw [← Ny346.out] at ho4)); have n0_ := Aside0.mk (Kd.R_lower ho4 (below_size (bw HB))); have n1_ := Aside0.mk (below_step (bw HB) hb); clear HB; have HO348 := n0_; have HB := n1_; clear n0_ n1_; clear hb ho4))
 go_loopg [5, 6] k (fun kq v5 v6 w' => ∃ (x5_1 : List Int) (x6_1 : Int), v6 = .int .i64 x6_1 ∧ Aside0 (macadamlaw04_shut.l0 kq l0 a1 x5_1 x6_1 = some r) ∧ Aside0 (kq ≤ k) ∧ Aside0 (Kd.R (Kd.int .i64) 3 w' w.heap.size (fun _ => True) v5 x5_1) ∧ Aside0 (Below w.heap.size w w'))
 case atStart => exact ⟨(y346), (0), (by first | rfl | (simp; done) | (simp [*]; done)), H', ⟨Nat.le_refl _⟩, ⟨by (with_reducible repeat (first | apply Kd.R_alloc | apply Kd.R_drewN | apply Kd.R_drew)); exact HO348.out⟩, ⟨bw HB⟩⟩
 case round =>
  clear H'
  try clear p2
  try clear c4
  obtain ⟨x5_1, x6_1, rfl, HA, HK1, HO_5, HB⟩ := hrel
  cases gk with
  | zero => exact absurd HA.out (by simp [macadamlaw04_shut.l0])
  | succ k1 =>
   have H := HA.out
   clear HA
   simp only [macadamlaw04_shut.l0] at H
   by_cases c5 : x6_1 < (l0.length : Int)
   ·rw [if_pos c5] at H
    have c5b0 : decide (x6_1 < (l0.length : Int)) = true := decide_eq_true c5
    clear c5
    by_cases c6 : 0 ≤ x6_1
    ·rw [if_pos c6] at H
     have c6b0 : decide (0 ≤ x6_1) = true := decide_eq_true c6
     clear c6
     by_cases c7 : ((rd_T59 l0 x6_1).f0) = a1
     ·rw [if_pos c7] at H
      have c7b0 : (((rd_T59 l0 x6_1).f0) == a1) = true := beq_iff_eq.mpr c7
      have c7b1 : (((rd_T59 l0 x6_1).f0) != a1) = false := bne_eq_false_iff_eq.mpr c7
      clear c7
      by_cases c8 : x5_1.length < 17592186044416
      ·rw [if_pos c8] at H
       have LMc8 := Aside0.mk c8
       clear c8
       obtain ⟨y351, hy351⟩ : ∃ y_ : List Int, y_ = (x5_1 ++ [(rd_T59 l0 x6_1).f2]) := ⟨_, rfl⟩
       replace H : (macadamlaw04_shut.l0 k1 l0 a1 y351 (wrap64 (x6_1 + 1))) = some r := by first | (rw [hy351]; with_reducible exact H) | (have H2_ := (Option.bind_some _ _).symm.trans H; rw [hy351]; with_reducible exact H2_) | (have H2_ := (Option.bind_some _ _).symm.trans H; with_reducible exact H2_) | with_reducible exact H | (rw [hy351]; exact H) | exact H
       have Ny351 := Aside0.mk hy351
       clear hy351
       have H' := Aside0.mk H
       clear H
       have p349 : 0 ≤ (x6_1 : Int) := of_decide_eq_true (by first | (with_reducible assumption) | assumption)
       have q349 : x6_1 < (l0.length : Int) := of_decide_eq_true (by first | (with_reducible assumption) | assumption)
       obtain ⟨ad349, e349, hx349_0, hx349_1, hx349_2⟩ := at_T59 HR0.out x6_1 p349 q349
       cases e349
       replace hx349_0 := cB HB hx349_0
       replace hx349_1 := cB HB hx349_1
       replace hx349_2 := cB HB hx349_2
       replace p349 := eq_true p349
       replace q349 := eq_true q349
       have p350 : 0 ≤ (x6_1 : Int) := of_decide_eq_true (by first | (with_reducible assumption) | assumption)
       have q350 : x6_1 < (l0.length : Int) := of_decide_eq_true (by first | (with_reducible assumption) | assumption)
       obtain ⟨ad350, e350, hx350_0, hx350_1, hx350_2⟩ := at_T59 HR0.out x6_1 p350 q350
       obtain rfl : ad349 = ad350 := (by injection e350)
       replace hx350_0 := cB HB hx350_0
       replace hx350_1 := cB HB hx350_1
       replace hx350_2 := cB HB hx350_2
       replace p350 := eq_true p350
       replace q350 := eq_true q350
       go_wp2_with (first | ((with_reducible refine gate_builtin (b := .append) (xs := #[.tmp 21, .tmp 27]) rfl ?_); at_builtin; refine Kd.R_append (Kd.int .i64) (w0 := w) w.heap.size rfl (.tmp 21) (.tmp 27) 28 3 (.int .i64 0) 8 rfl Tryd.underlying28 info3 rfl (by decide) (by omega) u5 x5_1 ((rd_T59 l0 x6_1).f2) [.int .i64 ((rd_T59 l0 x6_1).f2)] (fun _ => True) (fun _ => False) rfl rfl ?aP (fun _ hk => hk.elim) ?aF ?aO ?aB ?aS ?aL ?_; (case aP => exact rfl); (case aB => exact (bw HB)); (case aF => exact (fun _ _ => trivial)); (case aO => exact (by (with_reducible repeat (first | apply Kd.R_alloc | apply Kd.R_drewN | apply Kd.R_drew)); exact HO_5.out)); (case aS => exact (below_size (bw HB))); (case aL => have := LMc8.out; omega); intro v352 w9 ho hb hg hat; rw [← Ny351.out] at ho; have n0_ := Aside0.mk (hb); have n1_ := Aside0.mk (ho); clear HB; clear HO_5; have HB := n0_; have HO353 := n1_; clear n0_ n1_; clear ho hb hg hat))
       go_roundg k1
       case measure => have := HK1.out; omega
       case rel => exact ⟨(y351), (wrap64 (x6_1 + 1)), (by first | rfl | (simp; done) | (simp [*]; done)), H', ⟨by have := HK1.out; omega⟩, ⟨by (with_reducible repeat (first | apply Kd.R_alloc | apply Kd.R_drewN | apply Kd.R_drew)); exact HO353.out⟩, ⟨bw HB⟩⟩
      ·rw [if_neg c8] at H
       exact absurd H (by simp)
     ·rw [if_neg c7] at H
      have c7b0 : (((rd_T59 l0 x6_1).f0) == a1) = false := beq_eq_false_iff_ne.mpr c7
      have c7b1 : (((rd_T59 l0 x6_1).f0) != a1) = true := bne_iff_ne.mpr c7
      have H' := Aside0.mk H
      clear H
      have p349 : 0 ≤ (x6_1 : Int) := of_decide_eq_true (by first | (with_reducible assumption) | assumption)
      have q349 : x6_1 < (l0.length : Int) := of_decide_eq_true (by first | (with_reducible assumption) | assumption)
      obtain ⟨ad349, e349, hx349_0, hx349_1, hx349_2⟩ := at_T59 HR0.out x6_1 p349 q349
      cases e349
      replace hx349_0 := cB HB hx349_0
      replace hx349_1 := cB HB hx349_1
      replace hx349_2 := cB HB hx349_2
      replace p349 := eq_true p349
      replace q349 := eq_true q349
      go_wp2
      go_roundg k1
      case measure => have := HK1.out; omega
      case rel => exact ⟨(x5_1), (wrap64 (x6_1 + 1)), (by first | rfl | (simp; done) | (simp [*]; done)), H', ⟨by have := HK1.out; omega⟩, ⟨by (with_reducible repeat (first | apply Kd.R_alloc | apply Kd.R_drewN | apply Kd.R_drew)); exact HO_5.out⟩, ⟨bw HB⟩⟩
    ·rw [if_neg c6] at H
     exact absurd H (by simp)
   ·rw [if_neg c5] at H
    have c5b0 : decide (x6_1 < (l0.length : Int)) = false := decide_eq_false c5
    clear c5
    obtain rfl := Option.some.inj H
    go_wp2
    go_ret
    exact ⟨_, by first | rfl | (simp [errW_none, errW_some] <;> rfl) | (simp [*, errW_none, errW_some] <;> rfl), by (with_reducible repeat (first | apply Kd.R_alloc | apply Kd.R_drewN | apply Kd.R_drew)); exact HO_5.out, bw HB⟩
end Go.Proofs.YtikfghnkbgdbgaaDoor.Q
end
section
namespace Go.Proofs.YtikfghnkbgdbgaaDoor.Q
open Go.RowKit Go.Proofs.YtikfghnkbgdbgaaDoorW.PrintWords Go.Proofs.YtikfghnkbgdbgaaDoorW.PrintLast Go.Proofs.YtikfghnkbgdbgaaDoorW.PrintMore
attribute [local go_sem] max2_int min2_int max_two min_two max_three min_three max_four min_four   -- for this text's walks alone
set_option linter.unusedVariables false
set_option linter.unusedSimpArgs false
mutual
def macadamlaw04_lawful.l0 : Nat → List (S59) → Int → Int → List (S66) → List (S63) → Int → Option (Bool)
 | 0, _, _, _, _, _, _ => none
 | k + 1, x1, x5, x6, x355000, x355001, x355002 => if x6 < (x1.length : Int) then (if 0 ≤ x6 then ((macadamref00_Amid.f ((rd_T59 x1 x6).f0) 0 (wrap64 (x355002 - 1))).bind fun t357 => (if t357 = true then ((macadamref00_Amid.f ((rd_T59 x1 x6).f1) 0 (wrap64 ((x355001.length : Int) - 1))).bind fun t358 => (if t358 = true then ((macadamref00_Amid.f ((rd_T59 x1 x6).f2) 0 (wrap64 ((x355000.length : Int) - 1))).bind fun t359 => (macadamlaw04_lawful.j1 k x1 x5 x6 (!t359) x355000 x355001 x355002 ((rd_T59 x1 x6).f0) ((rd_T59 x1 x6).f1) ((rd_T59 x1 x6).f2))) else (macadamlaw04_lawful.j1 k x1 x5 x6 true x355000 x355001 x355002 ((rd_T59 x1 x6).f0) ((rd_T59 x1 x6).f1) ((rd_T59 x1 x6).f2)))) else (macadamlaw04_lawful.j1 k x1 x5 x6 true x355000 x355001 x355002 ((rd_T59 x1 x6).f0) ((rd_T59 x1 x6).f1) ((rd_T59 x1 x6).f2)))) else (none)) else (macadamlaw04_lawful.l1 k x1 0 x355000 x355001 x355002)
def macadamlaw04_lawful.j1 : Nat → List (S59) → Int → Int → Bool → List (S66) → List (S63) → Int → Int → Int → Int → Option (Bool)
 | 0, _, _, _, _, _, _, _, _, _, _ => none
 | k + 1, x1, x5, x6, x49, x355000, x355001, x355002, x357000, x357001, x357002 => if x49 = true then (some false) else (if (wrap64 ((wrap64 (x357000 * 2)) + x357001)) ≤ x5 then (some false) else (if 0 ≤ x357001 then (if x357001 < (x355001.length : Int) then (if x357002 < ((rd_T63 x355001 x357001).f0) then (some false) else (if x357002 > ((rd_T63 x355001 x357001).f1) then (some false) else (if 0 ≤ x357002 then (if x357002 < (x355000.length : Int) then ((macadamref00_In.f ((rd_T66 x355000 x357002).f1) x357000).bind fun t363 => (if t363 = true then (some false) else (macadamlaw04_lawful.l0 k x1 (wrap64 ((wrap64 (x357000 * 2)) + x357001)) (wrap64 (x6 + 1)) x355000 x355001 x355002))) else (none)) else (none)))) else (none)) else (none)))
def macadamlaw04_lawful.l1 : Nat → List (S59) → Int → List (S66) → List (S63) → Int → Option (Bool)
 | 0, _, _, _, _, _ => none
 | k + 1, x1, x9, x355000, x355001, x355002 => if x9 < x355002 then ((macadamlaw04_shut.f k x1 x9).bind fun t364 => (macadamlaw04_lawful.l2 k x1 x9 t364 0 x355000 x355001 x355002)) else (some true)
def macadamlaw04_lawful.l2 : Nat → List (S59) → Int → List Int → Int → List (S66) → List (S63) → Int → Option (Bool)
 | 0, _, _, _, _, _, _, _ => none
 | k + 1, x1, x9, x10, x11, x355000, x355001, x355002 => if x11 < (x10.length : Int) then (macadamlaw04_lawful.l3 k x1 x9 x10 x11 0 x355000 x355001 x355002) else (macadamlaw04_lawful.l1 k x1 (wrap64 (x9 + 1)) x355000 x355001 x355002)
def macadamlaw04_lawful.l3 : Nat → List (S59) → Int → List Int → Int → Int → List (S66) → List (S63) → Int → Option (Bool)
 | 0, _, _, _, _, _, _, _, _ => none
 | k + 1, x1, x9, x10, x11, x12, x355000, x355001, x355002 => if x12 < x11 then (if 0 ≤ x11 then (if x11 < (x10.length : Int) then (if 0 ≤ x12 then (if x12 < (x10.length : Int) then ((macadamref00_Amid.f (wrap64 ((rd x10 x11) - (rd x10 x12))) (-1) 1).bind fun t369 => (if t369 = true then (some false) else (macadamlaw04_lawful.l3 k x1 x9 x10 x11 (wrap64 (x12 + 1)) x355000 x355001 x355002))) else (none)) else (none)) else (none)) else (none)) else (macadamlaw04_lawful.l2 k x1 x9 x10 (wrap64 (x11 + 1)) x355000 x355001 x355002)
end
def macadamlaw04_lawful.f (k : Nat) (l0_0 : List (S66)) (l0_1 : List (S63)) (a0_2 : Int) (l1 : List (S59)) : Option (Bool) := macadamlaw04_lawful.l0 k l1 (-1) 0 l0_0 l0_1 a0_2
def macadamlaw04_lawful.T9 : Bool × List (List Nat × List Nat) := (true, [([], []), ([], []), ([0, 1], [0, 1]), ([2], [2]), ([3], [3]), ([4, 3], [3, 4]), ([3], [3]), ([6, 3], [3, 6]), ([3], [3]), ([8, 3], [3, 8]), ([7, 9, 3], [3, 7, 9]), ([10, 3], [3, 10]), ([11, 3], [3, 11]), ([5, 12, 3], [3, 5, 12]), ([3, 13], [3, 13]), ([14, 3], [14]), ([15], [15]), ([16, 15], [15, 16]), ([15], [15]), ([18, 15], [15, 18]), ([15], [15]), ([20, 15], [15, 20]), ([19, 21, 15], [15, 19, 21]), ([22, 15], [15, 22]), ([23, 15], [15, 23]), ([17, 24, 15], [15, 17, 24]), ([15, 25], [15, 25]), ([26, 15], [26]), ([27], [27]), ([28, 27], [27, 28]), ([27], [27]), ([30, 27], [27, 30]), ([29, 31, 27], [27, 29, 31]), ([32, 27], [27, 32]), ([33, 27], [27, 33]), ([27], [27]), ([35, 27], [27, 35]), ([34, 36, 27, 27], [27, 34, 36]), ([27, 37], [27, 37])])
def macadamlaw04_lawful.B9 : List Nat := [0, 0, 3, 7, 15, 31, 15, 79, 15, 271, 975, 1999, 4047, 8191, 16383, 32767, 65535, 131071, 65535, 327679, 65535, 1114111, 3997695, 8191999, 16580607, 33554431, 67108863, 134217727, 268435455, 536870911, 268435455, 1342177279, 4294967295, 8589934591, 17179869183, 268435455, 34628173823, 137438953471, 274877906943]
theorem macadamlaw04_lawful.tab9 : rtab .any (opsOf Tryd.f40 9) = macadamlaw04_lawful.T9 := by kernel_rfl
theorem macadamlaw04_lawful.bits9 : waitsOk macadamlaw04_lawful.T9.2 macadamlaw04_lawful.B9 = true := by kernel_rfl
def macadamlaw04_lawful.T22 : Bool × List (List Nat × List Nat) := (true, [([], []), ([], []), ([0, 1], [0, 1]), ([2], [2]), ([], []), ([], []), ([4, 5], [4, 5]), ([6], [6]), ([3, 7], [3, 7]), ([8], [8])])
def macadamlaw04_lawful.B22 : List Nat := [0, 0, 3, 7, 0, 0, 48, 112, 255, 511]
theorem macadamlaw04_lawful.tab22 : rtab .any (opsOf Tryd.f40 22) = macadamlaw04_lawful.T22 := by kernel_rfl
theorem macadamlaw04_lawful.bits22 : waitsOk macadamlaw04_lawful.T22.2 macadamlaw04_lawful.B22 = true := by kernel_rfl
set_option maxHeartbeats 8000000 in
set_option maxRecDepth 100000 in
theorem macadamlaw04_lawful.calls (k : Nat) (A0_0 : Option Addr) (c0_0 : Nat) (l0_0 : List (S66)) (A0_1 : Option Addr) (c0_1 : Nat) (l0_1 : List (S63)) (a0_2 : Int) (A1 : Option Addr) (c1 : Nat) (l1 : List (S59)) (r : Bool) (w : World) (hr0_0 : Kd.C k66 w A0_0 l0_0.length l0_0) (hc0_0 : l0_0.length ≤ c0_0) (hr0_1 : Kd.C k63 w A0_1 l0_1.length l0_1) (hc0_1 : l0_1.length ≤ c0_1) (hr1 : Kd.C k59 w A1 l1.length l1) (hc1 : l1.length ≤ c1) (h : macadamlaw04_lawful.f k l0_0 l0_1 a0_2 l1 = some r) :
  Calls Tryd.prog 40 #[.agg #[.slice A0_0 l0_0.length c0_0, .slice A0_1 l0_1.length c0_1, .int .i64 a0_2], .slice A1 l1.length c1] w fun e w' => e = .returned (.bool r) ∧ Below w.heap.size w w' := by
 have hu25 := Tryd.underlying25
 have hu59 := Tryd.underlying59
 have HR0_0 := Aside0.mk hr0_0
 have HC0_0 := Aside0.mk hc0_0
 clear hr0_0 hc0_0
 have HR0_1 := Aside0.mk hr0_1
 have HC0_1 := Aside0.mk hc0_1
 clear hr0_1 hc0_1
 have HR1 := Aside0.mk hr1
 have HC1 := Aside0.mk hc1
 clear hr1 hc1
 have HB := Aside0.mk (Below.refl w.heap.size w)
 have H : (macadamlaw04_lawful.l0 k l1 (-1) 0 l0_0 l0_1 a0_2) = some r := h
 clear h
 have H' := Aside0.mk H
 clear H
 go_enter Tryd.func40, Tryd.ntmps40
 go_wp2_with (first | ((with_reducible refine gate_dst (N := 2) rfl ?_); (try (refine gate_guard (by rfl) ?_; dsimp only)); refine bx 2 #[.slice A0_0 l0_0.length c0_0, .slice A0_1 l0_1.length c0_1, .int .i64 a0_2] 25 ?_; intro gb354 hg w3 hbox hb; have n0_ := Aside0.mk (below_step (bw HB) hb); have n1_ := Aside0.mk (hbox); have n2_ := Aside0.mk (bz (bw HB) hg); have n3_ := Aside0.mk (bz (bw HB) hg); clear HB; have HB := n0_; have BK354 := n1_; have GW354 := n2_; have GE354 := n3_; clear n0_ n1_ n2_ n3_; clear hb hbox hg))
 go_loopg [5, 6] k (fun kq v5 v6 w' => ∃ (x5_1 : Int) (x6_1 : Int), v5 = .int .i64 x5_1 ∧ v6 = .int .i64 x6_1 ∧ Aside0 (macadamlaw04_lawful.l0 kq l1 x5_1 x6_1 l0_0 l0_1 a0_2 = some r) ∧ Aside0 (kq ≤ k) ∧ Aside0 (w'.heap[gb354]? = some (.cells #[(.slice A0_0 l0_0.length c0_0), (.slice A0_1 l0_1.length c0_1), .int .i64 a0_2] 25 (0, 0))) ∧ Aside0 (Below w.heap.size w w'))
 case atStart => exact ⟨((-1)), (0), (by first | rfl | (simp; done) | (simp [*]; done)), (by first | rfl | (simp; done) | (simp [*]; done)), H', ⟨Nat.le_refl _⟩, ⟨bm BK354⟩, ⟨bw1 HB GE354⟩⟩
 case round =>
  clear H'
  try clear c1
  try clear p2
  obtain ⟨x5_1, x6_1, rfl, rfl, HA, HK1, BK354, HB⟩ := hrel
  cases gk with
  | zero => exact absurd HA.out (by simp [macadamlaw04_lawful.l0])
  | succ k1 =>
   have H := HA.out
   clear HA
   simp only [macadamlaw04_lawful.l0] at H
   by_cases c4 : x6_1 < (l1.length : Int)
   ·rw [if_pos c4] at H
    have c4b0 : decide (x6_1 < (l1.length : Int)) = true := decide_eq_true c4
    clear c4
    by_cases c5 : 0 ≤ x6_1
    ·rw [if_pos c5] at H
     have c5b0 : decide (0 ≤ x6_1) = true := decide_eq_true c5
     clear c5
     have HC6 := Aside0.mk H
     clear H
     have p355 : 0 ≤ (x6_1 : Int) := of_decide_eq_true (by first | (with_reducible assumption) | assumption)
     have q355 : x6_1 < (l1.length : Int) := of_decide_eq_true (by first | (with_reducible assumption) | assumption)
     obtain ⟨ad355, e355, hx355_0, hx355_1, hx355_2⟩ := at_T59 HR1.out x6_1 p355 q355
     cases e355
     replace hx355_0 := cB HB hx355_0
     replace hx355_1 := cB HB hx355_1
     replace hx355_2 := cB HB hx355_2
     replace p355 := eq_true p355
     replace q355 := eq_true q355
     go_upto_region 6 with (first | ((with_reducible refine gate_dst (N := 7) rfl ?_); (try (refine gate_guard (by rfl) ?_; dsimp only)); refine bx 7 #[.int .i64 0, .int .i64 0, .int .i64 0] 59 ?_; intro gb356 hg w7 hbox hb; have n0_ := Aside0.mk (blk_below (bm BK354) hb); have n1_ := Aside0.mk (below_step (bw1 HB GE354) hb); have n2_ := Aside0.mk (hbox); have n3_ := Aside0.mk (bz (bw1 HB GE354) hg); have n4_ := Aside0.mk (bz (bw1 HB GE354) hg); have n5_ := Aside0.mk (bl (bm BK354) hg); have n6_ := Aside0.mk (bg (bm BK354) hg); clear BK354; clear HB; have BK354 := n0_; have HB := n1_; have BK356 := n2_; have GW356 := n3_; have GE356 := n4_; have NB354_356 := n5_; have NB356_354 := n6_; clear n0_ n1_ n2_ n3_ n4_ n5_ n6_; clear hb hbox hg; have hnb8 := NB356_354.out; have hnc8 := NB354_356.out; obtain ⟨hcz9_0, hcz9_1, hcz9_2, hfz9_0, hfz9_1, hfz9_2⟩ := b3 BK356))
     (try simp only [Act.put, List.setIfInBounds_toArray, List.set_cons_zero, List.set_cons_succ])
     go_cut [49] (fun v49 wc => ∃ (kq : Nat) (x49_5 : Bool), v49 = .bool x49_5 ∧ Aside0 (macadamlaw04_lawful.j1 kq l1 x5_1 x6_1 x49_5 l0_0 l0_1 a0_2 ((rd_T59 l1 x6_1).f0) ((rd_T59 l1 x6_1).f1) ((rd_T59 l1 x6_1).f2) = some r) ∧ Aside0 (kq ≤ k1) ∧ Aside0 (wc.heap[gb354]? = some (.cells #[(.slice A0_0 l0_0.length c0_0), (.slice A0_1 l0_1.length c0_1), .int .i64 a0_2] 25 (0, 0))) ∧ Aside0 (wc.heap[gb356]? = some (.cells #[.int .i64 ((rd_T59 l1 x6_1).f0), .int .i64 ((rd_T59 l1 x6_1).f1), .int .i64 ((rd_T59 l1 x6_1).f2)] 59 (0, 0))) ∧ Aside0 (Below w.heap.size w wc))
     case first =>
      have H := HC6.out
      clear HC6
      replace H := Option.bind_eq_some_iff.mp H
      obtain ⟨t357, A100, H⟩ := H
      replace H : (if t357 = true then ((macadamref00_Amid.f ((rd_T59 l1 x6_1).f1) 0 (wrap64 ((l0_1.length : Int) - 1))).bind fun t358 => (if t358 = true then ((macadamref00_Amid.f ((rd_T59 l1 x6_1).f2) 0 (wrap64 ((l0_0.length : Int) - 1))).bind fun t359 => (macadamlaw04_lawful.j1 k1 l1 x5_1 x6_1 (!t359) l0_0 l0_1 a0_2 ((rd_T59 l1 x6_1).f0) ((rd_T59 l1 x6_1).f1) ((rd_T59 l1 x6_1).f2))) else (macadamlaw04_lawful.j1 k1 l1 x5_1 x6_1 true l0_0 l0_1 a0_2 ((rd_T59 l1 x6_1).f0) ((rd_T59 l1 x6_1).f1) ((rd_T59 l1 x6_1).f2)))) else (macadamlaw04_lawful.j1 k1 l1 x5_1 x6_1 true l0_0 l0_1 a0_2 ((rd_T59 l1 x6_1).f0) ((rd_T59 l1 x6_1).f1) ((rd_T59 l1 x6_1).f2))) = some r := H
      have A10 := Aside0.mk A100
      clear A100
      by_cases c11 : t357 = true
      ·subst c11
       have H1 : ((macadamref00_Amid.f ((rd_T59 l1 x6_1).f1) 0 (wrap64 ((l0_1.length : Int) - 1))).bind fun t358 => (if t358 = true then ((macadamref00_Amid.f ((rd_T59 l1 x6_1).f2) 0 (wrap64 ((l0_0.length : Int) - 1))).bind fun t359 => (macadamlaw04_lawful.j1 k1 l1 x5_1 x6_1 (!t359) l0_0 l0_1 a0_2 ((rd_T59 l1 x6_1).f0) ((rd_T59 l1 x6_1).f1) ((rd_T59 l1 x6_1).f2))) else (macadamlaw04_lawful.j1 k1 l1 x5_1 x6_1 true l0_0 l0_1 a0_2 ((rd_T59 l1 x6_1).f0) ((rd_T59 l1 x6_1).f1) ((rd_T59 l1 x6_1).f2)))) = some r := by rw [if_pos rfl] at H; exact H
       clear H
       have H := H1
       clear H1
       replace H := Option.bind_eq_some_iff.mp H
       obtain ⟨t358, A120, H⟩ := H
       replace H : (if t358 = true then ((macadamref00_Amid.f ((rd_T59 l1 x6_1).f2) 0 (wrap64 ((l0_0.length : Int) - 1))).bind fun t359 => (macadamlaw04_lawful.j1 k1 l1 x5_1 x6_1 (!t359) l0_0 l0_1 a0_2 ((rd_T59 l1 x6_1).f0) ((rd_T59 l1 x6_1).f1) ((rd_T59 l1 x6_1).f2))) else (macadamlaw04_lawful.j1 k1 l1 x5_1 x6_1 true l0_0 l0_1 a0_2 ((rd_T59 l1 x6_1).f0) ((rd_T59 l1 x6_1).f1) ((rd_T59 l1 x6_1).f2))) = some r := H
       have A12 := Aside0.mk A120
       clear A120
       by_cases c13 : t358 = true
       ·subst c13
        have H1 : ((macadamref00_Amid.f ((rd_T59 l1 x6_1).f2) 0 (wrap64 ((l0_0.length : Int) - 1))).bind fun t359 => (macadamlaw04_lawful.j1 k1 l1 x5_1 x6_1 (!t359) l0_0 l0_1 a0_2 ((rd_T59 l1 x6_1).f0) ((rd_T59 l1 x6_1).f1) ((rd_T59 l1 x6_1).f2))) = some r := by rw [if_pos rfl] at H; exact H
        clear H
        have H := H1
        clear H1
        replace H := Option.bind_eq_some_iff.mp H
        obtain ⟨t359, A140, H⟩ := H
        replace H : (macadamlaw04_lawful.j1 k1 l1 x5_1 x6_1 (!t359) l0_0 l0_1 a0_2 ((rd_T59 l1 x6_1).f0) ((rd_T59 l1 x6_1).f1) ((rd_T59 l1 x6_1).f2)) = some r := H
        have A14 := Aside0.mk A140
        clear A140
        have H' := Aside0.mk H
        clear H
        have hnb15 := NB356_354.out
        have hnc15 := NB354_356.out
        obtain ⟨hcz16_0, hcz16_1, hcz16_2, hfz16_0, hfz16_1, hfz16_2⟩ := b3 BK356
        obtain ⟨hcz17_0, hcz17_1, hcz17_2, hfz17_0, hfz17_1, hfz17_2⟩ := b3 BK354
        go_wp2_with (first | ((with_reducible refine gate_callee (f := 45) rfl ?_); refine gL (some 28) Tryd.func45 #[.int .i64 ((rd_T59 l1 x6_1).f0), .int .i64 0, .int .i64 (wrap64 (a0_2 - 1))] ?_; (with_reducible refine (macadamref00_Amid.calls ((rd_T59 l1 x6_1).f0) 0 (wrap64 (a0_2 - 1)) true _ A10.out).mono ?_); rintro e w' ⟨rfl, ⟨nd, rfl⟩⟩; refine ⟨_, rfl, ?_⟩) | (go_at_call 45; (with_reducible refine (macadamref00_Amid.calls ((rd_T59 l1 x6_1).f1) 0 (wrap64 ((l0_1.length : Int) - 1)) true _ A12.out).mono ?_); rintro e w' ⟨rfl, ⟨nd, rfl⟩⟩) | (go_at_call 45; (with_reducible refine (macadamref00_Amid.calls ((rd_T59 l1 x6_1).f2) 0 (wrap64 ((l0_0.length : Int) - 1)) t359 _ A14.out).mono ?_); rintro e w' ⟨rfl, ⟨nd, rfl⟩⟩))
        go_meet
        case rel => exact ⟨_, (!t359), (by first | rfl | (simp; done) | (simp [*]; done)), H', ⟨by have := HK1.out; first | omega | exact Nat.le_refl _⟩, ⟨by (with_reducible repeat (first | refine blk_drewN ?_ _ | refine blk_drew ?_ | refine blk_alloc ?_ _)); refine blk_far ?_ NB354_356.out _; (with_reducible repeat (first | refine blk_drewN ?_ _ | refine blk_drew ?_ | refine blk_alloc ?_ _)); refine blk_far ?_ NB354_356.out _; (with_reducible repeat (first | refine blk_drewN ?_ _ | refine blk_drew ?_ | refine blk_alloc ?_ _)); refine blk_far ?_ NB354_356.out _; (with_reducible repeat (first | refine blk_drewN ?_ _ | refine blk_drew ?_ | refine blk_alloc ?_ _)); exact BK354.out⟩, ⟨by (with_reducible repeat (first | refine blk_drewN ?_ _ | refine blk_drew ?_ | refine blk_alloc ?_ _)); refine blk_put (cs := #[.int .i64 ((rd_T59 l1 x6_1).f0), .int .i64 ((rd_T59 l1 x6_1).f1), .int .i64 0]) ?_ 2 _ rfl; (with_reducible repeat (first | refine blk_drewN ?_ _ | refine blk_drew ?_ | refine blk_alloc ?_ _)); refine blk_put (cs := #[.int .i64 ((rd_T59 l1 x6_1).f0), .int .i64 0, .int .i64 0]) ?_ 1 _ rfl; (with_reducible repeat (first | refine blk_drewN ?_ _ | refine blk_drew ?_ | refine blk_alloc ?_ _)); refine blk_put (cs := #[.int .i64 0, .int .i64 0, .int .i64 0]) ?_ 0 _ rfl; (with_reducible repeat (first | refine blk_drewN ?_ _ | refine blk_drew ?_ | refine blk_alloc ?_ _)); exact BK356.out⟩, ⟨bw2 HB GE354 GE356⟩⟩
       ·replace c13 := Bool.eq_false_iff.mpr c13
        subst c13
        have H1 : (macadamlaw04_lawful.j1 k1 l1 x5_1 x6_1 true l0_0 l0_1 a0_2 ((rd_T59 l1 x6_1).f0) ((rd_T59 l1 x6_1).f1) ((rd_T59 l1 x6_1).f2)) = some r := by rw [if_neg (show ¬ (false = true) by decide)] at H; exact H
        clear H
        have H := H1
        clear H1
        have H' := Aside0.mk H
        clear H
        have hnb18 := NB356_354.out
        have hnc18 := NB354_356.out
        obtain ⟨hcz19_0, hcz19_1, hcz19_2, hfz19_0, hfz19_1, hfz19_2⟩ := b3 BK356
        obtain ⟨hcz20_0, hcz20_1, hcz20_2, hfz20_0, hfz20_1, hfz20_2⟩ := b3 BK354
        go_wp2_with (first | ((with_reducible refine gate_callee (f := 45) rfl ?_); refine gL (some 28) Tryd.func45 #[.int .i64 ((rd_T59 l1 x6_1).f0), .int .i64 0, .int .i64 (wrap64 (a0_2 - 1))] ?_; (with_reducible refine (macadamref00_Amid.calls ((rd_T59 l1 x6_1).f0) 0 (wrap64 (a0_2 - 1)) true _ A10.out).mono ?_); rintro e w' ⟨rfl, ⟨nd, rfl⟩⟩; refine ⟨_, rfl, ?_⟩) | (go_at_call 45; (with_reducible refine (macadamref00_Amid.calls ((rd_T59 l1 x6_1).f1) 0 (wrap64 ((l0_1.length : Int) - 1)) false _ A12.out).mono ?_); rintro e w' ⟨rfl, ⟨nd, rfl⟩⟩))
        go_meet
        case rel => exact ⟨_, (true), (by first | rfl | (simp; done) | (simp [*]; done)), H', ⟨by have := HK1.out; first | omega | exact Nat.le_refl _⟩, ⟨by (with_reducible repeat (first | refine blk_drewN ?_ _ | refine blk_drew ?_ | refine blk_alloc ?_ _)); refine blk_far ?_ NB354_356.out _; (with_reducible repeat (first | refine blk_drewN ?_ _ | refine blk_drew ?_ | refine blk_alloc ?_ _)); refine blk_far ?_ NB354_356.out _; (with_reducible repeat (first | refine blk_drewN ?_ _ | refine blk_drew ?_ | refine blk_alloc ?_ _)); refine blk_far ?_ NB354_356.out _; (with_reducible repeat (first | refine blk_drewN ?_ _ | refine blk_drew ?_ | refine blk_alloc ?_ _)); exact BK354.out⟩, ⟨by (with_reducible repeat (first | refine blk_drewN ?_ _ | refine blk_drew ?_ | refine blk_alloc ?_ _)); refine blk_put (cs := #[.int .i64 ((rd_T59 l1 x6_1).f0), .int .i64 ((rd_T59 l1 x6_1).f1), .int .i64 0]) ?_ 2 _ rfl; (with_reducible repeat (first | refine blk_drewN ?_ _ | refine blk_drew ?_ | refine blk_alloc ?_ _)); refine blk_put (cs := #[.int .i64 ((rd_T59 l1 x6_1).f0), .int .i64 0, .int .i64 0]) ?_ 1 _ rfl; (with_reducible repeat (first | refine blk_drewN ?_ _ | refine blk_drew ?_ | refine blk_alloc ?_ _)); refine blk_put (cs := #[.int .i64 0, .int .i64 0, .int .i64 0]) ?_ 0 _ rfl; (with_reducible repeat (first | refine blk_drewN ?_ _ | refine blk_drew ?_ | refine blk_alloc ?_ _)); exact BK356.out⟩, ⟨bw2 HB GE354 GE356⟩⟩
      ·replace c11 := Bool.eq_false_iff.mpr c11
       subst c11
       have H1 : (macadamlaw04_lawful.j1 k1 l1 x5_1 x6_1 true l0_0 l0_1 a0_2 ((rd_T59 l1 x6_1).f0) ((rd_T59 l1 x6_1).f1) ((rd_T59 l1 x6_1).f2)) = some r := by rw [if_neg (show ¬ (false = true) by decide)] at H; exact H
       clear H
       have H := H1
       clear H1
       have H' := Aside0.mk H
       clear H
       have hnb21 := NB356_354.out
       have hnc21 := NB354_356.out
       obtain ⟨hcz22_0, hcz22_1, hcz22_2, hfz22_0, hfz22_1, hfz22_2⟩ := b3 BK356
       obtain ⟨hcz23_0, hcz23_1, hcz23_2, hfz23_0, hfz23_1, hfz23_2⟩ := b3 BK354
       go_wp2_with (first | ((with_reducible refine gate_callee (f := 45) rfl ?_); refine gL (some 28) Tryd.func45 #[.int .i64 ((rd_T59 l1 x6_1).f0), .int .i64 0, .int .i64 (wrap64 (a0_2 - 1))] ?_; (with_reducible refine (macadamref00_Amid.calls ((rd_T59 l1 x6_1).f0) 0 (wrap64 (a0_2 - 1)) false _ A10.out).mono ?_); rintro e w' ⟨rfl, ⟨nd, rfl⟩⟩; refine ⟨_, rfl, ?_⟩))
       go_meet
       case rel => exact ⟨_, (true), (by first | rfl | (simp; done) | (simp [*]; done)), H', ⟨by have := HK1.out; first | omega | exact Nat.le_refl _⟩, ⟨by (with_reducible repeat (first | refine blk_drewN ?_ _ | refine blk_drew ?_ | refine blk_alloc ?_ _)); refine blk_far ?_ NB354_356.out _; (with_reducible repeat (first | refine blk_drewN ?_ _ | refine blk_drew ?_ | refine blk_alloc ?_ _)); refine blk_far ?_ NB354_356.out _; (with_reducible repeat (first | refine blk_drewN ?_ _ | refine blk_drew ?_ | refine blk_alloc ?_ _)); refine blk_far ?_ NB354_356.out _; (with_reducible repeat (first | refine blk_drewN ?_ _ | refine blk_drew ?_ | refine blk_alloc ?_ _)); exact BK354.out⟩, ⟨by (with_reducible repeat (first | refine blk_drewN ?_ _ | refine blk_drew ?_ | refine blk_alloc ?_ _)); refine blk_put (cs := #[.int .i64 ((rd_T59 l1 x6_1).f0), .int .i64 ((rd_T59 l1 x6_1).f1), .int .i64 0]) ?_ 2 _ rfl; (with_reducible repeat (first | refine blk_drewN ?_ _ | refine blk_drew ?_ | refine blk_alloc ?_ _)); refine blk_put (cs := #[.int .i64 ((rd_T59 l1 x6_1).f0), .int .i64 0, .int .i64 0]) ?_ 1 _ rfl; (with_reducible repeat (first | refine blk_drewN ?_ _ | refine blk_drew ?_ | refine blk_alloc ?_ _)); refine blk_put (cs := #[.int .i64 0, .int .i64 0, .int .i64 0]) ?_ 0 _ rfl; (with_reducible repeat (first | refine blk_drewN ?_ _ | refine blk_drew ?_ | refine blk_alloc ?_ _)); exact BK356.out⟩, ⟨bw2 HB GE354 GE356⟩⟩
     case rest =>
      clear HC6
      try clear c1
      try clear c2
      try clear p2
      try clear p3
      try clear q3
      try clear hx3
      try clear c4
      try clear c4b0
      try clear c5
      try clear c5b0
      try clear p6
      try clear c8
      try clear c11
      try clear c13
      try clear c15
      try clear c18
      try clear c21
      try clear hcz16_0
      try clear hcz16_1
      try clear hcz16_2
      try clear hcz17_0
      try clear hcz17_1
      try clear hcz17_2
      try clear hcz19_0
      try clear hcz19_1
      try clear hcz19_2
      try clear hcz20_0
      try clear hcz20_1
      try clear hcz20_2
      try clear hcz22_0
      try clear hcz22_1
      try clear hcz22_2
      try clear hcz23_0
      try clear hcz23_1
      try clear hcz23_2
      try clear hcz9_0
      try clear hcz9_1
      try clear hcz9_2
      try clear hfz16_0
      try clear hfz16_1
      try clear hfz16_2
      try clear hfz17_0
      try clear hfz17_1
      try clear hfz17_2
      try clear hfz19_0
      try clear hfz19_1
      try clear hfz19_2
      try clear hfz20_0
      try clear hfz20_1
      try clear hfz20_2
      try clear hfz22_0
      try clear hfz22_1
      try clear hfz22_2
      try clear hfz23_0
      try clear hfz23_1
      try clear hfz23_2
      try clear hfz9_0
      try clear hfz9_1
      try clear hfz9_2
      try clear hx355_0
      try clear hx355_1
      try clear hx355_2
      try clear p2
      try clear p355
      try clear q355
      obtain ⟨kq, x49_5, rfl, HA, HJ5, BK354, BK356, HB⟩ := hcut
      cases kq with
      | zero => exact absurd HA.out (by simp [macadamlaw04_lawful.j1])
      | succ kj5 =>
       have H := HA.out
       clear HA
       simp only [macadamlaw04_lawful.j1] at H
       by_cases c24 : x49_5 = true
       ·subst c24
        have H1 : (some false) = some r := by rw [if_pos rfl] at H; exact H
        clear H
        have H := H1
        clear H1
        obtain rfl := Option.some.inj H
        go_wp2
        go_ret
        exact ⟨by first | rfl | (simp [errW_none, errW_some] <;> rfl) | (simp [*, errW_none, errW_some] <;> rfl), bw2 HB GE354 GE356⟩
       ·replace c24 := Bool.eq_false_iff.mpr c24
        subst c24
        have H1 : (if (wrap64 ((wrap64 (((rd_T59 l1 x6_1).f0) * 2)) + ((rd_T59 l1 x6_1).f1))) ≤ x5_1 then (some false) else (if 0 ≤ ((rd_T59 l1 x6_1).f1) then (if ((rd_T59 l1 x6_1).f1) < (l0_1.length : Int) then (if ((rd_T59 l1 x6_1).f2) < ((rd_T63 l0_1 ((rd_T59 l1 x6_1).f1)).f0) then (some false) else (if ((rd_T59 l1 x6_1).f2) > ((rd_T63 l0_1 ((rd_T59 l1 x6_1).f1)).f1) then (some false) else (if 0 ≤ ((rd_T59 l1 x6_1).f2) then (if ((rd_T59 l1 x6_1).f2) < (l0_0.length : Int) then ((macadamref00_In.f ((rd_T66 l0_0 ((rd_T59 l1 x6_1).f2)).f1) ((rd_T59 l1 x6_1).f0)).bind fun t363 => (if t363 = true then (some false) else (macadamlaw04_lawful.l0 kj5 l1 (wrap64 ((wrap64 (((rd_T59 l1 x6_1).f0) * 2)) + ((rd_T59 l1 x6_1).f1))) (wrap64 (x6_1 + 1)) l0_0 l0_1 a0_2))) else (none)) else (none)))) else (none)) else (none))) = some r := by rw [if_neg (show ¬ (false = true) by decide)] at H; exact H
        clear H
        have H := H1
        clear H1
        by_cases c25 : (wrap64 ((wrap64 (((rd_T59 l1 x6_1).f0) * 2)) + ((rd_T59 l1 x6_1).f1))) ≤ x5_1
        ·rw [if_pos c25] at H
         have c25b0 : decide ((wrap64 ((wrap64 (((rd_T59 l1 x6_1).f0) * 2)) + ((rd_T59 l1 x6_1).f1))) ≤ x5_1) = true := decide_eq_true c25
         clear c25
         obtain rfl := Option.some.inj H
         have hnb26 := NB356_354.out
         have hnc26 := NB354_356.out
         obtain ⟨hcz27_0, hcz27_1, hcz27_2, hfz27_0, hfz27_1, hfz27_2⟩ := b3 BK356
         try go_wp2
         have n0_ := Aside0.mk (blk_drew BK354.out)
         have n1_ := Aside0.mk (blk_drew BK356.out)
         have n2_ := Aside0.mk (below_drew1 HB.out)
         clear BK354
         clear BK356
         clear HB
         have BK354 := n0_
         have BK356 := n1_
         have HB := n2_
         clear n0_ n1_ n2_
         refine start_ (n := 39) (S := fun w' => True) (ds := []) (bs 39 0) (by kernel_rfl) rfl rfl trivial (fun hHeld => ?_); refine with_tabW macadamlaw04_lawful.tab9 macadamlaw04_lawful.bits9 (fun HT_ HW_ => ?_)
         generalize wc.drew = w28 at BK354 BK356 HB hHeld ⊢
         refine pu HT_ 0 (some 56) (bs 39 1) ?_
         refine pu HT_ 1 (some 57) (bs 39 3) ?_
         refine pu HT_ 2 (some 58) (bs 39 7) ?_
         refine pu HT_ 3 (some 59) (bs 39 15) ?_
         refine pn HT_ 4 (some 60) (bs 39 31) ?_
         refine pn HT_ 5 (some 61) (bs 39 63) ?_
         refine pn HT_ 6 (some 62) (bs 39 127) ?_
         refine pn HT_ 7 (some 63) (bs 39 255) ?_
         refine pn HT_ 8 (some 64) (bs 39 511) ?_
         refine pn HT_ 9 (some 65) (bs 39 1023) ?_
         refine pn HT_ 10 (some 66) (bs 39 2047) ?_
         refine pn HT_ 11 (some 67) (bs 39 4095) ?_
         refine pn HT_ 12 (some 68) (bs 39 8191) ?_
         refine pn HT_ 13 (some 69) (bs 39 16383) ?_
         refine pu HT_ 14 (some 70) (bs 39 32767) ?_
         refine pu HT_ 15 (some 71) (bs 39 65535) ?_
         refine pn HT_ 16 (some 72) (bs 39 131071) ?_
         refine pn HT_ 17 (some 73) (bs 39 262143) ?_
         refine pn HT_ 18 (some 74) (bs 39 524287) ?_
         refine pn HT_ 19 (some 75) (bs 39 1048575) ?_
         refine pn HT_ 20 (some 76) (bs 39 2097151) ?_
         refine pn HT_ 21 (some 77) (bs 39 4194303) ?_
         refine pn HT_ 22 (some 78) (bs 39 8388607) ?_
         refine pn HT_ 23 (some 79) (bs 39 16777215) ?_
         refine pn HT_ 24 (some 80) (bs 39 33554431) ?_
         refine pn HT_ 25 (some 81) (bs 39 67108863) ?_
         refine pu HT_ 26 (some 82) (bs 39 134217727) ?_
         refine pu HT_ 27 (some 83) (bs 39 268435455) ?_
         refine pn HT_ 28 (some 84) (bs 39 536870911) ?_
         refine pn HT_ 29 (some 85) (bs 39 1073741823) ?_
         refine pn HT_ 30 (some 86) (bs 39 2147483647) ?_
         refine pn HT_ 31 (some 87) (bs 39 4294967295) ?_
         refine pn HT_ 32 (some 88) (bs 39 8589934591) ?_
         refine pn HT_ 33 (some 89) (bs 39 17179869183) ?_
         refine pn HT_ 34 (some 90) (bs 39 34359738367) ?_
         refine pn HT_ 35 (some 91) (bs 39 68719476735) ?_
         refine pn HT_ 36 (some 92) (bs 39 137438953471) ?_
         refine pn HT_ 37 (some 93) (bs 39 274877906943) ?_
         refine pu HT_ 38 (some 94) (bs 39 549755813887) ?_
         refine done_ (done_of HT_.out (by kernel_rfl)) ?_
         try go_wp2
         go_ret
         exact ⟨by first | rfl | (simp [errW_none, errW_some] <;> rfl) | (simp [*, errW_none, errW_some] <;> rfl), bw2 HB GE354 GE356⟩
        ·rw [if_neg c25] at H
         have c25b0 : decide ((wrap64 ((wrap64 (((rd_T59 l1 x6_1).f0) * 2)) + ((rd_T59 l1 x6_1).f1))) ≤ x5_1) = false := decide_eq_false c25
         clear c25
         by_cases c29 : 0 ≤ ((rd_T59 l1 x6_1).f1)
         ·rw [if_pos c29] at H
          have c29b0 : decide (0 ≤ ((rd_T59 l1 x6_1).f1)) = true := decide_eq_true c29
          clear c29
          by_cases c30 : ((rd_T59 l1 x6_1).f1) < (l0_1.length : Int)
          ·rw [if_pos c30] at H
           have c30b0 : decide (((rd_T59 l1 x6_1).f1) < (l0_1.length : Int)) = true := decide_eq_true c30
           clear c30
           by_cases c31 : ((rd_T59 l1 x6_1).f2) < ((rd_T63 l0_1 ((rd_T59 l1 x6_1).f1)).f0)
           ·rw [if_pos c31] at H
            have c31b0 : decide (((rd_T59 l1 x6_1).f2) < ((rd_T63 l0_1 ((rd_T59 l1 x6_1).f1)).f0)) = true := decide_eq_true c31
            clear c31
            obtain rfl := Option.some.inj H
            have hnb32 := NB356_354.out
            have hnc32 := NB354_356.out
            obtain ⟨hcz33_0, hcz33_1, hcz33_2, hfz33_0, hfz33_1, hfz33_2⟩ := b3 BK356
            try go_wp2
            have n0_ := Aside0.mk (blk_drew BK354.out)
            have n1_ := Aside0.mk (blk_drew BK356.out)
            have n2_ := Aside0.mk (below_drew1 HB.out)
            clear BK354
            clear BK356
            clear HB
            have BK354 := n0_
            have BK356 := n1_
            have HB := n2_
            clear n0_ n1_ n2_
            have p360 : 0 ≤ (((rd_T59 l1 x6_1).f1) : Int) := of_decide_eq_true (by first | (with_reducible assumption) | assumption)
            have q360 : ((rd_T59 l1 x6_1).f1) < (l0_1.length : Int) := of_decide_eq_true (by first | (with_reducible assumption) | assumption)
            obtain ⟨ad360, e360, hx360_0, hx360_1, hx360_2, hx360_3⟩ := at_T63 HR0_1.out ((rd_T59 l1 x6_1).f1) p360 q360
            have hw360_3 := hx360_3
            have hw360_2 := hx360_2
            have hw360_1 := hx360_1
            have hw360_0 := hx360_0
            cases e360
            replace hx360_0 := cB HB hx360_0
            replace hx360_1 := cB HB hx360_1
            replace hx360_2 := cB HB hx360_2
            replace hx360_3 := cB HB hx360_3
            replace p360 := eq_true p360
            replace q360 := eq_true q360
            refine start_ (n := 39) (S := fun w' => w'.cell? ⟨gb356, 0, none⟩ = some (.int .i64 ((rd_T59 l1 x6_1).f0)) ∧ w'.cell? ⟨gb356, 1, none⟩ = some (.int .i64 ((rd_T59 l1 x6_1).f1)) ∧ w'.cell? ⟨gb356, 2, none⟩ = some (.int .i64 ((rd_T59 l1 x6_1).f2)) ∧ w'.cell? ⟨gb354, 0, none⟩ = some (.slice A0_0 l0_0.length c0_0) ∧ w'.cell? ⟨gb354, 1, none⟩ = some (.slice (some ad360) l0_1.length c0_1) ∧ w'.cell? ⟨gb354, 2, none⟩ = some (.int .i64 a0_2) ∧ w'.cell? (ad360.add ((((rd_T59 l1 x6_1).f1)).toNat * 4)) = some (.int .i64 ((rd_T63 l0_1 ((rd_T59 l1 x6_1).f1)).f0)) ∧ w'.cell? ⟨(ad360.add ((((rd_T59 l1 x6_1).f1)).toNat * 4)).block, (ad360.add ((((rd_T59 l1 x6_1).f1)).toNat * 4)).off + 1, none⟩ = some (.int .i64 ((rd_T63 l0_1 ((rd_T59 l1 x6_1).f1)).f1)) ∧ w'.cell? ⟨(ad360.add ((((rd_T59 l1 x6_1).f1)).toNat * 4)).block, (ad360.add ((((rd_T59 l1 x6_1).f1)).toNat * 4)).off + 2, none⟩ = some (.int .i64 ((rd_T63 l0_1 ((rd_T59 l1 x6_1).f1)).f2.f0)) ∧ w'.cell? ⟨(ad360.add ((((rd_T59 l1 x6_1).f1)).toNat * 4)).block, (ad360.add ((((rd_T59 l1 x6_1).f1)).toNat * 4)).off + 3, none⟩ = some (.int .i64 ((rd_T63 l0_1 ((rd_T59 l1 x6_1).f1)).f2.f1))) (ds := []) (bs 39 0) (by kernel_rfl) rfl rfl ⟨(blk_cell BK356.out 0).trans rfl, (blk_cell BK356.out 1).trans rfl, (blk_cell BK356.out 2).trans rfl, (blk_cell BK354.out 0).trans rfl, (blk_cell BK354.out 1).trans rfl, (blk_cell BK354.out 2).trans rfl, (cB HB hw360_0 :), (cB HB hw360_1 :), (cB HB hw360_2 :), (cB HB hw360_3 :)⟩ (fun hHeld => ?_); refine with_tabW macadamlaw04_lawful.tab9 macadamlaw04_lawful.bits9 (fun HT_ HW_ => ?_)
            generalize wc.drew = w34 at BK354 BK356 HB hx360_0 hx360_1 hx360_2 hx360_3 hHeld ⊢
            refine pu HT_ 0 (some 56) (bs 39 1) ?_
            refine pu HT_ 1 (some 57) (bs 39 3) ?_
            refine pu HT_ 2 (some 58) (bs 39 7) ?_
            refine pu HT_ 3 (some 59) (bs 39 15) ?_
            refine pu HT_ 4 (some 60) (bs 39 31) ?_
            refine pu HT_ 6 (some 62) (bs 39 95) ?_
            refine pu HT_ 8 (some 64) (bs 39 351) ?_
            refine tk10 HT_ HW_ hHeld 5 (some 61) (bs 39 383) ?_
            refine tk10 HT_ HW_ hHeld 7 (some 63) (bs 39 511) ?_
            refine tk10 HT_ HW_ hHeld 9 (some 65) (bs 39 1023) ?_
            refine pu HT_ 10 (some 66) (bs 39 2047) ?_
            refine pu HT_ 11 (some 67) (bs 39 4095) ?_
            refine tk10 HT_ HW_ hHeld 12 (some 68) (bs 39 8191) ?_
            refine pu HT_ 13 (some 69) (bs 39 16383) ?_
            refine pu HT_ 14 (some 70) (bs 39 32767) ?_
            refine pu HT_ 15 (some 71) (bs 39 65535) ?_
            refine pn HT_ 16 (some 72) (bs 39 131071) ?_
            refine pn HT_ 17 (some 73) (bs 39 262143) ?_
            refine pn HT_ 18 (some 74) (bs 39 524287) ?_
            refine pn HT_ 19 (some 75) (bs 39 1048575) ?_
            refine pn HT_ 20 (some 76) (bs 39 2097151) ?_
            refine pn HT_ 21 (some 77) (bs 39 4194303) ?_
            refine pn HT_ 22 (some 78) (bs 39 8388607) ?_
            refine pn HT_ 23 (some 79) (bs 39 16777215) ?_
            refine pn HT_ 24 (some 80) (bs 39 33554431) ?_
            refine pn HT_ 25 (some 81) (bs 39 67108863) ?_
            refine pu HT_ 26 (some 82) (bs 39 134217727) ?_
            refine pu HT_ 27 (some 83) (bs 39 268435455) ?_
            refine pn HT_ 28 (some 84) (bs 39 536870911) ?_
            refine pn HT_ 29 (some 85) (bs 39 1073741823) ?_
            refine pn HT_ 30 (some 86) (bs 39 2147483647) ?_
            refine pn HT_ 31 (some 87) (bs 39 4294967295) ?_
            refine pn HT_ 32 (some 88) (bs 39 8589934591) ?_
            refine pn HT_ 33 (some 89) (bs 39 17179869183) ?_
            refine pn HT_ 34 (some 90) (bs 39 34359738367) ?_
            refine pn HT_ 35 (some 91) (bs 39 68719476735) ?_
            refine pn HT_ 36 (some 92) (bs 39 137438953471) ?_
            refine pn HT_ 37 (some 93) (bs 39 274877906943) ?_
            refine pu HT_ 38 (some 94) (bs 39 549755813887) ?_
            refine done_ (done_of HT_.out (by kernel_rfl)) ?_
            try go_wp2
            go_ret
            exact ⟨by first | rfl | (simp [errW_none, errW_some] <;> rfl) | (simp [*, errW_none, errW_some] <;> rfl), bw2 HB GE354 GE356⟩
           ·rw [if_neg c31] at H
            have c31b0 : decide (((rd_T59 l1 x6_1).f2) < ((rd_T63 l0_1 ((rd_T59 l1 x6_1).f1)).f0)) = false := decide_eq_false c31
            clear c31
            by_cases c35 : ((rd_T59 l1 x6_1).f2) > ((rd_T63 l0_1 ((rd_T59 l1 x6_1).f1)).f1)
            ·rw [if_pos c35] at H
             have c35b0 : decide (((rd_T63 l0_1 ((rd_T59 l1 x6_1).f1)).f1) < ((rd_T59 l1 x6_1).f2)) = true := decide_eq_true c35
             clear c35
             obtain rfl := Option.some.inj H
             have hnb36 := NB356_354.out
             have hnc36 := NB354_356.out
             obtain ⟨hcz37_0, hcz37_1, hcz37_2, hfz37_0, hfz37_1, hfz37_2⟩ := b3 BK356
             try go_wp2
             have n0_ := Aside0.mk (blk_drew BK354.out)
             have n1_ := Aside0.mk (blk_drew BK356.out)
             have n2_ := Aside0.mk (below_drew1 HB.out)
             clear BK354
             clear BK356
             clear HB
             have BK354 := n0_
             have BK356 := n1_
             have HB := n2_
             clear n0_ n1_ n2_
             have p360 : 0 ≤ (((rd_T59 l1 x6_1).f1) : Int) := of_decide_eq_true (by first | (with_reducible assumption) | assumption)
             have q360 : ((rd_T59 l1 x6_1).f1) < (l0_1.length : Int) := of_decide_eq_true (by first | (with_reducible assumption) | assumption)
             obtain ⟨ad360, e360, hx360_0, hx360_1, hx360_2, hx360_3⟩ := at_T63 HR0_1.out ((rd_T59 l1 x6_1).f1) p360 q360
             have hw360_3 := hx360_3
             have hw360_2 := hx360_2
             have hw360_1 := hx360_1
             have hw360_0 := hx360_0
             cases e360
             replace hx360_0 := cB HB hx360_0
             replace hx360_1 := cB HB hx360_1
             replace hx360_2 := cB HB hx360_2
             replace hx360_3 := cB HB hx360_3
             replace p360 := eq_true p360
             replace q360 := eq_true q360
             have p361 : 0 ≤ (((rd_T59 l1 x6_1).f1) : Int) := of_decide_eq_true (by first | (with_reducible assumption) | assumption)
             have q361 : ((rd_T59 l1 x6_1).f1) < (l0_1.length : Int) := of_decide_eq_true (by first | (with_reducible assumption) | assumption)
             obtain ⟨ad361, e361, hx361_0, hx361_1, hx361_2, hx361_3⟩ := at_T63 HR0_1.out ((rd_T59 l1 x6_1).f1) p361 q361
             have hw361_3 := hx361_3
             have hw361_2 := hx361_2
             have hw361_1 := hx361_1
             have hw361_0 := hx361_0
             obtain rfl : ad360 = ad361 := (by injection e361)
             replace hx361_0 := cB HB hx361_0
             replace hx361_1 := cB HB hx361_1
             replace hx361_2 := cB HB hx361_2
             replace hx361_3 := cB HB hx361_3
             replace p361 := eq_true p361
             replace q361 := eq_true q361
             refine start_ (n := 39) (S := fun w' => w'.cell? ⟨gb356, 0, none⟩ = some (.int .i64 ((rd_T59 l1 x6_1).f0)) ∧ w'.cell? ⟨gb356, 1, none⟩ = some (.int .i64 ((rd_T59 l1 x6_1).f1)) ∧ w'.cell? ⟨gb356, 2, none⟩ = some (.int .i64 ((rd_T59 l1 x6_1).f2)) ∧ w'.cell? ⟨gb354, 0, none⟩ = some (.slice A0_0 l0_0.length c0_0) ∧ w'.cell? ⟨gb354, 1, none⟩ = some (.slice (some ad360) l0_1.length c0_1) ∧ w'.cell? ⟨gb354, 2, none⟩ = some (.int .i64 a0_2) ∧ w'.cell? (ad360.add ((((rd_T59 l1 x6_1).f1)).toNat * 4)) = some (.int .i64 ((rd_T63 l0_1 ((rd_T59 l1 x6_1).f1)).f0)) ∧ w'.cell? ⟨(ad360.add ((((rd_T59 l1 x6_1).f1)).toNat * 4)).block, (ad360.add ((((rd_T59 l1 x6_1).f1)).toNat * 4)).off + 1, none⟩ = some (.int .i64 ((rd_T63 l0_1 ((rd_T59 l1 x6_1).f1)).f1)) ∧ w'.cell? ⟨(ad360.add ((((rd_T59 l1 x6_1).f1)).toNat * 4)).block, (ad360.add ((((rd_T59 l1 x6_1).f1)).toNat * 4)).off + 2, none⟩ = some (.int .i64 ((rd_T63 l0_1 ((rd_T59 l1 x6_1).f1)).f2.f0)) ∧ w'.cell? ⟨(ad360.add ((((rd_T59 l1 x6_1).f1)).toNat * 4)).block, (ad360.add ((((rd_T59 l1 x6_1).f1)).toNat * 4)).off + 3, none⟩ = some (.int .i64 ((rd_T63 l0_1 ((rd_T59 l1 x6_1).f1)).f2.f1)) ∧ w'.cell? (ad360.add ((((rd_T59 l1 x6_1).f1)).toNat * 4)) = some (.int .i64 ((rd_T63 l0_1 ((rd_T59 l1 x6_1).f1)).f0)) ∧ w'.cell? ⟨(ad360.add ((((rd_T59 l1 x6_1).f1)).toNat * 4)).block, (ad360.add ((((rd_T59 l1 x6_1).f1)).toNat * 4)).off + 1, none⟩ = some (.int .i64 ((rd_T63 l0_1 ((rd_T59 l1 x6_1).f1)).f1)) ∧ w'.cell? ⟨(ad360.add ((((rd_T59 l1 x6_1).f1)).toNat * 4)).block, (ad360.add ((((rd_T59 l1 x6_1).f1)).toNat * 4)).off + 2, none⟩ = some (.int .i64 ((rd_T63 l0_1 ((rd_T59 l1 x6_1).f1)).f2.f0)) ∧ w'.cell? ⟨(ad360.add ((((rd_T59 l1 x6_1).f1)).toNat * 4)).block, (ad360.add ((((rd_T59 l1 x6_1).f1)).toNat * 4)).off + 3, none⟩ = some (.int .i64 ((rd_T63 l0_1 ((rd_T59 l1 x6_1).f1)).f2.f1))) (ds := []) (bs 39 0) (by kernel_rfl) rfl rfl ⟨(blk_cell BK356.out 0).trans rfl, (blk_cell BK356.out 1).trans rfl, (blk_cell BK356.out 2).trans rfl, (blk_cell BK354.out 0).trans rfl, (blk_cell BK354.out 1).trans rfl, (blk_cell BK354.out 2).trans rfl, (cB HB hw360_0 :), (cB HB hw360_1 :), (cB HB hw360_2 :), (cB HB hw360_3 :), (cB HB hw361_0 :), (cB HB hw361_1 :), (cB HB hw361_2 :), (cB HB hw361_3 :)⟩ (fun hHeld => ?_); refine with_tabW macadamlaw04_lawful.tab9 macadamlaw04_lawful.bits9 (fun HT_ HW_ => ?_)
             generalize wc.drew = w38 at BK354 BK356 HB hx360_0 hx360_1 hx360_2 hx360_3 hx361_0 hx361_1 hx361_2 hx361_3 hHeld ⊢
             refine pu HT_ 0 (some 56) (bs 39 1) ?_
             refine pu HT_ 1 (some 57) (bs 39 3) ?_
             refine pu HT_ 2 (some 58) (bs 39 7) ?_
             refine pu HT_ 3 (some 59) (bs 39 15) ?_
             refine pu HT_ 4 (some 60) (bs 39 31) ?_
             refine pu HT_ 6 (some 62) (bs 39 95) ?_
             refine pu HT_ 8 (some 64) (bs 39 351) ?_
             refine tk14 HT_ HW_ hHeld 5 (some 61) (bs 39 383) ?_
             refine tk14 HT_ HW_ hHeld 7 (some 63) (bs 39 511) ?_
             refine tk14 HT_ HW_ hHeld 9 (some 65) (bs 39 1023) ?_
             refine pu HT_ 10 (some 66) (bs 39 2047) ?_
             refine pu HT_ 11 (some 67) (bs 39 4095) ?_
             refine tk14 HT_ HW_ hHeld 12 (some 68) (bs 39 8191) ?_
             refine pu HT_ 13 (some 69) (bs 39 16383) ?_
             refine pu HT_ 14 (some 70) (bs 39 32767) ?_
             refine pu HT_ 15 (some 71) (bs 39 65535) ?_
             refine pu HT_ 16 (some 72) (bs 39 131071) ?_
             refine pu HT_ 18 (some 74) (bs 39 393215) ?_
             refine pu HT_ 20 (some 76) (bs 39 1441791) ?_
             refine tk14 HT_ HW_ hHeld 17 (some 73) (bs 39 1572863) ?_
             refine tk14 HT_ HW_ hHeld 19 (some 75) (bs 39 2097151) ?_
             refine tk14 HT_ HW_ hHeld 21 (some 77) (bs 39 4194303) ?_
             refine pu HT_ 22 (some 78) (bs 39 8388607) ?_
             refine pu HT_ 23 (some 79) (bs 39 16777215) ?_
             refine tk14 HT_ HW_ hHeld 24 (some 80) (bs 39 33554431) ?_
             refine pu HT_ 25 (some 81) (bs 39 67108863) ?_
             refine pu HT_ 26 (some 82) (bs 39 134217727) ?_
             refine pu HT_ 27 (some 83) (bs 39 268435455) ?_
             refine pn HT_ 28 (some 84) (bs 39 536870911) ?_
             refine pn HT_ 29 (some 85) (bs 39 1073741823) ?_
             refine pn HT_ 30 (some 86) (bs 39 2147483647) ?_
             refine pn HT_ 31 (some 87) (bs 39 4294967295) ?_
             refine pn HT_ 32 (some 88) (bs 39 8589934591) ?_
             refine pn HT_ 33 (some 89) (bs 39 17179869183) ?_
             refine pn HT_ 34 (some 90) (bs 39 34359738367) ?_
             refine pn HT_ 35 (some 91) (bs 39 68719476735) ?_
             refine pn HT_ 36 (some 92) (bs 39 137438953471) ?_
             refine pn HT_ 37 (some 93) (bs 39 274877906943) ?_
             refine pu HT_ 38 (some 94) (bs 39 549755813887) ?_
             refine done_ (done_of HT_.out (by kernel_rfl)) ?_
             try go_wp2
             go_ret
             exact ⟨by first | rfl | (simp [errW_none, errW_some] <;> rfl) | (simp [*, errW_none, errW_some] <;> rfl), bw2 HB GE354 GE356⟩
            ·rw [if_neg c35] at H
             have c35b0 : decide (((rd_T63 l0_1 ((rd_T59 l1 x6_1).f1)).f1) < ((rd_T59 l1 x6_1).f2)) = false := decide_eq_false c35
             clear c35
             by_cases c39 : 0 ≤ ((rd_T59 l1 x6_1).f2)
             ·rw [if_pos c39] at H
              have c39b0 : decide (0 ≤ ((rd_T59 l1 x6_1).f2)) = true := decide_eq_true c39
              clear c39
              by_cases c40 : ((rd_T59 l1 x6_1).f2) < (l0_0.length : Int)
              ·rw [if_pos c40] at H
               have c40b0 : decide (((rd_T59 l1 x6_1).f2) < (l0_0.length : Int)) = true := decide_eq_true c40
               clear c40
               replace H := Option.bind_eq_some_iff.mp H
               obtain ⟨t363, A410, H⟩ := H
               replace H : (if t363 = true then (some false) else (macadamlaw04_lawful.l0 kj5 l1 (wrap64 ((wrap64 (((rd_T59 l1 x6_1).f0) * 2)) + ((rd_T59 l1 x6_1).f1))) (wrap64 (x6_1 + 1)) l0_0 l0_1 a0_2)) = some r := H
               have A41 := Aside0.mk A410
               clear A410
               by_cases c42 : t363 = true
               ·subst c42
                have H1 : (some false) = some r := by rw [if_pos rfl] at H; exact H
                clear H
                have H := H1
                clear H1
                obtain rfl := Option.some.inj H
                have hnb43 := NB356_354.out
                have hnc43 := NB354_356.out
                obtain ⟨hcz44_0, hcz44_1, hcz44_2, hfz44_0, hfz44_1, hfz44_2⟩ := b3 BK356
                try go_wp2
                have n0_ := Aside0.mk (blk_drew BK354.out)
                have n1_ := Aside0.mk (blk_drew BK356.out)
                have n2_ := Aside0.mk (below_drew1 HB.out)
                clear BK354
                clear BK356
                clear HB
                have BK354 := n0_
                have BK356 := n1_
                have HB := n2_
                clear n0_ n1_ n2_
                have p360 : 0 ≤ (((rd_T59 l1 x6_1).f1) : Int) := of_decide_eq_true (by first | (with_reducible assumption) | assumption)
                have q360 : ((rd_T59 l1 x6_1).f1) < (l0_1.length : Int) := of_decide_eq_true (by first | (with_reducible assumption) | assumption)
                obtain ⟨ad360, e360, hx360_0, hx360_1, hx360_2, hx360_3⟩ := at_T63 HR0_1.out ((rd_T59 l1 x6_1).f1) p360 q360
                have hw360_3 := hx360_3
                have hw360_2 := hx360_2
                have hw360_1 := hx360_1
                have hw360_0 := hx360_0
                cases e360
                replace hx360_0 := cB HB hx360_0
                replace hx360_1 := cB HB hx360_1
                replace hx360_2 := cB HB hx360_2
                replace hx360_3 := cB HB hx360_3
                replace p360 := eq_true p360
                replace q360 := eq_true q360
                have p361 : 0 ≤ (((rd_T59 l1 x6_1).f1) : Int) := of_decide_eq_true (by first | (with_reducible assumption) | assumption)
                have q361 : ((rd_T59 l1 x6_1).f1) < (l0_1.length : Int) := of_decide_eq_true (by first | (with_reducible assumption) | assumption)
                obtain ⟨ad361, e361, hx361_0, hx361_1, hx361_2, hx361_3⟩ := at_T63 HR0_1.out ((rd_T59 l1 x6_1).f1) p361 q361
                have hw361_3 := hx361_3
                have hw361_2 := hx361_2
                have hw361_1 := hx361_1
                have hw361_0 := hx361_0
                obtain rfl : ad360 = ad361 := (by injection e361)
                replace hx361_0 := cB HB hx361_0
                replace hx361_1 := cB HB hx361_1
                replace hx361_2 := cB HB hx361_2
                replace hx361_3 := cB HB hx361_3
                replace p361 := eq_true p361
                replace q361 := eq_true q361
                have p362 : 0 ≤ (((rd_T59 l1 x6_1).f2) : Int) := of_decide_eq_true (by first | (with_reducible assumption) | assumption)
                have q362 : ((rd_T59 l1 x6_1).f2) < (l0_0.length : Int) := of_decide_eq_true (by first | (with_reducible assumption) | assumption)
                obtain ⟨ad362, e362, hx362_0, hx362_1, hx362_2⟩ := at_T66 HR0_0.out ((rd_T59 l1 x6_1).f2) p362 q362
                have hw362_2 := hx362_2
                have hw362_1 := hx362_1
                have hw362_0 := hx362_0
                cases e362
                replace hx362_0 := cB HB hx362_0
                replace hx362_1 := cB HB hx362_1
                replace hx362_2 := cB HB hx362_2
                replace p362 := eq_true p362
                replace q362 := eq_true q362
                refine start_ (n := 39) (S := fun w' => w'.cell? ⟨gb356, 0, none⟩ = some (.int .i64 ((rd_T59 l1 x6_1).f0)) ∧ w'.cell? ⟨gb356, 1, none⟩ = some (.int .i64 ((rd_T59 l1 x6_1).f1)) ∧ w'.cell? ⟨gb356, 2, none⟩ = some (.int .i64 ((rd_T59 l1 x6_1).f2)) ∧ w'.cell? ⟨gb354, 0, none⟩ = some (.slice (some ad362) l0_0.length c0_0) ∧ w'.cell? ⟨gb354, 1, none⟩ = some (.slice (some ad360) l0_1.length c0_1) ∧ w'.cell? ⟨gb354, 2, none⟩ = some (.int .i64 a0_2) ∧ w'.cell? (ad360.add ((((rd_T59 l1 x6_1).f1)).toNat * 4)) = some (.int .i64 ((rd_T63 l0_1 ((rd_T59 l1 x6_1).f1)).f0)) ∧ w'.cell? ⟨(ad360.add ((((rd_T59 l1 x6_1).f1)).toNat * 4)).block, (ad360.add ((((rd_T59 l1 x6_1).f1)).toNat * 4)).off + 1, none⟩ = some (.int .i64 ((rd_T63 l0_1 ((rd_T59 l1 x6_1).f1)).f1)) ∧ w'.cell? ⟨(ad360.add ((((rd_T59 l1 x6_1).f1)).toNat * 4)).block, (ad360.add ((((rd_T59 l1 x6_1).f1)).toNat * 4)).off + 2, none⟩ = some (.int .i64 ((rd_T63 l0_1 ((rd_T59 l1 x6_1).f1)).f2.f0)) ∧ w'.cell? ⟨(ad360.add ((((rd_T59 l1 x6_1).f1)).toNat * 4)).block, (ad360.add ((((rd_T59 l1 x6_1).f1)).toNat * 4)).off + 3, none⟩ = some (.int .i64 ((rd_T63 l0_1 ((rd_T59 l1 x6_1).f1)).f2.f1)) ∧ w'.cell? (ad360.add ((((rd_T59 l1 x6_1).f1)).toNat * 4)) = some (.int .i64 ((rd_T63 l0_1 ((rd_T59 l1 x6_1).f1)).f0)) ∧ w'.cell? ⟨(ad360.add ((((rd_T59 l1 x6_1).f1)).toNat * 4)).block, (ad360.add ((((rd_T59 l1 x6_1).f1)).toNat * 4)).off + 1, none⟩ = some (.int .i64 ((rd_T63 l0_1 ((rd_T59 l1 x6_1).f1)).f1)) ∧ w'.cell? ⟨(ad360.add ((((rd_T59 l1 x6_1).f1)).toNat * 4)).block, (ad360.add ((((rd_T59 l1 x6_1).f1)).toNat * 4)).off + 2, none⟩ = some (.int .i64 ((rd_T63 l0_1 ((rd_T59 l1 x6_1).f1)).f2.f0)) ∧ w'.cell? ⟨(ad360.add ((((rd_T59 l1 x6_1).f1)).toNat * 4)).block, (ad360.add ((((rd_T59 l1 x6_1).f1)).toNat * 4)).off + 3, none⟩ = some (.int .i64 ((rd_T63 l0_1 ((rd_T59 l1 x6_1).f1)).f2.f1)) ∧ w'.cell? (ad362.add ((((rd_T59 l1 x6_1).f2)).toNat * 3)) = some (.int .i64 ((rd_T66 l0_0 ((rd_T59 l1 x6_1).f2)).f0.f0)) ∧ w'.cell? ⟨(ad362.add ((((rd_T59 l1 x6_1).f2)).toNat * 3)).block, (ad362.add ((((rd_T59 l1 x6_1).f2)).toNat * 3)).off + 1, none⟩ = some (.int .i64 ((rd_T66 l0_0 ((rd_T59 l1 x6_1).f2)).f0.f1)) ∧ w'.cell? ⟨(ad362.add ((((rd_T59 l1 x6_1).f2)).toNat * 3)).block, (ad362.add ((((rd_T59 l1 x6_1).f2)).toNat * 3)).off + 2, none⟩ = some (.int .i64 ((rd_T66 l0_0 ((rd_T59 l1 x6_1).f2)).f1))) (ds := []) (bs 39 0) (by kernel_rfl) rfl rfl ⟨(blk_cell BK356.out 0).trans rfl, (blk_cell BK356.out 1).trans rfl, (blk_cell BK356.out 2).trans rfl, (blk_cell BK354.out 0).trans rfl, (blk_cell BK354.out 1).trans rfl, (blk_cell BK354.out 2).trans rfl, (cB HB hw360_0 :), (cB HB hw360_1 :), (cB HB hw360_2 :), (cB HB hw360_3 :), (cB HB hw361_0 :), (cB HB hw361_1 :), (cB HB hw361_2 :), (cB HB hw361_3 :), (cB HB hw362_0 :), (cB HB hw362_1 :), (cB HB hw362_2 :)⟩ (fun hHeld => ?_); refine with_tabW macadamlaw04_lawful.tab9 macadamlaw04_lawful.bits9 (fun HT_ HW_ => ?_)
                generalize wc.drew = w45 at BK354 BK356 HB hx360_0 hx360_1 hx360_2 hx360_3 hx361_0 hx361_1 hx361_2 hx361_3 hx362_0 hx362_1 hx362_2 hHeld ⊢
                refine pu HT_ 0 (some 56) (bs 39 1) ?_
                refine pu HT_ 1 (some 57) (bs 39 3) ?_
                refine pu HT_ 2 (some 58) (bs 39 7) ?_
                refine pu HT_ 3 (some 59) (bs 39 15) ?_
                refine pu HT_ 4 (some 60) (bs 39 31) ?_
                refine pu HT_ 6 (some 62) (bs 39 95) ?_
                refine pu HT_ 8 (some 64) (bs 39 351) ?_
                refine take_ (i := 5) (N := some 61) (v := ?_) (a' := ?_) (bs 39 383) rfl rfl (take_ofW HT_.out HW_.out (by kernel_rfl)) (fun _ _ _ h => h) (Or.inl ⟨by rfl, ?_⟩) hHeld ?_ ?_
                rotate_left
                ·rintro w' ⟨s0, s1, s2, s3, s4, s5, s6, s7, s8, s9, s10, s11, s12, s13, s14, s15, s16⟩
                 go_simp
                 with_reducible rfl
                rotate_left
                ·simp only [Act.put, List.setIfInBounds_toArray, List.set_cons_zero, List.set_cons_succ, i64_w, i32_w]
                 rfl
                refine take_ (i := 7) (N := some 63) (v := ?_) (a' := ?_) (bs 39 511) rfl rfl (take_ofW HT_.out HW_.out (by kernel_rfl)) (fun _ _ _ h => h) (Or.inl ⟨by rfl, ?_⟩) hHeld ?_ ?_
                rotate_left
                ·rintro w' ⟨s0, s1, s2, s3, s4, s5, s6, s7, s8, s9, s10, s11, s12, s13, s14, s15, s16⟩
                 go_simp
                 with_reducible rfl
                rotate_left
                ·simp only [Act.put, List.setIfInBounds_toArray, List.set_cons_zero, List.set_cons_succ, i64_w, i32_w]
                 rfl
                refine take_ (i := 9) (N := some 65) (v := ?_) (a' := ?_) (bs 39 1023) rfl rfl (take_ofW HT_.out HW_.out (by kernel_rfl)) (fun _ _ _ h => h) (Or.inl ⟨by rfl, ?_⟩) hHeld ?_ ?_
                rotate_left
                ·rintro w' ⟨s0, s1, s2, s3, s4, s5, s6, s7, s8, s9, s10, s11, s12, s13, s14, s15, s16⟩
                 go_simp
                 with_reducible rfl
                rotate_left
                ·simp only [Act.put, List.setIfInBounds_toArray, List.set_cons_zero, List.set_cons_succ, i64_w, i32_w]
                 rfl
                refine pu HT_ 10 (some 66) (bs 39 2047) ?_
                refine pu HT_ 11 (some 67) (bs 39 4095) ?_
                refine take_ (i := 12) (N := some 68) (v := ?_) (a' := ?_) (bs 39 8191) rfl rfl (take_ofW HT_.out HW_.out (by kernel_rfl)) (fun _ _ _ h => h) (Or.inl ⟨by rfl, ?_⟩) hHeld ?_ ?_
                rotate_left
                ·rintro w' ⟨s0, s1, s2, s3, s4, s5, s6, s7, s8, s9, s10, s11, s12, s13, s14, s15, s16⟩
                 go_simp
                 with_reducible rfl
                rotate_left
                ·simp only [Act.put, List.setIfInBounds_toArray, List.set_cons_zero, List.set_cons_succ, i64_w, i32_w]
                 rfl
                refine pu HT_ 13 (some 69) (bs 39 16383) ?_
                refine pu HT_ 14 (some 70) (bs 39 32767) ?_
                refine pu HT_ 15 (some 71) (bs 39 65535) ?_
                refine pu HT_ 16 (some 72) (bs 39 131071) ?_
                refine pu HT_ 18 (some 74) (bs 39 393215) ?_
                refine pu HT_ 20 (some 76) (bs 39 1441791) ?_
                refine take_ (i := 17) (N := some 73) (v := ?_) (a' := ?_) (bs 39 1572863) rfl rfl (take_ofW HT_.out HW_.out (by kernel_rfl)) (fun _ _ _ h => h) (Or.inl ⟨by rfl, ?_⟩) hHeld ?_ ?_
                rotate_left
                ·rintro w' ⟨s0, s1, s2, s3, s4, s5, s6, s7, s8, s9, s10, s11, s12, s13, s14, s15, s16⟩
                 go_simp
                 with_reducible rfl
                rotate_left
                ·simp only [Act.put, List.setIfInBounds_toArray, List.set_cons_zero, List.set_cons_succ, i64_w, i32_w]
                 rfl
                refine take_ (i := 19) (N := some 75) (v := ?_) (a' := ?_) (bs 39 2097151) rfl rfl (take_ofW HT_.out HW_.out (by kernel_rfl)) (fun _ _ _ h => h) (Or.inl ⟨by rfl, ?_⟩) hHeld ?_ ?_
                rotate_left
                ·rintro w' ⟨s0, s1, s2, s3, s4, s5, s6, s7, s8, s9, s10, s11, s12, s13, s14, s15, s16⟩
                 go_simp
                 with_reducible rfl
                rotate_left
                ·simp only [Act.put, List.setIfInBounds_toArray, List.set_cons_zero, List.set_cons_succ, i64_w, i32_w]
                 rfl
                refine take_ (i := 21) (N := some 77) (v := ?_) (a' := ?_) (bs 39 4194303) rfl rfl (take_ofW HT_.out HW_.out (by kernel_rfl)) (fun _ _ _ h => h) (Or.inl ⟨by rfl, ?_⟩) hHeld ?_ ?_
                rotate_left
                ·rintro w' ⟨s0, s1, s2, s3, s4, s5, s6, s7, s8, s9, s10, s11, s12, s13, s14, s15, s16⟩
                 go_simp
                 with_reducible rfl
                rotate_left
                ·simp only [Act.put, List.setIfInBounds_toArray, List.set_cons_zero, List.set_cons_succ, i64_w, i32_w]
                 rfl
                refine pu HT_ 22 (some 78) (bs 39 8388607) ?_
                refine pu HT_ 23 (some 79) (bs 39 16777215) ?_
                refine take_ (i := 24) (N := some 80) (v := ?_) (a' := ?_) (bs 39 33554431) rfl rfl (take_ofW HT_.out HW_.out (by kernel_rfl)) (fun _ _ _ h => h) (Or.inl ⟨by rfl, ?_⟩) hHeld ?_ ?_
                rotate_left
                ·rintro w' ⟨s0, s1, s2, s3, s4, s5, s6, s7, s8, s9, s10, s11, s12, s13, s14, s15, s16⟩
                 go_simp
                 with_reducible rfl
                rotate_left
                ·simp only [Act.put, List.setIfInBounds_toArray, List.set_cons_zero, List.set_cons_succ, i64_w, i32_w]
                 rfl
                refine pu HT_ 25 (some 81) (bs 39 67108863) ?_
                refine pu HT_ 26 (some 82) (bs 39 134217727) ?_
                refine pu HT_ 27 (some 83) (bs 39 268435455) ?_
                refine pu HT_ 28 (some 84) (bs 39 536870911) ?_
                refine pu HT_ 30 (some 86) (bs 39 1610612735) ?_
                refine pu HT_ 35 (some 91) (bs 39 35970351103) ?_
                refine take_ (i := 29) (N := some 85) (v := ?_) (a' := ?_) (bs 39 36507222015) rfl rfl (take_ofW HT_.out HW_.out (by kernel_rfl)) (fun _ _ _ h => h) (Or.inl ⟨by rfl, ?_⟩) hHeld ?_ ?_
                rotate_left
                ·rintro w' ⟨s0, s1, s2, s3, s4, s5, s6, s7, s8, s9, s10, s11, s12, s13, s14, s15, s16⟩
                 go_simp
                 with_reducible rfl
                rotate_left
                ·simp only [Act.put, List.setIfInBounds_toArray, List.set_cons_zero, List.set_cons_succ, i64_w, i32_w]
                 rfl
                refine take_ (i := 31) (N := some 87) (v := ?_) (a' := ?_) (bs 39 38654705663) rfl rfl (take_ofW HT_.out HW_.out (by kernel_rfl)) (fun _ _ _ h => h) (Or.inl ⟨by rfl, ?_⟩) hHeld ?_ ?_
                rotate_left
                ·rintro w' ⟨s0, s1, s2, s3, s4, s5, s6, s7, s8, s9, s10, s11, s12, s13, s14, s15, s16⟩
                 go_simp
                 with_reducible rfl
                rotate_left
                ·simp only [Act.put, List.setIfInBounds_toArray, List.set_cons_zero, List.set_cons_succ, i64_w, i32_w]
                 rfl
                refine pu HT_ 32 (some 88) (bs 39 42949672959) ?_
                refine pu HT_ 33 (some 89) (bs 39 51539607551) ?_
                refine take_ (i := 34) (N := some 90) (v := ?_) (a' := ?_) (bs 39 68719476735) rfl rfl (take_ofW HT_.out HW_.out (by kernel_rfl)) (fun _ _ _ h => h) (Or.inl ⟨by rfl, ?_⟩) hHeld ?_ ?_
                rotate_left
                ·rintro w' ⟨s0, s1, s2, s3, s4, s5, s6, s7, s8, s9, s10, s11, s12, s13, s14, s15, s16⟩
                 go_simp
                 with_reducible rfl
                rotate_left
                ·simp only [Act.put, List.setIfInBounds_toArray, List.set_cons_zero, List.set_cons_succ, i64_w, i32_w]
                 rfl
                refine take_ (i := 36) (N := some 92) (v := ?_) (a' := ?_) (bs 39 137438953471) rfl rfl (take_ofW HT_.out HW_.out (by kernel_rfl)) (fun _ _ _ h => h) (Or.inl ⟨by rfl, ?_⟩) hHeld ?_ ?_
                rotate_left
                ·rintro w' ⟨s0, s1, s2, s3, s4, s5, s6, s7, s8, s9, s10, s11, s12, s13, s14, s15, s16⟩
                 go_simp
                 with_reducible rfl
                rotate_left
                ·simp only [Act.put, List.setIfInBounds_toArray, List.set_cons_zero, List.set_cons_succ, i64_w, i32_w]
                 rfl
                refine on HT_ 37 (some 93) (bs 39 274877906943) (fun K hK => ?_)
                refine goes_ Tryd.func46 (by kernel_rfl) rfl #[.int .i64 ((rd_T66 l0_0 ((rd_T59 l1 x6_1).f2)).f1), .int .i64 ((rd_T59 l1 x6_1).f0)] (by rfl) rfl rfl (by (try simp only [List.map_toArray, List.map_cons, List.map_nil]); first | done | rfl | (simp only [List.length_drop, List.length_take]; rfl)) ?_
                with_reducible refine (macadamref00_In.calls ((rd_T66 l0_0 ((rd_T59 l1 x6_1).f2)).f1) ((rd_T59 l1 x6_1).f0) true _ A41.out).mono ?_
                rintro e w' ⟨rfl, ⟨nd, rfl⟩⟩
                refine ⟨_, rfl, ?_⟩
                refine hK.out _ _ ⟨(blk_cell BK356.out 0).trans rfl, (blk_cell BK356.out 1).trans rfl, (blk_cell BK356.out 2).trans rfl, (blk_cell BK354.out 0).trans rfl, (blk_cell BK354.out 1).trans rfl, (blk_cell BK354.out 2).trans rfl, (cB HB hw360_0 :), (cB HB hw360_1 :), (cB HB hw360_2 :), (cB HB hw360_3 :), (cB HB hw361_0 :), (cB HB hw361_1 :), (cB HB hw361_2 :), (cB HB hw361_3 :), (cB HB hw362_0 :), (cB HB hw362_1 :), (cB HB hw362_2 :)⟩ (fun hHeld => ?_)
                clear hK K
                refine nm 93 ?_
                refine pu HT_ 38 (some 94) (bs 39 549755813887) ?_
                refine done_ (done_of HT_.out (by kernel_rfl)) ?_
                try go_wp2
                go_ret
                exact ⟨by first | rfl | (simp [errW_none, errW_some] <;> rfl) | (simp [*, errW_none, errW_some] <;> rfl), bw2 HB GE354 GE356⟩
               ·replace c42 := Bool.eq_false_iff.mpr c42
                subst c42
                have H1 : (macadamlaw04_lawful.l0 kj5 l1 (wrap64 ((wrap64 (((rd_T59 l1 x6_1).f0) * 2)) + ((rd_T59 l1 x6_1).f1))) (wrap64 (x6_1 + 1)) l0_0 l0_1 a0_2) = some r := by rw [if_neg (show ¬ (false = true) by decide)] at H; exact H
                clear H
                have H := H1
                clear H1
                have H' := Aside0.mk H
                clear H
                have hnb46 := NB356_354.out
                have hnc46 := NB354_356.out
                obtain ⟨hcz47_0, hcz47_1, hcz47_2, hfz47_0, hfz47_1, hfz47_2⟩ := b3 BK356
                try go_wp2
                have n0_ := Aside0.mk (blk_drew BK354.out)
                have n1_ := Aside0.mk (blk_drew BK356.out)
                have n2_ := Aside0.mk (below_drew1 HB.out)
                clear BK354
                clear BK356
                clear HB
                have BK354 := n0_
                have BK356 := n1_
                have HB := n2_
                clear n0_ n1_ n2_
                have p360 : 0 ≤ (((rd_T59 l1 x6_1).f1) : Int) := of_decide_eq_true (by first | (with_reducible assumption) | assumption)
                have q360 : ((rd_T59 l1 x6_1).f1) < (l0_1.length : Int) := of_decide_eq_true (by first | (with_reducible assumption) | assumption)
                obtain ⟨ad360, e360, hx360_0, hx360_1, hx360_2, hx360_3⟩ := at_T63 HR0_1.out ((rd_T59 l1 x6_1).f1) p360 q360
                have hw360_3 := hx360_3
                have hw360_2 := hx360_2
                have hw360_1 := hx360_1
                have hw360_0 := hx360_0
                cases e360
                replace hx360_0 := cB HB hx360_0
                replace hx360_1 := cB HB hx360_1
                replace hx360_2 := cB HB hx360_2
                replace hx360_3 := cB HB hx360_3
                replace p360 := eq_true p360
                replace q360 := eq_true q360
                have p361 : 0 ≤ (((rd_T59 l1 x6_1).f1) : Int) := of_decide_eq_true (by first | (with_reducible assumption) | assumption)
                have q361 : ((rd_T59 l1 x6_1).f1) < (l0_1.length : Int) := of_decide_eq_true (by first | (with_reducible assumption) | assumption)
                obtain ⟨ad361, e361, hx361_0, hx361_1, hx361_2, hx361_3⟩ := at_T63 HR0_1.out ((rd_T59 l1 x6_1).f1) p361 q361
                have hw361_3 := hx361_3
                have hw361_2 := hx361_2
                have hw361_1 := hx361_1
                have hw361_0 := hx361_0
                obtain rfl : ad360 = ad361 := (by injection e361)
                replace hx361_0 := cB HB hx361_0
                replace hx361_1 := cB HB hx361_1
                replace hx361_2 := cB HB hx361_2
                replace hx361_3 := cB HB hx361_3
                replace p361 := eq_true p361
                replace q361 := eq_true q361
                have p362 : 0 ≤ (((rd_T59 l1 x6_1).f2) : Int) := of_decide_eq_true (by first | (with_reducible assumption) | assumption)
                have q362 : ((rd_T59 l1 x6_1).f2) < (l0_0.length : Int) := of_decide_eq_true (by first | (with_reducible assumption) | assumption)
                obtain ⟨ad362, e362, hx362_0, hx362_1, hx362_2⟩ := at_T66 HR0_0.out ((rd_T59 l1 x6_1).f2) p362 q362
                have hw362_2 := hx362_2
                have hw362_1 := hx362_1
                have hw362_0 := hx362_0
                cases e362
                replace hx362_0 := cB HB hx362_0
                replace hx362_1 := cB HB hx362_1
                replace hx362_2 := cB HB hx362_2
                replace p362 := eq_true p362
                replace q362 := eq_true q362
                refine start_ (n := 39) (S := fun w' => w'.cell? ⟨gb356, 0, none⟩ = some (.int .i64 ((rd_T59 l1 x6_1).f0)) ∧ w'.cell? ⟨gb356, 1, none⟩ = some (.int .i64 ((rd_T59 l1 x6_1).f1)) ∧ w'.cell? ⟨gb356, 2, none⟩ = some (.int .i64 ((rd_T59 l1 x6_1).f2)) ∧ w'.cell? ⟨gb354, 0, none⟩ = some (.slice (some ad362) l0_0.length c0_0) ∧ w'.cell? ⟨gb354, 1, none⟩ = some (.slice (some ad360) l0_1.length c0_1) ∧ w'.cell? ⟨gb354, 2, none⟩ = some (.int .i64 a0_2) ∧ w'.cell? (ad360.add ((((rd_T59 l1 x6_1).f1)).toNat * 4)) = some (.int .i64 ((rd_T63 l0_1 ((rd_T59 l1 x6_1).f1)).f0)) ∧ w'.cell? ⟨(ad360.add ((((rd_T59 l1 x6_1).f1)).toNat * 4)).block, (ad360.add ((((rd_T59 l1 x6_1).f1)).toNat * 4)).off + 1, none⟩ = some (.int .i64 ((rd_T63 l0_1 ((rd_T59 l1 x6_1).f1)).f1)) ∧ w'.cell? ⟨(ad360.add ((((rd_T59 l1 x6_1).f1)).toNat * 4)).block, (ad360.add ((((rd_T59 l1 x6_1).f1)).toNat * 4)).off + 2, none⟩ = some (.int .i64 ((rd_T63 l0_1 ((rd_T59 l1 x6_1).f1)).f2.f0)) ∧ w'.cell? ⟨(ad360.add ((((rd_T59 l1 x6_1).f1)).toNat * 4)).block, (ad360.add ((((rd_T59 l1 x6_1).f1)).toNat * 4)).off + 3, none⟩ = some (.int .i64 ((rd_T63 l0_1 ((rd_T59 l1 x6_1).f1)).f2.f1)) ∧ w'.cell? (ad360.add ((((rd_T59 l1 x6_1).f1)).toNat * 4)) = some (.int .i64 ((rd_T63 l0_1 ((rd_T59 l1 x6_1).f1)).f0)) ∧ w'.cell? ⟨(ad360.add ((((rd_T59 l1 x6_1).f1)).toNat * 4)).block, (ad360.add ((((rd_T59 l1 x6_1).f1)).toNat * 4)).off + 1, none⟩ = some (.int .i64 ((rd_T63 l0_1 ((rd_T59 l1 x6_1).f1)).f1)) ∧ w'.cell? ⟨(ad360.add ((((rd_T59 l1 x6_1).f1)).toNat * 4)).block, (ad360.add ((((rd_T59 l1 x6_1).f1)).toNat * 4)).off + 2, none⟩ = some (.int .i64 ((rd_T63 l0_1 ((rd_T59 l1 x6_1).f1)).f2.f0)) ∧ w'.cell? ⟨(ad360.add ((((rd_T59 l1 x6_1).f1)).toNat * 4)).block, (ad360.add ((((rd_T59 l1 x6_1).f1)).toNat * 4)).off + 3, none⟩ = some (.int .i64 ((rd_T63 l0_1 ((rd_T59 l1 x6_1).f1)).f2.f1)) ∧ w'.cell? (ad362.add ((((rd_T59 l1 x6_1).f2)).toNat * 3)) = some (.int .i64 ((rd_T66 l0_0 ((rd_T59 l1 x6_1).f2)).f0.f0)) ∧ w'.cell? ⟨(ad362.add ((((rd_T59 l1 x6_1).f2)).toNat * 3)).block, (ad362.add ((((rd_T59 l1 x6_1).f2)).toNat * 3)).off + 1, none⟩ = some (.int .i64 ((rd_T66 l0_0 ((rd_T59 l1 x6_1).f2)).f0.f1)) ∧ w'.cell? ⟨(ad362.add ((((rd_T59 l1 x6_1).f2)).toNat * 3)).block, (ad362.add ((((rd_T59 l1 x6_1).f2)).toNat * 3)).off + 2, none⟩ = some (.int .i64 ((rd_T66 l0_0 ((rd_T59 l1 x6_1).f2)).f1))) (ds := []) (bs 39 0) (by kernel_rfl) rfl rfl ⟨(blk_cell BK356.out 0).trans rfl, (blk_cell BK356.out 1).trans rfl, (blk_cell BK356.out 2).trans rfl, (blk_cell BK354.out 0).trans rfl, (blk_cell BK354.out 1).trans rfl, (blk_cell BK354.out 2).trans rfl, (cB HB hw360_0 :), (cB HB hw360_1 :), (cB HB hw360_2 :), (cB HB hw360_3 :), (cB HB hw361_0 :), (cB HB hw361_1 :), (cB HB hw361_2 :), (cB HB hw361_3 :), (cB HB hw362_0 :), (cB HB hw362_1 :), (cB HB hw362_2 :)⟩ (fun hHeld => ?_); refine with_tabW macadamlaw04_lawful.tab9 macadamlaw04_lawful.bits9 (fun HT_ HW_ => ?_)
                generalize wc.drew = w48 at BK354 BK356 HB hx360_0 hx360_1 hx360_2 hx360_3 hx361_0 hx361_1 hx361_2 hx361_3 hx362_0 hx362_1 hx362_2 hHeld ⊢
                refine pu HT_ 0 (some 56) (bs 39 1) ?_
                refine pu HT_ 1 (some 57) (bs 39 3) ?_
                refine pu HT_ 2 (some 58) (bs 39 7) ?_
                refine pu HT_ 3 (some 59) (bs 39 15) ?_
                refine pu HT_ 4 (some 60) (bs 39 31) ?_
                refine pu HT_ 6 (some 62) (bs 39 95) ?_
                refine pu HT_ 8 (some 64) (bs 39 351) ?_
                refine take_ (i := 5) (N := some 61) (v := ?_) (a' := ?_) (bs 39 383) rfl rfl (take_ofW HT_.out HW_.out (by kernel_rfl)) (fun _ _ _ h => h) (Or.inl ⟨by rfl, ?_⟩) hHeld ?_ ?_
                rotate_left
                ·rintro w' ⟨s0, s1, s2, s3, s4, s5, s6, s7, s8, s9, s10, s11, s12, s13, s14, s15, s16⟩
                 go_simp
                 with_reducible rfl
                rotate_left
                ·simp only [Act.put, List.setIfInBounds_toArray, List.set_cons_zero, List.set_cons_succ, i64_w, i32_w]
                 rfl
                refine take_ (i := 7) (N := some 63) (v := ?_) (a' := ?_) (bs 39 511) rfl rfl (take_ofW HT_.out HW_.out (by kernel_rfl)) (fun _ _ _ h => h) (Or.inl ⟨by rfl, ?_⟩) hHeld ?_ ?_
                rotate_left
                ·rintro w' ⟨s0, s1, s2, s3, s4, s5, s6, s7, s8, s9, s10, s11, s12, s13, s14, s15, s16⟩
                 go_simp
                 with_reducible rfl
                rotate_left
                ·simp only [Act.put, List.setIfInBounds_toArray, List.set_cons_zero, List.set_cons_succ, i64_w, i32_w]
                 rfl
                refine take_ (i := 9) (N := some 65) (v := ?_) (a' := ?_) (bs 39 1023) rfl rfl (take_ofW HT_.out HW_.out (by kernel_rfl)) (fun _ _ _ h => h) (Or.inl ⟨by rfl, ?_⟩) hHeld ?_ ?_
                rotate_left
                ·rintro w' ⟨s0, s1, s2, s3, s4, s5, s6, s7, s8, s9, s10, s11, s12, s13, s14, s15, s16⟩
                 go_simp
                 with_reducible rfl
                rotate_left
                ·simp only [Act.put, List.setIfInBounds_toArray, List.set_cons_zero, List.set_cons_succ, i64_w, i32_w]
                 rfl
                refine pu HT_ 10 (some 66) (bs 39 2047) ?_
                refine pu HT_ 11 (some 67) (bs 39 4095) ?_
                refine take_ (i := 12) (N := some 68) (v := ?_) (a' := ?_) (bs 39 8191) rfl rfl (take_ofW HT_.out HW_.out (by kernel_rfl)) (fun _ _ _ h => h) (Or.inl ⟨by rfl, ?_⟩) hHeld ?_ ?_
                rotate_left
                ·rintro w' ⟨s0, s1, s2, s3, s4, s5, s6, s7, s8, s9, s10, s11, s12, s13, s14, s15, s16⟩
                 go_simp
                 with_reducible rfl
                rotate_left
                ·simp only [Act.put, List.setIfInBounds_toArray, List.set_cons_zero, List.set_cons_succ, i64_w, i32_w]
                 rfl
                refine pu HT_ 13 (some 69) (bs 39 16383) ?_
                refine pu HT_ 14 (some 70) (bs 39 32767) ?_
                refine pu HT_ 15 (some 71) (bs 39 65535) ?_
                refine pu HT_ 16 (some 72) (bs 39 131071) ?_
                refine pu HT_ 18 (some 74) (bs 39 393215) ?_
                refine pu HT_ 20 (some 76) (bs 39 1441791) ?_
                refine take_ (i := 17) (N := some 73) (v := ?_) (a' := ?_) (bs 39 1572863) rfl rfl (take_ofW HT_.out HW_.out (by kernel_rfl)) (fun _ _ _ h => h) (Or.inl ⟨by rfl, ?_⟩) hHeld ?_ ?_
                rotate_left
                ·rintro w' ⟨s0, s1, s2, s3, s4, s5, s6, s7, s8, s9, s10, s11, s12, s13, s14, s15, s16⟩
                 go_simp
                 with_reducible rfl
                rotate_left
                ·simp only [Act.put, List.setIfInBounds_toArray, List.set_cons_zero, List.set_cons_succ, i64_w, i32_w]
                 rfl
                refine take_ (i := 19) (N := some 75) (v := ?_) (a' := ?_) (bs 39 2097151) rfl rfl (take_ofW HT_.out HW_.out (by kernel_rfl)) (fun _ _ _ h => h) (Or.inl ⟨by rfl, ?_⟩) hHeld ?_ ?_
                rotate_left
                ·rintro w' ⟨s0, s1, s2, s3, s4, s5, s6, s7, s8, s9, s10, s11, s12, s13, s14, s15, s16⟩
                 go_simp
                 with_reducible rfl
                rotate_left
                ·simp only [Act.put, List.setIfInBounds_toArray, List.set_cons_zero, List.set_cons_succ, i64_w, i32_w]
                 rfl
                refine take_ (i := 21) (N := some 77) (v := ?_) (a' := ?_) (bs 39 4194303) rfl rfl (take_ofW HT_.out HW_.out (by kernel_rfl)) (fun _ _ _ h => h) (Or.inl ⟨by rfl, ?_⟩) hHeld ?_ ?_
                rotate_left
                ·rintro w' ⟨s0, s1, s2, s3, s4, s5, s6, s7, s8, s9, s10, s11, s12, s13, s14, s15, s16⟩
                 go_simp
                 with_reducible rfl
                rotate_left
                ·simp only [Act.put, List.setIfInBounds_toArray, List.set_cons_zero, List.set_cons_succ, i64_w, i32_w]
                 rfl
                refine pu HT_ 22 (some 78) (bs 39 8388607) ?_
                refine pu HT_ 23 (some 79) (bs 39 16777215) ?_
                refine take_ (i := 24) (N := some 80) (v := ?_) (a' := ?_) (bs 39 33554431) rfl rfl (take_ofW HT_.out HW_.out (by kernel_rfl)) (fun _ _ _ h => h) (Or.inl ⟨by rfl, ?_⟩) hHeld ?_ ?_
                rotate_left
                ·rintro w' ⟨s0, s1, s2, s3, s4, s5, s6, s7, s8, s9, s10, s11, s12, s13, s14, s15, s16⟩
                 go_simp
                 with_reducible rfl
                rotate_left
                ·simp only [Act.put, List.setIfInBounds_toArray, List.set_cons_zero, List.set_cons_succ, i64_w, i32_w]
                 rfl
                refine pu HT_ 25 (some 81) (bs 39 67108863) ?_
                refine pu HT_ 26 (some 82) (bs 39 134217727) ?_
                refine pu HT_ 27 (some 83) (bs 39 268435455) ?_
                refine pu HT_ 28 (some 84) (bs 39 536870911) ?_
                refine pu HT_ 30 (some 86) (bs 39 1610612735) ?_
                refine pu HT_ 35 (some 91) (bs 39 35970351103) ?_
                refine take_ (i := 29) (N := some 85) (v := ?_) (a' := ?_) (bs 39 36507222015) rfl rfl (take_ofW HT_.out HW_.out (by kernel_rfl)) (fun _ _ _ h => h) (Or.inl ⟨by rfl, ?_⟩) hHeld ?_ ?_
                rotate_left
                ·rintro w' ⟨s0, s1, s2, s3, s4, s5, s6, s7, s8, s9, s10, s11, s12, s13, s14, s15, s16⟩
                 go_simp
                 with_reducible rfl
                rotate_left
                ·simp only [Act.put, List.setIfInBounds_toArray, List.set_cons_zero, List.set_cons_succ, i64_w, i32_w]
                 rfl
                refine take_ (i := 31) (N := some 87) (v := ?_) (a' := ?_) (bs 39 38654705663) rfl rfl (take_ofW HT_.out HW_.out (by kernel_rfl)) (fun _ _ _ h => h) (Or.inl ⟨by rfl, ?_⟩) hHeld ?_ ?_
                rotate_left
                ·rintro w' ⟨s0, s1, s2, s3, s4, s5, s6, s7, s8, s9, s10, s11, s12, s13, s14, s15, s16⟩
                 go_simp
                 with_reducible rfl
                rotate_left
                ·simp only [Act.put, List.setIfInBounds_toArray, List.set_cons_zero, List.set_cons_succ, i64_w, i32_w]
                 rfl
                refine pu HT_ 32 (some 88) (bs 39 42949672959) ?_
                refine pu HT_ 33 (some 89) (bs 39 51539607551) ?_
                refine take_ (i := 34) (N := some 90) (v := ?_) (a' := ?_) (bs 39 68719476735) rfl rfl (take_ofW HT_.out HW_.out (by kernel_rfl)) (fun _ _ _ h => h) (Or.inl ⟨by rfl, ?_⟩) hHeld ?_ ?_
                rotate_left
                ·rintro w' ⟨s0, s1, s2, s3, s4, s5, s6, s7, s8, s9, s10, s11, s12, s13, s14, s15, s16⟩
                 go_simp
                 with_reducible rfl
                rotate_left
                ·simp only [Act.put, List.setIfInBounds_toArray, List.set_cons_zero, List.set_cons_succ, i64_w, i32_w]
                 rfl
                refine take_ (i := 36) (N := some 92) (v := ?_) (a' := ?_) (bs 39 137438953471) rfl rfl (take_ofW HT_.out HW_.out (by kernel_rfl)) (fun _ _ _ h => h) (Or.inl ⟨by rfl, ?_⟩) hHeld ?_ ?_
                rotate_left
                ·rintro w' ⟨s0, s1, s2, s3, s4, s5, s6, s7, s8, s9, s10, s11, s12, s13, s14, s15, s16⟩
                 go_simp
                 with_reducible rfl
                rotate_left
                ·simp only [Act.put, List.setIfInBounds_toArray, List.set_cons_zero, List.set_cons_succ, i64_w, i32_w]
                 rfl
                refine on HT_ 37 (some 93) (bs 39 274877906943) (fun K hK => ?_)
                refine goes_ Tryd.func46 (by kernel_rfl) rfl #[.int .i64 ((rd_T66 l0_0 ((rd_T59 l1 x6_1).f2)).f1), .int .i64 ((rd_T59 l1 x6_1).f0)] (by rfl) rfl rfl (by (try simp only [List.map_toArray, List.map_cons, List.map_nil]); first | done | rfl | (simp only [List.length_drop, List.length_take]; rfl)) ?_
                with_reducible refine (macadamref00_In.calls ((rd_T66 l0_0 ((rd_T59 l1 x6_1).f2)).f1) ((rd_T59 l1 x6_1).f0) false _ A41.out).mono ?_
                rintro e w' ⟨rfl, ⟨nd, rfl⟩⟩
                refine ⟨_, rfl, ?_⟩
                refine hK.out _ _ ⟨(blk_cell BK356.out 0).trans rfl, (blk_cell BK356.out 1).trans rfl, (blk_cell BK356.out 2).trans rfl, (blk_cell BK354.out 0).trans rfl, (blk_cell BK354.out 1).trans rfl, (blk_cell BK354.out 2).trans rfl, (cB HB hw360_0 :), (cB HB hw360_1 :), (cB HB hw360_2 :), (cB HB hw360_3 :), (cB HB hw361_0 :), (cB HB hw361_1 :), (cB HB hw361_2 :), (cB HB hw361_3 :), (cB HB hw362_0 :), (cB HB hw362_1 :), (cB HB hw362_2 :)⟩ (fun hHeld => ?_)
                clear hK K
                refine nm 93 ?_
                refine pu HT_ 38 (some 94) (bs 39 549755813887) ?_
                refine done_ (done_of HT_.out (by kernel_rfl)) ?_
                try go_wp2
                go_roundg kj5
                case measure => have := HK1.out; have := HJ5.out; omega
                case rel => exact ⟨(wrap64 ((wrap64 (((rd_T59 l1 x6_1).f0) * 2)) + ((rd_T59 l1 x6_1).f1))), (wrap64 (x6_1 + 1)), (by first | rfl | (simp; done) | (simp [*]; done)), (by first | rfl | (simp; done) | (simp [*]; done)), H', ⟨by have := HK1.out; have := HJ5.out; omega⟩, ⟨bm BK354⟩, ⟨bw2 HB GE354 GE356⟩⟩
              ·rw [if_neg c40] at H
               exact absurd H (by simp)
             ·rw [if_neg c39] at H
              exact absurd H (by simp)
          ·rw [if_neg c30] at H
           exact absurd H (by simp)
         ·rw [if_neg c29] at H
          exact absurd H (by simp)
    ·rw [if_neg c5] at H
     exact absurd H (by simp)
   ·rw [if_neg c4] at H
    have c4b0 : decide (x6_1 < (l1.length : Int)) = false := decide_eq_false c4
    clear c4
    have H' := Aside0.mk H
    clear H
    go_wp2
    go_loopg [9] k1 (fun kq v9 w' => ∃ (x9_2 : Int), v9 = .int .i64 x9_2 ∧ Aside0 (macadamlaw04_lawful.l1 kq l1 x9_2 l0_0 l0_1 a0_2 = some r) ∧ Aside0 (kq ≤ k1) ∧ Aside0 (w'.heap[gb354]? = some (.cells #[(.slice A0_0 l0_0.length c0_0), (.slice A0_1 l0_1.length c0_1), .int .i64 a0_2] 25 (0, 0))) ∧ Aside0 (Below w.heap.size w w'))
    case atStart => exact ⟨(0), (by first | rfl | (simp; done) | (simp [*]; done)), H', ⟨Nat.le_refl _⟩, ⟨bm BK354⟩, ⟨bw1 HB GE354⟩⟩
    case round =>
     clear H'
     try clear c2
     try clear p2
     try clear c3
     try clear p3
     try clear q3
     try clear hx3
     try clear c4
     try clear c4b0
     try clear c5
     try clear p6
     try clear c29
     try clear c30
     try clear p36
     try clear q36
     try clear hx36
     try clear c39
     try clear c40
     try clear c42
     try clear c46
     try clear hcz47_0
     try clear hcz47_1
     try clear hcz47_2
     try clear hfz47_0
     try clear hfz47_1
     try clear hfz47_2
     try clear hx360_0
     try clear hx360_1
     try clear hx360_2
     try clear hx360_3
     try clear hx361_0
     try clear hx361_1
     try clear hx361_2
     try clear hx361_3
     try clear hx362_0
     try clear hx362_1
     try clear hx362_2
     try clear p360
     try clear p361
     try clear p362
     try clear q360
     try clear q361
     try clear q362
     obtain ⟨x9_2, rfl, HA, HK2, BK354, HB⟩ := hrel
     cases gk with
     | zero => exact absurd HA.out (by simp [macadamlaw04_lawful.l1])
     | succ k2 =>
      have H := HA.out
      clear HA
      simp only [macadamlaw04_lawful.l1] at H
      by_cases c49 : x9_2 < a0_2
      ·rw [if_pos c49] at H
       have c49b0 : decide (x9_2 < a0_2) = true := decide_eq_true c49
       clear c49
       replace H := Option.bind_eq_some_iff.mp H
       obtain ⟨t364, A500, H⟩ := H
       replace H : (macadamlaw04_lawful.l2 k2 l1 x9_2 t364 0 l0_0 l0_1 a0_2) = some r := H
       have A50 := Aside0.mk A500
       clear A500
       have H' := Aside0.mk H
       clear H
       obtain ⟨hcz51_0, hcz51_1, hcz51_2, hfz51_0, hfz51_1, hfz51_2⟩ := b3 BK354
       go_wp2_with (first | ((with_reducible refine gate_callee (f := 41) rfl ?_); refine gL (some 104) Tryd.func41 #[.slice A1 l1.length c1, .int .i64 x9_2] ?_; (with_reducible refine (macadamlaw04_shut.calls k2 _ _ l1 x9_2 t364 _ ?side1 ?side2 A50.out).mono ?_); (case side1 => repeat (first | exact (Kd.C_below HR1.out HB.out) | (with_reducible refine Kd.C_alloc ?_ _) | (with_reducible refine Kd.C_drewN ?_ _) | (with_reducible refine Kd.C_drew ?_))); (case side2 => exact HC1.out); rintro e w52 ⟨v365, rfl, ho0, hb⟩; refine ⟨_, rfl, ?_⟩; have n0_ := Aside0.mk (Kd.R_lower ho0 (below_size (bw1 HB GE354))); have n1_ := Aside0.mk (blk_below (bm BK354) hb); have n2_ := Aside0.mk (below_step (bw1 HB GE354) hb); clear BK354; clear HB; have HO366 := n0_; have BK354 := n1_; have HB := n2_; clear n0_ n1_ n2_; (try clear hb); (try clear hb2); (try clear hk); (try clear hi); (try clear ho0)))
       go_loopg [11] k2 (fun kq v11 w' => ∃ (x11_3 : Int), v11 = .int .i64 x11_3 ∧ Aside0 (macadamlaw04_lawful.l2 kq l1 x9_2 t364 x11_3 l0_0 l0_1 a0_2 = some r) ∧ Aside0 (kq ≤ k2) ∧ Aside0 (Kd.R (Kd.int .i64) 3 w' w.heap.size (fun _ => True) v365 t364) ∧ Aside0 (w'.heap[gb354]? = some (.cells #[(.slice A0_0 l0_0.length c0_0), (.slice A0_1 l0_1.length c0_1), .int .i64 a0_2] 25 (0, 0))) ∧ Aside0 (Below w.heap.size w w'))
       case atStart => exact ⟨(0), (by first | rfl | (simp; done) | (simp [*]; done)), H', ⟨Nat.le_refl _⟩, ⟨by (with_reducible repeat (first | apply Kd.R_alloc | apply Kd.R_drewN | apply Kd.R_drew)); exact HO366.out⟩, ⟨bm BK354⟩, ⟨bw1 HB GE354⟩⟩
       case round =>
        clear H'
        try clear c1
        try clear c2
        try clear p2
        try clear c3
        try clear p3
        try clear q3
        try clear hx3
        try clear c4
        try clear c4b0
        try clear c5
        try clear p6
        try clear c29
        try clear c30
        try clear p36
        try clear q36
        try clear hx36
        try clear c39
        try clear c40
        try clear c41
        try clear c42
        try clear c46
        try clear c49
        try clear c49b0
        try clear hcz47_0
        try clear hcz47_1
        try clear hcz47_2
        try clear hcz51_0
        try clear hcz51_1
        try clear hcz51_2
        try clear hfz47_0
        try clear hfz47_1
        try clear hfz47_2
        try clear hfz51_0
        try clear hfz51_1
        try clear hfz51_2
        try clear hx360_0
        try clear hx360_1
        try clear hx360_2
        try clear hx360_3
        try clear hx361_0
        try clear hx361_1
        try clear hx361_2
        try clear hx361_3
        try clear hx362_0
        try clear hx362_1
        try clear hx362_2
        try clear p2
        try clear p3
        try clear p36
        try clear p360
        try clear p361
        try clear p362
        try clear p6
        try clear q3
        try clear q36
        try clear q360
        try clear q361
        try clear q362
        obtain ⟨x11_3, rfl, HA, HK3, HO_10, BK354, HB⟩ := hrel
        cases gk with
        | zero => exact absurd HA.out (by simp [macadamlaw04_lawful.l2])
        | succ k3 =>
         have H := HA.out
         clear HA
         simp only [macadamlaw04_lawful.l2] at H
         by_cases c53 : x11_3 < (t364.length : Int)
         ·rw [if_pos c53] at H
          have c53b0 : decide (x11_3 < (t364.length : Int)) = true := decide_eq_true c53
          clear c53
          have H' := Aside0.mk H
          clear H
          obtain ⟨Ao54, co54, eo54⟩ := Kd.R_slice HO_10.out
          subst eo54
          go_wp2
          go_loopg [12] k3 (fun kq v12 w' => ∃ (x12_4 : Int), v12 = .int .i64 x12_4 ∧ Aside0 (macadamlaw04_lawful.l3 kq l1 x9_2 t364 x11_3 x12_4 l0_0 l0_1 a0_2 = some r) ∧ Aside0 (kq ≤ k3) ∧ Aside0 (Kd.R (Kd.int .i64) 3 w' w.heap.size (fun _ => True) (.slice Ao54 t364.length co54) t364) ∧ Aside0 (w'.heap[gb354]? = some (.cells #[(.slice A0_0 l0_0.length c0_0), (.slice A0_1 l0_1.length c0_1), .int .i64 a0_2] 25 (0, 0))) ∧ Aside0 (Below w.heap.size w w'))
          case atStart => exact ⟨(0), (by first | rfl | (simp; done) | (simp [*]; done)), H', ⟨Nat.le_refl _⟩, ⟨by (with_reducible repeat (first | apply Kd.R_alloc | apply Kd.R_drewN | apply Kd.R_drew)); exact HO_10.out⟩, ⟨bm BK354⟩, ⟨bw1 HB GE354⟩⟩
          case round =>
           clear H'
           try clear c1
           try clear c2
           try clear p2
           try clear c3
           try clear p3
           try clear q3
           try clear hx3
           try clear c4
           try clear c4b0
           try clear c5
           try clear p6
           try clear c29
           try clear c30
           try clear p36
           try clear q36
           try clear hx36
           try clear c39
           try clear c40
           try clear c41
           try clear c42
           try clear c46
           try clear c49
           try clear c49b0
           try clear c53
           try clear c53b0
           try clear hcz47_0
           try clear hcz47_1
           try clear hcz47_2
           try clear hcz51_0
           try clear hcz51_1
           try clear hcz51_2
           try clear hfz47_0
           try clear hfz47_1
           try clear hfz47_2
           try clear hfz51_0
           try clear hfz51_1
           try clear hfz51_2
           try clear hx360_0
           try clear hx360_1
           try clear hx360_2
           try clear hx360_3
           try clear hx361_0
           try clear hx361_1
           try clear hx361_2
           try clear hx361_3
           try clear hx362_0
           try clear hx362_1
           try clear hx362_2
           try clear p2
           try clear p3
           try clear p36
           try clear p360
           try clear p361
           try clear p362
           try clear p6
           try clear q3
           try clear q36
           try clear q360
           try clear q361
           try clear q362
           obtain ⟨x12_4, rfl, HA, HK4, HO_10, BK354, HB⟩ := hrel
           cases gk with
           | zero => exact absurd HA.out (by simp [macadamlaw04_lawful.l3])
           | succ k4 =>
            have H := HA.out
            clear HA
            simp only [macadamlaw04_lawful.l3] at H
            by_cases c55 : x12_4 < x11_3
            ·rw [if_pos c55] at H
             have c55b0 : decide (x12_4 < x11_3) = true := decide_eq_true c55
             clear c55
             by_cases c56 : 0 ≤ x11_3
             ·rw [if_pos c56] at H
              have c56b0 : decide (0 ≤ x11_3) = true := decide_eq_true c56
              clear c56
              by_cases c57 : x11_3 < (t364.length : Int)
              ·rw [if_pos c57] at H
               have c57b0 : decide (x11_3 < (t364.length : Int)) = true := decide_eq_true c57
               clear c57
               by_cases c58 : 0 ≤ x12_4
               ·rw [if_pos c58] at H
                have c58b0 : decide (0 ≤ x12_4) = true := decide_eq_true c58
                clear c58
                by_cases c59 : x12_4 < (t364.length : Int)
                ·rw [if_pos c59] at H
                 have c59b0 : decide (x12_4 < (t364.length : Int)) = true := decide_eq_true c59
                 clear c59
                 replace H := Option.bind_eq_some_iff.mp H
                 obtain ⟨t369, A600, H⟩ := H
                 replace H : (if t369 = true then (some false) else (macadamlaw04_lawful.l3 k4 l1 x9_2 t364 x11_3 (wrap64 (x12_4 + 1)) l0_0 l0_1 a0_2)) = some r := H
                 have A60 := Aside0.mk A600
                 clear A600
                 by_cases c61 : t369 = true
                 ·subst c61
                  have H1 : (some false) = some r := by rw [if_pos rfl] at H; exact H
                  clear H
                  have H := H1
                  clear H1
                  obtain rfl := Option.some.inj H
                  try go_wp2
                  have n0_ := Aside0.mk (Kd.R_drew HO_10.out)
                  have n1_ := Aside0.mk (blk_drew BK354.out)
                  have n2_ := Aside0.mk (below_drew1 HB.out)
                  clear HO_10
                  clear BK354
                  clear HB
                  have HO_10 := n0_
                  have BK354 := n1_
                  have HB := n2_
                  clear n0_ n1_ n2_
                  have p367 : 0 ≤ (x11_3 : Int) := of_decide_eq_true (by first | (with_reducible assumption) | assumption)
                  have q367 : x11_3 < (t364.length : Int) := of_decide_eq_true (by first | (with_reducible assumption) | assumption)
                  obtain ⟨ad367, e367, hx367_0⟩ := Kd.at_int (Kd.R_reads' HO_10.out).2.2 x11_3 p367 q367
                  cases e367
                  replace p367 := eq_true p367
                  replace q367 := eq_true q367
                  have p368 : 0 ≤ (x12_4 : Int) := of_decide_eq_true (by first | (with_reducible assumption) | assumption)
                  have q368 : x12_4 < (t364.length : Int) := of_decide_eq_true (by first | (with_reducible assumption) | assumption)
                  obtain ⟨ad368, e368, hx368_0⟩ := Kd.at_int (Kd.R_reads' HO_10.out).2.2 x12_4 p368 q368
                  obtain rfl : ad367 = ad368 := (by injection e368)
                  replace p368 := eq_true p368
                  replace q368 := eq_true q368
                  refine start_ (n := 10) (S := fun w' => w'.cell? (ad367.add (x11_3).toNat) = some (.int .i64 (rd t364 x11_3)) ∧ w'.cell? (ad367.add (x12_4).toNat) = some (.int .i64 (rd t364 x12_4))) (ds := []) (bs 10 0) (by kernel_rfl) rfl rfl ⟨hx367_0, hx368_0⟩ (fun hHeld => ?_); refine with_tabW macadamlaw04_lawful.tab22 macadamlaw04_lawful.bits22 (fun HT_ HW_ => ?_)
                  generalize wr.drew = w62 at HO_10 BK354 HB hx367_0 hx368_0 hHeld ⊢
                  refine pu HT_ 0 (some 116) (bs 10 1) ?_
                  refine pu HT_ 1 (some 117) (bs 10 3) ?_
                  refine pu HT_ 2 (some 118) (bs 10 7) ?_
                  refine pu HT_ 4 (some 120) (bs 10 23) ?_
                  refine pu HT_ 5 (some 121) (bs 10 55) ?_
                  refine pu HT_ 6 (some 122) (bs 10 119) ?_
                  refine tk2 HT_ HW_ hHeld 3 (some 119) (bs 10 127) ?_
                  refine tk2 HT_ HW_ hHeld 7 (some 123) (bs 10 255) ?_
                  refine pu HT_ 8 (some 124) (bs 10 511) ?_
                  refine on HT_ 9 (some 125) (bs 10 1023) (fun K hK => ?_)
                  refine goes_ Tryd.func45 (by kernel_rfl) rfl #[.int .i64 (wrap64 ((rd t364 x11_3) - (rd t364 x12_4))), .int .i64 (-1), .int .i64 1] (by rfl) rfl rfl (by (try simp only [List.map_toArray, List.map_cons, List.map_nil]); first | done | rfl | (simp only [List.length_drop, List.length_take]; rfl)) ?_
                  with_reducible refine (macadamref00_Amid.calls (wrap64 ((rd t364 x11_3) - (rd t364 x12_4))) (-1) 1 true _ A60.out).mono ?_
                  rintro e w' ⟨rfl, ⟨nd, rfl⟩⟩
                  refine ⟨_, rfl, ?_⟩
                  refine hK.out _ _ ⟨hHeld.1, hHeld.2⟩ (fun hHeld => ?_)
                  clear hK K
                  refine nm 125 ?_
                  refine done_ (done_of HT_.out (by kernel_rfl)) ?_
                  try go_wp2
                  go_ret
                  exact ⟨by first | rfl | (simp [errW_none, errW_some] <;> rfl) | (simp [*, errW_none, errW_some] <;> rfl), bw1 HB GE354⟩
                 ·replace c61 := Bool.eq_false_iff.mpr c61
                  subst c61
                  have H1 : (macadamlaw04_lawful.l3 k4 l1 x9_2 t364 x11_3 (wrap64 (x12_4 + 1)) l0_0 l0_1 a0_2) = some r := by rw [if_neg (show ¬ (false = true) by decide)] at H; exact H
                  clear H
                  have H := H1
                  clear H1
                  have H' := Aside0.mk H
                  clear H
                  try go_wp2
                  have n0_ := Aside0.mk (Kd.R_drew HO_10.out)
                  have n1_ := Aside0.mk (blk_drew BK354.out)
                  have n2_ := Aside0.mk (below_drew1 HB.out)
                  clear HO_10
                  clear BK354
                  clear HB
                  have HO_10 := n0_
                  have BK354 := n1_
                  have HB := n2_
                  clear n0_ n1_ n2_
                  have p367 : 0 ≤ (x11_3 : Int) := of_decide_eq_true (by first | (with_reducible assumption) | assumption)
                  have q367 : x11_3 < (t364.length : Int) := of_decide_eq_true (by first | (with_reducible assumption) | assumption)
                  obtain ⟨ad367, e367, hx367_0⟩ := Kd.at_int (Kd.R_reads' HO_10.out).2.2 x11_3 p367 q367
                  cases e367
                  replace p367 := eq_true p367
                  replace q367 := eq_true q367
                  have p368 : 0 ≤ (x12_4 : Int) := of_decide_eq_true (by first | (with_reducible assumption) | assumption)
                  have q368 : x12_4 < (t364.length : Int) := of_decide_eq_true (by first | (with_reducible assumption) | assumption)
                  obtain ⟨ad368, e368, hx368_0⟩ := Kd.at_int (Kd.R_reads' HO_10.out).2.2 x12_4 p368 q368
                  obtain rfl : ad367 = ad368 := (by injection e368)
                  replace p368 := eq_true p368
                  replace q368 := eq_true q368
                  refine start_ (n := 10) (S := fun w' => w'.cell? (ad367.add (x11_3).toNat) = some (.int .i64 (rd t364 x11_3)) ∧ w'.cell? (ad367.add (x12_4).toNat) = some (.int .i64 (rd t364 x12_4))) (ds := []) (bs 10 0) (by kernel_rfl) rfl rfl ⟨hx367_0, hx368_0⟩ (fun hHeld => ?_); refine with_tabW macadamlaw04_lawful.tab22 macadamlaw04_lawful.bits22 (fun HT_ HW_ => ?_)
                  generalize wr.drew = w63 at HO_10 BK354 HB hx367_0 hx368_0 hHeld ⊢
                  refine pu HT_ 0 (some 116) (bs 10 1) ?_
                  refine pu HT_ 1 (some 117) (bs 10 3) ?_
                  refine pu HT_ 2 (some 118) (bs 10 7) ?_
                  refine pu HT_ 4 (some 120) (bs 10 23) ?_
                  refine pu HT_ 5 (some 121) (bs 10 55) ?_
                  refine pu HT_ 6 (some 122) (bs 10 119) ?_
                  refine tk2 HT_ HW_ hHeld 3 (some 119) (bs 10 127) ?_
                  refine tk2 HT_ HW_ hHeld 7 (some 123) (bs 10 255) ?_
                  refine pu HT_ 8 (some 124) (bs 10 511) ?_
                  refine on HT_ 9 (some 125) (bs 10 1023) (fun K hK => ?_)
                  refine goes_ Tryd.func45 (by kernel_rfl) rfl #[.int .i64 (wrap64 ((rd t364 x11_3) - (rd t364 x12_4))), .int .i64 (-1), .int .i64 1] (by rfl) rfl rfl (by (try simp only [List.map_toArray, List.map_cons, List.map_nil]); first | done | rfl | (simp only [List.length_drop, List.length_take]; rfl)) ?_
                  with_reducible refine (macadamref00_Amid.calls (wrap64 ((rd t364 x11_3) - (rd t364 x12_4))) (-1) 1 false _ A60.out).mono ?_
                  rintro e w' ⟨rfl, ⟨nd, rfl⟩⟩
                  refine ⟨_, rfl, ?_⟩
                  refine hK.out _ _ ⟨hHeld.1, hHeld.2⟩ (fun hHeld => ?_)
                  clear hK K
                  refine nm 125 ?_
                  refine done_ (done_of HT_.out (by kernel_rfl)) ?_
                  try go_wp2
                  go_roundg k4
                  case measure => have := HK1.out; have := HK2.out; have := HK3.out; have := HK4.out; omega
                  case rel => exact ⟨(wrap64 (x12_4 + 1)), (by first | rfl | (simp; done) | (simp [*]; done)), H', ⟨by have := HK1.out; have := HK2.out; have := HK3.out; have := HK4.out; omega⟩, ⟨by (with_reducible repeat (first | apply Kd.R_alloc | apply Kd.R_drewN | apply Kd.R_drew)); exact HO_10.out⟩, ⟨bm BK354⟩, ⟨bw1 HB GE354⟩⟩
                ·rw [if_neg c59] at H
                 exact absurd H (by simp)
               ·rw [if_neg c58] at H
                exact absurd H (by simp)
              ·rw [if_neg c57] at H
               exact absurd H (by simp)
             ·rw [if_neg c56] at H
              exact absurd H (by simp)
            ·rw [if_neg c55] at H
             have c55b0 : decide (x12_4 < x11_3) = false := decide_eq_false c55
             clear c55
             have H' := Aside0.mk H
             clear H
             go_wp2
             go_roundg k4
             case measure => have := HK1.out; have := HK2.out; have := HK3.out; have := HK4.out; omega
             case rel => exact ⟨(wrap64 (x11_3 + 1)), (by first | rfl | (simp; done) | (simp [*]; done)), H', ⟨by have := HK1.out; have := HK2.out; have := HK3.out; have := HK4.out; omega⟩, ⟨by (with_reducible repeat (first | apply Kd.R_alloc | apply Kd.R_drewN | apply Kd.R_drew)); exact HO_10.out⟩, ⟨bm BK354⟩, ⟨bw1 HB GE354⟩⟩
         ·rw [if_neg c53] at H
          have c53b0 : decide (x11_3 < (t364.length : Int)) = false := decide_eq_false c53
          clear c53
          have H' := Aside0.mk H
          clear H
          obtain ⟨Ao64, co64, eo64⟩ := Kd.R_slice HO_10.out
          subst eo64
          go_wp2
          go_roundg k3
          case measure => have := HK1.out; have := HK2.out; have := HK3.out; omega
          case rel => exact ⟨(wrap64 (x9_2 + 1)), (by first | rfl | (simp; done) | (simp [*]; done)), H', ⟨by have := HK1.out; have := HK2.out; have := HK3.out; omega⟩, ⟨bm BK354⟩, ⟨bw1 HB GE354⟩⟩
      ·rw [if_neg c49] at H
       have c49b0 : decide (x9_2 < a0_2) = false := decide_eq_false c49
       clear c49
       obtain rfl := Option.some.inj H
       obtain ⟨hcz65_0, hcz65_1, hcz65_2, hfz65_0, hfz65_1, hfz65_2⟩ := b3 BK354
       go_wp2
       go_ret
       exact ⟨by first | rfl | (simp [errW_none, errW_some] <;> rfl) | (simp [*, errW_none, errW_some] <;> rfl), bw1 HB GE354⟩
end Go.Proofs.YtikfghnkbgdbgaaDoor.Q
end
section
namespace Go.Proofs.YtikfghnkbgdbgaaDoor.Q
set_option linter.unusedSimpArgs false
set_option linter.unusedVariables false
open Go.RowKit Go.Proofs.YtikfghnkbgdbgaaDoorW.PrintWords Go.Proofs.YtikfghnkbgdbgaaDoorW.PrintLast Go.Proofs.YtikfghnkbgdbgaaDoorW.PrintMore
theorem wrap_f (a : Int) {m : Int} (h : 1 ≤ m) (hm : m ≤ 9223372036854775807) : ∃ r, macadamref00_Wrap.f a m = some r ∧ 0 ≤ r ∧ r < m := by
  unfold macadamref00_Wrap.f
  rw [if_neg (by omega), if_neg (by omega)]
  have h1 := Int.tmod_lt_of_pos a (show 0 < m by omega)
  have h2 : -m < Int.tmod a m := by
    have := Int.tmod_lt_of_pos (-a) (show 0 < m by omega)
    rw [Int.neg_tmod] at this
    omega
  by_cases h : Int.tmod a m < 0
  · rw [if_pos h]
    exact ⟨_, rfl, by unfold wrap64; omega, by unfold wrap64; omega⟩
  · rw [if_neg h]
    exact ⟨_, rfl, by omega, by omega⟩
theorem sound_l1 (ms : List M) (gs : List G) (n : Int) (hm : ms.length ≤ 9223372036854775807) (hg : gs.length ≤ 9223372036854775807) (d : Nat) : ∀ (k j : Nat) (b : Bool), gs.length - j = d → j ≤ gs.length → 2 * d + 2 ≤ k →
    macadamlaw04_sound.l1 k b j ms gs n = some (b && (gs.drop j).all (gangB ms.length)) := by
  induction d with
  | zero =>
    intro k j b hd hj hk
    obtain ⟨k, rfl⟩ : ∃ m, k = m + 2 := ⟨k - 2, by omega⟩
    obtain rfl : j = gs.length := by omega
    simp only [macadamlaw04_sound.l1, macadamlaw04_sound.j4]
    cases b <;> simp
  | succ d ih =>
    intro k j b hd hj hk
    obtain ⟨k, rfl⟩ : ∃ m, k = m + 2 := ⟨k - 2, by omega⟩
    have hlt : j < gs.length := by omega
    have hr := rd_drop_G gs j hlt
    have I := fun b => ih k (j + 1) b (by omega) (by omega) (by omega)
    simp only [macadamlaw04_sound.l1, macadamlaw04_sound.j4]
    cases b with
    | false => rw [if_neg (by simp), if_neg (by simp)]; simp
    | true =>
      rw [if_pos rfl, if_pos (by rw [decide_eq_true_eq]; omega), if_pos (by omega), if_pos (by omega), wrap_up hlt hg, hr, amid_f]
      simp only [Option.bind_some, List.all_cons, gangB, I, sane_f _ _ 3 (by omega), Bool.true_and]
      have hwin : within (rd_T63 gs j).f0 0 (rd_T63 gs j).f1 = (decide (0 ≤ (rd_T63 gs j).f0) && decide ((rd_T63 gs j).f0 ≤ (rd_T63 gs j).f1)) := rfl
      rw [hwin]
      by_cases h1 : 0 ≤ (rd_T63 gs j).f0 <;> by_cases h2 : (rd_T63 gs j).f0 ≤ (rd_T63 gs j).f1 <;> by_cases h3 : (rd_T63 gs j).f1 < (ms.length : Int) <;> simp [h1, h2, h3]
theorem sound_l0 (ms : List M) (gs : List G) (n : Int) (hm : ms.length ≤ 9223372036854775807) (hg : gs.length ≤ 9223372036854775807) (d : Nat) : ∀ (k j : Nat) (b : Bool), ms.length - j = d → j ≤ ms.length → 2 * d + 2 + 2 * gs.length + 2 ≤ k →
    macadamlaw04_sound.l0 k b j ms gs n = some (b && (ms.drop j).all mileB && gs.all (gangB ms.length)) := by
  induction d with
  | zero =>
    intro k j b hd hj hk
    obtain ⟨k, rfl⟩ : ∃ m, k = m + 2 := ⟨k - 2, by omega⟩
    obtain rfl : j = ms.length := by omega
    have I := sound_l1 ms gs n hm hg gs.length k 0 b (by omega) (by omega) (by omega)
    simp only [macadamlaw04_sound.l0, macadamlaw04_sound.j2]
    have I' : macadamlaw04_sound.l1 k b 0 ms gs n = some (b && gs.all (gangB ms.length)) := by simpa using I
    cases b <;> simp [I']
  | succ d ih =>
    intro k j b hd hj hk
    obtain ⟨k, rfl⟩ : ∃ m, k = m + 2 := ⟨k - 2, by omega⟩
    have hlt : j < ms.length := by omega
    have hr := rd_drop_M ms j hlt
    have I := fun b => ih k (j + 1) b (by omega) (by omega) (by omega)
    simp only [macadamlaw04_sound.l0, macadamlaw04_sound.j2]
    cases b with
    | false =>
      have I1 := sound_l1 ms gs n hm hg gs.length k 0 false (by omega) (by omega) (by omega)
      rw [if_neg (by simp), if_neg (by simp)]
      simpa using I1
    | true =>
      rw [if_pos rfl, if_pos (by rw [decide_eq_true_eq]; omega), if_pos (by omega), if_pos (by omega), wrap_up hlt hm, hr, sane_f _ _ 6 (by omega), amid_f]
      simp only [Option.bind_some, List.all_cons, mileB, I, Bool.true_and]
      by_cases h1 : spanB (rd_T66 ms j).f0 6 = true
      · rw [if_pos h1]; simp [h1, within]
      · rw [if_neg h1]; simp [h1]
theorem sound_ev (ms : List M) (gs : List G) (n : Int) (hm : ms.length ≤ 9223372036854775807) (hg : gs.length ≤ 9223372036854775807) : Ev (fun k => macadamlaw04_sound.f k ms gs n) (okB ms gs n) := by
  have J : ∀ b, Ev (fun k => macadamlaw04_sound.j0 k b ms gs n) (b && ms.all mileB && gs.all (gangB ms.length)) := fun b => ⟨2 * ms.length + 2 * gs.length + 5, fun k hk => by
    obtain ⟨k, rfl⟩ : ∃ m, k = m + 1 := ⟨k - 1, by omega⟩
    simp only [macadamlaw04_sound.j0]
    refine (sound_l0 ms gs n hm hg ms.length k 0 b (by omega) (by omega) (by omega)).trans ?_
    simp⟩
  have hc := Ev.of (fun k => gang_Check.mono _ _ _ k) (check_f ms gs n hm hg)
  unfold macadamlaw04_sound.f
  refine Ev.bind hc ?_
  by_cases ok : okB ms gs n = true
  · rw [if_pos ok]
    refine Ev.pos rfl ?_
    obtain ⟨s1, s2, s3⟩ := okB_sizes ok
    have e1 : within (ms.length : Int) 1 4 = true := by simp [within]; omega
    have e2 : within (gs.length : Int) 1 2 = true := by simp [within]; omega
    have e3 : within n 1 4 = true := by simp [within]; omega
    refine Ev.bind (Ev.some ((amid_f _ _ _).trans (by rw [e1]))) (Ev.pos rfl (Ev.bind (Ev.some ((amid_f _ _ _).trans (by rw [e2]))) (Ev.pos rfl (Ev.bind (Ev.some ((amid_f _ _ _).trans (by rw [e3]))) ?_))))
    have := J true
    have e : (true && ms.all mileB && gs.all (gangB ms.length)) = okB ms gs n := by
      rw [ok, Bool.true_and, Bool.and_eq_true]
      unfold okB at ok
      simp only [Bool.and_eq_true] at ok
      exact ⟨ok.1.2, ok.2⟩
    rw [e] at this
    exact this
  · rw [if_neg ok]
    refine Ev.neg (by decide) ?_
    have := J false
    simp only [Bool.false_and] at this
    rw [show okB ms gs n = false by simpa using ok]
    exact this
theorem shut_l0 {p : List Wk} (c : Int) (hp : p.length * 24 ≤ 140737488351232) (d : Nat) : ∀ (i : Nat) (out : List Int), p.length - i = d → i ≤ p.length → out.length ≤ i →
    Ev (fun k => macadamlaw04_shut.l0 k p c out i) (out ++ ((p.drop i).filter (fun y => decide (y.f0 = c))).map (·.f2)) := by
  induction d with
  | zero =>
    intro i out hd hi ho
    rw [List.drop_of_length_le (by omega)]
    exact Ev.step (f := fun _ => some out) (fun k => by simp only [macadamlaw04_shut.l0]; rw [if_neg (by omega)]) (Ev.some (by simp))
  | succ d ih =>
    intro i out hd hi ho
    have hlt : i < p.length := by omega
    have hx : rd_T59 p (i : Int) = W3 p i := rfl
    have hw : wrap64 ((i : Int) + 1) = ((i + 1 : Nat) : Int) := by unfold wrap64; omega
    rw [drop_W3 p i hlt, List.filter_cons]
    by_cases h : (W3 p i).f0 = c
    · rw [if_pos (by simpa using h)]
      refine Ev.step (f := fun k => macadamlaw04_shut.l0 k p c (out ++ [(W3 p i).f2]) ((i + 1 : Nat) : Int)) (fun k => by simp only [macadamlaw04_shut.l0]; rw [if_pos (by omega), if_pos (by omega), hx, if_pos h, if_pos (by omega), hw]) ?_
      have := ih (i + 1) (out ++ [(W3 p i).f2]) (by omega) (by omega) (by rw [List.length_append, List.length_singleton]; omega)
      simpa using this
    · rw [if_neg (by simpa using h)]
      exact Ev.step (f := fun k => macadamlaw04_shut.l0 k p c out ((i + 1 : Nat) : Int)) (fun k => by simp only [macadamlaw04_shut.l0]; rw [if_pos (by omega), if_pos (by omega), hx, if_neg h, hw]) (ih (i + 1) out (by omega) (by omega) (by omega))
theorem shut_ev {p : List Wk} (c : Int) (hp : p.length * 24 ≤ 140737488351232) : Ev (fun k => macadamlaw04_shut.f k p c) ((p.filter (fun y => decide (y.f0 = c))).map (·.f2)) := by
  have := shut_l0 c hp p.length 0 [] (by omega) (by omega) (by simp)
  rw [List.drop_zero, List.nil_append] at this
  exact this
def ph1 (ms : List M) (gs : List G) (n : Int) : Int → List Wk → Bool
  | _, [] => true
  | a, x :: r => canB ms gs n x && decide (a < x.f0 * 2 + x.f1) && ph1 ms gs n (x.f0 * 2 + x.f1) r
theorem ph1_iff {ms : List M} {gs : List G} {n : Int} : ∀ {p : List Wk} {a : Int}, ph1 ms gs n a p = true ↔ (∀ x ∈ p, canB ms gs n x = true ∧ a < x.f0 * 2 + x.f1) ∧ p.Pairwise (fun y x => y.f0 * 2 + y.f1 < x.f0 * 2 + x.f1) := by
  intro p
  induction p with
  | nil => intro a; simp [ph1]
  | cons y r ih =>
    intro a
    simp only [ph1, Bool.and_eq_true, decide_eq_true_eq, ih, List.pairwise_cons, List.mem_cons]
    constructor
    · rintro ⟨⟨h1, h2⟩, h3, h4⟩
      refine ⟨?_, fun x hx => (h3 x hx).2, h4⟩
      rintro x (rfl | hx)
      · exact ⟨h1, h2⟩
      · exact ⟨(h3 x hx).1, by have := (h3 x hx).2; omega⟩
    · rintro ⟨h1, h2, h3⟩
      exact ⟨h1 y (Or.inl rfl), fun x hx => ⟨(h1 x (Or.inr hx)).1, h2 x hx⟩, h3⟩
def apartB (p : List Wk) (c : Int) : Bool := match p.filter (fun y => decide (y.f0 = c)) with
  | [x, y] => !(decide (-1 ≤ y.f2 - x.f2) && decide (y.f2 - x.f2 ≤ 1))
  | _ => true
theorem night_cases {ms : List M} {gs : List G} {n : Int} (hg : gs.length ≤ 2) {p : List Wk} {a : Int} (h : ph1 ms gs n a p = true) (c : Int) :
    let l := p.filter (fun y => decide (y.f0 = c)); l = [] ∨ (∃ x ∈ p, l = [x]) ∨ ∃ x ∈ p, ∃ y ∈ p, l = [x, y] := by
  intro l
  obtain ⟨h1, h2⟩ := ph1_iff.1 h
  have hpl := h2.sublist (List.filter_sublist (p := fun y => decide (y.f0 = c)))
  have hc : ∀ x ∈ l, x.f0 = c := fun x hx => by simpa using (List.mem_filter.1 hx).2
  have hm : ∀ x ∈ l, x ∈ p := fun x hx => (List.mem_filter.1 hx).1
  rcases hll : l with _ | ⟨x, _ | ⟨y, _ | ⟨z, r⟩⟩⟩
  · exact Or.inl rfl
  · exact Or.inr (Or.inl ⟨x, hm x (by rw [hll]; simp), rfl⟩)
  · exact Or.inr (Or.inr ⟨x, hm x (by rw [hll]; simp), y, hm y (by rw [hll]; simp), rfl⟩)
  · exfalso
    have hp2 : List.Pairwise (fun y x : Wk => y.f0 * 2 + y.f1 < x.f0 * 2 + x.f1) (x :: y :: z :: r) := by rw [← hll]; exact hpl
    have a1 := List.rel_of_pairwise_cons hp2 (List.mem_cons_self)
    have a2 := List.rel_of_pairwise_cons (List.pairwise_cons.1 hp2).2 (List.mem_cons_self)
    have e1 := hc x (by rw [hll]; simp)
    have e2 := hc y (by rw [hll]; simp)
    have e3 := hc z (by rw [hll]; simp)
    have c1 := (canB_iff.1 (h1 x (hm x (by rw [hll]; simp))).1).2.2.2.1
    have c3 := (canB_iff.1 (h1 z (hm z (by rw [hll]; simp))).1).2.2.2.1
    omega
theorem lawful_eq {ms : List M} {gs : List G} {n : Int} (hg : gs.length ≤ 2) (p : List Wk) : (ph1 ms gs n (-1) p && (upTo n).all (apartB p)) = planB ms gs n p := by
  rw [Bool.eq_iff_iff, Bool.and_eq_true, planB_iff]
  constructor
  · rintro ⟨h1, h2⟩
    obtain ⟨h3, h4⟩ := ph1_iff.1 h1
    refine ⟨fun x hx => (h3 x hx).1, ?_⟩
    -- whatever two works: behind
    have key : ∀ s t : List Wk, ∀ y x : Wk, p = s ++ y :: t → x ∈ t → behindB y x = true := by
      intro s t y x hp hx
      have hpw : (y :: t).Pairwise (fun y x : Wk => y.f0 * 2 + y.f1 < x.f0 * 2 + x.f1) := by rw [hp] at h4; exact (List.pairwise_append.1 h4).2.1
      have hlt := List.rel_of_pairwise_cons hpw hx
      have cy := canB_iff.1 (h3 y (by rw [hp]; simp)).1
      have cx := canB_iff.1 (h3 x (by rw [hp]; simp [hx])).1
      rw [behindB_iff]
      by_cases hn : y.f0 < x.f0
      · exact Or.inl hn
      · have e0 : y.f0 = x.f0 := by omega
        refine Or.inr ⟨e0, by omega, ?_⟩
        have ha := List.all_eq_true.1 h2 x.f0 (mem_upTo.2 cx.1)
        have hfy : y ∈ p.filter (fun z => decide (z.f0 = x.f0)) := List.mem_filter.2 ⟨by rw [hp]; simp, by simp [e0]⟩
        have hsub : List.Sublist [y, x] (p.filter (fun z => decide (z.f0 = x.f0))) := by
          rw [hp, List.filter_append, List.filter_cons, if_pos (by simp [e0])]
          refine List.Sublist.trans ?_ (List.sublist_append_right _ _)
          refine List.Sublist.cons_cons _ ?_
          exact List.singleton_sublist.2 (List.mem_filter.2 ⟨hx, by simp⟩)
        rcases night_cases hg h1 x.f0 with h | ⟨z, _, h⟩ | ⟨u, _, v, _, h⟩
        · rw [h] at hfy; cases hfy
        · rw [h] at hsub; have := hsub.length_le; simp at this
        · rw [h] at hsub
          have e := hsub.eq_of_length (by simp)
          simp only [List.cons.injEq, and_true] at e
          obtain ⟨rfl, rfl⟩ := e
          unfold apartB at ha
          rw [h] at ha
          simp only [Bool.not_eq_true', Bool.and_eq_false_iff, decide_eq_false_iff_not] at ha
          omega
    clear h1 h2 h3 h4
    have gen : ∀ t s : List Wk, p = s ++ t → t.Pairwise (fun y x => behindB y x = true) := by
      intro t
      induction t with
      | nil => intro s _; exact List.Pairwise.nil
      | cons y t ih =>
        intro s hs
        exact List.pairwise_cons.2 ⟨fun x hx => key s t y x hs hx, ih (s ++ [y]) (by simp [hs])⟩
    exact gen p [] rfl
  · rintro ⟨h1, h2⟩
    have hph : ph1 ms gs n (-1) p = true := by
      rw [ph1_iff]
      refine ⟨fun x hx => ⟨h1 x hx, by have := canB_iff.1 (h1 x hx); omega⟩, ?_⟩
      refine List.Pairwise.imp_of_mem ?_ h2
      intro y x hy hx h
      have cy := canB_iff.1 (h1 y hy)
      have cx := canB_iff.1 (h1 x hx)
      have := behindB_iff.1 h
      omega
    refine ⟨hph, ?_⟩
    rw [List.all_eq_true]
    intro c hc
    unfold apartB
    rcases night_cases hg hph c with h | ⟨z, _, h⟩ | ⟨u, hu, v, hv, h⟩
    · rw [h]
    · rw [h]
    · rw [h]
      have hpw := h2.sublist (List.filter_sublist (p := fun y => decide (y.f0 = c)))
      rw [h] at hpw
      have hb := behindB_iff.1 (List.rel_of_pairwise_cons hpw (List.mem_cons_self))
      have e1 : u.f0 = c := by have : u ∈ p.filter (fun y => decide (y.f0 = c)) := by rw [h]; simp
                               simpa using (List.mem_filter.1 this).2
      have e2 : v.f0 = c := by have : v ∈ p.filter (fun y => decide (y.f0 = c)) := by rw [h]; simp
                               simpa using (List.mem_filter.1 this).2
      simp only [Bool.not_eq_true', Bool.and_eq_false_iff, decide_eq_false_iff_not]
      omega
theorem w01 : wrap64 (0 + 1) = 1 := by unfold wrap64; omega
theorem w12 : wrap64 (1 + 1) = 2 := by unfold wrap64; omega
theorem lawful_l1 {ms : List M} {gs : List G} {n : Int} (hn : 1 ≤ n ∧ n ≤ 4) {p : List Wk} (hp : p.length * 24 ≤ 140737488351232) (hg : gs.length ≤ 2) (hm : ms.length ≤ 4) (h : ph1 ms gs n (-1) p = true) (d : Nat) : ∀ (i : Nat), n.toNat - i = d → i ≤ n.toNat → Ev (fun k => macadamlaw04_lawful.l1 k p i ms gs n) (((upTo n).drop i).all (apartB p)) := by
  induction d with
  | zero =>
    intro i hd hi
    rw [List.drop_of_length_le (by rw [upTo_length]; omega)]
    exact Ev.step (f := fun _ => some true) (fun k => by simp only [macadamlaw04_lawful.l1]; rw [if_neg (by omega)]) (Ev.now _)
  | succ d ih =>
    intro i hd hi
    rw [upTo_drop (by omega), List.all_cons]
    have hw : wrap64 ((i : Int) + 1) = ((i + 1 : Nat) : Int) := by unfold wrap64; omega
    have I := ih (i + 1) (by omega) (by omega)
    refine Ev.step (f := fun k => (macadamlaw04_shut.f k p i).bind fun t => macadamlaw04_lawful.l2 k p i t 0 ms gs n) (fun k => by simp only [macadamlaw04_lawful.l1]; rw [if_pos (by omega)]) ?_
    refine Ev.bind (shut_ev _ hp) ?_
    have hbnd : ∀ x ∈ p, 0 ≤ x.f2 ∧ x.f2 < 4 := fun x hx => by have := (canB_iff.1 ((ph1_iff.1 h).1 x hx).1).2.1; omega
    unfold apartB
    rcases night_cases hg h (i : Int) with hl | ⟨x, hx, hl⟩ | ⟨x, hx, y, hy, hl⟩
    · rw [hl]
      simp only [List.map_nil, Bool.true_and]
      exact Ev.step (f := fun k => macadamlaw04_lawful.l1 k p ((i + 1 : Nat) : Int) ms gs n) (fun k => by simp only [macadamlaw04_lawful.l2]; rw [if_neg (by simp), hw]) I
    · rw [hl]
      simp only [List.map_cons, List.map_nil, Bool.true_and]
      refine Ev.step (f := fun k => macadamlaw04_lawful.l3 k p i [x.f2] 0 0 ms gs n) (fun k => by simp only [macadamlaw04_lawful.l2]; rw [if_pos (by simp)]) ?_
      refine Ev.step (f := fun k => macadamlaw04_lawful.l2 k p i [x.f2] 1 ms gs n) (fun k => by simp only [macadamlaw04_lawful.l3]; rw [if_neg (by simp), w01]) ?_
      exact Ev.step (f := fun k => macadamlaw04_lawful.l1 k p ((i + 1 : Nat) : Int) ms gs n) (fun k => by simp only [macadamlaw04_lawful.l2]; rw [if_neg (by simp), hw]) I
    · rw [hl]
      simp only [List.map_cons, List.map_nil]
      have bx := hbnd x hx
      have by_ := hbnd y hy
      refine Ev.step (f := fun k => macadamlaw04_lawful.l3 k p i [x.f2, y.f2] 0 0 ms gs n) (fun k => by simp only [macadamlaw04_lawful.l2]; rw [if_pos (by simp)]) ?_
      refine Ev.step (f := fun k => macadamlaw04_lawful.l2 k p i [x.f2, y.f2] 1 ms gs n) (fun k => by simp only [macadamlaw04_lawful.l3]; rw [if_neg (by simp), w01]) ?_
      refine Ev.step (f := fun k => macadamlaw04_lawful.l3 k p i [x.f2, y.f2] 1 0 ms gs n) (fun k => by simp only [macadamlaw04_lawful.l2]; rw [if_pos (by simp)]) ?_
      have hr : wrap64 (rd [x.f2, y.f2] 1 - rd [x.f2, y.f2] 0) = y.f2 - x.f2 := by
        show wrap64 (y.f2 - x.f2) = y.f2 - x.f2
        unfold wrap64; omega
      refine Ev.step (f := fun k => (macadamref00_Amid.f (y.f2 - x.f2) (-1) 1).bind fun t => if t = true then some false else macadamlaw04_lawful.l3 k p i [x.f2, y.f2] 1 1 ms gs n) (fun k => by simp only [macadamlaw04_lawful.l3]; rw [if_pos (by decide), if_pos (by decide), if_pos (by simp), if_pos (by decide), if_pos (by simp), hr, w01]) ?_
      refine Ev.bind (Ev.some (amid_f _ _ _)) ?_
      have hwin : within (y.f2 - x.f2) (-1) 1 = (decide (-1 ≤ y.f2 - x.f2) && decide (y.f2 - x.f2 ≤ 1)) := rfl
      rw [hwin]
      cases (decide (-1 ≤ y.f2 - x.f2) && decide (y.f2 - x.f2 ≤ 1)) with
      | true => exact Ev.pos rfl (Ev.some (by simp))
      | false =>
        refine Ev.neg (by simp) ?_
        simp only [Bool.not_false, Bool.true_and]
        refine Ev.step (f := fun k => macadamlaw04_lawful.l2 k p i [x.f2, y.f2] 2 ms gs n) (fun k => by simp only [macadamlaw04_lawful.l3]; rw [if_neg (by simp), w12]) ?_
        exact Ev.step (f := fun k => macadamlaw04_lawful.l1 k p ((i + 1 : Nat) : Int) ms gs n) (fun k => by simp only [macadamlaw04_lawful.l2]; rw [if_neg (by simp), hw]) I
theorem lawful_l0 {ms : List M} {gs : List G} {n : Int} (ok : okB ms gs n = true) {p : List Wk} (hp : p.length * 24 ≤ 140737488351232) (r1 : Bool) (d : Nat) : ∀ (i : Nat) (a : Int), p.length - i = d → i ≤ p.length → (ph1 ms gs n a (p.drop i) = true → Ev (fun k => macadamlaw04_lawful.l1 k p 0 ms gs n) r1) →
    Ev (fun k => macadamlaw04_lawful.l0 k p a i ms gs n) (ph1 ms gs n a (p.drop i) && r1) := by
  obtain ⟨⟨hm1, hm2⟩, ⟨hg1, hg2⟩, hn1, hn2⟩ := okB_sizes ok
  induction d with
  | zero =>
    intro i a hd hi h
    rw [List.drop_of_length_le (by omega)] at h ⊢
    simp only [ph1, Bool.true_and]
    exact Ev.step (f := fun k => macadamlaw04_lawful.l1 k p 0 ms gs n) (fun k => by simp only [macadamlaw04_lawful.l0]; rw [if_neg (by omega)]) (h rfl)
  | succ d ih =>
    intro i a hd hi h
    have hlt : i < p.length := by omega
    have hx : rd_T59 p (i : Int) = W3 p i := rfl
    have hw : wrap64 ((i : Int) + 1) = ((i + 1 : Nat) : Int) := by unfold wrap64; omega
    rw [drop_W3 p i hlt] at h ⊢
    generalize hW : W3 p i = x at h ⊢
    rw [hW] at hx
    have an : ∀ t, macadamref00_Amid.f t 0 (wrap64 (n - 1)) = some (decide (0 ≤ t) && decide (t < n)) := fun t => by
      rw [amid_f, show wrap64 (n - 1) = n - 1 by unfold wrap64; omega]; unfold within; congr 2; rw [decide_eq_decide]; omega
    have al : ∀ (t : Int) (l : Nat), l ≤ 4 → macadamref00_Amid.f t 0 (wrap64 ((l : Int) - 1)) = some (decide (0 ≤ t) && decide (t < (l : Int))) := fun t l hl => by
      rw [amid_f, show wrap64 ((l : Int) - 1) = (l : Int) - 1 by unfold wrap64; omega]; unfold within; congr 2; rw [decide_eq_decide]; omega
    -- what stands behind the first questions
    have step : ∀ c : Bool, (c = true → (0 ≤ x.f0 ∧ x.f0 < n) ∧ (0 ≤ x.f1 ∧ x.f1 < (gs.length : Int)) ∧ 0 ≤ x.f2 ∧ x.f2 < (ms.length : Int)) → (c = false → canB ms gs n x = false) →
        Ev (fun k => macadamlaw04_lawful.j1 k p a i (!c) ms gs n x.f0 x.f1 x.f2) (ph1 ms gs n a (x :: p.drop (i + 1)) && r1) := by
      intro c hc1 hc2
      cases c with
      | false =>
        refine Ev.step (f := fun _ => some false) (fun k => by simp only [macadamlaw04_lawful.j1]; rw [if_pos (by simp)]) (Ev.some ?_)
        simp [ph1, hc2 rfl]
      | true =>
        obtain ⟨b0, b1, b2⟩ := hc1 rfl
        have hb := (okB_mile ok _ (rd_mem b2.1 b2.2)).2
        have hat : wrap64 (wrap64 (x.f0 * 2) + x.f1) = x.f0 * 2 + x.f1 := by unfold wrap64; omega
        refine Ev.step (f := fun k => if x.f0 * 2 + x.f1 ≤ a then some false else if x.f2 < (rd_T63 gs x.f1).f0 then some false else if x.f2 > (rd_T63 gs x.f1).f1 then some false else (macadamref00_In.f (rd_T66 ms x.f2).f1 x.f0).bind fun t => if t = true then some false else macadamlaw04_lawful.l0 k p (x.f0 * 2 + x.f1) ((i + 1 : Nat) : Int) ms gs n)
          (fun k => by simp only [macadamlaw04_lawful.j1]; rw [if_neg (by simp), hat, if_pos b1.1, if_pos b1.2, if_pos b2.1, if_pos b2.2, hw]) ?_
        simp only [ph1] at h ⊢
        by_cases h1 : x.f0 * 2 + x.f1 ≤ a
        · refine Ev.pos h1 (Ev.some ?_)
          rw [show decide (a < x.f0 * 2 + x.f1) = false by simp; omega]
          simp
        · refine Ev.neg h1 ?_
          by_cases h2 : x.f2 < (rd_T63 gs x.f1).f0
          · refine Ev.pos h2 (Ev.some ?_)
            rw [show canB ms gs n x = false by rw [Bool.eq_false_iff]; intro hcn; have := canB_iff.1 hcn; omega]
            simp
          · refine Ev.neg h2 ?_
            by_cases h3 : x.f2 > (rd_T63 gs x.f1).f1
            · refine Ev.pos h3 (Ev.some ?_)
              rw [show canB ms gs n x = false by rw [Bool.eq_false_iff]; intro hcn; have := canB_iff.1 hcn; omega]
              simp
            · refine Ev.neg h3 (Ev.bind (Ev.some (in_f hb.1 hb.2 b0.1 (by omega))) ?_)
              cases hbit : bitB (rd_T66 ms x.f2).f1 x.f0 with
              | true =>
                refine Ev.pos rfl (Ev.some ?_)
                rw [show canB ms gs n x = false by rw [Bool.eq_false_iff]; intro hcn; have := (canB_iff.1 hcn).2.2.1; rw [hbit] at this; cases this]
                simp
              | false =>
                refine Ev.neg (by simp) ?_
                have hcan : canB ms gs n x = true := canB_iff.2 ⟨b0, b2, hbit, b1, by omega, by omega⟩
                have hlt2 : decide (a < x.f0 * 2 + x.f1) = true := by simp; omega
                rw [hcan, hlt2, Bool.true_and, Bool.true_and]
                exact ih (i + 1) _ (by omega) (by omega) (fun h' => h (by rw [hcan, hlt2, h']; rfl))
    refine Ev.step (f := fun k => (macadamref00_Amid.f x.f0 0 (wrap64 (n - 1))).bind fun t357 => if t357 = true then (macadamref00_Amid.f x.f1 0 (wrap64 ((gs.length : Int) - 1))).bind fun t358 => if t358 = true then (macadamref00_Amid.f x.f2 0 (wrap64 ((ms.length : Int) - 1))).bind fun t359 => macadamlaw04_lawful.j1 k p a i (!t359) ms gs n x.f0 x.f1 x.f2 else macadamlaw04_lawful.j1 k p a i true ms gs n x.f0 x.f1 x.f2 else macadamlaw04_lawful.j1 k p a i true ms gs n x.f0 x.f1 x.f2)
      (fun k => by simp only [macadamlaw04_lawful.l0]; rw [if_pos (by omega), if_pos (by omega), hx]) ?_
    refine Ev.bind (Ev.some (an _)) ?_
    have nocan : ∀ (q : ¬ ((0 ≤ x.f0 ∧ x.f0 < n) ∧ (0 ≤ x.f1 ∧ x.f1 < (gs.length : Int)) ∧ 0 ≤ x.f2 ∧ x.f2 < (ms.length : Int))), canB ms gs n x = false := fun q => by
      rw [Bool.eq_false_iff]; intro hcn; have := canB_iff.1 hcn; exact q ⟨this.1, this.2.2.2.1, this.2.1⟩
    by_cases h0 : 0 ≤ x.f0 ∧ x.f0 < n
    · refine Ev.pos (by simp [h0]) (Ev.bind (Ev.some (al _ _ (by omega))) ?_)
      by_cases h1 : 0 ≤ x.f1 ∧ x.f1 < (gs.length : Int)
      · refine Ev.pos (by simp [h1]) (Ev.bind (Ev.some (al _ _ (by omega))) ?_)
        by_cases h2 : 0 ≤ x.f2 ∧ x.f2 < (ms.length : Int)
        · rw [show (decide (0 ≤ x.f2) && decide (x.f2 < (ms.length : Int))) = true by simp [h2]]
          exact step true (fun _ => ⟨h0, h1, h2⟩) (fun h => by cases h)
        · rw [show (decide (0 ≤ x.f2) && decide (x.f2 < (ms.length : Int))) = false by simp; omega]
          exact step false (fun h => by cases h) (fun _ => nocan (fun q => h2 q.2.2))
      · exact Ev.neg (by simp; omega) (step false (fun h => by cases h) (fun _ => nocan (fun q => h1 q.2.1)))
    · exact Ev.neg (by simp; omega) (step false (fun h => by cases h) (fun _ => nocan (fun q => h0 q.1)))
theorem lawful_ev {ms : List M} {gs : List G} {n : Int} (ok : okB ms gs n = true) {p : List Wk} (hp : p.length * 24 ≤ 140737488351232) : Ev (fun k => macadamlaw04_lawful.f k ms gs n p) (planB ms gs n p) := by
  obtain ⟨⟨hm1, hm2⟩, ⟨hg1, hg2⟩, hn1, hn2⟩ := okB_sizes ok
  rw [← lawful_eq hg2]
  have := lawful_l0 ok hp ((upTo n).all (apartB p)) p.length 0 (-1) (by omega) (by omega) (fun h => by
    have := lawful_l1 (ms := ms) ⟨hn1, hn2⟩ hp hg2 hm2 (by simpa using h) n.toNat 0 (by omega) (by omega)
    simpa using this)
  rw [List.drop_zero] at this
  exact this
end Go.Proofs.YtikfghnkbgdbgaaDoor.Q
end
section
namespace Go.Proofs.YtikfghnkbgdbgaaDoor.Q
open Go.RowKit Go.Proofs.YtikfghnkbgdbgaaDoorW.PrintWords Go.Proofs.YtikfghnkbgdbgaaDoorW.PrintLast Go.Proofs.YtikfghnkbgdbgaaDoorW.PrintMore
attribute [local go_sem] max2_int min2_int max_two min_two max_three min_three max_four min_four   -- for this text's walks alone
set_option linter.unusedVariables false
set_option linter.unusedSimpArgs false
def macadamref00_Reach.f (a0 : Int) (a1 : Int) : Option (Int × Int) := some (a0, a1)
set_option maxHeartbeats 8000000 in
set_option maxRecDepth 100000 in
theorem macadamref00_Reach.calls (a0 : Int) (a1 : Int) (r1 : Int) (r2 : Int) (w : World) (h : macadamref00_Reach.f a0 a1 = some (r1, r2)) :
  Calls Tryd.prog 50 #[.int .i64 a0, .int .i64 a1] w fun e w' => e = .returned (.agg #[.int .i64 r1, .int .i64 r2]) ∧ Below w.heap.size w w' := by
 have hu40 := Tryd.underlying40
 have HB := Aside0.mk (Below.refl w.heap.size w)
 have H : (some (a0, a1)) = some (r1, r2) := h
 clear h
 simp only [Option.some.injEq, Prod.mk.injEq] at H
 obtain ⟨rfl, rfl⟩ := H
 go_enter Tryd.func50, Tryd.ntmps50
 go_wp2_with (first | ((with_reducible refine gate_dst (N := 4) rfl ?_); refine bx 4 #[.int .i64 0, .int .i64 0] 40 ?_; intro gb211 hg w3 hbox hb; have n0_ := Aside0.mk (below_step (bw HB) hb); have n1_ := Aside0.mk (hbox); have n2_ := Aside0.mk (bz (bw HB) hg); have n3_ := Aside0.mk (bz (bw HB) hg); clear HB; have HB := n0_; have BK211 := n1_; have GW211 := n2_; have GE211 := n3_; clear n0_ n1_ n2_ n3_; clear hb hbox hg; obtain ⟨hcz4_0, hcz4_1, hfz4_0, hfz4_1⟩ := b2 BK211))
 refine bodyPost_ret (results_cell_row rfl _ _ gb211 40 #[.int .i64 a0, .int .i64 a1] (0, 0) _ rfl (by (with_reducible repeat (first | refine blk_drewN ?_ _ | refine blk_drew ?_ | refine blk_alloc ?_ _)); refine blk_put (cs := #[.int .i64 a0, .int .i64 0]) ?_ 1 _ rfl; (with_reducible repeat (first | refine blk_drewN ?_ _ | refine blk_drew ?_ | refine blk_alloc ?_ _)); refine blk_put (cs := #[.int .i64 0, .int .i64 0]) ?_ 0 _ rfl; (with_reducible repeat (first | refine blk_drewN ?_ _ | refine blk_drew ?_ | refine blk_alloc ?_ _)); exact BK211.out) Tryd.underlying40 rfl (by kernel_rfl)) rfl ?_
 exact ⟨by first | rfl | (simp [errW_none, errW_some] <;> rfl) | (simp [*, errW_none, errW_some] <;> rfl), bw1 HB GE211⟩
def macadamref00_Just.f (a0 : Int) : Option (Int × Int) := (macadamref00_Reach.f a0 a0).bind fun bt213 => (some (bt213.1, bt213.2))
set_option maxHeartbeats 8000000 in
set_option maxRecDepth 100000 in
theorem macadamref00_Just.calls (a0 : Int) (r1 : Int) (r2 : Int) (w : World) (h : macadamref00_Just.f a0 = some (r1, r2)) :
  Calls Tryd.prog 58 #[.int .i64 a0] w fun e w' => e = .returned (.agg #[.int .i64 r1, .int .i64 r2]) ∧ Below w.heap.size w w' := by
 have hu40 := Tryd.underlying40
 have HB := Aside0.mk (Below.refl w.heap.size w)
 have H : ((macadamref00_Reach.f a0 a0).bind fun bt213 => (some (bt213.1, bt213.2))) = some (r1, r2) := h
 clear h
 replace H := Option.bind_eq_some_iff.mp H
 obtain ⟨⟨t213, t214⟩, A20, H⟩ := H
 replace H : (some (t213, t214)) = some (r1, r2) := H
 have A2 := Aside0.mk A20
 clear A20
 simp only [Option.some.injEq, Prod.mk.injEq] at H
 obtain ⟨rfl, rfl⟩ := H
 go_enter Tryd.func58, Tryd.ntmps58
 go_wp2_with (first | ((with_reducible refine gate_dst (N := 2) rfl ?_); refine bx 2 #[.int .i64 0, .int .i64 0] 40 ?_; intro gb212 hg w3 hbox hb; have n0_ := Aside0.mk (below_step (bw HB) hb); have n1_ := Aside0.mk (hbox); have n2_ := Aside0.mk (bz (bw HB) hg); have n3_ := Aside0.mk (bz (bw HB) hg); clear HB; have HB := n0_; have BK212 := n1_; have GW212 := n2_; have GE212 := n3_; clear n0_ n1_ n2_ n3_; clear hb hbox hg) | ((with_reducible refine gate_callee (f := 50) rfl ?_); refine gL (some 5) Tryd.func50 #[.int .i64 a0, .int .i64 a0] ?_; (with_reducible refine (macadamref00_Reach.calls a0 a0 t213 t214 _ A2.out).mono ?_); rintro e w4 ⟨rfl, hb⟩; refine ⟨_, rfl, ?_⟩; have n0_ := Aside0.mk (blk_below (bm BK212) hb); have n1_ := Aside0.mk (below_step (bw1 HB GE212) hb); clear BK212; clear HB; have BK212 := n0_; have HB := n1_; clear n0_ n1_; (try clear hb); (try clear hb2); (try clear hk); (try clear hi); obtain ⟨hcz5_0, hcz5_1, hfz5_0, hfz5_1⟩ := b2 BK212))
 refine bodyPost_ret (results_cell_row rfl _ _ gb212 40 #[.int .i64 t213, .int .i64 t214] (0, 0) _ rfl (by (with_reducible repeat (first | refine blk_drewN ?_ _ | refine blk_drew ?_ | refine blk_alloc ?_ _)); refine blk_put (cs := #[.int .i64 t213, .int .i64 0]) ?_ 1 _ rfl; (with_reducible repeat (first | refine blk_drewN ?_ _ | refine blk_drew ?_ | refine blk_alloc ?_ _)); refine blk_put (cs := #[.int .i64 0, .int .i64 0]) ?_ 0 _ rfl; (with_reducible repeat (first | refine blk_drewN ?_ _ | refine blk_drew ?_ | refine blk_alloc ?_ _)); exact BK212.out) Tryd.underlying40 rfl (by kernel_rfl)) rfl ?_
 exact ⟨by first | rfl | (simp [errW_none, errW_some] <;> rfl) | (simp [*, errW_none, errW_some] <;> rfl), bw1 HB GE212⟩
def macadamref04_done.T6 : Bool × List (List Nat × List Nat) := (true, [([], []), ([], []), ([1], [1]), ([], []), ([], []), ([3, 4], [3, 4]), ([5], [5]), ([6], [6]), ([2, 7], [2, 7]), ([8], [8]), ([9], [9]), ([0, 10], [0, 10]), ([11, 11, 0, 1, 2, 3, 4, 5, 6, 7, 8, 9, 10, 11], [11])])
def macadamref04_done.B6 : List Nat := [0, 0, 2, 0, 0, 24, 56, 120, 254, 510, 1022, 2047, 4095]
theorem macadamref04_done.tab6 : rtab .any (opsOf Tryd.f76 6) = macadamref04_done.T6 := by kernel_rfl
theorem macadamref04_done.bits6 : waitsOk macadamref04_done.T6.2 macadamref04_done.B6 = true := by kernel_rfl
end Go.Proofs.YtikfghnkbgdbgaaDoor.Q
end
section
namespace Go.Proofs.YtikfghnkbgdbgaaDoor.Q
open Go.RowKit Go.Proofs.YtikfghnkbgdbgaaDoorW.PrintWords Go.Proofs.YtikfghnkbgdbgaaDoorW.PrintLast Go.Proofs.YtikfghnkbgdbgaaDoorW.PrintMore
attribute [local go_sem] max2_int min2_int max_two min_two max_three min_three max_four min_four   -- for this text's walks alone
set_option linter.unusedVariables false
set_option linter.unusedSimpArgs false
def macadamref04_mended.T5 : Bool × List (List Nat × List Nat) := (true, [([], []), ([], []), ([], []), ([0, 1, 2], [0, 1, 2]), ([3], [3]), ([], []), ([5], [5]), ([], []), ([6, 7], [6, 7]), ([8], [8]), ([9], [9]), ([10], [10]), ([4, 11], [4, 11])])
def macadamref04_mended.B5 : List Nat := [0, 0, 0, 7, 15, 0, 32, 0, 224, 480, 992, 2016, 4095]
theorem macadamref04_mended.tab5 : rtab .any (opsOf Tryd.f78 5) = macadamref04_mended.T5 := by kernel_rfl
theorem macadamref04_mended.bits5 : waitsOk macadamref04_mended.T5.2 macadamref04_mended.B5 = true := by kernel_rfl
end Go.Proofs.YtikfghnkbgdbgaaDoor.Q
end
section
namespace Go.Proofs.YtikfghnkbgdbgaaDoor.Q
set_option linter.unusedSimpArgs false
set_option linter.unusedVariables false
open Go.RowKit Go.Proofs.YtikfghnkbgdbgaaDoorW.PrintWords Go.Proofs.YtikfghnkbgdbgaaDoorW.PrintLast Go.Proofs.YtikfghnkbgdbgaaDoorW.PrintMore
theorem W3_mem {p : List Wk} {i : Nat} (h : i < p.length) : W3 p i ∈ p := by
  unfold W3 rd_T59; rw [List.getD_eq_getElem?_getD]; simp [List.getElem?_eq_getElem h]
end Go.Proofs.YtikfghnkbgdbgaaDoor.Q
end
section
namespace Go.Proofs.YtikfghnkbgdbgaaDoor.Q
open Go.RowKit Go.Proofs.YtikfghnkbgdbgaaDoorW.PrintWords Go.Proofs.YtikfghnkbgdbgaaDoorW.PrintLast Go.Proofs.YtikfghnkbgdbgaaDoorW.PrintMore
attribute [local go_sem] max2_int min2_int max_two min_two max_three min_three max_four min_four   -- for this text's walks alone
set_option linter.unusedVariables false
set_option linter.unusedSimpArgs false
def macadamlaw04_work.f (a0 : Int) (a1 : Int) (a2 : Int) : Option (Int × Int × Int) := some (a0, a1, a2)
set_option maxHeartbeats 8000000 in
set_option maxRecDepth 100000 in
theorem macadamlaw04_work.calls (a0 : Int) (a1 : Int) (a2 : Int) (r1 : Int) (r2 : Int) (r3 : Int) (w : World) (h : macadamlaw04_work.f a0 a1 a2 = some (r1, r2, r3)) :
  Calls Tryd.prog 44 #[.int .i64 a0, .int .i64 a1, .int .i64 a2] w fun e w' => e = .returned (.agg #[.int .i64 r1, .int .i64 r2, .int .i64 r3]) ∧ Below w.heap.size w w' := by
 have hu59 := Tryd.underlying59
 have HB := Aside0.mk (Below.refl w.heap.size w)
 have H : (some (a0, a1, a2)) = some (r1, r2, r3) := h
 clear h
 simp only [Option.some.injEq, Prod.mk.injEq] at H
 obtain ⟨rfl, rfl, rfl⟩ := H
 go_enter Tryd.func44, Tryd.ntmps44
 go_wp2_with (first | ((with_reducible refine gate_dst (N := 6) rfl ?_); refine bx 6 #[.int .i64 0, .int .i64 0, .int .i64 0] 59 ?_; intro gb405 hg w4 hbox hb; have n0_ := Aside0.mk (below_step (bw HB) hb); have n1_ := Aside0.mk (hbox); have n2_ := Aside0.mk (bz (bw HB) hg); have n3_ := Aside0.mk (bz (bw HB) hg); clear HB; have HB := n0_; have BK405 := n1_; have GW405 := n2_; have GE405 := n3_; clear n0_ n1_ n2_ n3_; clear hb hbox hg; obtain ⟨hcz5_0, hcz5_1, hcz5_2, hfz5_0, hfz5_1, hfz5_2⟩ := b3 BK405))
 refine bodyPost_ret (results_cell_row rfl _ _ gb405 59 #[.int .i64 a0, .int .i64 a1, .int .i64 a2] (0, 0) _ rfl (by (with_reducible repeat (first | refine blk_drewN ?_ _ | refine blk_drew ?_ | refine blk_alloc ?_ _)); refine blk_put (cs := #[.int .i64 a0, .int .i64 a1, .int .i64 0]) ?_ 2 _ rfl; (with_reducible repeat (first | refine blk_drewN ?_ _ | refine blk_drew ?_ | refine blk_alloc ?_ _)); refine blk_put (cs := #[.int .i64 a0, .int .i64 0, .int .i64 0]) ?_ 1 _ rfl; (with_reducible repeat (first | refine blk_drewN ?_ _ | refine blk_drew ?_ | refine blk_alloc ?_ _)); refine blk_put (cs := #[.int .i64 0, .int .i64 0, .int .i64 0]) ?_ 0 _ rfl; (with_reducible repeat (first | refine blk_drewN ?_ _ | refine blk_drew ?_ | refine blk_alloc ?_ _)); exact BK405.out) Tryd.underlying59 rfl (by kernel_rfl)) rfl ?_
 exact ⟨by first | rfl | (simp [errW_none, errW_some] <;> rfl) | (simp [*, errW_none, errW_some] <;> rfl), bw1 HB GE405⟩
end Go.Proofs.YtikfghnkbgdbgaaDoor.Q
end
section
namespace Go.Proofs.YtikfghnkbgdbgaaDoor.Q
open Go.RowKit Go.Proofs.YtikfghnkbgdbgaaDoorW.PrintWords Go.Proofs.YtikfghnkbgdbgaaDoorW.PrintLast Go.Proofs.YtikfghnkbgdbgaaDoorW.PrintMore
attribute [local go_sem] max2_int min2_int max_two min_two max_three min_three max_four min_four   -- for this text's walks alone
set_option linter.unusedVariables false
set_option linter.unusedSimpArgs false
def macadamlaw04_least.l0 : Nat → List (S59) → Int → Int → Int → List (S66) → List (S63) → Int → Option (Int)
 | 0, _, _, _, _, _, _, _ => none
 | k + 1, x1, x2, x7, x8, x453000, x453001, x453002 => if x8 < (x1.length : Int) then (if 0 ≤ x8 then (if ((rd_T59 x1 x8).f2) = x2 then (if 0 ≤ ((rd_T59 x1 x8).f1) then (if ((rd_T59 x1 x8).f1) < (x453001.length : Int) then (macadamlaw04_least.l0 k x1 x2 (wrap64 (x7 + ((rd_T63 x453001 ((rd_T59 x1 x8).f1)).f2.f0))) (wrap64 (x8 + 1)) x453000 x453001 x453002) else (none)) else (none)) else (macadamlaw04_least.l0 k x1 x2 x7 (wrap64 (x8 + 1)) x453000 x453001 x453002)) else (none)) else (some x7)
def macadamlaw04_least.f (k : Nat) (l0_0 : List (S66)) (l0_1 : List (S63)) (a0_2 : Int) (l1 : List (S59)) (a2 : Int) : Option (Int) := macadamlaw04_least.l0 k l1 a2 0 0 l0_0 l0_1 a0_2
set_option maxHeartbeats 8000000 in
set_option maxRecDepth 100000 in
theorem macadamlaw04_least.calls (k : Nat) (A0_0 : Option Addr) (c0_0 : Nat) (l0_0 : List (S66)) (A0_1 : Option Addr) (c0_1 : Nat) (l0_1 : List (S63)) (a0_2 : Int) (A1 : Option Addr) (c1 : Nat) (l1 : List (S59)) (a2 : Int) (r : Int) (w : World) (hr0_0 : Kd.C k66 w A0_0 l0_0.length l0_0) (hc0_0 : l0_0.length ≤ c0_0) (hr0_1 : Kd.C k63 w A0_1 l0_1.length l0_1) (hc0_1 : l0_1.length ≤ c0_1) (hr1 : Kd.C k59 w A1 l1.length l1) (hc1 : l1.length ≤ c1) (h : macadamlaw04_least.f k l0_0 l0_1 a0_2 l1 a2 = some r) :
  Calls Tryd.prog 87 #[.agg #[.slice A0_0 l0_0.length c0_0, .slice A0_1 l0_1.length c0_1, .int .i64 a0_2], .slice A1 l1.length c1, .int .i64 a2] w fun e w' => e = .returned (.int .i64 r) ∧ Below w.heap.size w w' := by
 have hu25 := Tryd.underlying25
 have HR0_0 := Aside0.mk hr0_0
 have HC0_0 := Aside0.mk hc0_0
 clear hr0_0 hc0_0
 have HR0_1 := Aside0.mk hr0_1
 have HC0_1 := Aside0.mk hc0_1
 clear hr0_1 hc0_1
 have HR1 := Aside0.mk hr1
 have HC1 := Aside0.mk hc1
 clear hr1 hc1
 have HB := Aside0.mk (Below.refl w.heap.size w)
 have H : (macadamlaw04_least.l0 k l1 a2 0 0 l0_0 l0_1 a0_2) = some r := h
 clear h
 have H' := Aside0.mk H
 clear H
 go_enter Tryd.func87, Tryd.ntmps87
 go_wp2_with (first | ((with_reducible refine gate_dst (N := 3) rfl ?_); refine bx 3 #[.slice A0_0 l0_0.length c0_0, .slice A0_1 l0_1.length c0_1, .int .i64 a0_2] 25 ?_; intro gb452 hg w4 hbox hb; have n0_ := Aside0.mk (below_step (bw HB) hb); have n1_ := Aside0.mk (hbox); have n2_ := Aside0.mk (bz (bw HB) hg); have n3_ := Aside0.mk (bz (bw HB) hg); clear HB; have HB := n0_; have BK452 := n1_; have GW452 := n2_; have GE452 := n3_; clear n0_ n1_ n2_ n3_; clear hb hbox hg))
 repeat (go_quiet (first | ((with_reducible refine gate_dst (N := 3) rfl ?_); refine bx 3 #[.slice A0_0 l0_0.length c0_0, .slice A0_1 l0_1.length c0_1, .int .i64 a0_2] 25 ?_; intro gb452 hg w4 hbox hb; have n0_ := Aside0.mk (below_step (bw HB) hb); have n1_ := Aside0.mk (hbox); have n2_ := Aside0.mk (bz (bw HB) hg); have n3_ := Aside0.mk (bz (bw HB) hg); clear HB; have HB := n0_; have BK452 := n1_; have GW452 := n2_; have GE452 := n3_; clear n0_ n1_ n2_ n3_; clear hb hbox hg)); try go_wp2_with (first | ((with_reducible refine gate_dst (N := 3) rfl ?_); refine bx 3 #[.slice A0_0 l0_0.length c0_0, .slice A0_1 l0_1.length c0_1, .int .i64 a0_2] 25 ?_; intro gb452 hg w4 hbox hb; have n0_ := Aside0.mk (below_step (bw HB) hb); have n1_ := Aside0.mk (hbox); have n2_ := Aside0.mk (bz (bw HB) hg); have n3_ := Aside0.mk (bz (bw HB) hg); clear HB; have HB := n0_; have BK452 := n1_; have GW452 := n2_; have GE452 := n3_; clear n0_ n1_ n2_ n3_; clear hb hbox hg)))
 go_loopg [7, 8] k (fun kq v7 v8 w' => ∃ (x7_1 : Int) (x8_1 : Int), v7 = .int .i64 x7_1 ∧ v8 = .int .i64 x8_1 ∧ Aside0 (macadamlaw04_least.l0 kq l1 a2 x7_1 x8_1 l0_0 l0_1 a0_2 = some r) ∧ Aside0 (kq ≤ k) ∧ Aside0 (w'.heap[gb452]? = some (.cells #[(.slice A0_0 l0_0.length c0_0), (.slice A0_1 l0_1.length c0_1), .int .i64 a0_2] 25 (0, 0))) ∧ Aside0 (Below w.heap.size w w'))
 case atStart => exact ⟨(0), (0), (by first | rfl | (simp; done) | (simp [*]; done)), (by first | rfl | (simp; done) | (simp [*]; done)), H', ⟨Nat.le_refl _⟩, ⟨bm BK452⟩, ⟨bw1 HB GE452⟩⟩
 case round =>
  clear H'
  try clear c1
  try clear p2
  obtain ⟨x7_1, x8_1, rfl, rfl, HA, HK1, BK452, HB⟩ := hrel
  cases gk with
  | zero => exact absurd HA.out (by simp [macadamlaw04_least.l0])
  | succ k1 =>
   have H := HA.out
   clear HA
   simp only [macadamlaw04_least.l0] at H
   by_cases c5 : x8_1 < (l1.length : Int)
   ·rw [if_pos c5] at H
    have c5b0 : decide (x8_1 < (l1.length : Int)) = true := decide_eq_true c5
    clear c5
    by_cases c6 : 0 ≤ x8_1
    ·rw [if_pos c6] at H
     have c6b0 : decide (0 ≤ x8_1) = true := decide_eq_true c6
     clear c6
     by_cases c7 : ((rd_T59 l1 x8_1).f2) = a2
     ·rw [if_pos c7] at H
      have c7b0 : (((rd_T59 l1 x8_1).f2) == a2) = true := beq_iff_eq.mpr c7
      have c7b1 : (((rd_T59 l1 x8_1).f2) != a2) = false := bne_eq_false_iff_eq.mpr c7
      clear c7
      by_cases c8 : 0 ≤ ((rd_T59 l1 x8_1).f1)
      ·rw [if_pos c8] at H
       have c8b0 : decide (0 ≤ ((rd_T59 l1 x8_1).f1)) = true := decide_eq_true c8
       clear c8
       by_cases c9 : ((rd_T59 l1 x8_1).f1) < (l0_1.length : Int)
       ·rw [if_pos c9] at H
        have c9b0 : decide (((rd_T59 l1 x8_1).f1) < (l0_1.length : Int)) = true := decide_eq_true c9
        clear c9
        have H' := Aside0.mk H
        clear H
        have p453 : 0 ≤ (x8_1 : Int) := of_decide_eq_true (by first | (with_reducible assumption) | assumption)
        have q453 : x8_1 < (l1.length : Int) := of_decide_eq_true (by first | (with_reducible assumption) | assumption)
        obtain ⟨ad453, e453, hx453_0, hx453_1, hx453_2⟩ := at_T59 HR1.out x8_1 p453 q453
        cases e453
        replace hx453_0 := cB HB hx453_0
        replace hx453_1 := cB HB hx453_1
        replace hx453_2 := cB HB hx453_2
        replace p453 := eq_true p453
        replace q453 := eq_true q453
        obtain ⟨hcz10_0, hcz10_1, hcz10_2, hfz10_0, hfz10_1, hfz10_2⟩ := b3 BK452
        have p454 : 0 ≤ (x8_1 : Int) := of_decide_eq_true (by first | (with_reducible assumption) | assumption)
        have q454 : x8_1 < (l1.length : Int) := of_decide_eq_true (by first | (with_reducible assumption) | assumption)
        obtain ⟨ad454, e454, hx454_0, hx454_1, hx454_2⟩ := at_T59 HR1.out x8_1 p454 q454
        obtain rfl : ad453 = ad454 := (by injection e454)
        replace hx454_0 := cB HB hx454_0
        replace hx454_1 := cB HB hx454_1
        replace hx454_2 := cB HB hx454_2
        replace p454 := eq_true p454
        replace q454 := eq_true q454
        have p455 : 0 ≤ (((rd_T59 l1 x8_1).f1) : Int) := of_decide_eq_true (by first | (with_reducible assumption) | assumption)
        have q455 : ((rd_T59 l1 x8_1).f1) < (l0_1.length : Int) := of_decide_eq_true (by first | (with_reducible assumption) | assumption)
        obtain ⟨ad455, e455, hx455_0, hx455_1, hx455_2, hx455_3⟩ := at_T63 HR0_1.out ((rd_T59 l1 x8_1).f1) p455 q455
        cases e455
        replace hx455_0 := cB HB hx455_0
        replace hx455_1 := cB HB hx455_1
        replace hx455_2 := cB HB hx455_2
        replace hx455_3 := cB HB hx455_3
        replace p455 := eq_true p455
        replace q455 := eq_true q455
        go_wp2
        repeat (go_quiet (fail); try go_wp2)
        go_roundg k1
        case measure => have := HK1.out; omega
        case rel => exact ⟨(wrap64 (x7_1 + ((rd_T63 l0_1 ((rd_T59 l1 x8_1).f1)).f2.f0))), (wrap64 (x8_1 + 1)), (by first | rfl | (simp; done) | (simp [*]; done)), (by first | rfl | (simp; done) | (simp [*]; done)), H', ⟨by have := HK1.out; omega⟩, ⟨bm BK452⟩, ⟨bw1 HB GE452⟩⟩
       ·rw [if_neg c9] at H
        exact absurd H (by simp)
      ·rw [if_neg c8] at H
       exact absurd H (by simp)
     ·rw [if_neg c7] at H
      have c7b0 : (((rd_T59 l1 x8_1).f2) == a2) = false := beq_eq_false_iff_ne.mpr c7
      have c7b1 : (((rd_T59 l1 x8_1).f2) != a2) = true := bne_iff_ne.mpr c7
      have H' := Aside0.mk H
      clear H
      have p453 : 0 ≤ (x8_1 : Int) := of_decide_eq_true (by first | (with_reducible assumption) | assumption)
      have q453 : x8_1 < (l1.length : Int) := of_decide_eq_true (by first | (with_reducible assumption) | assumption)
      obtain ⟨ad453, e453, hx453_0, hx453_1, hx453_2⟩ := at_T59 HR1.out x8_1 p453 q453
      cases e453
      replace hx453_0 := cB HB hx453_0
      replace hx453_1 := cB HB hx453_1
      replace hx453_2 := cB HB hx453_2
      replace p453 := eq_true p453
      replace q453 := eq_true q453
      go_wp2
      repeat (go_quiet (fail); try go_wp2)
      go_roundg k1
      case measure => have := HK1.out; omega
      case rel => exact ⟨(x7_1), (wrap64 (x8_1 + 1)), (by first | rfl | (simp; done) | (simp [*]; done)), (by first | rfl | (simp; done) | (simp [*]; done)), H', ⟨by have := HK1.out; omega⟩, ⟨bm BK452⟩, ⟨bw1 HB GE452⟩⟩
    ·rw [if_neg c6] at H
     exact absurd H (by simp)
   ·rw [if_neg c5] at H
    have c5b0 : decide (x8_1 < (l1.length : Int)) = false := decide_eq_false c5
    clear c5
    obtain rfl := Option.some.inj H
    go_wp2
    repeat (go_quiet (fail); try go_wp2)
    go_ret
    exact ⟨by first | rfl | (simp [errW_none, errW_some] <;> rfl) | (simp [*, errW_none, errW_some] <;> rfl), bw1 HB GE452⟩
end Go.Proofs.YtikfghnkbgdbgaaDoor.Q
end
section
namespace Go.Proofs.YtikfghnkbgdbgaaDoor.Q
open Go.RowKit Go.Proofs.YtikfghnkbgdbgaaDoorW.PrintWords Go.Proofs.YtikfghnkbgdbgaaDoorW.PrintLast Go.Proofs.YtikfghnkbgdbgaaDoorW.PrintMore
attribute [local go_sem] max2_int min2_int max_two min_two max_three min_three max_four min_four   -- for this text's walks alone
set_option linter.unusedVariables false
set_option linter.unusedSimpArgs false
def macadamlaw04_mended.l0 : Nat → List (S59) → List Int → Int → List (S66) → List (S63) → Int → Option (List Int)
 | 0, _, _, _, _, _, _ => none
 | k + 1, x1, x5, x6, x457000, x457001, x457002 => if x6 < (x457000.length : Int) then ((macadamlaw04_least.f k x457000 x457001 x457002 x1 x6).bind fun t460 => (if 0 ≤ x6 then (if t460 ≥ ((rd_T66 x457000 x6).f0.f1) then (if x5.length < 17592186044416 then (macadamlaw04_mended.l0 k x1 (x5 ++ [x6]) (wrap64 (x6 + 1)) x457000 x457001 x457002) else (none)) else (macadamlaw04_mended.l0 k x1 x5 (wrap64 (x6 + 1)) x457000 x457001 x457002)) else (none))) else (some x5)
def macadamlaw04_mended.f (k : Nat) (l0_0 : List (S66)) (l0_1 : List (S63)) (a0_2 : Int) (l1 : List (S59)) : Option (List Int) := macadamlaw04_mended.l0 k l1 (([] : List Int)) 0 l0_0 l0_1 a0_2
def macadamlaw04_mended.T5 : Bool × List (List Nat × List Nat) := (true, [([], []), ([], []), ([], []), ([0, 1, 2], [0, 1, 2]), ([], []), ([4], [4]), ([], []), ([5, 6], [5, 6]), ([7], [7]), ([8], [8]), ([9], [9]), ([3, 10], [3, 10])])
def macadamlaw04_mended.B5 : List Nat := [0, 0, 0, 7, 0, 16, 0, 112, 240, 496, 1008, 2047]
theorem macadamlaw04_mended.tab5 : rtab .any (opsOf Tryd.f48 5) = macadamlaw04_mended.T5 := by kernel_rfl
theorem macadamlaw04_mended.bits5 : waitsOk macadamlaw04_mended.T5.2 macadamlaw04_mended.B5 = true := by kernel_rfl
set_option maxHeartbeats 8000000 in
set_option maxRecDepth 100000 in
theorem macadamlaw04_mended.calls (k : Nat) (A0_0 : Option Addr) (c0_0 : Nat) (l0_0 : List (S66)) (A0_1 : Option Addr) (c0_1 : Nat) (l0_1 : List (S63)) (a0_2 : Int) (A1 : Option Addr) (c1 : Nat) (l1 : List (S59)) (r : List Int) (w : World) (hr0_0 : Kd.C k66 w A0_0 l0_0.length l0_0) (hc0_0 : l0_0.length ≤ c0_0) (hr0_1 : Kd.C k63 w A0_1 l0_1.length l0_1) (hc0_1 : l0_1.length ≤ c0_1) (hr1 : Kd.C k59 w A1 l1.length l1) (hc1 : l1.length ≤ c1) (h : macadamlaw04_mended.f k l0_0 l0_1 a0_2 l1 = some r) :
  Calls Tryd.prog 48 #[.agg #[.slice A0_0 l0_0.length c0_0, .slice A0_1 l0_1.length c0_1, .int .i64 a0_2], .slice A1 l1.length c1] w fun e w' => ∃ v0_ : Value, e = .returned (v0_) ∧ Kd.R (Kd.int .i64) 3 w' w.heap.size (fun _ => True) v0_ r ∧ Below w.heap.size w w' := by
 have hu25 := Tryd.underlying25
 have HR0_0 := Aside0.mk hr0_0
 have HC0_0 := Aside0.mk hc0_0
 clear hr0_0 hc0_0
 have HR0_1 := Aside0.mk hr0_1
 have HC0_1 := Aside0.mk hc0_1
 clear hr0_1 hc0_1
 have HR1 := Aside0.mk hr1
 have HC1 := Aside0.mk hc1
 clear hr1 hc1
 have HB := Aside0.mk (Below.refl w.heap.size w)
 have H : (macadamlaw04_mended.l0 k l1 (([] : List Int)) 0 l0_0 l0_1 a0_2) = some r := h
 clear h
 obtain ⟨y457, hy457⟩ : ∃ y_ : List Int, y_ = (([] : List Int)) := ⟨_, rfl⟩
 replace H : (macadamlaw04_mended.l0 k l1 y457 0 l0_0 l0_1 a0_2) = some r := by first | (rw [hy457]; with_reducible exact H) | (have H2_ := (Option.bind_some _ _).symm.trans H; rw [hy457]; with_reducible exact H2_) | (have H2_ := (Option.bind_some _ _).symm.trans H; with_reducible exact H2_) | with_reducible exact H | (rw [hy457]; exact H) | exact H
 have Ny457 := Aside0.mk hy457
 clear hy457
 have H' := Aside0.mk H
 clear H
 go_enter Tryd.func48, Tryd.ntmps48
 go_wp2_with (first | ((with_reducible refine gate_dst (N := 2) rfl ?_); refine bx 2 #[.slice A0_0 l0_0.length c0_0, .slice A0_1 l0_1.length c0_1, .int .i64 a0_2] 25 ?_; intro gb456 hg w3 hbox hb; have n0_ := Aside0.mk (below_step (bw HB) hb); have n1_ := Aside0.mk (hbox); have n2_ := Aside0.mk (bz (bw HB) hg); have n3_ := Aside0.mk (bz (bw HB) hg); clear HB; have HB := n0_; have BK456 := n1_; have GW456 := n2_; have GE456 := n3_; clear n0_ n1_ n2_ n3_; clear hb hbox hg) | ((with_reducible refine gate_dst (N := 7) rfl ?_); refine Kd.R_lit (Kd.int .i64) _ 3 ?hg (N := 7) ?hd (xs := ([] : List Int)) (inner := []) (ok := fun _ => True) (okp := fun _ => True) ?hr ?hp (fun _ hk => hk) trivial (Below.refl _ _) (Nat.le_refl _) (by simp) ?_; (case hd => rfl); (case hg => rfl); (case hr => first | (go_simp; done) | (go_simp; rfl)); (case hp => exact (Reps.none _ _)); intro v458 w4 ho5 hb hg_ hnew_; clear hg_ hnew_; (first | rw [← Ny457.out] at ho5 | (simp only [Int.reduceToNat] at ho5; rw [← Ny457.out] at ho5)); have n0_ := Aside0.mk (Kd.R_lower ho5 (below_size (bw1 HB GE456))); have n1_ := Aside0.mk (blk_below (bm BK456) hb); have n2_ := Aside0.mk (below_step (bw1 HB GE456) hb); clear BK456; clear HB; have HO459 := n0_; have BK456 := n1_; have HB := n2_; clear n0_ n1_ n2_; clear hb ho5))
 go_loopg [5, 6] k (fun kq v5 v6 w' => ∃ (x5_1 : List Int) (x6_1 : Int), v6 = .int .i64 x6_1 ∧ Aside0 (macadamlaw04_mended.l0 kq l1 x5_1 x6_1 l0_0 l0_1 a0_2 = some r) ∧ Aside0 (kq ≤ k) ∧ Aside0 (Kd.R (Kd.int .i64) 3 w' w.heap.size (fun _ => True) v5 x5_1) ∧ Aside0 (w'.heap[gb456]? = some (.cells #[(.slice A0_0 l0_0.length c0_0), (.slice A0_1 l0_1.length c0_1), .int .i64 a0_2] 25 (0, 0))) ∧ Aside0 (Below w.heap.size w w'))
 case atStart => exact ⟨(y457), (0), (by first | rfl | (simp; done) | (simp [*]; done)), H', ⟨Nat.le_refl _⟩, ⟨by (with_reducible repeat (first | apply Kd.R_alloc | apply Kd.R_drewN | apply Kd.R_drew)); exact HO459.out⟩, ⟨bm BK456⟩, ⟨bw1 HB GE456⟩⟩
 case round =>
  clear H'
  try clear c1
  try clear p2
  try clear c4
  obtain ⟨x5_1, x6_1, rfl, HA, HK1, HO_5, BK456, HB⟩ := hrel
  cases gk with
  | zero => exact absurd HA.out (by simp [macadamlaw04_mended.l0])
  | succ k1 =>
   have H := HA.out
   clear HA
   simp only [macadamlaw04_mended.l0] at H
   by_cases c6 : x6_1 < (l0_0.length : Int)
   ·rw [if_pos c6] at H
    have c6b0 : decide (x6_1 < (l0_0.length : Int)) = true := decide_eq_true c6
    clear c6
    replace H := Option.bind_eq_some_iff.mp H
    obtain ⟨t460, A70, H⟩ := H
    replace H : (if 0 ≤ x6_1 then (if t460 ≥ ((rd_T66 l0_0 x6_1).f0.f1) then (if x5_1.length < 17592186044416 then (macadamlaw04_mended.l0 k1 l1 (x5_1 ++ [x6_1]) (wrap64 (x6_1 + 1)) l0_0 l0_1 a0_2) else (none)) else (macadamlaw04_mended.l0 k1 l1 x5_1 (wrap64 (x6_1 + 1)) l0_0 l0_1 a0_2)) else (none)) = some r := H
    have A7 := Aside0.mk A70
    clear A70
    by_cases c8 : 0 ≤ x6_1
    ·rw [if_pos c8] at H
     have c8b0 : decide (0 ≤ x6_1) = true := decide_eq_true c8
     clear c8
     by_cases c9 : t460 ≥ ((rd_T66 l0_0 x6_1).f0.f1)
     ·rw [if_pos c9] at H
      have c9b0 : decide (((rd_T66 l0_0 x6_1).f0.f1) ≤ t460) = true := decide_eq_true c9
      clear c9
      by_cases c10 : x5_1.length < 17592186044416
      ·rw [if_pos c10] at H
       have LMc10 := Aside0.mk c10
       clear c10
       obtain ⟨y462, hy462⟩ : ∃ y_ : List Int, y_ = (x5_1 ++ [x6_1]) := ⟨_, rfl⟩
       replace H : (macadamlaw04_mended.l0 k1 l1 y462 (wrap64 (x6_1 + 1)) l0_0 l0_1 a0_2) = some r := by first | (rw [hy462]; with_reducible exact H) | (have H2_ := (Option.bind_some _ _).symm.trans H; rw [hy462]; with_reducible exact H2_) | (have H2_ := (Option.bind_some _ _).symm.trans H; with_reducible exact H2_) | with_reducible exact H | (rw [hy462]; exact H) | exact H
       have Ny462 := Aside0.mk hy462
       clear hy462
       have H' := Aside0.mk H
       clear H
       obtain ⟨hcz11_0, hcz11_1, hcz11_2, hfz11_0, hfz11_1, hfz11_2⟩ := b3 BK456
       try go_wp2
       have n0_ := Aside0.mk (Kd.R_drew HO_5.out)
       have n1_ := Aside0.mk (blk_drew BK456.out)
       have n2_ := Aside0.mk (below_drew1 HB.out)
       clear HO_5
       clear BK456
       clear HB
       have HO_5 := n0_
       have BK456 := n1_
       have HB := n2_
       clear n0_ n1_ n2_
       have p461 : 0 ≤ (x6_1 : Int) := of_decide_eq_true (by first | (with_reducible assumption) | assumption)
       have q461 : x6_1 < (l0_0.length : Int) := of_decide_eq_true (by first | (with_reducible assumption) | assumption)
       obtain ⟨ad461, e461, hx461_0, hx461_1, hx461_2⟩ := at_T66 HR0_0.out x6_1 p461 q461
       have hw461_2 := hx461_2
       have hw461_1 := hx461_1
       have hw461_0 := hx461_0
       cases e461
       replace hx461_0 := cB HB hx461_0
       replace hx461_1 := cB HB hx461_1
       replace hx461_2 := cB HB hx461_2
       replace p461 := eq_true p461
       replace q461 := eq_true q461
       refine start_ (n := 12) (S := fun w' => w'.cell? ⟨gb456, 0, none⟩ = some (.slice (some ad461) l0_0.length c0_0) ∧ w'.cell? ⟨gb456, 1, none⟩ = some (.slice A0_1 l0_1.length c0_1) ∧ w'.cell? ⟨gb456, 2, none⟩ = some (.int .i64 a0_2) ∧ w'.cell? (ad461.add ((x6_1).toNat * 3)) = some (.int .i64 ((rd_T66 l0_0 x6_1).f0.f0)) ∧ w'.cell? ⟨(ad461.add ((x6_1).toNat * 3)).block, (ad461.add ((x6_1).toNat * 3)).off + 1, none⟩ = some (.int .i64 ((rd_T66 l0_0 x6_1).f0.f1)) ∧ w'.cell? ⟨(ad461.add ((x6_1).toNat * 3)).block, (ad461.add ((x6_1).toNat * 3)).off + 2, none⟩ = some (.int .i64 ((rd_T66 l0_0 x6_1).f1))) (ds := []) (bs 12 0) (by kernel_rfl) rfl rfl ⟨(blk_cell BK456.out 0).trans rfl, (blk_cell BK456.out 1).trans rfl, (blk_cell BK456.out 2).trans rfl, (cB HB hw461_0 :), (cB HB hw461_1 :), (cB HB hw461_2 :)⟩ (fun hHeld => ?_); refine with_tabW macadamlaw04_mended.tab5 macadamlaw04_mended.bits5 (fun HT_ HW_ => ?_)
       generalize wr.drew = w12 at HO_5 BK456 HB hx461_0 hx461_1 hx461_2 hHeld ⊢
       refine pu HT_ 1 (some 16) (bs 12 2) ?_
       refine pu HT_ 2 (some 17) (bs 12 6) ?_
       refine pu HT_ 4 (some 19) (bs 12 22) ?_
       refine pu HT_ 6 (some 21) (bs 12 86) ?_
       refine tk6 HT_ HW_ hHeld 0 (some 15) (bs 12 87) ?_
       refine tk6 HT_ HW_ hHeld 5 (some 20) (bs 12 119) ?_
       refine pu HT_ 7 (some 22) (bs 12 247) ?_
       refine pu HT_ 8 (some 23) (bs 12 503) ?_
       refine pu HT_ 9 (some 24) (bs 12 1015) ?_
       refine tk6 HT_ HW_ hHeld 10 (some 25) (bs 12 2039) ?_
       refine on HT_ 3 (some 18) (bs 12 2047) (fun K hK => ?_)
       refine goes_ Tryd.func87 (by kernel_rfl) rfl #[.agg #[.slice (some ad461) l0_0.length c0_0, .slice A0_1 l0_1.length c0_1, .int .i64 a0_2], .slice A1 l1.length c1, .int .i64 x6_1] (by rfl) rfl rfl (by (try simp only [List.map_toArray, List.map_cons, List.map_nil]); first | done | rfl | (simp only [List.length_drop, List.length_take]; rfl)) ?_
       with_reducible refine (macadamlaw04_least.calls k1 _ _ l0_0 _ _ l0_1 a0_2 _ _ l1 x6_1 t460 _ ?side1 ?side2 ?side3 ?side4 ?side5 ?side6 A7.out).mono ?_
       (case side1 => repeat (first | exact (Kd.C_below HR0_0.out HB.out) | (with_reducible refine Kd.C_alloc ?_ _) | (with_reducible refine Kd.C_drewN ?_ _) | (with_reducible refine Kd.C_drew ?_)))
       (case side2 => exact HC0_0.out)
       (case side3 => repeat (first | exact (Kd.C_below HR0_1.out HB.out) | (with_reducible refine Kd.C_alloc ?_ _) | (with_reducible refine Kd.C_drewN ?_ _) | (with_reducible refine Kd.C_drew ?_)))
       (case side4 => exact HC0_1.out)
       (case side5 => repeat (first | exact (Kd.C_below HR1.out HB.out) | (with_reducible refine Kd.C_alloc ?_ _) | (with_reducible refine Kd.C_drewN ?_ _) | (with_reducible refine Kd.C_drew ?_)))
       (case side6 => exact HC1.out)
       rintro e w13 ⟨rfl, hb⟩
       refine ⟨_, rfl, ?_⟩
       have n0_ := Aside0.mk (Kd.R_below (by (with_reducible repeat (first | apply Kd.R_alloc | apply Kd.R_drewN | apply Kd.R_drew)); exact HO_5.out) hb)
       have n1_ := Aside0.mk (blk_below (bm BK456) hb)
       have n2_ := Aside0.mk (below_step (bw1 HB GE456) hb)
       clear HO_5
       clear BK456
       clear HB
       have HO_5 := n0_
       have BK456 := n1_
       have HB := n2_
       clear n0_ n1_ n2_
       (try clear hb)
       (try clear hb2)
       (try clear hk)
       (try clear hi)
       refine hK.out _ _ ⟨(blk_cell BK456.out 0).trans rfl, (blk_cell BK456.out 1).trans rfl, (blk_cell BK456.out 2).trans rfl, (cB HB hw461_0 :), (cB HB hw461_1 :), (cB HB hw461_2 :)⟩ (fun hHeld => ?_)
       clear hK K
       refine nm 18 ?_
       refine pu HT_ 11 (some 26) (bs 12 4095) ?_
       refine done_ (done_of HT_.out (by kernel_rfl)) ?_
       try go_wp2_with (first | ((with_reducible refine gate_builtin (b := .append) (xs := #[.tmp 27, .tmp 29]) rfl ?_); at_builtin; refine Kd.R_append (Kd.int .i64) (w0 := w) w.heap.size rfl (.tmp 27) (.tmp 29) 28 3 (.int .i64 0) 8 rfl Tryd.underlying28 info3 rfl (by decide) (by omega) u5 x5_1 x6_1 [.int .i64 x6_1] (fun _ => True) (fun _ => False) rfl rfl ?aP (fun _ hk => hk.elim) ?aF ?aO ?aB ?aS ?aL ?_; (case aP => exact rfl); (case aB => exact (bw1 HB GE456)); (case aF => exact (fun _ _ => trivial)); (case aO => exact (by (with_reducible repeat (first | apply Kd.R_alloc | apply Kd.R_drewN | apply Kd.R_drew)); exact HO_5.out)); (case aS => exact (below_size (bw1 HB GE456))); (case aL => have := LMc10.out; omega); intro v463 w14 ho hb hg hat; rw [← Ny462.out] at ho; have n0_ := Aside0.mk (blk_grown (g := gb456) (o := .cells #[.slice (some ad461) l0_0.length c0_0, .slice A0_1 l0_1.length c0_1, .int .i64 a0_2] 25 (0, 0)) (bm BK456) hg (Kd.R_ne HO_5.out BK456.out (by decide))); have n1_ := Aside0.mk (hb); have n2_ := Aside0.mk (ho); clear BK456; clear HB; clear HO_5; have BK456 := n0_; have HB := n1_; have HO464 := n2_; clear n0_ n1_ n2_; clear ho hb hg hat))
       go_roundg k1
       case measure => have := HK1.out; omega
       case rel => exact ⟨(y462), (wrap64 (x6_1 + 1)), (by first | rfl | (simp; done) | (simp [*]; done)), H', ⟨by have := HK1.out; omega⟩, ⟨by (with_reducible repeat (first | apply Kd.R_alloc | apply Kd.R_drewN | apply Kd.R_drew)); exact HO464.out⟩, ⟨bm BK456⟩, ⟨bw1 HB GE456⟩⟩
      ·rw [if_neg c10] at H
       exact absurd H (by simp)
     ·rw [if_neg c9] at H
      have c9b0 : decide (((rd_T66 l0_0 x6_1).f0.f1) ≤ t460) = false := decide_eq_false c9
      clear c9
      have H' := Aside0.mk H
      clear H
      obtain ⟨hcz15_0, hcz15_1, hcz15_2, hfz15_0, hfz15_1, hfz15_2⟩ := b3 BK456
      try go_wp2
      have n0_ := Aside0.mk (Kd.R_drew HO_5.out)
      have n1_ := Aside0.mk (blk_drew BK456.out)
      have n2_ := Aside0.mk (below_drew1 HB.out)
      clear HO_5
      clear BK456
      clear HB
      have HO_5 := n0_
      have BK456 := n1_
      have HB := n2_
      clear n0_ n1_ n2_
      have p461 : 0 ≤ (x6_1 : Int) := of_decide_eq_true (by first | (with_reducible assumption) | assumption)
      have q461 : x6_1 < (l0_0.length : Int) := of_decide_eq_true (by first | (with_reducible assumption) | assumption)
      obtain ⟨ad461, e461, hx461_0, hx461_1, hx461_2⟩ := at_T66 HR0_0.out x6_1 p461 q461
      have hw461_2 := hx461_2
      have hw461_1 := hx461_1
      have hw461_0 := hx461_0
      cases e461
      replace hx461_0 := cB HB hx461_0
      replace hx461_1 := cB HB hx461_1
      replace hx461_2 := cB HB hx461_2
      replace p461 := eq_true p461
      replace q461 := eq_true q461
      refine start_ (n := 12) (S := fun w' => w'.cell? ⟨gb456, 0, none⟩ = some (.slice (some ad461) l0_0.length c0_0) ∧ w'.cell? ⟨gb456, 1, none⟩ = some (.slice A0_1 l0_1.length c0_1) ∧ w'.cell? ⟨gb456, 2, none⟩ = some (.int .i64 a0_2) ∧ w'.cell? (ad461.add ((x6_1).toNat * 3)) = some (.int .i64 ((rd_T66 l0_0 x6_1).f0.f0)) ∧ w'.cell? ⟨(ad461.add ((x6_1).toNat * 3)).block, (ad461.add ((x6_1).toNat * 3)).off + 1, none⟩ = some (.int .i64 ((rd_T66 l0_0 x6_1).f0.f1)) ∧ w'.cell? ⟨(ad461.add ((x6_1).toNat * 3)).block, (ad461.add ((x6_1).toNat * 3)).off + 2, none⟩ = some (.int .i64 ((rd_T66 l0_0 x6_1).f1))) (ds := []) (bs 12 0) (by kernel_rfl) rfl rfl ⟨(blk_cell BK456.out 0).trans rfl, (blk_cell BK456.out 1).trans rfl, (blk_cell BK456.out 2).trans rfl, (cB HB hw461_0 :), (cB HB hw461_1 :), (cB HB hw461_2 :)⟩ (fun hHeld => ?_); refine with_tabW macadamlaw04_mended.tab5 macadamlaw04_mended.bits5 (fun HT_ HW_ => ?_)
      generalize wr.drew = w16 at HO_5 BK456 HB hx461_0 hx461_1 hx461_2 hHeld ⊢
      refine pu HT_ 1 (some 16) (bs 12 2) ?_
      refine pu HT_ 2 (some 17) (bs 12 6) ?_
      refine pu HT_ 4 (some 19) (bs 12 22) ?_
      refine pu HT_ 6 (some 21) (bs 12 86) ?_
      refine tk6 HT_ HW_ hHeld 0 (some 15) (bs 12 87) ?_
      refine tk6 HT_ HW_ hHeld 5 (some 20) (bs 12 119) ?_
      refine pu HT_ 7 (some 22) (bs 12 247) ?_
      refine pu HT_ 8 (some 23) (bs 12 503) ?_
      refine pu HT_ 9 (some 24) (bs 12 1015) ?_
      refine tk6 HT_ HW_ hHeld 10 (some 25) (bs 12 2039) ?_
      refine on HT_ 3 (some 18) (bs 12 2047) (fun K hK => ?_)
      refine goes_ Tryd.func87 (by kernel_rfl) rfl #[.agg #[.slice (some ad461) l0_0.length c0_0, .slice A0_1 l0_1.length c0_1, .int .i64 a0_2], .slice A1 l1.length c1, .int .i64 x6_1] (by rfl) rfl rfl (by (try simp only [List.map_toArray, List.map_cons, List.map_nil]); first | done | rfl | (simp only [List.length_drop, List.length_take]; rfl)) ?_
      with_reducible refine (macadamlaw04_least.calls k1 _ _ l0_0 _ _ l0_1 a0_2 _ _ l1 x6_1 t460 _ ?side1 ?side2 ?side3 ?side4 ?side5 ?side6 A7.out).mono ?_
      (case side1 => repeat (first | exact (Kd.C_below HR0_0.out HB.out) | (with_reducible refine Kd.C_alloc ?_ _) | (with_reducible refine Kd.C_drewN ?_ _) | (with_reducible refine Kd.C_drew ?_)))
      (case side2 => exact HC0_0.out)
      (case side3 => repeat (first | exact (Kd.C_below HR0_1.out HB.out) | (with_reducible refine Kd.C_alloc ?_ _) | (with_reducible refine Kd.C_drewN ?_ _) | (with_reducible refine Kd.C_drew ?_)))
      (case side4 => exact HC0_1.out)
      (case side5 => repeat (first | exact (Kd.C_below HR1.out HB.out) | (with_reducible refine Kd.C_alloc ?_ _) | (with_reducible refine Kd.C_drewN ?_ _) | (with_reducible refine Kd.C_drew ?_)))
      (case side6 => exact HC1.out)
      rintro e w17 ⟨rfl, hb⟩
      refine ⟨_, rfl, ?_⟩
      have n0_ := Aside0.mk (Kd.R_below (by (with_reducible repeat (first | apply Kd.R_alloc | apply Kd.R_drewN | apply Kd.R_drew)); exact HO_5.out) hb)
      have n1_ := Aside0.mk (blk_below (bm BK456) hb)
      have n2_ := Aside0.mk (below_step (bw1 HB GE456) hb)
      clear HO_5
      clear BK456
      clear HB
      have HO_5 := n0_
      have BK456 := n1_
      have HB := n2_
      clear n0_ n1_ n2_
      (try clear hb)
      (try clear hb2)
      (try clear hk)
      (try clear hi)
      refine hK.out _ _ ⟨(blk_cell BK456.out 0).trans rfl, (blk_cell BK456.out 1).trans rfl, (blk_cell BK456.out 2).trans rfl, (cB HB hw461_0 :), (cB HB hw461_1 :), (cB HB hw461_2 :)⟩ (fun hHeld => ?_)
      clear hK K
      refine nm 18 ?_
      refine pu HT_ 11 (some 26) (bs 12 4095) ?_
      refine done_ (done_of HT_.out (by kernel_rfl)) ?_
      try go_wp2
      go_roundg k1
      case measure => have := HK1.out; omega
      case rel => exact ⟨(x5_1), (wrap64 (x6_1 + 1)), (by first | rfl | (simp; done) | (simp [*]; done)), H', ⟨by have := HK1.out; omega⟩, ⟨by (with_reducible repeat (first | apply Kd.R_alloc | apply Kd.R_drewN | apply Kd.R_drew)); exact HO_5.out⟩, ⟨bm BK456⟩, ⟨bw1 HB GE456⟩⟩
    ·rw [if_neg c8] at H
     exact absurd H (by simp)
   ·rw [if_neg c6] at H
    have c6b0 : decide (x6_1 < (l0_0.length : Int)) = false := decide_eq_false c6
    clear c6
    obtain rfl := Option.some.inj H
    obtain ⟨hcz18_0, hcz18_1, hcz18_2, hfz18_0, hfz18_1, hfz18_2⟩ := b3 BK456
    go_wp2
    go_ret
    exact ⟨_, by first | rfl | (simp [errW_none, errW_some] <;> rfl) | (simp [*, errW_none, errW_some] <;> rfl), by (with_reducible repeat (first | apply Kd.R_alloc | apply Kd.R_drewN | apply Kd.R_drew)); exact HO_5.out, bw1 HB GE456⟩
end Go.Proofs.YtikfghnkbgdbgaaDoor.Q
end
