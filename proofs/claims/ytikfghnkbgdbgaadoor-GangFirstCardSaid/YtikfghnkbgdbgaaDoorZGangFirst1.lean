/- A part of the proof of the statement GangFirst: For any book and any number the statement GangFirst holds: a mile can surely be mended by some plan just if it is the most where no other one may be closed, and the first that cannot is told. -/
import Derived.Test.YtikfghnkbgdbgaaDoorZGangFirst0
import Derived.ChangeAlike
import Derived.BigRegion
import Derived.RangeFuncNested
import Derived.StillTailTactics
set_option linter.unusedSimpArgs false
set_option linter.unusedVariables false
section
namespace Go.Proofs.YtikfghnkbgdbgaaDoor.Q
set_option linter.unusedSimpArgs false
set_option linter.unusedVariables false
open Go.RowKit Go.Proofs.YtikfghnkbgdbgaaDoorW.PrintWords Go.Proofs.YtikfghnkbgdbgaaDoorW.PrintLast Go.Proofs.YtikfghnkbgdbgaaDoorW.PrintMore
theorem putObj_last (X : World) (o o' : Obj) : (X.alloc o).putObj X.heap.size o' = X.alloc o' := by
  simp only [World.putObj, World.alloc]; congr 1
  apply Array.ext
  · simp
  · intro i h1 h2
    rw [Array.getElem_setIfInBounds (by simpa using h1)]
    simp only [Array.getElem_push]
    simp at h1
    by_cases e : X.heap.size = i
    · simp [e]
    · rw [if_neg e]
      split
      · rfl
      · omega
theorem putObj_last2 (X : World) (o o' c : Obj) : ((X.alloc o).alloc c).putObj X.heap.size o' = (X.alloc o').alloc c := by
  simp only [World.putObj, World.alloc]; congr 1
  apply Array.ext
  · simp
  · intro i h1 h2
    rw [Array.getElem_setIfInBounds (by simpa using h1)]
    simp only [Array.getElem_push, Array.size_push]
    simp at h1
    by_cases e : X.heap.size = i
    · subst e; simp
    · rw [if_neg e]
      by_cases e2 : i < X.heap.size
      · simp [e2, show i < X.heap.size + 1 by omega]
      · have : ¬ i < X.heap.size + 1 := by omega
        simp [this]
def one (i j : Int) (v : Bool) : Array MapEntry := #[{ key := .agg #[.int .i64 i, .int .i64 j], val := .bool v, born := 0 }]
theorem run_put0 (W : World) (b : Nat) (i j : Int) (v : Bool) (h : W.heap[b]? = some (.map #[] 0)) :
    (Instr.mapUpdate 84 (.map (some b)) (.agg #[.int .i64 i, .int .i64 j]) (.bool v)).run Tryd.prog W = .ok () (W.putObj b (.map (one i j v) 1)) := by
  obtain ⟨r, hrun, hm⟩ := findKeySpot W i j [] [] rfl
  have hr : r = none := by cases r with
    | none => rfl
    | some y => simp [lk] at hm
  subst hr
  simp only [Instr.mapUpdate, Sem.run_bind, run_underlying Tryd.underlying84, MapKept.run_getObj_map h, checkSpot, Array.toList_empty, hrun, Result.andThen_ok, MapKept.run_setObj_map _ h]
  rfl
theorem put_new (X : World) (n : Nat) (hn : n = X.heap.size) (i j : Int) (v : Bool) :
    (Instr.mapUpdate 84 (.map (some n)) (.agg #[.int .i64 i, .int .i64 j]) (.bool v)).run Tryd.prog (X.alloc (.map #[] 0)).drew = .ok () (X.alloc (.map (one i j v) 1)).drew := by
  subst hn
  rw [run_put0 _ _ i j v (show (X.alloc (.map #[] 0)).drew.heap[X.heap.size]? = _ from World.alloc_heap_new X _)]
  exact congrArg (fun w => Result.ok () (World.drew w)) (putObj_last X _ _)
theorem put_new2 (X : World) (c : Obj) (n : Nat) (hn : n = X.heap.size) (i j : Int) (v : Bool) :
    (Instr.mapUpdate 84 (.map (some n)) (.agg #[.int .i64 i, .int .i64 j]) (.bool v)).run Tryd.prog ((X.alloc (.map #[] 0)).alloc c).drew = .ok () ((X.alloc (.map (one i j v) 1)).alloc c).drew := by
  subst hn
  rw [run_put0 _ _ i j v (show ((X.alloc (.map #[] 0)).alloc c).drew.heap[X.heap.size]? = _ from (Below.heap_alloc _ _ _ (by simp)).trans (World.alloc_heap_new X _))]
  exact congrArg (fun w => Result.ok () (World.drew w)) (putObj_last2 X _ _ c)
theorem one_is {w : World} {b c : Nat} {i j : Int} {v : Bool} (h : w.heap[b]? = some (.map (one i j v) c)) : MapIs w b [((i, j), v)] := ⟨_, _, h, rfl⟩
def spotsAt (ms : List M) (k j : Nat) : Spots := (List.range j).map (fun (i : Nat) => (((k : Int), (i : Int)), !bitB (rd_T66 ms i).f1 k))
def spotsL (ms : List M) (k : Nat) : Spots := ((-1, -1), false) :: (List.range k).flatMap (fun t => spotsAt ms t ms.length)
theorem spotsL_succ (ms : List M) (k : Nat) : spotsL ms (k + 1) = spotsL ms k ++ spotsAt ms k ms.length := by simp [spotsL, List.range_succ, List.flatMap_append]
theorem spotsAt_succ (ms : List M) (k j : Nat) : spotsAt ms k (j + 1) = spotsAt ms k j ++ [(((k : Int), (j : Int)), !bitB (rd_T66 ms j).f1 k)] := by simp [spotsAt, List.range_succ]
theorem lk_none {l : Spots} {i j : Int} (h : ∀ x ∈ l, ¬ (i = x.1.1 ∧ j = x.1.2)) : lk l i j = none := by
  simp only [lk, Option.map_eq_none_iff, List.find?_eq_none]
  intro x hx
  have := h x hx
  simp only [Bool.and_eq_true, beq_iff_eq]
  exact this
theorem spots_new (ms : List M) (k j : Nat) : lk (spotsL ms k ++ spotsAt ms k j) (k : Int) (j : Int) = none := by
  apply lk_none
  intro x hx
  simp only [spotsL, List.cons_append, List.mem_cons, List.mem_append, List.mem_flatMap, List.mem_range, spotsAt, List.mem_map] at hx
  rcases hx with rfl | ⟨t, ht, i, hi, rfl⟩ | ⟨i, hi, rfl⟩
  · simp
    try omega
  · simp
    omega
  · simp
    omega
section
variable {P : Program} {ops : Array Oper} {rest : List Oper} {o : Oper} {a : Act} {Q : Exit → Act → World → Prop}
end
structure OpenedAt (w wc : World) (A0 : Option Addr) (n0 c0 : Nat) (A1 : Option Addr) (n1 c1 : Nat) (n : Int) (b g : Nat) (l : Spots) : Prop where
  map : MapIs wc b l
  low : w.heap.size ≤ b
  ne1 : b ≠ w.heap.size
  ne2 : b ≠ w.heap.size + 1
  ne3 : b ≠ g
  gne : g ≠ w.heap.size + 1
  glow : w.heap.size ≤ g
  box : wc.heap[w.heap.size]? = some (.cells #[.slice A0 n0 c0, .slice A1 n1 c1, .int .i64 n] 25 (0, 0))
  res : wc.heap[w.heap.size + 1]? = some (.cells #[.slice none 0 0, .slice none 0 0, .int .i64 0, .map none] 86 (0, 0))
  bk : wc.heap[g]? = some (.cells #[.slice A0 n0 c0, .slice A1 n1 c1, .int .i64 n, .map (some b)] 86 (0, 0))
  bel : Below w.heap.size w wc
theorem OpenedAt.step {w wc w' : World} {A0 : Option Addr} {n0 c0 : Nat} {A1 : Option Addr} {n1 c1 : Nat} {n : Int} {b g : Nat} {l l' : Spots} (h : OpenedAt w wc A0 n0 c0 A1 n1 c1 n b g l) (hm : MapIs w' b l') (hg : wc.grownBy w' (some b)) :
    OpenedAt w w' A0 n0 c0 A1 n1 c1 n b g l' :=
  ⟨hm, h.low, h.ne1, h.ne2, h.ne3, h.gne, h.glow, (hg.block _ (Array.getElem?_eq_some_iff.1 h.box).1 (fun e => h.ne1 (by injection e with e; exact e.symm))).trans h.box,
   (hg.block _ (Array.getElem?_eq_some_iff.1 h.res).1 (fun e => h.ne2 (by injection e with e; exact e.symm))).trans h.res, (hg.block _ (Array.getElem?_eq_some_iff.1 h.bk).1 (fun e => h.ne3 (by injection e with e; exact e.symm))).trans h.bk,
   h.bel.grown hg h.bel.size (fun k e => by injection e with e; subst e; exact h.low)⟩
theorem OpenedAt.grow {w wc w' : World} {A0 : Option Addr} {n0 c0 : Nat} {A1 : Option Addr} {n1 c1 : Nat} {n : Int} {b g : Nat} {l : Spots} (h : OpenedAt w wc A0 n0 c0 A1 n1 c1 n b g l) (hb : Below wc.heap.size wc w') :
    OpenedAt w w' A0 n0 c0 A1 n1 c1 n b g l :=
  ⟨h.map.below hb, h.low, h.ne1, h.ne2, h.ne3, h.gne, h.glow, (hb.block _ (Array.getElem?_eq_some_iff.1 h.box).1).trans h.box,
   (hb.block _ (Array.getElem?_eq_some_iff.1 h.res).1).trans h.res, (hb.block _ (Array.getElem?_eq_some_iff.1 h.bk).1).trans h.bk, below_then h.bel h.bel.size hb⟩
end Go.Proofs.YtikfghnkbgdbgaaDoor.Q
end
section
namespace Go.Proofs.YtikfghnkbgdbgaaDoor.Q
set_option linter.unusedSimpArgs false
set_option linter.unusedVariables false
open Go.RowKit Go.Proofs.YtikfghnkbgdbgaaDoorW.PrintWords Go.Proofs.YtikfghnkbgdbgaaDoorW.PrintLast Go.Proofs.YtikfghnkbgdbgaaDoorW.PrintMore
theorem heap_alloc_if (w : World) (o : Obj) (k : Nat) : (w.alloc o).heap[k]? = if k = w.heap.size then some o else w.heap[k]? := by
  show (w.heap.push o)[k]? = _
  rw [Array.getElem?_push]
theorem heap_drew (w : World) : w.drew.heap = w.heap := rfl
theorem opened_start1 (w : World) (A0 : Option Addr) (n0 c0 : Nat) (A1 : Option Addr) (n1 c1 : Nat) (n : Int) :
    OpenedAt w ((((w.alloc (.cells #[.slice A0 n0 c0, .slice A1 n1 c1, .int .i64 n] 25)).alloc (.cells #[.slice none 0 0, .slice none 0 0, .int .i64 0, .map none] 86)).alloc (.map (one (-1) (-1) false) 1)).alloc (.cells #[.slice A0 n0 c0, .slice A1 n1 c1, .int .i64 n, .map (some (w.heap.size + 1 + 1))] 86)).drew
      A0 n0 c0 A1 n1 c1 n (w.heap.size + 1 + 1) (w.heap.size + 1 + 1 + 1) [((-1, -1), false)] where
  map := one_is (c := 1) (by (simp only [heap_drew, heap_alloc_if, World.size_alloc]; repeat (first | rw [if_pos (by first | trivial | omega)] | rw [if_neg (by omega)])))
  low := by omega
  ne1 := by omega
  ne2 := by omega
  ne3 := by omega
  gne := by omega
  glow := by omega
  box := by (simp only [heap_drew, heap_alloc_if, World.size_alloc]; repeat (first | rw [if_pos (by first | trivial | omega)] | rw [if_neg (by omega)]))
  res := by (simp only [heap_drew, heap_alloc_if, World.size_alloc]; repeat (first | rw [if_pos (by first | trivial | omega)] | rw [if_neg (by omega)]))
  bk := by (simp only [heap_drew, heap_alloc_if, World.size_alloc]; repeat (first | rw [if_pos (by first | trivial | omega)] | rw [if_neg (by omega)]))
  bel := by
    refine Below.drew ?_
    exact ((((Below.refl _ w).alloc (Nat.le_refl _) _).alloc (by simp) _).alloc (by simp; omega) _).alloc (by simp; omega) _
theorem opened_start2 (w : World) (A0 : Option Addr) (n0 c0 : Nat) (A1 : Option Addr) (n1 c1 : Nat) (n : Int) :
    OpenedAt w ((((w.alloc (.cells #[.slice A0 n0 c0, .slice A1 n1 c1, .int .i64 n] 25)).alloc (.cells #[.slice none 0 0, .slice none 0 0, .int .i64 0, .map none] 86)).alloc (.cells #[.slice A0 n0 c0, .slice A1 n1 c1, .int .i64 n, .map (some (w.heap.size + 1 + 1 + 1))] 86)).alloc (.map (one (-1) (-1) false) 1)).drew
      A0 n0 c0 A1 n1 c1 n (w.heap.size + 1 + 1 + 1) (w.heap.size + 1 + 1) [((-1, -1), false)] where
  map := one_is (c := 1) (by (simp only [heap_drew, heap_alloc_if, World.size_alloc]; repeat (first | rw [if_pos (by first | trivial | omega)] | rw [if_neg (by omega)])))
  low := by omega
  ne1 := by omega
  ne2 := by omega
  ne3 := by omega
  gne := by omega
  glow := by omega
  box := by (simp only [heap_drew, heap_alloc_if, World.size_alloc]; repeat (first | rw [if_pos (by first | trivial | omega)] | rw [if_neg (by omega)]))
  res := by (simp only [heap_drew, heap_alloc_if, World.size_alloc]; repeat (first | rw [if_pos (by first | trivial | omega)] | rw [if_neg (by omega)]))
  bk := by (simp only [heap_drew, heap_alloc_if, World.size_alloc]; repeat (first | rw [if_pos (by first | trivial | omega)] | rw [if_neg (by omega)]))
  bel := by
    refine Below.drew ?_
    exact ((((Below.refl _ w).alloc (Nat.le_refl _) _).alloc (by simp) _).alloc (by simp; omega) _).alloc (by simp; omega) _
set_option maxHeartbeats 2000000 in
set_option maxRecDepth 100000 in
theorem opened_calls (ms : List M) (gs : List G) (A0 : Option Addr) (c0 : Nat) (A1 : Option Addr) (c1 : Nat) (n : Int) (w : World) (hG : GV w) (hr0 : Kd.C k66 w A0 ms.length ms) (hm4 : ms.length ≤ 4) (hn0 : 0 ≤ n) (hn4 : n ≤ 4) :
    Calls Tryd.prog 90 #[.agg #[.slice A0 ms.length c0, .slice A1 gs.length c1, .int .i64 n]] w fun e w' =>
      ∃ b, e = .returned (.agg #[.slice A0 ms.length c0, .slice A1 gs.length c1, .int .i64 n, .map (some b)]) ∧ MapIs w' b (spotsL ms n.toNat) ∧ w.heap.size ≤ b ∧ Below w.heap.size w w' := by
  have hg0 := hG.1
  have hg1 := hG.2.1
  have hlt0 : 0 < w.heap.size := World.block_lt_of_cell? w _ hg0
  have hmm := @run_makeMap Tryd.prog
  have HR := Aside0.mk hr0
  clear hG hr0
  obtain ⟨N, rfl⟩ := Int.eq_ofNat_of_zero_le hn0
  rw [Int.toNat_natCast]
  go_enter Tryd.func90, Tryd.ntmps90
  go_wp2
  go_cut [3] (fun v3 wc => ∃ b g, v3 = .pointer (some ⟨g, 0, none⟩) ∧ Aside0 (OpenedAt w wc A0 ms.length c0 A1 gs.length c1 N b g (spotsL ms 0)))
  case first =>
    have p1 := put_new ((w.alloc (.cells #[.slice A0 ms.length c0, .slice A1 gs.length c1, .int .i64 N] 25)).alloc (.cells #[.slice none 0 0, .slice none 0 0, .int .i64 0, .map none] 86)) (w.heap.size + 1 + 1) (by simp) (-1) (-1) false
    have p2 := put_new2 ((w.alloc (.cells #[.slice A0 ms.length c0, .slice A1 gs.length c1, .int .i64 N] 25)).alloc (.cells #[.slice none 0 0, .slice none 0 0, .int .i64 0, .map none] 86)) (.cells #[.slice none 0 0, .slice none 0 0, .int .i64 0, .map none] 86) (w.heap.size + 1 + 1) (by simp) (-1) (-1) false
    have p3 := put_new (((w.alloc (.cells #[.slice A0 ms.length c0, .slice A1 gs.length c1, .int .i64 N] 25)).alloc (.cells #[.slice none 0 0, .slice none 0 0, .int .i64 0, .map none] 86)).alloc (.cells #[.slice none 0 0, .slice none 0 0, .int .i64 0, .map none] 86)) (w.heap.size + 1 + 1 + 1) (by simp) (-1) (-1) false
    go_region
    all_goals clear p1 p2 p3
    all_goals go_wp2
    all_goals
      go_meet
      case rel => first | exact ⟨_, _, rfl, ⟨opened_start1 w _ _ _ _ _ _ _⟩⟩ | exact ⟨_, _, rfl, ⟨opened_start2 w _ _ _ _ _ _ _⟩⟩
  case rest =>
    obtain ⟨b, g, rfl, HO⟩ := hcut
    clear hg0 hg1 hlt0 hmm
    have hbx2 : wc.cell? ⟨w.heap.size, 2, none⟩ = some (.int .i64 N) := (blk_cell HO.out.box 2).trans rfl
    go_wp2
    clear hbx2
    go_loopw [14] (fun v14 wr => ∃ k : Nat, k ≤ N ∧ v14 = .int .i64 k ∧ Aside0 (OpenedAt w wr A0 ms.length c0 A1 gs.length c1 N b g (spotsL ms k))) (fun v14 _ => N - (intOf v14).toNat)
    case atStart => exact ⟨0, Nat.zero_le _, rfl, HO⟩
    case round =>
      obtain ⟨k, hk, rfl, HK⟩ := hrel
      by_cases hlt : k < N
      · have hbx0 : wr.cell? ⟨w.heap.size, 0, none⟩ = some (.slice A0 ms.length c0) := (blk_cell HK.out.box 0).trans rfl
        go_wp2
        clear hbx0

        go_loopw [20] (fun v20 wi => ∃ j : Nat, j ≤ ms.length ∧ v20 = .int .i64 j ∧ Aside0 (OpenedAt w wi A0 ms.length c0 A1 gs.length c1 N b g (spotsL ms k ++ spotsAt ms k j))) (fun v20 _ => ms.length - (intOf v20).toNat)
        case atStart => exact ⟨0, Nat.zero_le _, rfl, ⟨by simpa [spotsAt] using HK.out⟩⟩
        case round =>
          obtain ⟨j, hj, rfl, HJ⟩ := hrel
          by_cases hlj : j < ms.length
          · obtain ⟨ad, rfl, hc0, hc1, hc2⟩ := at_T66 (Kd.C_below HR.out HJ.out.bel) (j : Int) (by omega) (by omega)
            rw [Int.toNat_natCast] at hc0 hc1 hc2
            go_wp2
            have hgb3 : wr.cell? ⟨g, 3, none⟩ = some (.map (some b)) := (blk_cell HJ.out.bk 3).trans rfl
            have hgl : g < wr.heap.size := (Array.getElem?_eq_some_iff.1 HJ.out.bk).1
            clear hc0 hc1 hc2
            have HJ2 := Aside0.mk (HJ.out.grow (w' := (wr.alloc (.cells #[.int .i64 (rd_T66 ms j).f0.f0, .int .i64 (rd_T66 ms j).f0.f1, .int .i64 (rd_T66 ms j).f1] 66)).drew) (Below.drew ((Below.refl _ wr).alloc (Nat.le_refl _) _)))
            obtain ⟨W3, hrun, hm3, hg3⟩ := run_put HJ2.out.map (k : Int) (j : Int) (bits BinOp.and IntKind.i64 ((rd_T66 ms j).f1 / 2 ^ k) 1 == 0) (spots_new ms k j)
            have HM3 := Aside0.mk (HJ2.out.step hm3 hg3)
            clear hm3 hg3 HJ2
            go_region
            go_wp2
            go_roundw
            case rel => exact ⟨j + 1, by omega, by go_num, ⟨by rw [spotsAt_succ, ← List.append_assoc]; simpa [bitB] using HM3.out⟩⟩
            case measure => simp [intOf]; omega
          · obtain rfl : j = ms.length := by omega
            go_wp2
            go_roundw
            case rel => exact ⟨k + 1, by omega, by go_num, ⟨by rw [spotsL_succ]; exact HJ.out⟩⟩
            case measure => simp [intOf]; omega
      · obtain rfl : k = N := by omega
        have hgb0 : wr.cell? ⟨g, 0, none⟩ = some (.slice A0 ms.length c0) := (blk_cell HK.out.bk 0).trans rfl
        have hgb1 : wr.cell? ⟨g, 1, none⟩ = some (.slice A1 gs.length c1) := (blk_cell HK.out.bk 1).trans rfl
        have hgb2 : wr.cell? ⟨g, 2, none⟩ = some (.int .i64 k) := (blk_cell HK.out.bk 2).trans rfl
        have hgb3 : wr.cell? ⟨g, 3, none⟩ = some (.map (some b)) := (blk_cell HK.out.bk 3).trans rfl
        have hs0 : wr.cell? ⟨w.heap.size + 1, 0, none⟩ = some (.slice none 0 0) := (blk_cell HK.out.res 0).trans rfl
        have hs1 : wr.cell? ⟨w.heap.size + 1, 1, none⟩ = some (.slice none 0 0) := (blk_cell HK.out.res 1).trans rfl
        have hs2 : wr.cell? ⟨w.heap.size + 1, 2, none⟩ = some (.int .i64 0) := (blk_cell HK.out.res 2).trans rfl
        have hs3 : wr.cell? ⟨w.heap.size + 1, 3, none⟩ = some (.map none) := (blk_cell HK.out.res 3).trans rfl
        have hf0 := blk_frozen HK.out.res 0
        have hf1 := blk_frozen HK.out.res 1
        have hf2 := blk_frozen HK.out.res 2
        have hf3 := blk_frozen HK.out.res 3
        go_wp2
        refine bodyPost_ret (v := .agg #[.slice A0 ms.length c0, .slice A1 gs.length c1, .int .i64 k, .map (some b)]) (by simp [results, Tryd.results90, go_sem, hs0, hs1, hs2, hs3]) rfl ⟨b, rfl, ?_, HK.out.low, ?_⟩
        · refine HK.out.map.kept ?_
          rw [Below.heap_setCell _ _ _ _ HK.out.ne2, Below.heap_setCell _ _ _ _ HK.out.ne2, Below.heap_setCell _ _ _ _ HK.out.ne2, Below.heap_setCell _ _ _ _ HK.out.ne2]
        · exact (((HK.out.bel.setCell (by simp) _).setCell (by simp) _).setCell (by simp) _).setCell (by simp) _
end Go.Proofs.YtikfghnkbgdbgaaDoor.Q
end
section
namespace Go.Proofs.YtikfghnkbgdbgaaDoor.Q
set_option linter.unusedSimpArgs false
set_option linter.unusedVariables false
open Go.RowKit Go.Proofs.YtikfghnkbgdbgaaDoorW.PrintWords Go.Proofs.YtikfghnkbgdbgaaDoorW.PrintLast Go.Proofs.YtikfghnkbgdbgaaDoorW.PrintMore
theorem within_f (a b c : Int) : gang_within.f a b c = some (within a b c) := by
  unfold gang_within.f within
  by_cases h : b ≤ a <;> simp [h]
theorem within_quiet (a b c : Int) (r : Bool) (hr : within a b c = r) (w : World) (n : Nat) : Calls Tryd.prog 62 #[.int .i64 a, .int .i64 b, .int .i64 c] (w.drewN n) fun e w'' => e = .returned (.bool r) ∧ ∃ m, w'' = w.drewN m :=
  Calls.quiet_of ((gang_within.calls a b c r (w.drewN n) (by rw [within_f, hr])).mono fun e w' ⟨he, hd⟩ => ⟨he, hd.out⟩)
theorem lk_spots (ms : List M) (n : Nat) (i j : Int) : (lk (spotsL ms n) i j).getD false = openB ms n i j := by
  by_cases h : 0 ≤ i ∧ i < n ∧ 0 ≤ j ∧ j < ms.length
  · obtain ⟨h1, h2, h3, h4⟩ := h
    have : lk (spotsL ms n) i j = some (!bitB (rd_T66 ms j).f1 i) := by
      have key : ∀ m : Nat, i < m → m ≤ n → lk (spotsL ms m) i j = some (!bitB (rd_T66 ms j).f1 i) := by
        intro m hm hmn
        induction m with
        | zero => omega
        | succ m ih =>
          rw [spotsL_succ]
          simp only [lk, List.find?_append]
          by_cases hi : i < m
          · have := ih hi (by omega)
            simp only [lk, Option.map_eq_some_iff] at this
            obtain ⟨x, hx, hx2⟩ := this
            rw [hx]; simp [hx2]
          · obtain rfl : i = m := by omega
            have h0 : (spotsL ms m).find? (fun x => (m : Int) == x.1.1 && (j == x.1.2)) = none := by
              rw [List.find?_eq_none]
              intro x hx
              simp only [spotsL, List.mem_cons, List.mem_flatMap, List.mem_range, spotsAt, List.mem_map] at hx
              rcases hx with rfl | ⟨t, ht, q, hq, rfl⟩
              · simp
                try omega
              · simp
                try omega
            rw [h0, Option.none_or]
            have key2 : ∀ q : Nat, j < q → q ≤ ms.length → ((spotsAt ms m q).find? (fun x => (m : Int) == x.1.1 && (j == x.1.2))).map (·.2) = some (!bitB (rd_T66 ms j).f1 m) := by
              intro q hq hql
              induction q with
              | zero => omega
              | succ q ih2 =>
                rw [spotsAt_succ]
                simp only [List.find?_append]
                by_cases hj : j < q
                · have := ih2 hj (by omega)
                  simp only [Option.map_eq_some_iff] at this
                  obtain ⟨x, hx, hx2⟩ := this
                  rw [hx]; simp [hx2]
                · obtain rfl : j = q := by omega
                  have h0 : (spotsAt ms m q).find? (fun x => (m : Int) == x.1.1 && ((q : Int) == x.1.2)) = none := by
                    rw [List.find?_eq_none]
                    intro x hx
                    simp only [spotsAt, List.mem_map, List.mem_range] at hx
                    obtain ⟨y, hy, rfl⟩ := hx
                    simp; omega
                  rw [h0, Option.none_or]
                  simp
            exact key2 ms.length h4 (Nat.le_refl _)
      exact key n h2 (Nat.le_refl _)
    rw [this]
    simp [openB, h1, h2, h3, h4]
  · have h0 : openB ms n i j = false := by
      simp only [openB]
      by_cases a : 0 ≤ i <;> by_cases b : i < (n : Int) <;> by_cases c : 0 ≤ j <;> by_cases d : j < (ms.length : Int) <;> simp [a, b, c, d]
      exact absurd ⟨a, b, c, d⟩ h
    rw [h0]
    cases hl : lk (spotsL ms n) i j with
    | none => rfl
    | some v =>
      simp only [lk, Option.map_eq_some_iff] at hl
      obtain ⟨x, hx, rfl⟩ := hl
      have hm := List.mem_of_find?_eq_some hx
      have hp := List.find?_some hx
      simp only [spotsL, List.mem_cons, List.mem_flatMap, List.mem_range, spotsAt, List.mem_map] at hm
      rcases hm with rfl | ⟨t, ht, q, hq, rfl⟩
      · rfl
      · simp at hp
        exact absurd ⟨by omega, by omega, by omega, by omega⟩ h
theorem look_at {w W : World} {b : Nat} {ms : List M} {N : Nat} (hm : MapIs w b (spotsL ms N)) (hB : Below w.heap.size w W) (i j : Int) :
    ∀ nq, (Instr.lookup 84 (.map (some b)) (.agg #[.int .i64 i, .int .i64 j]) false).run Tryd.prog (W.drewN nq) = .ok (.bool (openB ms N i j)) (W.drewN nq) := fun nq => by
  rw [← lk_spots]
  exact run_look (hm.below (pw_below_drewN hB nq)) i j
end Go.Proofs.YtikfghnkbgdbgaaDoor.Q
end
section
namespace Go.Proofs.YtikfghnkbgdbgaaDoor.Q
set_option linter.unusedSimpArgs false
set_option linter.unusedVariables false
open Go.RowKit Go.Proofs.YtikfghnkbgdbgaaDoorW.PrintWords Go.Proofs.YtikfghnkbgdbgaaDoorW.PrintLast Go.Proofs.YtikfghnkbgdbgaaDoorW.PrintMore
attribute [local go_sem high] eqSpot
set_option maxHeartbeats 2000000 in
set_option maxRecDepth 100000 in
theorem can_calls (ms : List M) (gs : List G) (A0 : Option Addr) (c0 : Nat) (A1 : Option Addr) (c1 : Nat) (n : Int) (b : Nat) (x0 x1 x2 : Int) (w : World) (hr1 : Kd.C k63 w A1 gs.length gs) (hn0 : 0 ≤ n) (hm : MapIs w b (spotsL ms n.toNat)) (hG : GV w) (hg2 : gs.length ≤ 2) :
    Calls Tryd.prog 63 #[.agg #[.slice A0 ms.length c0, .slice A1 gs.length c1, .int .i64 n, .map (some b)], .agg #[.int .i64 x0, .int .i64 x1, .int .i64 x2]] w fun e w' =>
      e = .returned (.bool (canB ms gs n ⟨x0, x1, x2⟩)) ∧ Below w.heap.size w w' := by
  have hg0 := hG.1
  have hg1 := hG.2.1
  have hlt0 : 0 < w.heap.size := World.block_lt_of_cell? w _ hg0
  have HR := Aside0.mk hr1
  obtain ⟨N, rfl⟩ := Int.eq_ofNat_of_zero_le hn0
  rw [Int.toNat_natCast] at hm
  have HM := Aside0.mk hm
  clear hG hr1 hm
  have HB := Aside0.mk (((Below.refl w.heap.size w).alloc (Nat.le_refl _) (.cells #[.slice A0 ms.length c0, .slice A1 gs.length c1, .int .i64 N, .map (some b)] 86)).alloc (by simp) (.cells #[.int .i64 x0, .int .i64 x1, .int .i64 x2] 59) |>.alloc (by simp; omega) (.cells #[.int .i64 x0, .int .i64 x2] 116))
  have hlk := look_at HM.out HB.out x0 x2
  have hfin : ∀ nq, Below w.heap.size w (World.drewN _ nq) := fun nq => pw_below_drewN HB.out nq
  have HF := Aside0.mk hfin
  clear hfin
  cases h1 : (x0 == -1 && (x2 == -1)) with
  | true =>
    have hb : canB ms gs N ⟨x0, x1, x2⟩ = false := by
      have : x0 = -1 := by simp at h1; exact h1.1
      subst this
      simp [canB, openB]
    have Hb := Aside0.mk hb
    clear hb
    have hx0 : x0 = -1 := by simp at h1; exact h1.1
    have hx2 : x2 = -1 := by simp at h1; exact h1.2
    subst hx0 hx2
    clear h1
    go_enter Tryd.func63, Tryd.ntmps63
    go_wp2
    go_quiet (fail)
    go_wp2
    go_ret
    exact ⟨by first | (rw [Hb.out]; done) | (rw [Hb.out]; rfl), HF.out _⟩
  | false =>
    cases h2 : openB ms N x0 x2 with
    | false =>
      have hb : canB ms gs N ⟨x0, x1, x2⟩ = false := by simp [canB, h2]
      have Hb := Aside0.mk hb
      clear hb
      rw [h2] at hlk
      clear h2
      go_enter Tryd.func63, Tryd.ntmps63
      go_wp2
      go_quiet (fail)
      go_wp2
      go_ret
      exact ⟨by first | (rw [Hb.out]; done) | (rw [Hb.out]; rfl), HF.out _⟩
    | true =>
      rw [h2] at hlk
      cases h3 : within x1 0 ((gs.length : Int) - 1) with
      | false =>
        have hb : canB ms gs N ⟨x0, x1, x2⟩ = false := by
          simp only [within, Bool.and_eq_false_iff, decide_eq_false_iff_not] at h3
          simp only [canB, h2, Bool.true_and, Bool.and_eq_false_iff, decide_eq_false_iff_not]
          omega
        have Hb := Aside0.mk hb
        clear hb h2
        go_enter Tryd.func63, Tryd.ntmps63
        go_wp2
        go_quiet ((go_at_call 62; exact within_quiet _ _ _ _ rfl _ _))
        go_wp2
        go_ret
        exact ⟨by first | (rw [Hb.out]; done) | (rw [Hb.out]; rfl), HF.out _⟩
      | true =>
        have hx1 : 0 ≤ x1 ∧ x1 < gs.length := by simp [within] at h3; omega
        have hb : canB ms gs N ⟨x0, x1, x2⟩ = within x2 (rd_T63 gs x1).f0 (rd_T63 gs x1).f1 := by
          simp [canB, h2, hx1.1, hx1.2, within]
        have Hb := Aside0.mk hb
        clear hb h2
        obtain ⟨ad, rfl, hc0, hc1, hc2, hc3⟩ := at_T63 (Kd.C_below HR.out HB.out) x1 hx1.1 hx1.2
        have hx10 := hx1.1
        have hx11 := hx1.2
        clear hx1 hc2 hc3
        go_enter Tryd.func63, Tryd.ntmps63
        go_wp2
        go_quiet ((go_at_call 62; exact within_quiet _ _ _ _ rfl _ _))
        go_wp2
        go_ret
        exact ⟨by first | (rw [Hb.out]; done) | (rw [Hb.out]; rfl), HF.out _⟩
end Go.Proofs.YtikfghnkbgdbgaaDoor.Q
end
section
namespace Go.Proofs.YtikfghnkbgdbgaaDoor.Q
set_option linter.unusedSimpArgs false
set_option linter.unusedVariables false
open Go.RowKit Go.Proofs.YtikfghnkbgdbgaaDoorW.PrintWords Go.Proofs.YtikfghnkbgdbgaaDoorW.PrintLast Go.Proofs.YtikfghnkbgdbgaaDoorW.PrintMore
theorem canB_bounds {ms : List M} {gs : List G} {n : Int} {x : Wk} (h : canB ms gs n x = true) : (0 ≤ x.f0 ∧ x.f0 < n) ∧ (0 ≤ x.f1 ∧ x.f1 < gs.length) ∧ (0 ≤ x.f2 ∧ x.f2 < ms.length) := by
  simp only [canB, openB, Bool.and_eq_true, decide_eq_true_eq] at h
  omega
def W3 (p : List Wk) (k : Nat) : Wk := rd_T59 p k
theorem drop_W3 (p : List Wk) (k : Nat) (h : k < p.length) : p.drop k = W3 p k :: p.drop (k + 1) := by
  rw [List.drop_eq_getElem_cons h]
  simp [W3, rd_T59, List.getD_eq_getElem?_getD, List.getElem?_eq_getElem h]
theorem take_W3 (p : List Wk) (k : Nat) (h : k < p.length) : p.take (k + 1) = p.take k ++ [W3 p k] := by
  rw [List.take_succ_eq_append_getElem h]
  simp [W3, rd_T59, List.getD_eq_getElem?_getD, List.getElem?_eq_getElem h]
structure PlanAt (ms : List M) (gs : List G) (n : Int) (p : List Wk) (k : Nat) : Prop where
  rest : planB ms gs n p = planFrom ms gs n (p.take k) (p.drop k)
  had : ∀ j, j < k → canB ms gs n (W3 p j) = true
theorem PlanAt.start (ms : List M) (gs : List G) (n : Int) (p : List Wk) : PlanAt ms gs n p 0 := ⟨rfl, fun j h => absurd h (by omega)⟩
theorem PlanAt.no {ms : List M} {gs : List G} {n : Int} {p : List Wk} {k : Nat} (h : PlanAt ms gs n p k) (hk : k < p.length) (hc : canB ms gs n (W3 p k) = false) : planB ms gs n p = false := by
  rw [h.rest, drop_W3 p k hk]; simp [planFrom, hc]
theorem take_all (p : List Wk) (f : Wk → Bool) (k : Nat) (hk : k ≤ p.length) : (p.take k).all f = true ↔ ∀ j, j < k → f (W3 p j) = true := by
  induction k with
  | zero => simp
  | succ k ih =>
    rw [take_W3 p k (by omega), List.all_append, Bool.and_eq_true, ih (by omega)]
    simp only [List.all_cons, List.all_nil, Bool.and_true]
    constructor
    · rintro ⟨h1, h2⟩ j hj
      by_cases e : j = k
      · rw [e]; exact h2
      · exact h1 j (by omega)
    · intro h
      exact ⟨fun j hj => h j (by omega), h k (by omega)⟩
theorem PlanAt.bad {ms : List M} {gs : List G} {n : Int} {p : List Wk} {k j : Nat} (h : PlanAt ms gs n p k) (hk : k < p.length) (hj : j < k) (hc : behindB (W3 p j) (W3 p k) = false) : planB ms gs n p = false := by
  rw [h.rest, drop_W3 p k hk]
  have : (p.take k).all (fun y => behindB y (W3 p k)) = false := by
    cases e : (p.take k).all (fun y => behindB y (W3 p k)) with
    | false => rfl
    | true =>
      have := (take_all p _ k (by omega)).1 e j hj
      rw [hc] at this; cases this
  simp [planFrom, this]
theorem PlanAt.next {ms : List M} {gs : List G} {n : Int} {p : List Wk} {k : Nat} (h : PlanAt ms gs n p k) (hk : k < p.length) (hc : canB ms gs n (W3 p k) = true) (ha : ∀ j, j < k → behindB (W3 p j) (W3 p k) = true) : PlanAt ms gs n p (k + 1) := by
  refine ⟨?_, fun j hj => ?_⟩
  · rw [h.rest, drop_W3 p k hk, take_W3 p k hk]
    have := (take_all p (fun y => behindB y (W3 p k)) k (by omega)).2 ha
    simp [planFrom, hc, this]
  · by_cases e : j = k
    · rw [e]; exact hc
    · exact h.had j (by omega)
theorem PlanAt.end_ {ms : List M} {gs : List G} {n : Int} {p : List Wk} (h : PlanAt ms gs n p p.length) : planB ms gs n p = true := by
  rw [h.rest]; simp [planFrom]
theorem within_calls (a b c : Int) (r : Bool) (hr : within a b c = r) (w : World) : Calls Tryd.prog 62 #[.int .i64 a, .int .i64 b, .int .i64 c] w fun e w' => e = .returned (.bool r) ∧ Below w.heap.size w w' :=
  (gang_within.calls a b c r w (by rw [within_f, hr])).mono fun e w' ⟨he, hd⟩ => ⟨he, hd.below⟩
structure BoxAt (w wr : World) (A0 : Option Addr) (n0 c0 : Nat) (A1 : Option Addr) (n1 c1 : Nat) (n : Int) (b : Nat) (g : Nat) : Prop where
  box : wr.heap[g]? = some (.cells #[.slice A0 n0 c0, .slice A1 n1 c1, .int .i64 n, .map (some b)] 86 (0, 0))
  bel : Below w.heap.size w wr
theorem BoxAt.step {w wr w' : World} {A0 : Option Addr} {n0 c0 : Nat} {A1 : Option Addr} {n1 c1 : Nat} {n : Int} {b g : Nat} (h : BoxAt w wr A0 n0 c0 A1 n1 c1 n b g) (hb : Below wr.heap.size wr w') : BoxAt w w' A0 n0 c0 A1 n1 c1 n b g :=
  ⟨(hb.block _ (Array.getElem?_eq_some_iff.1 h.box).1).trans h.box, below_then h.bel h.bel.size hb⟩
set_option maxHeartbeats 4000000 in
set_option maxRecDepth 100000 in
theorem isPlan_calls (ms : List M) (gs : List G) (A0 : Option Addr) (c0 : Nat) (A1 : Option Addr) (c1 : Nat) (n : Int) (b : Nat) (A2 : Option Addr) (c2 : Nat) (p : List Wk) (w : World) (hr1 : Kd.C k63 w A1 gs.length gs) (hr2 : Kd.C k59 w A2 p.length p) (hc2 : p.length ≤ c2)
    (hn0 : 0 ≤ n) (hm : MapIs w b (spotsL ms n.toNat)) (hG : GV w) (hg2 : gs.length ≤ 2) (hm4 : ms.length ≤ 4) :
    Calls Tryd.prog 91 #[.agg #[.slice A0 ms.length c0, .slice A1 gs.length c1, .int .i64 n, .map (some b)], .slice A2 p.length c2] w fun e w' =>
      e = .returned (.bool (planB ms gs n p)) ∧ Below w.heap.size w w' := by
  have HR1 := Aside0.mk hr1
  have HR2 := Aside0.mk hr2
  have HM := Aside0.mk hm
  have HG := Aside0.mk hG
  have hpl : p.length ≤ 9223372036854775807 := hr2.2.1
  clear hr1 hr2 hm hG
  obtain ⟨i0, hi0, hz1, hsz, hz2⟩ := info_parts info59
  have HI := Aside0.mk hi0
  clear hi0 hsz hz1 hz2
  go_enter Tryd.func91, Tryd.ntmps91
  go_wp2
  go_loopw [11] (fun v11 wr => ∃ k : Nat, k ≤ p.length ∧ v11 = .int .i64 k ∧ Aside0 (PlanAt ms gs n p k) ∧ Aside0 (BoxAt w wr A0 ms.length c0 A1 gs.length c1 n b w.heap.size)) (fun v11 _ => p.length - (intOf v11).toNat)
  case atStart => exact ⟨0, Nat.zero_le _, rfl, ⟨PlanAt.start _ _ _ _⟩, ⟨⟨World.alloc_heap_new w _, (Below.refl _ w).alloc (Nat.le_refl _) _⟩⟩⟩
  case round =>
    obtain ⟨k, hk, rfl, HP, HX⟩ := hrel
    by_cases hlt : k < p.length
    · obtain ⟨ad, hA2, hx0, hx1, hx2⟩ := at_T59 (Kd.C_below HR2.out HX.out.bel) (k : Int) (by omega) (by omega)
      have HA2 := Aside0.mk hA2
      rw [Int.toNat_natCast] at hx0 hx1 hx2
      have hb0 : wr.cell? ⟨w.heap.size, 0, none⟩ = some (.slice A0 ms.length c0) := (blk_cell HX.out.box 0).trans rfl
      have hb1 : wr.cell? ⟨w.heap.size, 1, none⟩ = some (.slice A1 gs.length c1) := (blk_cell HX.out.box 1).trans rfl
      have hb2 : wr.cell? ⟨w.heap.size, 2, none⟩ = some (.int .i64 n) := (blk_cell HX.out.box 2).trans rfl
      have hb3 : wr.cell? ⟨w.heap.size, 3, none⟩ = some (.map (some b)) := (blk_cell HX.out.box 3).trans rfl
      have hbl : w.heap.size < wr.heap.size := (Array.getElem?_eq_some_iff.1 HX.out.box).1
      subst hA2
      clear HA2
      cases hc : canB ms gs n (W3 p k) with
      | false =>
        have HC := Aside0.mk hc
        clear hc
        go_wp2_with (fail)
        refine (can_calls ms gs A0 c0 A1 c1 n b _ _ _ _ ?s1 hn0 ?s2 ?s3 hg2).mono ?_
        case s1 => exact Kd.C_below HR1.out (HX.out.bel.alloc HX.out.bel.size _)
        case s2 => exact HM.out.below (HX.out.bel.alloc HX.out.bel.size _)
        case s3 => exact gv_below HG.out (HX.out.bel.alloc HX.out.bel.size _)
        rintro e w1 ⟨he, hb⟩
        rw [show canB ms gs n ⟨(rd_T59 p k).f0, (rd_T59 p k).f1, (rd_T59 p k).f2⟩ = false from HC.out] at he
        subst he
        have HB := Aside0.mk (below_then (HX.out.bel.alloc HX.out.bel.size _) (by simp; have := HX.out.bel.size; omega) hb)
        clear hb hx0 hx1 hx2 hb0 hb1 hb2 hb3 hbl
        go_wp2
        go_ret
        exact ⟨by rw [HP.out.no hlt HC.out]; first | done | rfl, HB.out⟩
      | true =>
        have HC := Aside0.mk hc
        have hxb := canB_bounds hc
        have hxb0 : 0 ≤ (rd_T59 p k).f2 := hxb.2.2.1
        have hxb1 : (rd_T59 p k).f2 < ms.length := hxb.2.2.2
        clear hc hxb
        go_wp2_with (fail)
        refine (can_calls ms gs A0 c0 A1 c1 n b _ _ _ _ ?s4 hn0 ?s5 ?s6 hg2).mono ?_
        case s4 => exact Kd.C_below HR1.out (HX.out.bel.alloc HX.out.bel.size _)
        case s5 => exact HM.out.below (HX.out.bel.alloc HX.out.bel.size _)
        case s6 => exact gv_below HG.out (HX.out.bel.alloc HX.out.bel.size _)
        rintro e w1 ⟨he, hb⟩
        rw [show canB ms gs n ⟨(rd_T59 p k).f0, (rd_T59 p k).f1, (rd_T59 p k).f2⟩ = true from HC.out] at he
        subst he
        have HX1 := Aside0.mk (HX.out.step (below_then ((Below.refl _ wr).alloc (Nat.le_refl _) _) (by simp) hb))
        have HBx := Aside0.mk (((hb.block wr.heap.size (by simp)).trans (World.alloc_heap_new wr _)))
        clear hb hx0 hx1 hx2 hb0 hb1 hb2 hb3 hbl
        have hcut := cut_to (P := Tryd.prog) 26 59 .i64 Tryd.underlying26 HI.out (some ad) p.length c2 (k : Int) (by omega) (by omega) hc2
        rw [Int.toNat_natCast] at hcut
        go_wp2
        clear hcut
        go_loopw [24] (fun v24 wi => ∃ j : Nat, j ≤ k ∧ v24 = .int .i64 j ∧ Aside0 (∀ i, i < j → behindB (W3 p i) (W3 p k) = true) ∧ Aside0 (BoxAt w wi A0 ms.length c0 A1 gs.length c1 n b w.heap.size) ∧
          Aside0 (wi.heap[wr.heap.size]? = some (.cells #[.int .i64 (rd_T59 p k).f0, .int .i64 (rd_T59 p k).f1, .int .i64 (rd_T59 p k).f2] 59 (0, 0)))) (fun v24 _ => k - (intOf v24).toNat)
        case atStart => exact ⟨0, Nat.zero_le _, rfl, ⟨fun i h => absurd h (by omega)⟩, HX1, HBx⟩
        case round =>
          obtain ⟨j, hj, rfl, HA, HY, HZ⟩ := hrel
          by_cases hlj : j < k
          · have hyb := canB_bounds (HP.out.had j hlj)
            have hyb0 : 0 ≤ (rd_T59 p j).f2 := hyb.2.2.1
            have hyb1 : (rd_T59 p j).f2 < ms.length := hyb.2.2.2
            clear hyb
            obtain ⟨ad', hA2, hy0, hy1, hy2⟩ := at_T59 (Kd.C_below HR2.out HY.out.bel) (j : Int) (by omega) (by omega)
            obtain rfl : ad = ad' := Option.some.inj hA2
            clear hA2
            rw [Int.toNat_natCast] at hy0 hy1 hy2
            have hz0 : wr.cell? ⟨_, 0, none⟩ = some (.int .i64 (rd_T59 p k).f0) := (blk_cell HZ.out 0).trans rfl
            have hz1 : wr.cell? ⟨_, 1, none⟩ = some (.int .i64 (rd_T59 p k).f1) := (blk_cell HZ.out 1).trans rfl
            have hz2 : wr.cell? ⟨_, 2, none⟩ = some (.int .i64 (rd_T59 p k).f2) := (blk_cell HZ.out 2).trans rfl
            have hzl := (Array.getElem?_eq_some_iff.1 HZ.out).1
            have HY2 := Aside0.mk (HY.out.step ((Below.refl _ wr).alloc (Nat.le_refl _) (.cells #[.int .i64 (rd_T59 p j).f0, .int .i64 (rd_T59 p j).f1, .int .i64 (rd_T59 p j).f2] 59)))
            by_cases e1 : (rd_T59 p k).f0 < (rd_T59 p j).f0
            · have HF := Aside0.mk (HP.out.bad hlt hlj (by simp [behindB, W3, e1]))
              go_wp2
              go_ret
              exact ⟨by rw [HF.out]; first | done | rfl, HY2.out.bel⟩
            · by_cases e2 : (rd_T59 p j).f0 = (rd_T59 p k).f0
              · have e2b : ((rd_T59 p j).f0 == (rd_T59 p k).f0) = true := beq_iff_eq.2 e2
                have E2 := Aside0.mk e2
                clear e2
                by_cases e3 : (rd_T59 p k).f1 ≤ (rd_T59 p j).f1
                · have HF := Aside0.mk (HP.out.bad hlt hlj (by simp [behindB, W3, E2.out, e3]))
                  go_wp2
                  go_ret
                  exact ⟨by rw [HF.out]; first | done | rfl, HY2.out.bel⟩
                · cases e4 : within ((rd_T59 p k).f2 - (rd_T59 p j).f2) (-1) 1 with
                  | true =>
                    have HF := Aside0.mk (HP.out.bad hlt hlj (by simp [within] at e4; simp [behindB, W3, E2.out, e4]))
                    have E4 := Aside0.mk e4
                    clear e4
                    go_wp2_with (fail)
                    refine (within_calls _ _ _ true E4.out _).mono ?_
                    rintro e w2 ⟨rfl, hb⟩
                    have HB := Aside0.mk (below_then HY2.out.bel HY2.out.bel.size hb)
                    clear hb hy0 hy1 hy2 hz0 hz1 hz2 hzl
                    go_wp2
                    go_ret
                    exact ⟨by rw [HF.out]; first | done | rfl, HB.out⟩
                  | false =>
                    have HF : Aside0 (behindB (W3 p j) (W3 p k) = true) := ⟨by
                      have q1 : decide ((rd_T59 p j).f0 > (rd_T59 p k).f0) = false := decide_eq_false (by omega)
                      have q2 : decide ((rd_T59 p j).f1 ≥ (rd_T59 p k).f1) = false := decide_eq_false (by omega)
                      have q3 : (decide (-1 ≤ (rd_T59 p k).f2 - (rd_T59 p j).f2) && decide ((rd_T59 p k).f2 - (rd_T59 p j).f2 ≤ 1)) = false := e4
                      unfold behindB W3
                      rw [q1, q2, q3]
                      simp⟩
                    have E4 := Aside0.mk e4
                    clear e4
                    go_wp2_with (fail)
                    refine (within_calls _ _ _ false E4.out _).mono ?_
                    rintro e w2 ⟨rfl, hb⟩
                    have HY3 := Aside0.mk (HY2.out.step hb)
                    have HZ3 := Aside0.mk ((hb.block _ (by simp; omega)).trans ((Below.heap_alloc wr _ _ hzl).trans HZ.out))
                    clear hb hy0 hy1 hy2 hz0 hz1 hz2 hzl
                    go_wp2
                    go_roundw
                    case rel => exact ⟨j + 1, by omega, by go_num, ⟨fun i hi => by
                      by_cases q : i = j
                      · rw [q]; exact HF.out
                      · exact HA.out i (by omega)⟩, HY3, HZ3⟩
                    case measure => simp [intOf]; omega
              · have e2b : ((rd_T59 p j).f0 == (rd_T59 p k).f0) = false := beq_eq_false_iff_ne.2 e2
                have HF : Aside0 (behindB (W3 p j) (W3 p k) = true) := ⟨by simp [behindB, W3, e2]; omega⟩
                have HZ3 := Aside0.mk ((Below.heap_alloc wr (.cells #[.int .i64 (rd_T59 p j).f0, .int .i64 (rd_T59 p j).f1, .int .i64 (rd_T59 p j).f2] 59) _ hzl).trans HZ.out)
                go_wp2
                go_roundw
                case rel => exact ⟨j + 1, by omega, by go_num, ⟨fun i hi => by
                    by_cases q : i = j
                    · rw [q]; exact HF.out
                    · exact HA.out i (by omega)⟩, HY2, HZ3⟩
                case measure => simp [intOf]; omega
          · obtain rfl : j = k := by omega
            go_wp2
            go_roundw
            case rel => exact ⟨j + 1, by omega, by go_num, ⟨HP.out.next hlt HC.out HA.out⟩, HY⟩
            case measure => simp [intOf]; omega
    · obtain rfl : k = p.length := by omega
      go_wp2
      go_ret
      exact ⟨by rw [HP.out.end_]; first | done | rfl, HX.out.bel⟩
end Go.Proofs.YtikfghnkbgdbgaaDoor.Q
end
section
namespace Go.Proofs.YtikfghnkbgdbgaaDoor.Q
set_option linter.unusedSimpArgs false
set_option linter.unusedVariables false
open Go.RowKit Go.Proofs.YtikfghnkbgdbgaaDoorW.PrintWords Go.Proofs.YtikfghnkbgdbgaaDoorW.PrintLast Go.Proofs.YtikfghnkbgdbgaaDoorW.PrintMore
theorem span_f (lo hi m : Int) (hm : m ≤ 100) : gang_isSpan.f lo hi m = some (spanB ⟨lo, hi⟩ m) := by
  unfold gang_isSpan.f spanB
  by_cases h1 : 1 ≤ lo
  · by_cases h2 : lo ≤ hi
    · by_cases h3 : hi ≤ m
      · have : wrap64 (hi - lo) = hi - lo := by unfold wrap64; omega
        simp [h1, h2, h3, this]
      · simp [h1, h2, h3]
    · simp [h1, h2]
  · simp [h1]
def mileB (x : M) : Bool := spanB x.f0 6 && decide (0 ≤ x.f1) && decide (x.f1 ≤ 15)
def gangB (m : Int) (x : G) : Bool := decide (0 ≤ x.f0) && decide (x.f0 ≤ x.f1) && decide (x.f1 < m) && spanB x.f2 3
theorem rd_drop_M (l : List M) (j : Nat) (h : j < l.length) : l.drop j = rd_T66 l j :: l.drop (j + 1) := by
  rw [List.drop_eq_getElem_cons h]; simp [rd_T66, List.getD_eq_getElem?_getD, List.getElem?_eq_getElem h]
theorem rd_drop_G (l : List G) (j : Nat) (h : j < l.length) : l.drop j = rd_T63 l j :: l.drop (j + 1) := by
  rw [List.drop_eq_getElem_cons h]; simp [rd_T63, List.getD_eq_getElem?_getD, List.getElem?_eq_getElem h]
theorem wrap_up {i n : Nat} (h : i < n) (hn : n ≤ 9223372036854775807) : wrap64 ((i : Int) + 1) = ((i + 1 : Nat) : Int) := by unfold wrap64; omega
theorem check_l1 (ms : List M) (gs : List G) (n : Int) (hg : gs.length ≤ 9223372036854775807) (d : Nat) : ∀ (k j : Nat) (b : Bool), gs.length - j = d → j ≤ gs.length → d < k →
    gang_Check.l1 k b gs (gs.length : Int) j ms gs n = some (if b && (gs.drop j).all (gangB ms.length) then 0 else 40) := by
  induction d with
  | zero =>
    intro k j b hd hj hk
    obtain ⟨k, rfl⟩ : ∃ m, k = m + 1 := ⟨k - 1, by omega⟩
    obtain rfl : j = gs.length := by omega
    simp only [gang_Check.l1]; rw [if_neg (by omega)]
    cases b <;> simp
  | succ d ih =>
    intro k j b hd hj hk
    obtain ⟨k, rfl⟩ : ∃ m, k = m + 1 := ⟨k - 1, by omega⟩
    have hlt : j < gs.length := by omega
    have hr := rd_drop_G gs j hlt
    simp only [gang_Check.l1]; rw [if_pos (by omega), if_pos (by omega), if_pos (by omega), wrap_up hlt hg, hr]
    have I := fun b => ih k (j + 1) b (by omega) (by omega) (by omega)
    cases b with
    | false =>
      rw [if_neg (by simp), I false]
      simp
    | true =>
      rw [if_pos rfl, within_f]
      simp only [Option.bind_some, List.all_cons, gangB]
      by_cases h1 : 0 ≤ (rd_T63 gs j).f0 <;> by_cases h2 : (rd_T63 gs j).f0 ≤ (rd_T63 gs j).f1
      · rw [show within (rd_T63 gs j).f0 0 (rd_T63 gs j).f1 = true by simp [within, h1, h2], if_pos rfl]
        by_cases h3 : (rd_T63 gs j).f1 < (ms.length : Int)
        · rw [if_pos h3, span_f _ _ _ (by omega)]
          simp only [Option.bind_some]
          rw [I]
          simp [h1, h2, h3]
          try rfl
        · rw [if_neg h3, I false]
          simp [h1, h2, h3]
      · rw [show within (rd_T63 gs j).f0 0 (rd_T63 gs j).f1 = false by simp [within, h1, h2], if_neg (by simp), I false]
        simp [h1, h2]
      · rw [show within (rd_T63 gs j).f0 0 (rd_T63 gs j).f1 = false by simp [within, h1, h2], if_neg (by simp), I false]
        simp [h1, h2]
      · rw [show within (rd_T63 gs j).f0 0 (rd_T63 gs j).f1 = false by simp [within, h1, h2], if_neg (by simp), I false]
        simp [h1, h2]
theorem check_l0 (ms : List M) (gs : List G) (n : Int) (hm : ms.length ≤ 9223372036854775807) (hg : gs.length ≤ 9223372036854775807) (d : Nat) : ∀ (k j : Nat) (b : Bool), ms.length - j = d → j ≤ ms.length → d + gs.length + 1 < k →
    gang_Check.l0 k b ms (ms.length : Int) j ms gs n = some (if b && (ms.drop j).all mileB && gs.all (gangB ms.length) then 0 else 40) := by
  induction d with
  | zero =>
    intro k j b hd hj hk
    obtain ⟨k, rfl⟩ : ∃ m, k = m + 1 := ⟨k - 1, by omega⟩
    obtain rfl : j = ms.length := by omega
    simp only [gang_Check.l0]; rw [if_neg (by omega)]
    refine (check_l1 ms gs n hg gs.length k 0 b (by omega) (by omega) (by omega)).trans ?_
    simp
  | succ d ih =>
    intro k j b hd hj hk
    obtain ⟨k, rfl⟩ : ∃ m, k = m + 1 := ⟨k - 1, by omega⟩
    have hlt : j < ms.length := by omega
    have hr := rd_drop_M ms j hlt
    simp only [gang_Check.l0]; rw [if_pos (by omega), if_pos (by omega), if_pos (by omega), wrap_up hlt hm, hr]
    have I := fun b => ih k (j + 1) b (by omega) (by omega) (by omega)
    cases b with
    | false =>
      rw [if_neg (by simp), I false]
      simp
    | true =>
      rw [if_pos rfl, span_f _ _ _ (by omega)]
      simp only [Option.bind_some, List.all_cons, mileB]
      by_cases h1 : spanB (rd_T66 ms j).f0 6 = true
      · rw [if_pos h1, within_f]
        simp only [Option.bind_some]
        rw [I]
        simp [h1, within]
      · rw [if_neg h1, I false]
        simp [h1]
theorem check_f (ms : List M) (gs : List G) (n : Int) (hm : ms.length ≤ 9223372036854775807) (hg : gs.length ≤ 9223372036854775807) : gang_Check.f (ms.length + gs.length + 3) ms gs n = some (if okB ms gs n = true then 0 else 40) := by
  have J : ∀ b, gang_Check.j0 (ms.length + gs.length + 3) b ms gs n = some (if b && ms.all mileB && gs.all (gangB ms.length) then 0 else 40) := fun b => by
    simp only [gang_Check.j0]
    refine (check_l0 ms gs n hm hg ms.length (ms.length + gs.length + 2) 0 b (by omega) (by omega) (by omega)).trans ?_
    simp
  unfold gang_Check.f
  rw [within_f, within_f, within_f]
  simp only [Option.bind_some, J]
  have e : okB ms gs n = (within ms.length 1 4 && within gs.length 1 2 && within n 1 4 && (ms.all mileB && gs.all (gangB ms.length))) := by
    have a1 : decide ((1 : Nat) ≤ ms.length) = decide ((1 : Int) ≤ (ms.length : Int)) := by congr 1; simp; omega
    have a2 : decide (ms.length ≤ 4) = decide ((ms.length : Int) ≤ 4) := by congr 1; simp; omega
    have a3 : decide ((1 : Nat) ≤ gs.length) = decide ((1 : Int) ≤ (gs.length : Int)) := by congr 1; simp; omega
    have a4 : decide (gs.length ≤ 2) = decide ((gs.length : Int) ≤ 2) := by congr 1; simp; omega
    unfold okB within
    rw [a1, a2, a3, a4, show (fun x : M => spanB x.f0 6 && decide (0 ≤ x.f1) && decide (x.f1 ≤ 15)) = mileB from rfl, show (fun x : G => decide (0 ≤ x.f0) && decide (x.f0 ≤ x.f1) && decide (x.f1 < (ms.length : Int)) && spanB x.f2 3) = gangB ms.length from rfl]
    simp only [Bool.and_assoc]
  rw [e]
  cases within (ms.length : Int) 1 4 <;> cases within (gs.length : Int) 1 2 <;> cases within n 1 4 <;> simp
end Go.Proofs.YtikfghnkbgdbgaaDoor.Q
end
section
namespace Go.Proofs.YtikfghnkbgdbgaaDoor.Q
set_option linter.unusedSimpArgs false
set_option linter.unusedVariables false
open Go.RowKit Go.Proofs.YtikfghnkbgdbgaaDoorW.PrintWords Go.Proofs.YtikfghnkbgdbgaaDoorW.PrintLast Go.Proofs.YtikfghnkbgdbgaaDoorW.PrintMore
theorem Ev.pos {α : Type} {c : Prop} [Decidable c] {f g : Nat → Option α} {r : α} (h : c) (k : Ev f r) : Ev (fun n => if c then f n else g n) r := by
  obtain ⟨K, k⟩ := k
  exact ⟨K, fun n hn => (if_pos h).trans (k n hn)⟩
theorem Ev.neg {α : Type} {c : Prop} [Decidable c] {f g : Nat → Option α} {r : α} (h : ¬ c) (k : Ev g r) : Ev (fun n => if c then f n else g n) r := by
  obtain ⟨K, k⟩ := k
  exact ⟨K, fun n hn => (if_neg h).trans (k n hn)⟩
theorem Ev.some {α : Type} {x : Option α} {r : α} (h : x = Option.some r) : Ev (fun _ => x) r := ⟨0, fun _ _ => h⟩
end Go.Proofs.YtikfghnkbgdbgaaDoor.Q
end
section
namespace Go.Proofs.YtikfghnkbgdbgaaDoor.Q
open Go.RowKit Go.Proofs.YtikfghnkbgdbgaaDoorW.PrintWords Go.Proofs.YtikfghnkbgdbgaaDoorW.PrintLast Go.Proofs.YtikfghnkbgdbgaaDoorW.PrintMore
attribute [local go_sem] max2_int min2_int max_two min_two max_three min_three max_four min_four   -- for this text's walks alone
set_option linter.unusedVariables false
set_option linter.unusedSimpArgs false
mutual
def macadamlaw04_sound.j0 : Nat → Bool → List (S66) → List (S63) → Int → Option (Bool)
 | 0, _, _, _, _ => none
 | k + 1, x3, x334000, x334001, x334002 => macadamlaw04_sound.l0 k x3 0 x334000 x334001 x334002
def macadamlaw04_sound.l0 : Nat → Bool → Int → List (S66) → List (S63) → Int → Option (Bool)
 | 0, _, _, _, _, _ => none
 | k + 1, x3, x4, x334000, x334001, x334002 => if x3 = true then (macadamlaw04_sound.j2 k x3 x4 (decide (x4 < (x334000.length : Int))) x334000 x334001 x334002) else (macadamlaw04_sound.j2 k x3 x4 false x334000 x334001 x334002)
def macadamlaw04_sound.j2 : Nat → Bool → Int → Bool → List (S66) → List (S63) → Int → Option (Bool)
 | 0, _, _, _, _, _, _ => none
 | k + 1, x3, x4, x34, x334000, x334001, x334002 => if x34 = true then (if 0 ≤ x4 then (if x4 < (x334000.length : Int) then ((macadamref00_Sane.f ((rd_T66 x334000 x4).f0.f0) ((rd_T66 x334000 x4).f0.f1) 1 6 2).bind fun t339 => (if t339 = true then ((macadamref00_Amid.f ((rd_T66 x334000 x4).f1) 0 15).bind fun t341 => (macadamlaw04_sound.l0 k t341 (wrap64 (x4 + 1)) x334000 x334001 x334002)) else (macadamlaw04_sound.l0 k false (wrap64 (x4 + 1)) x334000 x334001 x334002))) else (none)) else (none)) else (macadamlaw04_sound.l1 k x3 0 x334000 x334001 x334002)
def macadamlaw04_sound.l1 : Nat → Bool → Int → List (S66) → List (S63) → Int → Option (Bool)
 | 0, _, _, _, _, _ => none
 | k + 1, x3, x5, x334000, x334001, x334002 => if x3 = true then (macadamlaw04_sound.j4 k x3 x5 (decide (x5 < (x334001.length : Int))) x334000 x334001 x334002) else (macadamlaw04_sound.j4 k x3 x5 false x334000 x334001 x334002)
def macadamlaw04_sound.j4 : Nat → Bool → Int → Bool → List (S66) → List (S63) → Int → Option (Bool)
 | 0, _, _, _, _, _, _ => none
 | k + 1, x3, x5, x60, x334000, x334001, x334002 => if x60 = true then (if 0 ≤ x5 then (if x5 < (x334001.length : Int) then ((macadamref00_Amid.f ((rd_T63 x334001 x5).f0) 0 ((rd_T63 x334001 x5).f1)).bind fun t344 => (if t344 = true then (if ((rd_T63 x334001 x5).f1) < (x334000.length : Int) then ((macadamref00_Sane.f ((rd_T63 x334001 x5).f2.f0) ((rd_T63 x334001 x5).f2.f1) 1 3 2).bind fun t345 => (macadamlaw04_sound.l1 k t345 (wrap64 (x5 + 1)) x334000 x334001 x334002)) else (macadamlaw04_sound.l1 k false (wrap64 (x5 + 1)) x334000 x334001 x334002)) else (macadamlaw04_sound.l1 k false (wrap64 (x5 + 1)) x334000 x334001 x334002))) else (none)) else (none)) else (some x3)
end
def macadamlaw04_sound.f (k : Nat) (l0_0 : List (S66)) (l0_1 : List (S63)) (a0_2 : Int) : Option (Bool) := (gang_Check.f k l0_0 l0_1 a0_2).bind fun t334 => (if t334 = 0 then ((macadamref00_Amid.f (l0_0.length : Int) 1 4).bind fun t335 => (if t335 = true then ((macadamref00_Amid.f (l0_1.length : Int) 1 2).bind fun t336 => (if t336 = true then ((macadamref00_Amid.f a0_2 1 4).bind fun t337 => (macadamlaw04_sound.j0 k t337 l0_0 l0_1 a0_2)) else (macadamlaw04_sound.j0 k false l0_0 l0_1 a0_2))) else (macadamlaw04_sound.j0 k false l0_0 l0_1 a0_2))) else (macadamlaw04_sound.j0 k false l0_0 l0_1 a0_2))
set_option maxHeartbeats 8000000 in
set_option maxRecDepth 100000 in
theorem macadamlaw04_sound.calls (k : Nat) (A0_0 : Option Addr) (c0_0 : Nat) (l0_0 : List (S66)) (A0_1 : Option Addr) (c0_1 : Nat) (l0_1 : List (S63)) (a0_2 : Int) (r : Bool) (w : World) (hr0_0 : Kd.C k66 w A0_0 l0_0.length l0_0) (hc0_0 : l0_0.length ≤ c0_0) (hr0_1 : Kd.C k63 w A0_1 l0_1.length l0_1) (hc0_1 : l0_1.length ≤ c0_1) (h : macadamlaw04_sound.f k l0_0 l0_1 a0_2 = some r) :
  Calls Tryd.prog 38 #[.agg #[.slice A0_0 l0_0.length c0_0, .slice A0_1 l0_1.length c0_1, .int .i64 a0_2]] w fun e w' => e = .returned (.bool r) ∧ Below w.heap.size w w' := by
 have hu25 := Tryd.underlying25
 have hu40 := Tryd.underlying40
 have hu63 := Tryd.underlying63
 have HR0_0 := Aside0.mk hr0_0
 have HC0_0 := Aside0.mk hc0_0
 clear hr0_0 hc0_0
 have HR0_1 := Aside0.mk hr0_1
 have HC0_1 := Aside0.mk hc0_1
 clear hr0_1 hc0_1
 have HB := Aside0.mk (Below.refl w.heap.size w)
 have H : ((gang_Check.f k l0_0 l0_1 a0_2).bind fun t334 => (if t334 = 0 then ((macadamref00_Amid.f (l0_0.length : Int) 1 4).bind fun t335 => (if t335 = true then ((macadamref00_Amid.f (l0_1.length : Int) 1 2).bind fun t336 => (if t336 = true then ((macadamref00_Amid.f a0_2 1 4).bind fun t337 => (macadamlaw04_sound.j0 k t337 l0_0 l0_1 a0_2)) else (macadamlaw04_sound.j0 k false l0_0 l0_1 a0_2))) else (macadamlaw04_sound.j0 k false l0_0 l0_1 a0_2))) else (macadamlaw04_sound.j0 k false l0_0 l0_1 a0_2))) = some r := h
 clear h
 have HC2 := Aside0.mk H
 clear H
 go_enter Tryd.func38, Tryd.ntmps38
 go_upto_region 1 with (first | ((with_reducible refine gate_dst (N := 1) rfl ?_); (try (refine gate_guard (by rfl) ?_; dsimp only)); refine bx 1 #[.slice A0_0 l0_0.length c0_0, .slice A0_1 l0_1.length c0_1, .int .i64 a0_2] 25 ?_; intro gb333 hg w3 hbox hb; have n0_ := Aside0.mk (below_step (bw HB) hb); have n1_ := Aside0.mk (hbox); have n2_ := Aside0.mk (bz (bw HB) hg); have n3_ := Aside0.mk (bz (bw HB) hg); clear HB; have HB := n0_; have BK333 := n1_; have GW333 := n2_; have GE333 := n3_; clear n0_ n1_ n2_ n3_; clear hb hbox hg))
 (try simp only [Act.put, List.setIfInBounds_toArray, List.set_cons_zero, List.set_cons_succ])
 go_cut [3] (fun v3 wc => ∃ (kq : Nat) (x3_1 : Bool), v3 = .bool x3_1 ∧ Aside0 (macadamlaw04_sound.j0 kq x3_1 l0_0 l0_1 a0_2 = some r) ∧ Aside0 (kq ≤ k) ∧ Aside0 (wc.heap[gb333]? = some (.cells #[(.slice A0_0 l0_0.length c0_0), (.slice A0_1 l0_1.length c0_1), .int .i64 a0_2] 25 (0, 0))) ∧ Aside0 (Below w.heap.size w wc))
 case first =>
  have H := HC2.out
  clear HC2
  replace H := Option.bind_eq_some_iff.mp H
  obtain ⟨t334, A40, H⟩ := H
  replace H : (if t334 = 0 then ((macadamref00_Amid.f (l0_0.length : Int) 1 4).bind fun t335 => (if t335 = true then ((macadamref00_Amid.f (l0_1.length : Int) 1 2).bind fun t336 => (if t336 = true then ((macadamref00_Amid.f a0_2 1 4).bind fun t337 => (macadamlaw04_sound.j0 k t337 l0_0 l0_1 a0_2)) else (macadamlaw04_sound.j0 k false l0_0 l0_1 a0_2))) else (macadamlaw04_sound.j0 k false l0_0 l0_1 a0_2))) else (macadamlaw04_sound.j0 k false l0_0 l0_1 a0_2)) = some r := H
  have A4 := Aside0.mk A40
  clear A40
  by_cases c5 : t334 = 0
  ·rw [if_pos c5] at H
   have c5b0 : (t334 == 0) = true := beq_iff_eq.mpr c5
   have c5b1 : (t334 != 0) = false := bne_eq_false_iff_eq.mpr c5
   clear c5
   (first | rw [c5b0] | (simp only [i64_w, i32_w]; rw [c5b0]) | skip)
   replace H := Option.bind_eq_some_iff.mp H
   obtain ⟨t335, A60, H⟩ := H
   replace H : (if t335 = true then ((macadamref00_Amid.f (l0_1.length : Int) 1 2).bind fun t336 => (if t336 = true then ((macadamref00_Amid.f a0_2 1 4).bind fun t337 => (macadamlaw04_sound.j0 k t337 l0_0 l0_1 a0_2)) else (macadamlaw04_sound.j0 k false l0_0 l0_1 a0_2))) else (macadamlaw04_sound.j0 k false l0_0 l0_1 a0_2)) = some r := H
   have A6 := Aside0.mk A60
   clear A60
   by_cases c7 : t335 = true
   ·subst c7
    have H1 : ((macadamref00_Amid.f (l0_1.length : Int) 1 2).bind fun t336 => (if t336 = true then ((macadamref00_Amid.f a0_2 1 4).bind fun t337 => (macadamlaw04_sound.j0 k t337 l0_0 l0_1 a0_2)) else (macadamlaw04_sound.j0 k false l0_0 l0_1 a0_2))) = some r := by rw [if_pos rfl] at H; exact H
    clear H
    have H := H1
    clear H1
    replace H := Option.bind_eq_some_iff.mp H
    obtain ⟨t336, A80, H⟩ := H
    replace H : (if t336 = true then ((macadamref00_Amid.f a0_2 1 4).bind fun t337 => (macadamlaw04_sound.j0 k t337 l0_0 l0_1 a0_2)) else (macadamlaw04_sound.j0 k false l0_0 l0_1 a0_2)) = some r := H
    have A8 := Aside0.mk A80
    clear A80
    by_cases c9 : t336 = true
    ·subst c9
     have H1 : ((macadamref00_Amid.f a0_2 1 4).bind fun t337 => (macadamlaw04_sound.j0 k t337 l0_0 l0_1 a0_2)) = some r := by rw [if_pos rfl] at H; exact H
     clear H
     have H := H1
     clear H1
     replace H := Option.bind_eq_some_iff.mp H
     obtain ⟨t337, A100, H⟩ := H
     replace H : (macadamlaw04_sound.j0 k t337 l0_0 l0_1 a0_2) = some r := H
     have A10 := Aside0.mk A100
     clear A100
     have H' := Aside0.mk H
     clear H
     obtain ⟨hcz11_0, hcz11_1, hcz11_2, hfz11_0, hfz11_1, hfz11_2⟩ := b3 BK333
     go_wp2_with (first | ((with_reducible refine gate_callee (f := 18) rfl ?_); refine gL (some 8) Tryd.func18 #[.agg #[.slice A0_0 l0_0.length c0_0, .slice A0_1 l0_1.length c0_1, .int .i64 a0_2]] ?_; (with_reducible refine (gang_Check.calls k _ _ l0_0 _ _ l0_1 a0_2 t334 _ ?side1 ?side2 ?side3 ?side4 A4.out).mono ?_); (case side1 => repeat (first | exact (Kd.C_below HR0_0.out HB.out) | (with_reducible refine Kd.C_alloc ?_ _) | (with_reducible refine Kd.C_drewN ?_ _) | (with_reducible refine Kd.C_drew ?_))); (case side2 => exact HC0_0.out); (case side3 => repeat (first | exact (Kd.C_below HR0_1.out HB.out) | (with_reducible refine Kd.C_alloc ?_ _) | (with_reducible refine Kd.C_drewN ?_ _) | (with_reducible refine Kd.C_drew ?_))); (case side4 => exact HC0_1.out); rintro e w12 ⟨rfl, hb⟩; refine ⟨_, rfl, ?_⟩; have n0_ := Aside0.mk (blk_below (bm BK333) hb); have n1_ := Aside0.mk (below_step (bw1 HB GE333) hb); clear BK333; clear HB; have BK333 := n0_; have HB := n1_; clear n0_ n1_; (try clear hb); (try clear hb2); (try clear hk); (try clear hi); obtain ⟨hcz13_0, hcz13_1, hcz13_2, hfz13_0, hfz13_1, hfz13_2⟩ := b3 BK333) | (go_at_call 45; (with_reducible refine (macadamref00_Amid.calls (l0_0.length : Int) 1 4 true _ A6.out).mono ?_); rintro e w' ⟨rfl, ⟨nd, rfl⟩⟩) | (go_at_call 45; (with_reducible refine (macadamref00_Amid.calls (l0_1.length : Int) 1 2 true _ A8.out).mono ?_); rintro e w' ⟨rfl, ⟨nd, rfl⟩⟩) | (go_at_call 45; (with_reducible refine (macadamref00_Amid.calls a0_2 1 4 t337 _ A10.out).mono ?_); rintro e w' ⟨rfl, ⟨nd, rfl⟩⟩))
     go_meet
     case rel => exact ⟨_, (t337), (by first | rfl | (simp; done) | (simp [*]; done)), H', ⟨by first | omega | exact Nat.le_refl _⟩, ⟨bm BK333⟩, ⟨bw1 HB GE333⟩⟩
    ·replace c9 := Bool.eq_false_iff.mpr c9
     subst c9
     have H1 : (macadamlaw04_sound.j0 k false l0_0 l0_1 a0_2) = some r := by rw [if_neg (show ¬ (false = true) by decide)] at H; exact H
     clear H
     have H := H1
     clear H1
     have H' := Aside0.mk H
     clear H
     obtain ⟨hcz14_0, hcz14_1, hcz14_2, hfz14_0, hfz14_1, hfz14_2⟩ := b3 BK333
     go_wp2_with (first | ((with_reducible refine gate_callee (f := 18) rfl ?_); refine gL (some 8) Tryd.func18 #[.agg #[.slice A0_0 l0_0.length c0_0, .slice A0_1 l0_1.length c0_1, .int .i64 a0_2]] ?_; (with_reducible refine (gang_Check.calls k _ _ l0_0 _ _ l0_1 a0_2 t334 _ ?side1 ?side2 ?side3 ?side4 A4.out).mono ?_); (case side1 => repeat (first | exact (Kd.C_below HR0_0.out HB.out) | (with_reducible refine Kd.C_alloc ?_ _) | (with_reducible refine Kd.C_drewN ?_ _) | (with_reducible refine Kd.C_drew ?_))); (case side2 => exact HC0_0.out); (case side3 => repeat (first | exact (Kd.C_below HR0_1.out HB.out) | (with_reducible refine Kd.C_alloc ?_ _) | (with_reducible refine Kd.C_drewN ?_ _) | (with_reducible refine Kd.C_drew ?_))); (case side4 => exact HC0_1.out); rintro e w15 ⟨rfl, hb⟩; refine ⟨_, rfl, ?_⟩; have n0_ := Aside0.mk (blk_below (bm BK333) hb); have n1_ := Aside0.mk (below_step (bw1 HB GE333) hb); clear BK333; clear HB; have BK333 := n0_; have HB := n1_; clear n0_ n1_; (try clear hb); (try clear hb2); (try clear hk); (try clear hi); obtain ⟨hcz16_0, hcz16_1, hcz16_2, hfz16_0, hfz16_1, hfz16_2⟩ := b3 BK333) | (go_at_call 45; (with_reducible refine (macadamref00_Amid.calls (l0_0.length : Int) 1 4 true _ A6.out).mono ?_); rintro e w' ⟨rfl, ⟨nd, rfl⟩⟩) | (go_at_call 45; (with_reducible refine (macadamref00_Amid.calls (l0_1.length : Int) 1 2 false _ A8.out).mono ?_); rintro e w' ⟨rfl, ⟨nd, rfl⟩⟩))
     go_meet
     case rel => exact ⟨_, (false), (by first | rfl | (simp; done) | (simp [*]; done)), H', ⟨by first | omega | exact Nat.le_refl _⟩, ⟨bm BK333⟩, ⟨bw1 HB GE333⟩⟩
   ·replace c7 := Bool.eq_false_iff.mpr c7
    subst c7
    have H1 : (macadamlaw04_sound.j0 k false l0_0 l0_1 a0_2) = some r := by rw [if_neg (show ¬ (false = true) by decide)] at H; exact H
    clear H
    have H := H1
    clear H1
    have H' := Aside0.mk H
    clear H
    obtain ⟨hcz17_0, hcz17_1, hcz17_2, hfz17_0, hfz17_1, hfz17_2⟩ := b3 BK333
    go_wp2_with (first | ((with_reducible refine gate_callee (f := 18) rfl ?_); refine gL (some 8) Tryd.func18 #[.agg #[.slice A0_0 l0_0.length c0_0, .slice A0_1 l0_1.length c0_1, .int .i64 a0_2]] ?_; (with_reducible refine (gang_Check.calls k _ _ l0_0 _ _ l0_1 a0_2 t334 _ ?side1 ?side2 ?side3 ?side4 A4.out).mono ?_); (case side1 => repeat (first | exact (Kd.C_below HR0_0.out HB.out) | (with_reducible refine Kd.C_alloc ?_ _) | (with_reducible refine Kd.C_drewN ?_ _) | (with_reducible refine Kd.C_drew ?_))); (case side2 => exact HC0_0.out); (case side3 => repeat (first | exact (Kd.C_below HR0_1.out HB.out) | (with_reducible refine Kd.C_alloc ?_ _) | (with_reducible refine Kd.C_drewN ?_ _) | (with_reducible refine Kd.C_drew ?_))); (case side4 => exact HC0_1.out); rintro e w18 ⟨rfl, hb⟩; refine ⟨_, rfl, ?_⟩; have n0_ := Aside0.mk (blk_below (bm BK333) hb); have n1_ := Aside0.mk (below_step (bw1 HB GE333) hb); clear BK333; clear HB; have BK333 := n0_; have HB := n1_; clear n0_ n1_; (try clear hb); (try clear hb2); (try clear hk); (try clear hi); obtain ⟨hcz19_0, hcz19_1, hcz19_2, hfz19_0, hfz19_1, hfz19_2⟩ := b3 BK333) | (go_at_call 45; (with_reducible refine (macadamref00_Amid.calls (l0_0.length : Int) 1 4 false _ A6.out).mono ?_); rintro e w' ⟨rfl, ⟨nd, rfl⟩⟩))
    go_meet
    case rel => exact ⟨_, (false), (by first | rfl | (simp; done) | (simp [*]; done)), H', ⟨by first | omega | exact Nat.le_refl _⟩, ⟨bm BK333⟩, ⟨bw1 HB GE333⟩⟩
  ·rw [if_neg c5] at H
   have c5b0 : (t334 == 0) = false := beq_eq_false_iff_ne.mpr c5
   have c5b1 : (t334 != 0) = true := bne_iff_ne.mpr c5
   (first | rw [c5b0] | (simp only [i64_w, i32_w]; rw [c5b0]) | skip)
   have H' := Aside0.mk H
   clear H
   obtain ⟨hcz20_0, hcz20_1, hcz20_2, hfz20_0, hfz20_1, hfz20_2⟩ := b3 BK333
   go_wp2_with (first | ((with_reducible refine gate_callee (f := 18) rfl ?_); refine gL (some 8) Tryd.func18 #[.agg #[.slice A0_0 l0_0.length c0_0, .slice A0_1 l0_1.length c0_1, .int .i64 a0_2]] ?_; (with_reducible refine (gang_Check.calls k _ _ l0_0 _ _ l0_1 a0_2 t334 _ ?side1 ?side2 ?side3 ?side4 A4.out).mono ?_); (case side1 => repeat (first | exact (Kd.C_below HR0_0.out HB.out) | (with_reducible refine Kd.C_alloc ?_ _) | (with_reducible refine Kd.C_drewN ?_ _) | (with_reducible refine Kd.C_drew ?_))); (case side2 => exact HC0_0.out); (case side3 => repeat (first | exact (Kd.C_below HR0_1.out HB.out) | (with_reducible refine Kd.C_alloc ?_ _) | (with_reducible refine Kd.C_drewN ?_ _) | (with_reducible refine Kd.C_drew ?_))); (case side4 => exact HC0_1.out); rintro e w21 ⟨rfl, hb⟩; refine ⟨_, rfl, ?_⟩; have n0_ := Aside0.mk (blk_below (bm BK333) hb); have n1_ := Aside0.mk (below_step (bw1 HB GE333) hb); clear BK333; clear HB; have BK333 := n0_; have HB := n1_; clear n0_ n1_; (try clear hb); (try clear hb2); (try clear hk); (try clear hi)))
   go_meet
   case rel => exact ⟨_, (false), (by first | rfl | (simp; done) | (simp [*]; done)), H', ⟨by first | omega | exact Nat.le_refl _⟩, ⟨bm BK333⟩, ⟨bw1 HB GE333⟩⟩
 case rest =>
  clear HC2
  try clear c1
  try clear p2
  try clear c3
  try clear c5
  try clear c5b0
  try clear c5b1
  try clear c7
  try clear c9
  try clear c18
  try clear hcz11_0
  try clear hcz11_1
  try clear hcz11_2
  try clear hcz13_0
  try clear hcz13_1
  try clear hcz13_2
  try clear hcz14_0
  try clear hcz14_1
  try clear hcz14_2
  try clear hcz16_0
  try clear hcz16_1
  try clear hcz16_2
  try clear hcz17_0
  try clear hcz17_1
  try clear hcz17_2
  try clear hcz19_0
  try clear hcz19_1
  try clear hcz19_2
  try clear hcz20_0
  try clear hcz20_1
  try clear hcz20_2
  try clear hfz11_0
  try clear hfz11_1
  try clear hfz11_2
  try clear hfz13_0
  try clear hfz13_1
  try clear hfz13_2
  try clear hfz14_0
  try clear hfz14_1
  try clear hfz14_2
  try clear hfz16_0
  try clear hfz16_1
  try clear hfz16_2
  try clear hfz17_0
  try clear hfz17_1
  try clear hfz17_2
  try clear hfz19_0
  try clear hfz19_1
  try clear hfz19_2
  try clear hfz20_0
  try clear hfz20_1
  try clear hfz20_2
  obtain ⟨kq, x3_1, rfl, HA, HJ1, BK333, HB⟩ := hcut
  cases kq with
  | zero => exact absurd HA.out (by simp [macadamlaw04_sound.j0])
  | succ kj1 =>
   have H := HA.out
   clear HA
   simp only [macadamlaw04_sound.j0] at H
   have H' := Aside0.mk H
   clear H
   go_wp2
   go_loopg [3, 4] kj1 (fun kq v3 v4 w' => ∃ (x3_2 : Bool) (x4_2 : Int), v3 = .bool x3_2 ∧ v4 = .int .i64 x4_2 ∧ Aside0 (macadamlaw04_sound.l0 kq x3_2 x4_2 l0_0 l0_1 a0_2 = some r) ∧ Aside0 (kq ≤ kj1) ∧ Aside0 (w'.heap[gb333]? = some (.cells #[(.slice A0_0 l0_0.length c0_0), (.slice A0_1 l0_1.length c0_1), .int .i64 a0_2] 25 (0, 0))) ∧ Aside0 (Below w.heap.size w w'))
   case atStart => exact ⟨(x3_1), (0), (by first | rfl | (simp; done) | (simp [*]; done)), (by first | rfl | (simp; done) | (simp [*]; done)), H', ⟨Nat.le_refl _⟩, ⟨bm BK333⟩, ⟨bw1 HB GE333⟩⟩
   case round =>
    clear H'
    try clear c1
    try clear p2
    try clear c3
    try clear c5
    try clear c5b0
    try clear c5b1
    try clear c7
    try clear c9
    try clear c18
    try clear hcz11_0
    try clear hcz11_1
    try clear hcz11_2
    try clear hcz13_0
    try clear hcz13_1
    try clear hcz13_2
    try clear hcz14_0
    try clear hcz14_1
    try clear hcz14_2
    try clear hcz16_0
    try clear hcz16_1
    try clear hcz16_2
    try clear hcz17_0
    try clear hcz17_1
    try clear hcz17_2
    try clear hcz19_0
    try clear hcz19_1
    try clear hcz19_2
    try clear hcz20_0
    try clear hcz20_1
    try clear hcz20_2
    try clear hfz11_0
    try clear hfz11_1
    try clear hfz11_2
    try clear hfz13_0
    try clear hfz13_1
    try clear hfz13_2
    try clear hfz14_0
    try clear hfz14_1
    try clear hfz14_2
    try clear hfz16_0
    try clear hfz16_1
    try clear hfz16_2
    try clear hfz17_0
    try clear hfz17_1
    try clear hfz17_2
    try clear hfz19_0
    try clear hfz19_1
    try clear hfz19_2
    try clear hfz20_0
    try clear hfz20_1
    try clear hfz20_2
    try clear p2
    obtain ⟨x3_2, x4_2, rfl, rfl, HA, HK2, BK333, HB⟩ := hrel
    cases gk with
    | zero => exact absurd HA.out (by simp [macadamlaw04_sound.l0])
    | succ k2 =>
     have H := HA.out
     clear HA
     simp only [macadamlaw04_sound.l0] at H
     have HC22 := Aside0.mk H
     clear H
     go_upto_region 3 with (fail)
     go_cut [34] (fun v34 wc => ∃ (kq : Nat) (x34_21 : Bool), v34 = .bool x34_21 ∧ Aside0 (macadamlaw04_sound.j2 kq x3_2 x4_2 x34_21 l0_0 l0_1 a0_2 = some r) ∧ Aside0 (kq ≤ k2) ∧ Aside0 (wc.heap[gb333]? = some (.cells #[(.slice A0_0 l0_0.length c0_0), (.slice A0_1 l0_1.length c0_1), .int .i64 a0_2] 25 (0, 0))) ∧ Aside0 (Below w.heap.size w wc))
     case first =>
      have H := HC22.out
      clear HC22
      by_cases c23 : x3_2 = true
      ·subst c23
       have H1 : (macadamlaw04_sound.j2 k2 true x4_2 (decide (x4_2 < (l0_0.length : Int))) l0_0 l0_1 a0_2) = some r := by rw [if_pos rfl] at H; exact H
       clear H
       have H := H1
       clear H1
       have H' := Aside0.mk H
       clear H
       obtain ⟨hcz24_0, hcz24_1, hcz24_2, hfz24_0, hfz24_1, hfz24_2⟩ := b3 BK333
       go_wp2
       go_meet
       case rel => exact ⟨_, (decide (x4_2 < (l0_0.length : Int))), (by first | rfl | (simp; done) | (simp [*]; done)), H', ⟨by have := HJ1.out; have := HK2.out; first | omega | exact Nat.le_refl _⟩, ⟨bm BK333⟩, ⟨bw1 HB GE333⟩⟩
      ·replace c23 := Bool.eq_false_iff.mpr c23
       subst c23
       have H1 : (macadamlaw04_sound.j2 k2 false x4_2 false l0_0 l0_1 a0_2) = some r := by rw [if_neg (show ¬ (false = true) by decide)] at H; exact H
       clear H
       have H := H1
       clear H1
       have H' := Aside0.mk H
       clear H
       go_wp2
       go_meet
       case rel => exact ⟨_, (false), (by first | rfl | (simp; done) | (simp [*]; done)), H', ⟨by have := HJ1.out; have := HK2.out; first | omega | exact Nat.le_refl _⟩, ⟨bm BK333⟩, ⟨bw1 HB GE333⟩⟩
     case rest =>
      clear HC22
      try clear c1
      try clear c2
      try clear p2
      try clear c3
      try clear c5
      try clear c5b0
      try clear c5b1
      try clear c7
      try clear c9
      try clear c18
      try clear c23
      try clear hcz11_0
      try clear hcz11_1
      try clear hcz11_2
      try clear hcz13_0
      try clear hcz13_1
      try clear hcz13_2
      try clear hcz14_0
      try clear hcz14_1
      try clear hcz14_2
      try clear hcz16_0
      try clear hcz16_1
      try clear hcz16_2
      try clear hcz17_0
      try clear hcz17_1
      try clear hcz17_2
      try clear hcz19_0
      try clear hcz19_1
      try clear hcz19_2
      try clear hcz20_0
      try clear hcz20_1
      try clear hcz20_2
      try clear hcz24_0
      try clear hcz24_1
      try clear hcz24_2
      try clear hfz11_0
      try clear hfz11_1
      try clear hfz11_2
      try clear hfz13_0
      try clear hfz13_1
      try clear hfz13_2
      try clear hfz14_0
      try clear hfz14_1
      try clear hfz14_2
      try clear hfz16_0
      try clear hfz16_1
      try clear hfz16_2
      try clear hfz17_0
      try clear hfz17_1
      try clear hfz17_2
      try clear hfz19_0
      try clear hfz19_1
      try clear hfz19_2
      try clear hfz20_0
      try clear hfz20_1
      try clear hfz20_2
      try clear hfz24_0
      try clear hfz24_1
      try clear hfz24_2
      try clear p2
      obtain ⟨kq, x34_21, rfl, HA, HJ21, BK333, HB⟩ := hcut
      cases kq with
      | zero => exact absurd HA.out (by simp [macadamlaw04_sound.j2])
      | succ kj21 =>
       have H := HA.out
       clear HA
       simp only [macadamlaw04_sound.j2] at H
       by_cases c25 : x34_21 = true
       ·subst c25
        have H1 : (if 0 ≤ x4_2 then (if x4_2 < (l0_0.length : Int) then ((macadamref00_Sane.f ((rd_T66 l0_0 x4_2).f0.f0) ((rd_T66 l0_0 x4_2).f0.f1) 1 6 2).bind fun t339 => (if t339 = true then ((macadamref00_Amid.f ((rd_T66 l0_0 x4_2).f1) 0 15).bind fun t341 => (macadamlaw04_sound.l0 kj21 t341 (wrap64 (x4_2 + 1)) l0_0 l0_1 a0_2)) else (macadamlaw04_sound.l0 kj21 false (wrap64 (x4_2 + 1)) l0_0 l0_1 a0_2))) else (none)) else (none)) = some r := by rw [if_pos rfl] at H; exact H
        clear H
        have H := H1
        clear H1
        by_cases c26 : 0 ≤ x4_2
        ·rw [if_pos c26] at H
         have c26b0 : decide (0 ≤ x4_2) = true := decide_eq_true c26
         clear c26
         by_cases c27 : x4_2 < (l0_0.length : Int)
         ·rw [if_pos c27] at H
          have c27b0 : decide (x4_2 < (l0_0.length : Int)) = true := decide_eq_true c27
          clear c27
          replace H := Option.bind_eq_some_iff.mp H
          obtain ⟨t339, A280, H⟩ := H
          replace H : (if t339 = true then ((macadamref00_Amid.f ((rd_T66 l0_0 x4_2).f1) 0 15).bind fun t341 => (macadamlaw04_sound.l0 kj21 t341 (wrap64 (x4_2 + 1)) l0_0 l0_1 a0_2)) else (macadamlaw04_sound.l0 kj21 false (wrap64 (x4_2 + 1)) l0_0 l0_1 a0_2)) = some r := H
          have A28 := Aside0.mk A280
          clear A280
          by_cases c29 : t339 = true
          ·subst c29
           have H1 : ((macadamref00_Amid.f ((rd_T66 l0_0 x4_2).f1) 0 15).bind fun t341 => (macadamlaw04_sound.l0 kj21 t341 (wrap64 (x4_2 + 1)) l0_0 l0_1 a0_2)) = some r := by rw [if_pos rfl] at H; exact H
           clear H
           have H := H1
           clear H1
           replace H := Option.bind_eq_some_iff.mp H
           obtain ⟨t341, A300, H⟩ := H
           replace H : (macadamlaw04_sound.l0 kj21 t341 (wrap64 (x4_2 + 1)) l0_0 l0_1 a0_2) = some r := H
           have A30 := Aside0.mk A300
           clear A300
           have H' := Aside0.mk H
           clear H
           obtain ⟨hcz31_0, hcz31_1, hcz31_2, hfz31_0, hfz31_1, hfz31_2⟩ := b3 BK333
           have p338 : 0 ≤ (x4_2 : Int) := of_decide_eq_true (by first | (with_reducible assumption) | assumption)
           have q338 : x4_2 < (l0_0.length : Int) := of_decide_eq_true (by first | (with_reducible assumption) | assumption)
           obtain ⟨ad338, e338, hx338_0, hx338_1, hx338_2⟩ := at_T66 HR0_0.out x4_2 p338 q338
           cases e338
           replace hx338_0 := cB HB hx338_0
           replace hx338_1 := cB HB hx338_1
           replace hx338_2 := cB HB hx338_2
           replace p338 := eq_true p338
           replace q338 := eq_true q338
           go_wp2_with (first | ((with_reducible refine gate_callee (f := 68) rfl ?_); refine gL (some 43) Tryd.func68 #[.agg #[.int .i64 ((rd_T66 l0_0 x4_2).f0.f0), .int .i64 ((rd_T66 l0_0 x4_2).f0.f1)], .int .i64 1, .int .i64 6, .int .i64 2] ?_; (with_reducible refine (macadamref00_Sane.calls ((rd_T66 l0_0 x4_2).f0.f0) ((rd_T66 l0_0 x4_2).f0.f1) 1 6 2 true _ A28.out).mono ?_); rintro e w32 ⟨rfl, hb⟩; refine ⟨_, rfl, ?_⟩; have n0_ := Aside0.mk (blk_below (bm BK333) hb); have n1_ := Aside0.mk (below_step (bw1 HB GE333) hb); clear BK333; clear HB; have BK333 := n0_; have HB := n1_; clear n0_ n1_; (try clear hb); (try clear hb2); (try clear hk); (try clear hi); obtain ⟨hcz33_0, hcz33_1, hcz33_2, hfz33_0, hfz33_1, hfz33_2⟩ := b3 BK333; have p340 : 0 ≤ (x4_2 : Int) := of_decide_eq_true (by first | (with_reducible assumption) | assumption); have q340 : x4_2 < (l0_0.length : Int) := of_decide_eq_true (by first | (with_reducible assumption) | assumption); obtain ⟨ad340, e340, hx340_0, hx340_1, hx340_2⟩ := at_T66 HR0_0.out x4_2 p340 q340; obtain rfl : ad338 = ad340 := (by injection e340); replace hx340_0 := cB HB hx340_0; replace hx340_1 := cB HB hx340_1; replace hx340_2 := cB HB hx340_2; replace p340 := eq_true p340; replace q340 := eq_true q340) | (go_at_call 45; (with_reducible refine (macadamref00_Amid.calls ((rd_T66 l0_0 x4_2).f1) 0 15 t341 _ A30.out).mono ?_); rintro e w' ⟨rfl, ⟨nd, rfl⟩⟩))
           go_roundg kj21
           case measure => have := HJ1.out; have := HK2.out; have := HJ21.out; omega
           case rel => exact ⟨(t341), (wrap64 (x4_2 + 1)), (by first | rfl | (simp; done) | (simp [*]; done)), (by first | rfl | (simp; done) | (simp [*]; done)), H', ⟨by have := HJ1.out; have := HK2.out; have := HJ21.out; omega⟩, ⟨bm BK333⟩, ⟨bw1 HB GE333⟩⟩
          ·replace c29 := Bool.eq_false_iff.mpr c29
           subst c29
           have H1 : (macadamlaw04_sound.l0 kj21 false (wrap64 (x4_2 + 1)) l0_0 l0_1 a0_2) = some r := by rw [if_neg (show ¬ (false = true) by decide)] at H; exact H
           clear H
           have H := H1
           clear H1
           have H' := Aside0.mk H
           clear H
           obtain ⟨hcz34_0, hcz34_1, hcz34_2, hfz34_0, hfz34_1, hfz34_2⟩ := b3 BK333
           have p338 : 0 ≤ (x4_2 : Int) := of_decide_eq_true (by first | (with_reducible assumption) | assumption)
           have q338 : x4_2 < (l0_0.length : Int) := of_decide_eq_true (by first | (with_reducible assumption) | assumption)
           obtain ⟨ad338, e338, hx338_0, hx338_1, hx338_2⟩ := at_T66 HR0_0.out x4_2 p338 q338
           cases e338
           replace hx338_0 := cB HB hx338_0
           replace hx338_1 := cB HB hx338_1
           replace hx338_2 := cB HB hx338_2
           replace p338 := eq_true p338
           replace q338 := eq_true q338
           go_wp2_with (first | ((with_reducible refine gate_callee (f := 68) rfl ?_); refine gL (some 43) Tryd.func68 #[.agg #[.int .i64 ((rd_T66 l0_0 x4_2).f0.f0), .int .i64 ((rd_T66 l0_0 x4_2).f0.f1)], .int .i64 1, .int .i64 6, .int .i64 2] ?_; (with_reducible refine (macadamref00_Sane.calls ((rd_T66 l0_0 x4_2).f0.f0) ((rd_T66 l0_0 x4_2).f0.f1) 1 6 2 false _ A28.out).mono ?_); rintro e w35 ⟨rfl, hb⟩; refine ⟨_, rfl, ?_⟩; have n0_ := Aside0.mk (blk_below (bm BK333) hb); have n1_ := Aside0.mk (below_step (bw1 HB GE333) hb); clear BK333; clear HB; have BK333 := n0_; have HB := n1_; clear n0_ n1_; (try clear hb); (try clear hb2); (try clear hk); (try clear hi)))
           go_roundg kj21
           case measure => have := HJ1.out; have := HK2.out; have := HJ21.out; omega
           case rel => exact ⟨(false), (wrap64 (x4_2 + 1)), (by first | rfl | (simp; done) | (simp [*]; done)), (by first | rfl | (simp; done) | (simp [*]; done)), H', ⟨by have := HJ1.out; have := HK2.out; have := HJ21.out; omega⟩, ⟨bm BK333⟩, ⟨bw1 HB GE333⟩⟩
         ·rw [if_neg c27] at H
          exact absurd H (by simp)
        ·rw [if_neg c26] at H
         exact absurd H (by simp)
       ·replace c25 := Bool.eq_false_iff.mpr c25
        subst c25
        have H1 : (macadamlaw04_sound.l1 kj21 x3_2 0 l0_0 l0_1 a0_2) = some r := by rw [if_neg (show ¬ (false = true) by decide)] at H; exact H
        clear H
        have H := H1
        clear H1
        have H' := Aside0.mk H
        clear H
        go_wp2
        go_loopg [3, 5] kj21 (fun kq v3 v5 w' => ∃ (x3_4 : Bool) (x5_4 : Int), v3 = .bool x3_4 ∧ v5 = .int .i64 x5_4 ∧ Aside0 (macadamlaw04_sound.l1 kq x3_4 x5_4 l0_0 l0_1 a0_2 = some r) ∧ Aside0 (kq ≤ kj21) ∧ Aside0 (w'.heap[gb333]? = some (.cells #[(.slice A0_0 l0_0.length c0_0), (.slice A0_1 l0_1.length c0_1), .int .i64 a0_2] 25 (0, 0))) ∧ Aside0 (Below w.heap.size w w'))
        case atStart => exact ⟨(x3_2), (0), (by first | rfl | (simp; done) | (simp [*]; done)), (by first | rfl | (simp; done) | (simp [*]; done)), H', ⟨Nat.le_refl _⟩, ⟨bm BK333⟩, ⟨bw1 HB GE333⟩⟩
        case round =>
         clear H'
         try clear c1
         try clear c2
         try clear p2
         try clear c3
         try clear p3
         try clear q3
         try clear hx3
         try clear c5
         try clear c5b0
         try clear c5b1
         try clear c6
         try clear p6
         try clear c7
         try clear c9
         try clear c18
         try clear c23
         try clear c25
         try clear c26
         try clear c26b0
         try clear c27
         try clear c27b0
         try clear c29
         try clear p33
         try clear q33
         try clear hx33
         try clear p34
         try clear q34
         try clear hx34
         try clear hcz11_0
         try clear hcz11_1
         try clear hcz11_2
         try clear hcz13_0
         try clear hcz13_1
         try clear hcz13_2
         try clear hcz14_0
         try clear hcz14_1
         try clear hcz14_2
         try clear hcz16_0
         try clear hcz16_1
         try clear hcz16_2
         try clear hcz17_0
         try clear hcz17_1
         try clear hcz17_2
         try clear hcz19_0
         try clear hcz19_1
         try clear hcz19_2
         try clear hcz20_0
         try clear hcz20_1
         try clear hcz20_2
         try clear hcz24_0
         try clear hcz24_1
         try clear hcz24_2
         try clear hcz31_0
         try clear hcz31_1
         try clear hcz31_2
         try clear hcz33_0
         try clear hcz33_1
         try clear hcz33_2
         try clear hcz34_0
         try clear hcz34_1
         try clear hcz34_2
         try clear hfz11_0
         try clear hfz11_1
         try clear hfz11_2
         try clear hfz13_0
         try clear hfz13_1
         try clear hfz13_2
         try clear hfz14_0
         try clear hfz14_1
         try clear hfz14_2
         try clear hfz16_0
         try clear hfz16_1
         try clear hfz16_2
         try clear hfz17_0
         try clear hfz17_1
         try clear hfz17_2
         try clear hfz19_0
         try clear hfz19_1
         try clear hfz19_2
         try clear hfz20_0
         try clear hfz20_1
         try clear hfz20_2
         try clear hfz24_0
         try clear hfz24_1
         try clear hfz24_2
         try clear hfz31_0
         try clear hfz31_1
         try clear hfz31_2
         try clear hfz33_0
         try clear hfz33_1
         try clear hfz33_2
         try clear hfz34_0
         try clear hfz34_1
         try clear hfz34_2
         try clear hx338_0
         try clear hx338_1
         try clear hx338_2
         try clear hx340_0
         try clear hx340_1
         try clear hx340_2
         try clear p2
         try clear p338
         try clear p340
         try clear q338
         try clear q340
         obtain ⟨x3_4, x5_4, rfl, rfl, HA, HK4, BK333, HB⟩ := hrel
         cases gk with
         | zero => exact absurd HA.out (by simp [macadamlaw04_sound.l1])
         | succ k4 =>
          have H := HA.out
          clear HA
          simp only [macadamlaw04_sound.l1] at H
          have HC36 := Aside0.mk H
          clear H
          go_upto_region 7 with (fail)
          go_cut [60] (fun v60 wc => ∃ (kq : Nat) (x60_35 : Bool), v60 = .bool x60_35 ∧ Aside0 (macadamlaw04_sound.j4 kq x3_4 x5_4 x60_35 l0_0 l0_1 a0_2 = some r) ∧ Aside0 (kq ≤ k4) ∧ Aside0 (wc.heap[gb333]? = some (.cells #[(.slice A0_0 l0_0.length c0_0), (.slice A0_1 l0_1.length c0_1), .int .i64 a0_2] 25 (0, 0))) ∧ Aside0 (Below w.heap.size w wc))
          case first =>
           have H := HC36.out
           clear HC36
           by_cases c37 : x3_4 = true
           ·subst c37
            have H1 : (macadamlaw04_sound.j4 k4 true x5_4 (decide (x5_4 < (l0_1.length : Int))) l0_0 l0_1 a0_2) = some r := by rw [if_pos rfl] at H; exact H
            clear H
            have H := H1
            clear H1
            have H' := Aside0.mk H
            clear H
            obtain ⟨hcz38_0, hcz38_1, hcz38_2, hfz38_0, hfz38_1, hfz38_2⟩ := b3 BK333
            go_wp2
            go_meet
            case rel => exact ⟨_, (decide (x5_4 < (l0_1.length : Int))), (by first | rfl | (simp; done) | (simp [*]; done)), H', ⟨by have := HJ1.out; have := HK2.out; have := HJ21.out; have := HK4.out; first | omega | exact Nat.le_refl _⟩, ⟨bm BK333⟩, ⟨bw1 HB GE333⟩⟩
           ·replace c37 := Bool.eq_false_iff.mpr c37
            subst c37
            have H1 : (macadamlaw04_sound.j4 k4 false x5_4 false l0_0 l0_1 a0_2) = some r := by rw [if_neg (show ¬ (false = true) by decide)] at H; exact H
            clear H
            have H := H1
            clear H1
            have H' := Aside0.mk H
            clear H
            go_wp2
            go_meet
            case rel => exact ⟨_, (false), (by first | rfl | (simp; done) | (simp [*]; done)), H', ⟨by have := HJ1.out; have := HK2.out; have := HJ21.out; have := HK4.out; first | omega | exact Nat.le_refl _⟩, ⟨bm BK333⟩, ⟨bw1 HB GE333⟩⟩
          case rest =>
           clear HC36
           try clear c1
           try clear c2
           try clear p2
           try clear c3
           try clear p3
           try clear q3
           try clear hx3
           try clear c5
           try clear c5b0
           try clear c5b1
           try clear c6
           try clear p6
           try clear c7
           try clear c9
           try clear c18
           try clear c23
           try clear c25
           try clear c26
           try clear c26b0
           try clear c27
           try clear c27b0
           try clear c29
           try clear p33
           try clear q33
           try clear hx33
           try clear p34
           try clear q34
           try clear hx34
           try clear c37
           try clear c38
           try clear hcz11_0
           try clear hcz11_1
           try clear hcz11_2
           try clear hcz13_0
           try clear hcz13_1
           try clear hcz13_2
           try clear hcz14_0
           try clear hcz14_1
           try clear hcz14_2
           try clear hcz16_0
           try clear hcz16_1
           try clear hcz16_2
           try clear hcz17_0
           try clear hcz17_1
           try clear hcz17_2
           try clear hcz19_0
           try clear hcz19_1
           try clear hcz19_2
           try clear hcz20_0
           try clear hcz20_1
           try clear hcz20_2
           try clear hcz24_0
           try clear hcz24_1
           try clear hcz24_2
           try clear hcz31_0
           try clear hcz31_1
           try clear hcz31_2
           try clear hcz33_0
           try clear hcz33_1
           try clear hcz33_2
           try clear hcz34_0
           try clear hcz34_1
           try clear hcz34_2
           try clear hcz38_0
           try clear hcz38_1
           try clear hcz38_2
           try clear hfz11_0
           try clear hfz11_1
           try clear hfz11_2
           try clear hfz13_0
           try clear hfz13_1
           try clear hfz13_2
           try clear hfz14_0
           try clear hfz14_1
           try clear hfz14_2
           try clear hfz16_0
           try clear hfz16_1
           try clear hfz16_2
           try clear hfz17_0
           try clear hfz17_1
           try clear hfz17_2
           try clear hfz19_0
           try clear hfz19_1
           try clear hfz19_2
           try clear hfz20_0
           try clear hfz20_1
           try clear hfz20_2
           try clear hfz24_0
           try clear hfz24_1
           try clear hfz24_2
           try clear hfz31_0
           try clear hfz31_1
           try clear hfz31_2
           try clear hfz33_0
           try clear hfz33_1
           try clear hfz33_2
           try clear hfz34_0
           try clear hfz34_1
           try clear hfz34_2
           try clear hfz38_0
           try clear hfz38_1
           try clear hfz38_2
           try clear hx338_0
           try clear hx338_1
           try clear hx338_2
           try clear hx340_0
           try clear hx340_1
           try clear hx340_2
           try clear p2
           try clear p3
           try clear p33
           try clear p338
           try clear p34
           try clear p340
           try clear p6
           try clear q3
           try clear q33
           try clear q338
           try clear q34
           try clear q340
           obtain ⟨kq, x60_35, rfl, HA, HJ35, BK333, HB⟩ := hcut
           cases kq with
           | zero => exact absurd HA.out (by simp [macadamlaw04_sound.j4])
           | succ kj35 =>
            have H := HA.out
            clear HA
            simp only [macadamlaw04_sound.j4] at H
            by_cases c39 : x60_35 = true
            ·subst c39
             have H1 : (if 0 ≤ x5_4 then (if x5_4 < (l0_1.length : Int) then ((macadamref00_Amid.f ((rd_T63 l0_1 x5_4).f0) 0 ((rd_T63 l0_1 x5_4).f1)).bind fun t344 => (if t344 = true then (if ((rd_T63 l0_1 x5_4).f1) < (l0_0.length : Int) then ((macadamref00_Sane.f ((rd_T63 l0_1 x5_4).f2.f0) ((rd_T63 l0_1 x5_4).f2.f1) 1 3 2).bind fun t345 => (macadamlaw04_sound.l1 kj35 t345 (wrap64 (x5_4 + 1)) l0_0 l0_1 a0_2)) else (macadamlaw04_sound.l1 kj35 false (wrap64 (x5_4 + 1)) l0_0 l0_1 a0_2)) else (macadamlaw04_sound.l1 kj35 false (wrap64 (x5_4 + 1)) l0_0 l0_1 a0_2))) else (none)) else (none)) = some r := by rw [if_pos rfl] at H; exact H
             clear H
             have H := H1
             clear H1
             by_cases c40 : 0 ≤ x5_4
             ·rw [if_pos c40] at H
              have c40b0 : decide (0 ≤ x5_4) = true := decide_eq_true c40
              clear c40
              by_cases c41 : x5_4 < (l0_1.length : Int)
              ·rw [if_pos c41] at H
               have c41b0 : decide (x5_4 < (l0_1.length : Int)) = true := decide_eq_true c41
               clear c41
               replace H := Option.bind_eq_some_iff.mp H
               obtain ⟨t344, A420, H⟩ := H
               replace H : (if t344 = true then (if ((rd_T63 l0_1 x5_4).f1) < (l0_0.length : Int) then ((macadamref00_Sane.f ((rd_T63 l0_1 x5_4).f2.f0) ((rd_T63 l0_1 x5_4).f2.f1) 1 3 2).bind fun t345 => (macadamlaw04_sound.l1 kj35 t345 (wrap64 (x5_4 + 1)) l0_0 l0_1 a0_2)) else (macadamlaw04_sound.l1 kj35 false (wrap64 (x5_4 + 1)) l0_0 l0_1 a0_2)) else (macadamlaw04_sound.l1 kj35 false (wrap64 (x5_4 + 1)) l0_0 l0_1 a0_2)) = some r := H
               have A42 := Aside0.mk A420
               clear A420
               by_cases c43 : t344 = true
               ·subst c43
                have H1 : (if ((rd_T63 l0_1 x5_4).f1) < (l0_0.length : Int) then ((macadamref00_Sane.f ((rd_T63 l0_1 x5_4).f2.f0) ((rd_T63 l0_1 x5_4).f2.f1) 1 3 2).bind fun t345 => (macadamlaw04_sound.l1 kj35 t345 (wrap64 (x5_4 + 1)) l0_0 l0_1 a0_2)) else (macadamlaw04_sound.l1 kj35 false (wrap64 (x5_4 + 1)) l0_0 l0_1 a0_2)) = some r := by rw [if_pos rfl] at H; exact H
                clear H
                have H := H1
                clear H1
                by_cases c44 : ((rd_T63 l0_1 x5_4).f1) < (l0_0.length : Int)
                ·rw [if_pos c44] at H
                 have c44b0 : decide (((rd_T63 l0_1 x5_4).f1) < (l0_0.length : Int)) = true := decide_eq_true c44
                 clear c44
                 replace H := Option.bind_eq_some_iff.mp H
                 obtain ⟨t345, A450, H⟩ := H
                 replace H : (macadamlaw04_sound.l1 kj35 t345 (wrap64 (x5_4 + 1)) l0_0 l0_1 a0_2) = some r := H
                 have A45 := Aside0.mk A450
                 clear A450
                 have H' := Aside0.mk H
                 clear H
                 obtain ⟨hcz46_0, hcz46_1, hcz46_2, hfz46_0, hfz46_1, hfz46_2⟩ := b3 BK333
                 have p342 : 0 ≤ (x5_4 : Int) := of_decide_eq_true (by first | (with_reducible assumption) | assumption)
                 have q342 : x5_4 < (l0_1.length : Int) := of_decide_eq_true (by first | (with_reducible assumption) | assumption)
                 obtain ⟨ad342, e342, hx342_0, hx342_1, hx342_2, hx342_3⟩ := at_T63 HR0_1.out x5_4 p342 q342
                 cases e342
                 replace hx342_0 := cB HB hx342_0
                 replace hx342_1 := cB HB hx342_1
                 replace hx342_2 := cB HB hx342_2
                 replace hx342_3 := cB HB hx342_3
                 replace p342 := eq_true p342
                 replace q342 := eq_true q342
                 go_wp2_with (first | ((with_reducible refine gate_dst (N := 6) rfl ?_); (try (refine gate_guard (by rfl) ?_; dsimp only)); refine bx 6 #[.int .i64 0, .int .i64 0, .int .i64 0, .int .i64 0] 63 ?_; intro gb343 hg w47 hbox hb; have n0_ := Aside0.mk (blk_below (bm BK333) hb); have n1_ := Aside0.mk (below_step (bw1 HB GE333) hb); have n2_ := Aside0.mk (hbox); have n3_ := Aside0.mk (bz (bw1 HB GE333) hg); have n4_ := Aside0.mk (bz (bw1 HB GE333) hg); have n5_ := Aside0.mk (bl (bm BK333) hg); have n6_ := Aside0.mk (bg (bm BK333) hg); clear BK333; clear HB; have BK333 := n0_; have HB := n1_; have BK343 := n2_; have GW343 := n3_; have GE343 := n4_; have NB333_343 := n5_; have NB343_333 := n6_; clear n0_ n1_ n2_ n3_ n4_ n5_ n6_; clear hb hbox hg; have hnb48 := NB343_333.out; have hnc48 := NB333_343.out; obtain ⟨hcz49_0, hcz49_1, hcz49_2, hcz49_3, hfz49_0, hfz49_1, hfz49_2, hfz49_3⟩ := b4 BK343) | ((with_reducible refine gate_callee (f := 45) rfl ?_); refine gL (some 72) Tryd.func45 #[.int .i64 ((rd_T63 l0_1 x5_4).f0), .int .i64 0, .int .i64 ((rd_T63 l0_1 x5_4).f1)] ?_; (with_reducible refine (macadamref00_Amid.calls ((rd_T63 l0_1 x5_4).f0) 0 ((rd_T63 l0_1 x5_4).f1) true _ A42.out).mono ?_); rintro e w' ⟨rfl, ⟨nd, rfl⟩⟩; refine ⟨_, rfl, ?_⟩; obtain ⟨hcz50_0, hcz50_1, hcz50_2, hfz50_0, hfz50_1, hfz50_2⟩ := b3 BK333) | (go_at_call 68; (with_reducible refine (macadamref00_Sane.calls ((rd_T63 l0_1 x5_4).f2.f0) ((rd_T63 l0_1 x5_4).f2.f1) 1 3 2 t345 _ A45.out).mono ?_); rintro e w51 ⟨rfl, hb⟩; have n0_ := Aside0.mk (blk_below (g := gb333) (o := .cells #[.slice A0_0 l0_0.length c0_0, .slice (some ad342) l0_1.length c0_1, .int .i64 a0_2] 25 (0, 0)) (by (with_reducible repeat (first | refine blk_drewN ?_ _ | refine blk_drew ?_ | refine blk_alloc ?_ _)); refine blk_far ?_ NB333_343.out _; (with_reducible repeat (first | refine blk_drewN ?_ _ | refine blk_drew ?_ | refine blk_alloc ?_ _)); refine blk_far ?_ NB333_343.out _; (with_reducible repeat (first | refine blk_drewN ?_ _ | refine blk_drew ?_ | refine blk_alloc ?_ _)); refine blk_far ?_ NB333_343.out _; (with_reducible repeat (first | refine blk_drewN ?_ _ | refine blk_drew ?_ | refine blk_alloc ?_ _)); refine blk_far ?_ NB333_343.out _; (with_reducible repeat (first | refine blk_drewN ?_ _ | refine blk_drew ?_ | refine blk_alloc ?_ _)); exact BK333.out) hb); have n1_ := Aside0.mk (blk_below (g := gb343) (o := .cells #[.int .i64 ((rd_T63 l0_1 x5_4).f0), .int .i64 ((rd_T63 l0_1 x5_4).f1), .int .i64 ((rd_T63 l0_1 x5_4).f2.f0), .int .i64 ((rd_T63 l0_1 x5_4).f2.f1)] 63 (0, 0)) (by (with_reducible repeat (first | refine blk_drewN ?_ _ | refine blk_drew ?_ | refine blk_alloc ?_ _)); refine blk_put (cs := #[.int .i64 ((rd_T63 l0_1 x5_4).f0), .int .i64 ((rd_T63 l0_1 x5_4).f1), .int .i64 ((rd_T63 l0_1 x5_4).f2.f0), .int .i64 0]) ?_ 3 _ rfl; (with_reducible repeat (first | refine blk_drewN ?_ _ | refine blk_drew ?_ | refine blk_alloc ?_ _)); refine blk_put (cs := #[.int .i64 ((rd_T63 l0_1 x5_4).f0), .int .i64 ((rd_T63 l0_1 x5_4).f1), .int .i64 0, .int .i64 0]) ?_ 2 _ rfl; (with_reducible repeat (first | refine blk_drewN ?_ _ | refine blk_drew ?_ | refine blk_alloc ?_ _)); refine blk_put (cs := #[.int .i64 ((rd_T63 l0_1 x5_4).f0), .int .i64 0, .int .i64 0, .int .i64 0]) ?_ 1 _ rfl; (with_reducible repeat (first | refine blk_drewN ?_ _ | refine blk_drew ?_ | refine blk_alloc ?_ _)); refine blk_put (cs := #[.int .i64 0, .int .i64 0, .int .i64 0, .int .i64 0]) ?_ 0 _ rfl; (with_reducible repeat (first | refine blk_drewN ?_ _ | refine blk_drew ?_ | refine blk_alloc ?_ _)); exact BK343.out) hb); have n2_ := Aside0.mk (below_step (bw2 HB GE333 GE343) hb); clear BK333; clear BK343; clear HB; have BK333 := n0_; have BK343 := n1_; have HB := n2_; clear n0_ n1_ n2_; (try clear hb); (try clear hb2); (try clear hk); (try clear hi)))
                 go_roundg kj35
                 case measure => have := HJ1.out; have := HK2.out; have := HJ21.out; have := HK4.out; have := HJ35.out; omega
                 case rel => exact ⟨(t345), (wrap64 (x5_4 + 1)), (by first | rfl | (simp; done) | (simp [*]; done)), (by first | rfl | (simp; done) | (simp [*]; done)), H', ⟨by have := HJ1.out; have := HK2.out; have := HJ21.out; have := HK4.out; have := HJ35.out; omega⟩, ⟨bm BK333⟩, ⟨bw2 HB GE333 GE343⟩⟩
                ·rw [if_neg c44] at H
                 have c44b0 : decide (((rd_T63 l0_1 x5_4).f1) < (l0_0.length : Int)) = false := decide_eq_false c44
                 clear c44
                 have H' := Aside0.mk H
                 clear H
                 obtain ⟨hcz52_0, hcz52_1, hcz52_2, hfz52_0, hfz52_1, hfz52_2⟩ := b3 BK333
                 have p342 : 0 ≤ (x5_4 : Int) := of_decide_eq_true (by first | (with_reducible assumption) | assumption)
                 have q342 : x5_4 < (l0_1.length : Int) := of_decide_eq_true (by first | (with_reducible assumption) | assumption)
                 obtain ⟨ad342, e342, hx342_0, hx342_1, hx342_2, hx342_3⟩ := at_T63 HR0_1.out x5_4 p342 q342
                 cases e342
                 replace hx342_0 := cB HB hx342_0
                 replace hx342_1 := cB HB hx342_1
                 replace hx342_2 := cB HB hx342_2
                 replace hx342_3 := cB HB hx342_3
                 replace p342 := eq_true p342
                 replace q342 := eq_true q342
                 go_wp2_with (first | ((with_reducible refine gate_dst (N := 6) rfl ?_); (try (refine gate_guard (by rfl) ?_; dsimp only)); refine bx 6 #[.int .i64 0, .int .i64 0, .int .i64 0, .int .i64 0] 63 ?_; intro gb343 hg w53 hbox hb; have n0_ := Aside0.mk (blk_below (bm BK333) hb); have n1_ := Aside0.mk (below_step (bw1 HB GE333) hb); have n2_ := Aside0.mk (hbox); have n3_ := Aside0.mk (bz (bw1 HB GE333) hg); have n4_ := Aside0.mk (bz (bw1 HB GE333) hg); have n5_ := Aside0.mk (bl (bm BK333) hg); have n6_ := Aside0.mk (bg (bm BK333) hg); clear BK333; clear HB; have BK333 := n0_; have HB := n1_; have BK343 := n2_; have GW343 := n3_; have GE343 := n4_; have NB333_343 := n5_; have NB343_333 := n6_; clear n0_ n1_ n2_ n3_ n4_ n5_ n6_; clear hb hbox hg; have hnb54 := NB343_333.out; have hnc54 := NB333_343.out; obtain ⟨hcz55_0, hcz55_1, hcz55_2, hcz55_3, hfz55_0, hfz55_1, hfz55_2, hfz55_3⟩ := b4 BK343) | ((with_reducible refine gate_callee (f := 45) rfl ?_); refine gL (some 72) Tryd.func45 #[.int .i64 ((rd_T63 l0_1 x5_4).f0), .int .i64 0, .int .i64 ((rd_T63 l0_1 x5_4).f1)] ?_; (with_reducible refine (macadamref00_Amid.calls ((rd_T63 l0_1 x5_4).f0) 0 ((rd_T63 l0_1 x5_4).f1) true _ A42.out).mono ?_); rintro e w' ⟨rfl, ⟨nd, rfl⟩⟩; refine ⟨_, rfl, ?_⟩; obtain ⟨hcz56_0, hcz56_1, hcz56_2, hfz56_0, hfz56_1, hfz56_2⟩ := b3 BK333))
                 go_roundg kj35
                 case measure => have := HJ1.out; have := HK2.out; have := HJ21.out; have := HK4.out; have := HJ35.out; omega
                 case rel => exact ⟨(false), (wrap64 (x5_4 + 1)), (by first | rfl | (simp; done) | (simp [*]; done)), (by first | rfl | (simp; done) | (simp [*]; done)), H', ⟨by have := HJ1.out; have := HK2.out; have := HJ21.out; have := HK4.out; have := HJ35.out; omega⟩, ⟨by (with_reducible repeat (first | refine blk_drewN ?_ _ | refine blk_drew ?_ | refine blk_alloc ?_ _)); refine blk_far ?_ NB333_343.out _; (with_reducible repeat (first | refine blk_drewN ?_ _ | refine blk_drew ?_ | refine blk_alloc ?_ _)); refine blk_far ?_ NB333_343.out _; (with_reducible repeat (first | refine blk_drewN ?_ _ | refine blk_drew ?_ | refine blk_alloc ?_ _)); refine blk_far ?_ NB333_343.out _; (with_reducible repeat (first | refine blk_drewN ?_ _ | refine blk_drew ?_ | refine blk_alloc ?_ _)); refine blk_far ?_ NB333_343.out _; (with_reducible repeat (first | refine blk_drewN ?_ _ | refine blk_drew ?_ | refine blk_alloc ?_ _)); exact BK333.out⟩, ⟨bw2 HB GE333 GE343⟩⟩
               ·replace c43 := Bool.eq_false_iff.mpr c43
                subst c43
                have H1 : (macadamlaw04_sound.l1 kj35 false (wrap64 (x5_4 + 1)) l0_0 l0_1 a0_2) = some r := by rw [if_neg (show ¬ (false = true) by decide)] at H; exact H
                clear H
                have H := H1
                clear H1
                have H' := Aside0.mk H
                clear H
                obtain ⟨hcz57_0, hcz57_1, hcz57_2, hfz57_0, hfz57_1, hfz57_2⟩ := b3 BK333
                have p342 : 0 ≤ (x5_4 : Int) := of_decide_eq_true (by first | (with_reducible assumption) | assumption)
                have q342 : x5_4 < (l0_1.length : Int) := of_decide_eq_true (by first | (with_reducible assumption) | assumption)
                obtain ⟨ad342, e342, hx342_0, hx342_1, hx342_2, hx342_3⟩ := at_T63 HR0_1.out x5_4 p342 q342
                cases e342
                replace hx342_0 := cB HB hx342_0
                replace hx342_1 := cB HB hx342_1
                replace hx342_2 := cB HB hx342_2
                replace hx342_3 := cB HB hx342_3
                replace p342 := eq_true p342
                replace q342 := eq_true q342
                go_wp2_with (first | ((with_reducible refine gate_dst (N := 6) rfl ?_); (try (refine gate_guard (by rfl) ?_; dsimp only)); refine bx 6 #[.int .i64 0, .int .i64 0, .int .i64 0, .int .i64 0] 63 ?_; intro gb343 hg w58 hbox hb; have n0_ := Aside0.mk (blk_below (bm BK333) hb); have n1_ := Aside0.mk (below_step (bw1 HB GE333) hb); have n2_ := Aside0.mk (hbox); have n3_ := Aside0.mk (bz (bw1 HB GE333) hg); have n4_ := Aside0.mk (bz (bw1 HB GE333) hg); have n5_ := Aside0.mk (bl (bm BK333) hg); have n6_ := Aside0.mk (bg (bm BK333) hg); clear BK333; clear HB; have BK333 := n0_; have HB := n1_; have BK343 := n2_; have GW343 := n3_; have GE343 := n4_; have NB333_343 := n5_; have NB343_333 := n6_; clear n0_ n1_ n2_ n3_ n4_ n5_ n6_; clear hb hbox hg; have hnb59 := NB343_333.out; have hnc59 := NB333_343.out; obtain ⟨hcz60_0, hcz60_1, hcz60_2, hcz60_3, hfz60_0, hfz60_1, hfz60_2, hfz60_3⟩ := b4 BK343) | ((with_reducible refine gate_callee (f := 45) rfl ?_); refine gL (some 72) Tryd.func45 #[.int .i64 ((rd_T63 l0_1 x5_4).f0), .int .i64 0, .int .i64 ((rd_T63 l0_1 x5_4).f1)] ?_; (with_reducible refine (macadamref00_Amid.calls ((rd_T63 l0_1 x5_4).f0) 0 ((rd_T63 l0_1 x5_4).f1) false _ A42.out).mono ?_); rintro e w' ⟨rfl, ⟨nd, rfl⟩⟩; refine ⟨_, rfl, ?_⟩))
                go_roundg kj35
                case measure => have := HJ1.out; have := HK2.out; have := HJ21.out; have := HK4.out; have := HJ35.out; omega
                case rel => exact ⟨(false), (wrap64 (x5_4 + 1)), (by first | rfl | (simp; done) | (simp [*]; done)), (by first | rfl | (simp; done) | (simp [*]; done)), H', ⟨by have := HJ1.out; have := HK2.out; have := HJ21.out; have := HK4.out; have := HJ35.out; omega⟩, ⟨by (with_reducible repeat (first | refine blk_drewN ?_ _ | refine blk_drew ?_ | refine blk_alloc ?_ _)); refine blk_far ?_ NB333_343.out _; (with_reducible repeat (first | refine blk_drewN ?_ _ | refine blk_drew ?_ | refine blk_alloc ?_ _)); refine blk_far ?_ NB333_343.out _; (with_reducible repeat (first | refine blk_drewN ?_ _ | refine blk_drew ?_ | refine blk_alloc ?_ _)); refine blk_far ?_ NB333_343.out _; (with_reducible repeat (first | refine blk_drewN ?_ _ | refine blk_drew ?_ | refine blk_alloc ?_ _)); refine blk_far ?_ NB333_343.out _; (with_reducible repeat (first | refine blk_drewN ?_ _ | refine blk_drew ?_ | refine blk_alloc ?_ _)); exact BK333.out⟩, ⟨bw2 HB GE333 GE343⟩⟩
              ·rw [if_neg c41] at H
               exact absurd H (by simp)
             ·rw [if_neg c40] at H
              exact absurd H (by simp)
            ·replace c39 := Bool.eq_false_iff.mpr c39
             subst c39
             have H1 : (some x3_4) = some r := by rw [if_neg (show ¬ (false = true) by decide)] at H; exact H
             clear H
             have H := H1
             clear H1
             obtain rfl := Option.some.inj H
             go_wp2
             go_ret
             exact ⟨by first | rfl | (simp [errW_none, errW_some] <;> rfl) | (simp [*, errW_none, errW_some] <;> rfl), bw1 HB GE333⟩
end Go.Proofs.YtikfghnkbgdbgaaDoor.Q
end
section
namespace Go.Proofs.YtikfghnkbgdbgaaDoor.Q
open Go.RowKit Go.Proofs.YtikfghnkbgdbgaaDoorW.PrintWords Go.Proofs.YtikfghnkbgdbgaaDoorW.PrintLast Go.Proofs.YtikfghnkbgdbgaaDoorW.PrintMore
attribute [local go_sem] max2_int min2_int max_two min_two max_three min_three max_four min_four   -- for this text's walks alone
set_option linter.unusedVariables false
set_option linter.unusedSimpArgs false
def macadamref00_Wrap.f (a0 : Int) (a1 : Int) : Option (Int) := if a1 ≤ 0 then (some 0) else (if a1 = 0 then (none) else (if (Int.tmod a0 a1) < 0 then (some (wrap64 ((Int.tmod a0 a1) + a1))) else (some (Int.tmod a0 a1))))
set_option maxHeartbeats 8000000 in
set_option maxRecDepth 100000 in
theorem macadamref00_Wrap.calls (a0 : Int) (a1 : Int) (r : Int) (w : World) (h : macadamref00_Wrap.f a0 a1 = some r) :
  Calls Tryd.prog 39 #[.int .i64 a0, .int .i64 a1] w fun e w' => e = .returned (.int .i64 r) ∧ Drawn0 w w' := by
 have H : (if a1 ≤ 0 then (some 0) else (if a1 = 0 then (none) else (if (Int.tmod a0 a1) < 0 then (some (wrap64 ((Int.tmod a0 a1) + a1))) else (some (Int.tmod a0 a1))))) = some r := h
 clear h
 by_cases c3 : a1 ≤ 0
 ·rw [if_pos c3] at H
  have c3b0 : decide (a1 ≤ 0) = true := decide_eq_true c3
  clear c3
  obtain rfl := Option.some.inj H
  go_enter Tryd.func39, Tryd.ntmps39
  go_wp2
  go_ret
  exact ⟨by first | rfl | (simp; done) | (simp [*]; done), by repeat (first | exact Drawn0.refl _ | apply Drawn0.step)⟩
 ·rw [if_neg c3] at H
  have c3b0 : decide (a1 ≤ 0) = false := decide_eq_false c3
  clear c3
  by_cases c4 : a1 = 0
  ·rw [if_pos c4] at H
   exact absurd H (by simp)
  ·rw [if_neg c4] at H
   have c4b0 : (a1 == 0) = false := beq_eq_false_iff_ne.mpr c4
   have c4b1 : (a1 != 0) = true := bne_iff_ne.mpr c4
   by_cases c5 : (Int.tmod a0 a1) < 0
   ·rw [if_pos c5] at H
    have c5b0 : decide ((Int.tmod a0 a1) < 0) = true := decide_eq_true c5
    clear c5
    obtain rfl := Option.some.inj H
    go_enter Tryd.func39, Tryd.ntmps39
    go_wp2
    go_ret
    exact ⟨by first | rfl | (simp; done) | (simp [*]; done), by repeat (first | exact Drawn0.refl _ | apply Drawn0.step)⟩
   ·rw [if_neg c5] at H
    have c5b0 : decide ((Int.tmod a0 a1) < 0) = false := decide_eq_false c5
    clear c5
    obtain rfl := Option.some.inj H
    go_enter Tryd.func39, Tryd.ntmps39
    go_wp2
    go_ret
    exact ⟨by first | rfl | (simp; done) | (simp [*]; done), by repeat (first | exact Drawn0.refl _ | apply Drawn0.step)⟩
end Go.Proofs.YtikfghnkbgdbgaaDoor.Q
end
section
namespace Go.Proofs.YtikfghnkbgdbgaaDoor.Q
set_option linter.unusedSimpArgs false
set_option linter.unusedVariables false
open Go.RowKit Go.Proofs.YtikfghnkbgdbgaaDoorW.PrintWords Go.Proofs.YtikfghnkbgdbgaaDoorW.PrintLast Go.Proofs.YtikfghnkbgdbgaaDoorW.PrintMore
theorem wrap_f (a : Int) {m : Int} (h : 1 ≤ m) (hm : m ≤ 9223372036854775807) : ∃ r, macadamref00_Wrap.f a m = some r ∧ 0 ≤ r ∧ r < m := by
  unfold macadamref00_Wrap.f
  rw [if_neg (by omega), if_neg (by omega)]
  have h1 := Int.tmod_lt_of_pos a (show 0 < m by omega)
  have h2 : -m < Int.tmod a m := by
    have := Int.tmod_lt_of_pos (-a) (show 0 < m by omega)
    rw [Int.neg_tmod] at this
    omega
  by_cases h : Int.tmod a m < 0
  · rw [if_pos h]
    exact ⟨_, rfl, by unfold wrap64; omega, by unfold wrap64; omega⟩
  · rw [if_neg h]
    exact ⟨_, rfl, by omega, by omega⟩
theorem upTo_pair (n : Int) : (upTo n).Pairwise (· < ·) := by
  unfold upTo
  rw [List.pairwise_map]
  exact (List.pairwise_lt_range).imp (fun h => by simp only [Int.ofNat_eq_natCast]; omega)
theorem sound_l1 (ms : List M) (gs : List G) (n : Int) (hm : ms.length ≤ 9223372036854775807) (hg : gs.length ≤ 9223372036854775807) (d : Nat) : ∀ (k j : Nat) (b : Bool), gs.length - j = d → j ≤ gs.length → 2 * d + 2 ≤ k →
    macadamlaw04_sound.l1 k b j ms gs n = some (b && (gs.drop j).all (gangB ms.length)) := by
  induction d with
  | zero =>
    intro k j b hd hj hk
    obtain ⟨k, rfl⟩ : ∃ m, k = m + 2 := ⟨k - 2, by omega⟩
    obtain rfl : j = gs.length := by omega
    simp only [macadamlaw04_sound.l1, macadamlaw04_sound.j4]
    cases b <;> simp
  | succ d ih =>
    intro k j b hd hj hk
    obtain ⟨k, rfl⟩ : ∃ m, k = m + 2 := ⟨k - 2, by omega⟩
    have hlt : j < gs.length := by omega
    have hr := rd_drop_G gs j hlt
    have I := fun b => ih k (j + 1) b (by omega) (by omega) (by omega)
    simp only [macadamlaw04_sound.l1, macadamlaw04_sound.j4]
    cases b with
    | false => rw [if_neg (by simp), if_neg (by simp)]; simp
    | true =>
      rw [if_pos rfl, if_pos (by rw [decide_eq_true_eq]; omega), if_pos (by omega), if_pos (by omega), wrap_up hlt hg, hr, amid_f]
      simp only [Option.bind_some, List.all_cons, gangB, I, sane_f _ _ 3 (by omega), Bool.true_and]
      have hwin : within (rd_T63 gs j).f0 0 (rd_T63 gs j).f1 = (decide (0 ≤ (rd_T63 gs j).f0) && decide ((rd_T63 gs j).f0 ≤ (rd_T63 gs j).f1)) := rfl
      rw [hwin]
      by_cases h1 : 0 ≤ (rd_T63 gs j).f0 <;> by_cases h2 : (rd_T63 gs j).f0 ≤ (rd_T63 gs j).f1 <;> by_cases h3 : (rd_T63 gs j).f1 < (ms.length : Int) <;> simp [h1, h2, h3]
theorem sound_l0 (ms : List M) (gs : List G) (n : Int) (hm : ms.length ≤ 9223372036854775807) (hg : gs.length ≤ 9223372036854775807) (d : Nat) : ∀ (k j : Nat) (b : Bool), ms.length - j = d → j ≤ ms.length → 2 * d + 2 + 2 * gs.length + 2 ≤ k →
    macadamlaw04_sound.l0 k b j ms gs n = some (b && (ms.drop j).all mileB && gs.all (gangB ms.length)) := by
  induction d with
  | zero =>
    intro k j b hd hj hk
    obtain ⟨k, rfl⟩ : ∃ m, k = m + 2 := ⟨k - 2, by omega⟩
    obtain rfl : j = ms.length := by omega
    have I := sound_l1 ms gs n hm hg gs.length k 0 b (by omega) (by omega) (by omega)
    simp only [macadamlaw04_sound.l0, macadamlaw04_sound.j2]
    have I' : macadamlaw04_sound.l1 k b 0 ms gs n = some (b && gs.all (gangB ms.length)) := by simpa using I
    cases b <;> simp [I']
  | succ d ih =>
    intro k j b hd hj hk
    obtain ⟨k, rfl⟩ : ∃ m, k = m + 2 := ⟨k - 2, by omega⟩
    have hlt : j < ms.length := by omega
    have hr := rd_drop_M ms j hlt
    have I := fun b => ih k (j + 1) b (by omega) (by omega) (by omega)
    simp only [macadamlaw04_sound.l0, macadamlaw04_sound.j2]
    cases b with
    | false =>
      have I1 := sound_l1 ms gs n hm hg gs.length k 0 false (by omega) (by omega) (by omega)
      rw [if_neg (by simp), if_neg (by simp)]
      simpa using I1
    | true =>
      rw [if_pos rfl, if_pos (by rw [decide_eq_true_eq]; omega), if_pos (by omega), if_pos (by omega), wrap_up hlt hm, hr, sane_f _ _ 6 (by omega), amid_f]
      simp only [Option.bind_some, List.all_cons, mileB, I, Bool.true_and]
      by_cases h1 : spanB (rd_T66 ms j).f0 6 = true
      · rw [if_pos h1]; simp [h1, within]
      · rw [if_neg h1]; simp [h1]
theorem sound_ev (ms : List M) (gs : List G) (n : Int) (hm : ms.length ≤ 9223372036854775807) (hg : gs.length ≤ 9223372036854775807) : Ev (fun k => macadamlaw04_sound.f k ms gs n) (okB ms gs n) := by
  have J : ∀ b, Ev (fun k => macadamlaw04_sound.j0 k b ms gs n) (b && ms.all mileB && gs.all (gangB ms.length)) := fun b => ⟨2 * ms.length + 2 * gs.length + 5, fun k hk => by
    obtain ⟨k, rfl⟩ : ∃ m, k = m + 1 := ⟨k - 1, by omega⟩
    simp only [macadamlaw04_sound.j0]
    refine (sound_l0 ms gs n hm hg ms.length k 0 b (by omega) (by omega) (by omega)).trans ?_
    simp⟩
  have hc := Ev.of (fun k => gang_Check.mono _ _ _ k) (check_f ms gs n hm hg)
  unfold macadamlaw04_sound.f
  refine Ev.bind hc ?_
  by_cases ok : okB ms gs n = true
  · rw [if_pos ok]
    refine Ev.pos rfl ?_
    obtain ⟨s1, s2, s3⟩ := okB_sizes ok
    have e1 : within (ms.length : Int) 1 4 = true := by simp [within]; omega
    have e2 : within (gs.length : Int) 1 2 = true := by simp [within]; omega
    have e3 : within n 1 4 = true := by simp [within]; omega
    refine Ev.bind (Ev.some ((amid_f _ _ _).trans (by rw [e1]))) (Ev.pos rfl (Ev.bind (Ev.some ((amid_f _ _ _).trans (by rw [e2]))) (Ev.pos rfl (Ev.bind (Ev.some ((amid_f _ _ _).trans (by rw [e3]))) ?_))))
    have := J true
    have e : (true && ms.all mileB && gs.all (gangB ms.length)) = okB ms gs n := by
      rw [ok, Bool.true_and, Bool.and_eq_true]
      unfold okB at ok
      simp only [Bool.and_eq_true] at ok
      exact ⟨ok.1.2, ok.2⟩
    rw [e] at this
    exact this
  · rw [if_neg ok]
    refine Ev.neg (by decide) ?_
    have := J false
    simp only [Bool.false_and] at this
    rw [show okB ms gs n = false by simpa using ok]
    exact this
theorem w12 : wrap64 (1 + 1) = 2 := by unfold wrap64; omega
end Go.Proofs.YtikfghnkbgdbgaaDoor.Q
end
section
namespace Go.Proofs.YtikfghnkbgdbgaaDoor.Q
open Go.RowKit Go.Proofs.YtikfghnkbgdbgaaDoorW.PrintWords Go.Proofs.YtikfghnkbgdbgaaDoorW.PrintLast Go.Proofs.YtikfghnkbgdbgaaDoorW.PrintMore
attribute [local go_sem] max2_int min2_int max_two min_two max_three min_three max_four min_four   -- for this text's walks alone
set_option linter.unusedVariables false
set_option linter.unusedSimpArgs false
def macadamref00_Reach.f (a0 : Int) (a1 : Int) : Option (Int × Int) := some (a0, a1)
set_option maxHeartbeats 8000000 in
set_option maxRecDepth 100000 in
theorem macadamref00_Reach.calls (a0 : Int) (a1 : Int) (r1 : Int) (r2 : Int) (w : World) (h : macadamref00_Reach.f a0 a1 = some (r1, r2)) :
  Calls Tryd.prog 50 #[.int .i64 a0, .int .i64 a1] w fun e w' => e = .returned (.agg #[.int .i64 r1, .int .i64 r2]) ∧ Below w.heap.size w w' := by
 have hu40 := Tryd.underlying40
 have HB := Aside0.mk (Below.refl w.heap.size w)
 have H : (some (a0, a1)) = some (r1, r2) := h
 clear h
 simp only [Option.some.injEq, Prod.mk.injEq] at H
 obtain ⟨rfl, rfl⟩ := H
 go_enter Tryd.func50, Tryd.ntmps50
 go_wp2_with (first | ((with_reducible refine gate_dst (N := 4) rfl ?_); refine bx 4 #[.int .i64 0, .int .i64 0] 40 ?_; intro gb211 hg w3 hbox hb; have n0_ := Aside0.mk (below_step (bw HB) hb); have n1_ := Aside0.mk (hbox); have n2_ := Aside0.mk (bz (bw HB) hg); have n3_ := Aside0.mk (bz (bw HB) hg); clear HB; have HB := n0_; have BK211 := n1_; have GW211 := n2_; have GE211 := n3_; clear n0_ n1_ n2_ n3_; clear hb hbox hg; obtain ⟨hcz4_0, hcz4_1, hfz4_0, hfz4_1⟩ := b2 BK211))
 refine bodyPost_ret (results_cell_row rfl _ _ gb211 40 #[.int .i64 a0, .int .i64 a1] (0, 0) _ rfl (by (with_reducible repeat (first | refine blk_drewN ?_ _ | refine blk_drew ?_ | refine blk_alloc ?_ _)); refine blk_put (cs := #[.int .i64 a0, .int .i64 0]) ?_ 1 _ rfl; (with_reducible repeat (first | refine blk_drewN ?_ _ | refine blk_drew ?_ | refine blk_alloc ?_ _)); refine blk_put (cs := #[.int .i64 0, .int .i64 0]) ?_ 0 _ rfl; (with_reducible repeat (first | refine blk_drewN ?_ _ | refine blk_drew ?_ | refine blk_alloc ?_ _)); exact BK211.out) Tryd.underlying40 rfl (by kernel_rfl)) rfl ?_
 exact ⟨by first | rfl | (simp [errW_none, errW_some] <;> rfl) | (simp [*, errW_none, errW_some] <;> rfl), bw1 HB GE211⟩
def macadamref00_Just.f (a0 : Int) : Option (Int × Int) := (macadamref00_Reach.f a0 a0).bind fun bt213 => (some (bt213.1, bt213.2))
set_option maxHeartbeats 8000000 in
set_option maxRecDepth 100000 in
theorem macadamref00_Just.calls (a0 : Int) (r1 : Int) (r2 : Int) (w : World) (h : macadamref00_Just.f a0 = some (r1, r2)) :
  Calls Tryd.prog 58 #[.int .i64 a0] w fun e w' => e = .returned (.agg #[.int .i64 r1, .int .i64 r2]) ∧ Below w.heap.size w w' := by
 have hu40 := Tryd.underlying40
 have HB := Aside0.mk (Below.refl w.heap.size w)
 have H : ((macadamref00_Reach.f a0 a0).bind fun bt213 => (some (bt213.1, bt213.2))) = some (r1, r2) := h
 clear h
 replace H := Option.bind_eq_some_iff.mp H
 obtain ⟨⟨t213, t214⟩, A20, H⟩ := H
 replace H : (some (t213, t214)) = some (r1, r2) := H
 have A2 := Aside0.mk A20
 clear A20
 simp only [Option.some.injEq, Prod.mk.injEq] at H
 obtain ⟨rfl, rfl⟩ := H
 go_enter Tryd.func58, Tryd.ntmps58
 go_wp2_with (first | ((with_reducible refine gate_dst (N := 2) rfl ?_); refine bx 2 #[.int .i64 0, .int .i64 0] 40 ?_; intro gb212 hg w3 hbox hb; have n0_ := Aside0.mk (below_step (bw HB) hb); have n1_ := Aside0.mk (hbox); have n2_ := Aside0.mk (bz (bw HB) hg); have n3_ := Aside0.mk (bz (bw HB) hg); clear HB; have HB := n0_; have BK212 := n1_; have GW212 := n2_; have GE212 := n3_; clear n0_ n1_ n2_ n3_; clear hb hbox hg) | ((with_reducible refine gate_callee (f := 50) rfl ?_); refine gL (some 5) Tryd.func50 #[.int .i64 a0, .int .i64 a0] ?_; (with_reducible refine (macadamref00_Reach.calls a0 a0 t213 t214 _ A2.out).mono ?_); rintro e w4 ⟨rfl, hb⟩; refine ⟨_, rfl, ?_⟩; have n0_ := Aside0.mk (blk_below (bm BK212) hb); have n1_ := Aside0.mk (below_step (bw1 HB GE212) hb); clear BK212; clear HB; have BK212 := n0_; have HB := n1_; clear n0_ n1_; (try clear hb); (try clear hb2); (try clear hk); (try clear hi); obtain ⟨hcz5_0, hcz5_1, hfz5_0, hfz5_1⟩ := b2 BK212))
 refine bodyPost_ret (results_cell_row rfl _ _ gb212 40 #[.int .i64 t213, .int .i64 t214] (0, 0) _ rfl (by (with_reducible repeat (first | refine blk_drewN ?_ _ | refine blk_drew ?_ | refine blk_alloc ?_ _)); refine blk_put (cs := #[.int .i64 t213, .int .i64 0]) ?_ 1 _ rfl; (with_reducible repeat (first | refine blk_drewN ?_ _ | refine blk_drew ?_ | refine blk_alloc ?_ _)); refine blk_put (cs := #[.int .i64 0, .int .i64 0]) ?_ 0 _ rfl; (with_reducible repeat (first | refine blk_drewN ?_ _ | refine blk_drew ?_ | refine blk_alloc ?_ _)); exact BK212.out) Tryd.underlying40 rfl (by kernel_rfl)) rfl ?_
 exact ⟨by first | rfl | (simp [errW_none, errW_some] <;> rfl) | (simp [*, errW_none, errW_some] <;> rfl), bw1 HB GE212⟩
def macadamref04_done.T6 : Bool × List (List Nat × List Nat) := (true, [([], []), ([], []), ([1], [1]), ([], []), ([], []), ([3, 4], [3, 4]), ([5], [5]), ([6], [6]), ([2, 7], [2, 7]), ([8], [8]), ([9], [9]), ([0, 10], [0, 10]), ([11, 11, 0, 1, 2, 3, 4, 5, 6, 7, 8, 9, 10, 11], [11])])
def macadamref04_done.B6 : List Nat := [0, 0, 2, 0, 0, 24, 56, 120, 254, 510, 1022, 2047, 4095]
theorem macadamref04_done.tab6 : rtab .any (opsOf Tryd.f76 6) = macadamref04_done.T6 := by kernel_rfl
theorem macadamref04_done.bits6 : waitsOk macadamref04_done.T6.2 macadamref04_done.B6 = true := by kernel_rfl
end Go.Proofs.YtikfghnkbgdbgaaDoor.Q
end
section
namespace Go.Proofs.YtikfghnkbgdbgaaDoor.Q
open Go.RowKit Go.Proofs.YtikfghnkbgdbgaaDoorW.PrintWords Go.Proofs.YtikfghnkbgdbgaaDoorW.PrintLast Go.Proofs.YtikfghnkbgdbgaaDoorW.PrintMore
attribute [local go_sem] max2_int min2_int max_two min_two max_three min_three max_four min_four   -- for this text's walks alone
set_option linter.unusedVariables false
set_option linter.unusedSimpArgs false
def macadamref04_mended.T5 : Bool × List (List Nat × List Nat) := (true, [([], []), ([], []), ([], []), ([0, 1, 2], [0, 1, 2]), ([3], [3]), ([], []), ([5], [5]), ([], []), ([6, 7], [6, 7]), ([8], [8]), ([9], [9]), ([10], [10]), ([4, 11], [4, 11])])
def macadamref04_mended.B5 : List Nat := [0, 0, 0, 7, 15, 0, 32, 0, 224, 480, 992, 2016, 4095]
theorem macadamref04_mended.tab5 : rtab .any (opsOf Tryd.f78 5) = macadamref04_mended.T5 := by kernel_rfl
theorem macadamref04_mended.bits5 : waitsOk macadamref04_mended.T5.2 macadamref04_mended.B5 = true := by kernel_rfl
end Go.Proofs.YtikfghnkbgdbgaaDoor.Q
end
section
namespace Go.Proofs.YtikfghnkbgdbgaaDoor.Q
open Go.RowKit Go.Proofs.YtikfghnkbgdbgaaDoorW.PrintWords Go.Proofs.YtikfghnkbgdbgaaDoorW.PrintLast Go.Proofs.YtikfghnkbgdbgaaDoorW.PrintMore
attribute [local go_sem] max2_int min2_int max_two min_two max_three min_three max_four min_four   -- for this text's walks alone
set_option linter.unusedVariables false
set_option linter.unusedSimpArgs false
def macadamlaw04_work.f (a0 : Int) (a1 : Int) (a2 : Int) : Option (Int × Int × Int) := some (a0, a1, a2)
set_option maxHeartbeats 8000000 in
set_option maxRecDepth 100000 in
theorem macadamlaw04_work.calls (a0 : Int) (a1 : Int) (a2 : Int) (r1 : Int) (r2 : Int) (r3 : Int) (w : World) (h : macadamlaw04_work.f a0 a1 a2 = some (r1, r2, r3)) :
  Calls Tryd.prog 44 #[.int .i64 a0, .int .i64 a1, .int .i64 a2] w fun e w' => e = .returned (.agg #[.int .i64 r1, .int .i64 r2, .int .i64 r3]) ∧ Below w.heap.size w w' := by
 have hu59 := Tryd.underlying59
 have HB := Aside0.mk (Below.refl w.heap.size w)
 have H : (some (a0, a1, a2)) = some (r1, r2, r3) := h
 clear h
 simp only [Option.some.injEq, Prod.mk.injEq] at H
 obtain ⟨rfl, rfl, rfl⟩ := H
 go_enter Tryd.func44, Tryd.ntmps44
 go_wp2_with (first | ((with_reducible refine gate_dst (N := 6) rfl ?_); refine bx 6 #[.int .i64 0, .int .i64 0, .int .i64 0] 59 ?_; intro gb405 hg w4 hbox hb; have n0_ := Aside0.mk (below_step (bw HB) hb); have n1_ := Aside0.mk (hbox); have n2_ := Aside0.mk (bz (bw HB) hg); have n3_ := Aside0.mk (bz (bw HB) hg); clear HB; have HB := n0_; have BK405 := n1_; have GW405 := n2_; have GE405 := n3_; clear n0_ n1_ n2_ n3_; clear hb hbox hg; obtain ⟨hcz5_0, hcz5_1, hcz5_2, hfz5_0, hfz5_1, hfz5_2⟩ := b3 BK405))
 refine bodyPost_ret (results_cell_row rfl _ _ gb405 59 #[.int .i64 a0, .int .i64 a1, .int .i64 a2] (0, 0) _ rfl (by (with_reducible repeat (first | refine blk_drewN ?_ _ | refine blk_drew ?_ | refine blk_alloc ?_ _)); refine blk_put (cs := #[.int .i64 a0, .int .i64 a1, .int .i64 0]) ?_ 2 _ rfl; (with_reducible repeat (first | refine blk_drewN ?_ _ | refine blk_drew ?_ | refine blk_alloc ?_ _)); refine blk_put (cs := #[.int .i64 a0, .int .i64 0, .int .i64 0]) ?_ 1 _ rfl; (with_reducible repeat (first | refine blk_drewN ?_ _ | refine blk_drew ?_ | refine blk_alloc ?_ _)); refine blk_put (cs := #[.int .i64 0, .int .i64 0, .int .i64 0]) ?_ 0 _ rfl; (with_reducible repeat (first | refine blk_drewN ?_ _ | refine blk_drew ?_ | refine blk_alloc ?_ _)); exact BK405.out) Tryd.underlying59 rfl (by kernel_rfl)) rfl ?_
 exact ⟨by first | rfl | (simp [errW_none, errW_some] <;> rfl) | (simp [*, errW_none, errW_some] <;> rfl), bw1 HB GE405⟩
end Go.Proofs.YtikfghnkbgdbgaaDoor.Q
end
section
namespace Go.Proofs.YtikfghnkbgdbgaaDoor.Q
open Go.RowKit Go.Proofs.YtikfghnkbgdbgaaDoorW.PrintWords Go.Proofs.YtikfghnkbgdbgaaDoorW.PrintLast Go.Proofs.YtikfghnkbgdbgaaDoorW.PrintMore
attribute [local go_sem] max2_int min2_int max_two min_two max_three min_three max_four min_four   -- for this text's walks alone
set_option linter.unusedVariables false
set_option linter.unusedSimpArgs false
def macadamlaw04_mended.T5 : Bool × List (List Nat × List Nat) := (true, [([], []), ([], []), ([], []), ([0, 1, 2], [0, 1, 2]), ([], []), ([4], [4]), ([], []), ([5, 6], [5, 6]), ([7], [7]), ([8], [8]), ([9], [9]), ([3, 10], [3, 10])])
def macadamlaw04_mended.B5 : List Nat := [0, 0, 0, 7, 0, 16, 0, 112, 240, 496, 1008, 2047]
theorem macadamlaw04_mended.tab5 : rtab .any (opsOf Tryd.f48 5) = macadamlaw04_mended.T5 := by kernel_rfl
theorem macadamlaw04_mended.bits5 : waitsOk macadamlaw04_mended.T5.2 macadamlaw04_mended.B5 = true := by kernel_rfl
end Go.Proofs.YtikfghnkbgdbgaaDoor.Q
end
section
namespace Go.Proofs.YtikfghnkbgdbgaaDoor.Q
open Go.RowKit Go.Proofs.YtikfghnkbgdbgaaDoorW.PrintWords Go.Proofs.YtikfghnkbgdbgaaDoorW.PrintLast Go.Proofs.YtikfghnkbgdbgaaDoorW.PrintMore
attribute [local go_sem] max2_int min2_int max_two min_two max_three min_three max_four min_four   -- for this text's walks alone
set_option linter.unusedVariables false
set_option linter.unusedSimpArgs false
theorem eqA59 (d : Nat) (w : World) (x0 y0 : Int) (x1 y1 : Int) (x2 y2 : Int) :
  (Op.equalIn (d + 2) 59 (.agg #[.int .i64 x0, .int .i64 x1, .int .i64 x2]) (.agg #[.int .i64 y0, .int .i64 y1, .int .i64 y2])).run Tryd.prog w = .ok (x0 == y0 && (x1 == y1 && (x2 == y2))) w := by
 refine eqA_of Tryd.underlying59 (by kernel_rfl) ?_
 refine eqf_cons (by rfl) (by go_simp; rfl) (by go_simp; rfl) (by go_simp) ?_
 refine eqf_cons (by rfl) (by go_simp; rfl) (by go_simp; rfl) (by go_simp) ?_
 exact eqf_last (by rfl) (by go_simp; rfl) (by go_simp; rfl) (by go_simp)
end Go.Proofs.YtikfghnkbgdbgaaDoor.Q
end
section
namespace Go.Proofs.YtikfghnkbgdbgaaDoor.Q
open Go.RowKit Go.Proofs.YtikfghnkbgdbgaaDoorW.PrintWords Go.Proofs.YtikfghnkbgdbgaaDoorW.PrintLast Go.Proofs.YtikfghnkbgdbgaaDoorW.PrintMore
attribute [local go_sem] max2_int min2_int max_two min_two max_three min_three max_four min_four   -- for this text's walks alone
set_option linter.unusedVariables false
set_option linter.unusedSimpArgs false
attribute [local go_sem high] eqA59
def macadamlaw04_same.l0 : Nat → List (S59) → List (S59) → Int → Option (Bool)
 | 0, _, _, _ => none
 | k + 1, x0, x1, x5 => if x5 < (x0.length : Int) then (if 0 ≤ x5 then (if x5 < (x1.length : Int) then (if (!(((rd_T59 x0 x5).f0) == ((rd_T59 x1 x5).f0)) || (!(((rd_T59 x0 x5).f1) == ((rd_T59 x1 x5).f1)) || (!(((rd_T59 x0 x5).f2) == ((rd_T59 x1 x5).f2))))) = true then (some false) else (macadamlaw04_same.l0 k x0 x1 (wrap64 (x5 + 1)))) else (none)) else (none)) else (some true)
def macadamlaw04_same.f (k : Nat) (l0 : List (S59)) (l1 : List (S59)) : Option (Bool) := if (l0.length : Int) = (l1.length : Int) then (macadamlaw04_same.l0 k l0 l1 0) else (some false)
set_option maxHeartbeats 8000000 in
set_option maxRecDepth 100000 in
theorem macadamlaw04_same.calls (k : Nat) (A0 : Option Addr) (c0 : Nat) (l0 : List (S59)) (A1 : Option Addr) (c1 : Nat) (l1 : List (S59)) (r : Bool) (w : World) (hr0 : Kd.C k59 w A0 l0.length l0) (hc0 : l0.length ≤ c0) (hr1 : Kd.C k59 w A1 l1.length l1) (hc1 : l1.length ≤ c1) (h : macadamlaw04_same.f k l0 l1 = some r) :
  Calls Tryd.prog 33 #[.slice A0 l0.length c0, .slice A1 l1.length c1] w fun e w' => e = .returned (.bool r) ∧ Drawn0 w w' := by
 have hu59 := Tryd.underlying59
 have HR0 := Aside0.mk hr0
 have HC0 := Aside0.mk hc0
 clear hr0 hc0
 have HR1 := Aside0.mk hr1
 have HC1 := Aside0.mk hc1
 clear hr1 hc1
 have H : (if (l0.length : Int) = (l1.length : Int) then (macadamlaw04_same.l0 k l0 l1 0) else (some false)) = some r := h
 clear h
 by_cases c3 : (l0.length : Int) = (l1.length : Int)
 ·rw [if_pos c3] at H
  have c3b0 : ((l0.length : Int) == (l1.length : Int)) = true := beq_iff_eq.mpr c3
  have c3b1 : ((l0.length : Int) != (l1.length : Int)) = false := bne_eq_false_iff_eq.mpr c3
  have c3b2 : (l0.length == l1.length) = true := by first | simpa using c3 | (simp at c3 ⊢; omega)
  clear c3
  have H' := Aside0.mk H
  clear H
  go_enter Tryd.func33, Tryd.ntmps33
  go_wp2
  repeat (go_quiet (fail); try go_wp2)
  go_loopg [5] k (fun kq v5 w' => ∃ (x5_1 : Int), v5 = .int .i64 x5_1 ∧ Aside0 (macadamlaw04_same.l0 kq l0 l1 x5_1 = some r) ∧ Aside0 (kq ≤ k) ∧ Drawn0 w w')
  case atStart => exact ⟨(0), (by first | rfl | (simp; done) | (simp [*]; done)), H', ⟨Nat.le_refl _⟩, by repeat (first | exact Drawn0.refl _ | apply Drawn0.step)⟩
  case round =>
   clear H'
   try clear c1
   try clear p2
   try clear c3
   try clear c3b0
   try clear c3b1
   try clear c3b2
   obtain ⟨x5_1, rfl, HA, HK1, ⟨m1, rfl⟩⟩ := hrel
   cases gk with
   | zero => exact absurd HA.out (by simp [macadamlaw04_same.l0])
   | succ k1 =>
    have H := HA.out
    clear HA
    simp only [macadamlaw04_same.l0] at H
    by_cases c4 : x5_1 < (l0.length : Int)
    ·rw [if_pos c4] at H
     have c4b0 : decide (x5_1 < (l0.length : Int)) = true := decide_eq_true c4
     clear c4
     by_cases c5 : 0 ≤ x5_1
     ·rw [if_pos c5] at H
      have c5b0 : decide (0 ≤ x5_1) = true := decide_eq_true c5
      clear c5
      by_cases c6 : x5_1 < (l1.length : Int)
      ·rw [if_pos c6] at H
       have c6b0 : decide (x5_1 < (l1.length : Int)) = true := decide_eq_true c6
       clear c6
       by_cases c7 : (!(((rd_T59 l0 x5_1).f0) == ((rd_T59 l1 x5_1).f0)) || (!(((rd_T59 l0 x5_1).f1) == ((rd_T59 l1 x5_1).f1)) || (!(((rd_T59 l0 x5_1).f2) == ((rd_T59 l1 x5_1).f2))))) = true
       ·rw [if_pos c7] at H
        have c7b0 : (!(((rd_T59 l0 x5_1).f0) == ((rd_T59 l1 x5_1).f0)) || (!(((rd_T59 l0 x5_1).f1) == ((rd_T59 l1 x5_1).f1)) || (!(((rd_T59 l0 x5_1).f2) == ((rd_T59 l1 x5_1).f2))))) = true := c7
        clear c7
        obtain rfl := Option.some.inj H
        have p318 : 0 ≤ (x5_1 : Int) := of_decide_eq_true (by first | (with_reducible assumption) | assumption)
        have q318 : x5_1 < (l0.length : Int) := of_decide_eq_true (by first | (with_reducible assumption) | assumption)
        obtain ⟨ad318, e318, hx318_0, hx318_1, hx318_2⟩ := at_T59 HR0.out x5_1 p318 q318
        cases e318
        replace p318 := eq_true p318
        replace q318 := eq_true q318
        have p319 : 0 ≤ (x5_1 : Int) := of_decide_eq_true (by first | (with_reducible assumption) | assumption)
        have q319 : x5_1 < (l1.length : Int) := of_decide_eq_true (by first | (with_reducible assumption) | assumption)
        obtain ⟨ad319, e319, hx319_0, hx319_1, hx319_2⟩ := at_T59 HR1.out x5_1 p319 q319
        cases e319
        replace p319 := eq_true p319
        replace q319 := eq_true q319
        go_wp2
        repeat (go_quiet (fail); try go_wp2)
        go_ret
        exact ⟨by first | rfl | (simp; done) | (simp [*]; done), by repeat (first | exact Drawn0.refl _ | apply Drawn0.step)⟩
       ·rw [if_neg c7] at H
        have c7b0 : (!(((rd_T59 l0 x5_1).f0) == ((rd_T59 l1 x5_1).f0)) || (!(((rd_T59 l0 x5_1).f1) == ((rd_T59 l1 x5_1).f1)) || (!(((rd_T59 l0 x5_1).f2) == ((rd_T59 l1 x5_1).f2))))) = false := by simpa using c7
        clear c7
        have H' := Aside0.mk H
        clear H
        have p318 : 0 ≤ (x5_1 : Int) := of_decide_eq_true (by first | (with_reducible assumption) | assumption)
        have q318 : x5_1 < (l0.length : Int) := of_decide_eq_true (by first | (with_reducible assumption) | assumption)
        obtain ⟨ad318, e318, hx318_0, hx318_1, hx318_2⟩ := at_T59 HR0.out x5_1 p318 q318
        cases e318
        replace p318 := eq_true p318
        replace q318 := eq_true q318
        have p319 : 0 ≤ (x5_1 : Int) := of_decide_eq_true (by first | (with_reducible assumption) | assumption)
        have q319 : x5_1 < (l1.length : Int) := of_decide_eq_true (by first | (with_reducible assumption) | assumption)
        obtain ⟨ad319, e319, hx319_0, hx319_1, hx319_2⟩ := at_T59 HR1.out x5_1 p319 q319
        cases e319
        replace p319 := eq_true p319
        replace q319 := eq_true q319
        go_wp2
        repeat (go_quiet (fail); try go_wp2)
        go_roundg k1
        case measure => have := HK1.out; omega
        case rel => exact ⟨(wrap64 (x5_1 + 1)), (by first | rfl | (simp; done) | (simp [*]; done)), H', ⟨by have := HK1.out; omega⟩, by repeat (first | exact Drawn0.refl _ | apply Drawn0.step)⟩
      ·rw [if_neg c6] at H
       exact absurd H (by simp)
     ·rw [if_neg c5] at H
      exact absurd H (by simp)
    ·rw [if_neg c4] at H
     have c4b0 : decide (x5_1 < (l0.length : Int)) = false := decide_eq_false c4
     clear c4
     obtain rfl := Option.some.inj H
     go_wp2
     repeat (go_quiet (fail); try go_wp2)
     go_ret
     exact ⟨by first | rfl | (simp; done) | (simp [*]; done), by repeat (first | exact Drawn0.refl _ | apply Drawn0.step)⟩
 ·rw [if_neg c3] at H
  have c3b0 : ((l0.length : Int) == (l1.length : Int)) = false := beq_eq_false_iff_ne.mpr c3
  have c3b1 : ((l0.length : Int) != (l1.length : Int)) = true := bne_iff_ne.mpr c3
  have c3b2 : (l0.length == l1.length) = false := by first | simpa using c3 | (simp at c3 ⊢; omega)
  obtain rfl := Option.some.inj H
  go_enter Tryd.func33, Tryd.ntmps33
  go_wp2
  repeat (go_quiet (fail); try go_wp2)
  go_ret
  exact ⟨by first | rfl | (simp; done) | (simp [*]; done), by repeat (first | exact Drawn0.refl _ | apply Drawn0.step)⟩
end Go.Proofs.YtikfghnkbgdbgaaDoor.Q
end
section
namespace Go.Proofs.YtikfghnkbgdbgaaDoor.Q
set_option linter.unusedSimpArgs false
set_option linter.unusedVariables false
open Go.RowKit Go.Proofs.YtikfghnkbgdbgaaDoorW.PrintWords Go.Proofs.YtikfghnkbgdbgaaDoorW.PrintLast Go.Proofs.YtikfghnkbgdbgaaDoorW.PrintMore
theorem find_upTo {n : Int} {P : Int → Bool} {i : Int} (h : (upTo n).find? P = some i) : (0 ≤ i ∧ i < n) ∧ P i = true ∧ ∀ j, 0 ≤ j → j < i → P j = false := by
  obtain ⟨hp, l1, l2, e, ha⟩ := List.find?_eq_some_iff_append.1 h
  have hi : i ∈ upTo n := by rw [e]; simp
  refine ⟨mem_upTo.1 hi, hp, fun j hj0 hji => ?_⟩
  have hj : j ∈ upTo n := mem_upTo.2 ⟨hj0, by have := (mem_upTo.1 hi).2; omega⟩
  rw [e] at hj
  have hpw := upTo_pair n
  rw [e] at hpw
  rcases List.mem_append.1 hj with hj | hj
  · simpa using ha j hj
  · rcases List.mem_cons.1 hj with rfl | hj
    · omega
    · have := List.rel_of_pairwise_cons (List.pairwise_append.1 hpw).2.1 hj
      omega
theorem first_spec {ms : List M} {gs : List G} {n : Int} (ok : okB ms gs n = true) :
    (∃ i, gang_First.f ms gs n = some (i, 0) ∧ (0 ≤ i ∧ i < (ms.length : Int)) ∧ hadAny ms gs n i = false ∧ ∀ j, 0 ≤ j → j < i → hadAny ms gs n j = true) ∨ (gang_First.f ms gs n = some (0, 4) ∧ ∀ j, 0 ≤ j → j < (ms.length : Int) → hadAny ms gs n j = true) := by
  unfold gang_First.f
  rw [if_pos ok]
  cases h : (upTo ms.length).find? (fun i => !hadAny ms gs n i) with
  | some i =>
    left
    obtain ⟨h0, h1, h2⟩ := find_upTo h
    exact ⟨i, rfl, h0, by simpa using h1, fun j hj0 hj1 => by simpa using h2 j hj0 hj1⟩
  | none =>
    right
    refine ⟨rfl, fun i h0 h1 => ?_⟩
    have := List.find?_eq_none.1 h i (mem_upTo.2 ⟨h0, h1⟩)
    simpa using this
end Go.Proofs.YtikfghnkbgdbgaaDoor.Q
end
section
namespace Go.Proofs.YtikfghnkbgdbgaaDoor.Q
set_option linter.unusedSimpArgs false
set_option linter.unusedVariables false
open Go.RowKit Go.Proofs.YtikfghnkbgdbgaaDoorW.PrintWords Go.Proofs.YtikfghnkbgdbgaaDoorW.PrintLast Go.Proofs.YtikfghnkbgdbgaaDoorW.PrintMore
abbrev OkBook (ms : List M) (gs : List G) (n : Int) : Prop := (ms.length ≤ maxLen ∧ ∀ m ∈ ms, ((Lit.int .i64 m.f0.f0).wf = true ∧ (Lit.int .i64 m.f0.f1).wf = true) ∧ (Lit.int .i64 m.f1).wf = true) ∧
    (gs.length ≤ maxLen ∧ ∀ g ∈ gs, (Lit.int .i64 g.f0).wf = true ∧ (Lit.int .i64 g.f1).wf = true ∧ ((Lit.int .i64 g.f2.f0).wf = true ∧ (Lit.int .i64 g.f2.f1).wf = true)) ∧ (Lit.int .i64 n).wf = true
abbrev OkWorks (p : List Wk) : Prop := p.length ≤ maxLen ∧ ∀ x ∈ p, (Lit.int .i64 x.f0).wf = true ∧ (Lit.int .i64 x.f1).wf = true ∧ (Lit.int .i64 x.f2).wf = true
theorem OkWorks.nights {p : List Wk} (h : OkWorks p) : ∀ x ∈ p, -9223372036854775808 ≤ x.f0 ∧ x.f0 ≤ 9223372036854775807 := fun x hx => bounds_i64 (h.2 x hx).1
end Go.Proofs.YtikfghnkbgdbgaaDoor.Q
end
section
namespace Go.Proofs.YtikfghnkbgdbgaaDoor.Q
open Go.RowKit Go.Proofs.YtikfghnkbgdbgaaDoorW.PrintWords Go.Proofs.YtikfghnkbgdbgaaDoorW.PrintLast Go.Proofs.YtikfghnkbgdbgaaDoorW.PrintMore
attribute [local go_sem] max2_int min2_int max_two min_two max_three min_three max_four min_four   -- for this text's walks alone
set_option linter.unusedVariables false
set_option linter.unusedSimpArgs false
def macadamlaw04_alone.l0 : Nat → Int → Int → List (S66) → List (S63) → Int → Option ((List (S66)) × (List (S63)) × Int)
 | 0, _, _, _, _, _ => none
 | k + 1, x1, x6, x623000, x623001, x623002 => if x6 < (x623000.length : Int) then (if x6 = x1 then (macadamlaw04_alone.l0 k x1 (wrap64 (x6 + 1)) x623000 x623001 x623002) else (if 0 ≤ x6 then (macadamlaw04_alone.l0 k x1 (wrap64 (x6 + 1)) (x623000.set (x6 : Int).toNat (⟨(⟨(rd_T66 x623000 x6).f0.f0, (rd_T66 x623000 x6).f0.f1⟩ : S40), 15⟩ : S66)) x623001 x623002) else (none))) else (some (x623000, x623001, x623002))
def macadamlaw04_alone.f (k : Nat) (l0_0 : List (S66)) (l0_1 : List (S63)) (a0_2 : Int) (a1 : Int) : Option ((List (S66)) × (List (S63)) × Int) := (some (([] : List (S66)) : List (S66))).bind fun y623 => (if y623.length + l0_0.length < 5864062014805 then (macadamlaw04_alone.l0 k a1 0 (y623 ++ l0_0) l0_1 a0_2) else (none))
def macadamlaw04_mile.f (a0_0 : Int) (a0_1 : Int) (a1 : Int) : Option (Int × Int × Int) := some (a0_0, a0_1, a1)
set_option maxHeartbeats 8000000 in
set_option maxRecDepth 100000 in
theorem macadamlaw04_mile.calls (a0_0 : Int) (a0_1 : Int) (a1 : Int) (r1 : Int) (r2 : Int) (r3 : Int) (w : World) (h : macadamlaw04_mile.f a0_0 a0_1 a1 = some (r1, r2, r3)) :
  Calls Tryd.prog 88 #[.agg #[.int .i64 a0_0, .int .i64 a0_1], .int .i64 a1] w fun e w' => e = .returned (.agg #[.int .i64 r1, .int .i64 r2, .int .i64 r3]) ∧ Below w.heap.size w w' := by
 have hu40 := Tryd.underlying40
 have hu66 := Tryd.underlying66
 have HB := Aside0.mk (Below.refl w.heap.size w)
 have H : (some (a0_0, a0_1, a1)) = some (r1, r2, r3) := h
 clear h
 simp only [Option.some.injEq, Prod.mk.injEq] at H
 obtain ⟨rfl, rfl, rfl⟩ := H
 go_enter Tryd.func88, Tryd.ntmps88
 go_wp2_with (first | ((with_reducible refine gate_dst (N := 2) rfl ?_); refine bx 2 #[.int .i64 a0_0, .int .i64 a0_1] 40 ?_; intro gb712 hg w3 hbox hb; have n0_ := Aside0.mk (below_step (bw HB) hb); have n1_ := Aside0.mk (hbox); have n2_ := Aside0.mk (bz (bw HB) hg); have n3_ := Aside0.mk (bz (bw HB) hg); clear HB; have HB := n0_; have BK712 := n1_; have GW712 := n2_; have GE712 := n3_; clear n0_ n1_ n2_ n3_; clear hb hbox hg) | ((with_reducible refine gate_dst (N := 4) rfl ?_); refine bx 4 #[.int .i64 0, .int .i64 0, .int .i64 0] 66 ?_; intro gb713 hg w4 hbox hb; have n0_ := Aside0.mk (blk_below (bm BK712) hb); have n1_ := Aside0.mk (below_step (bw1 HB GE712) hb); have n2_ := Aside0.mk (hbox); have n3_ := Aside0.mk (bz (bw1 HB GE712) hg); have n4_ := Aside0.mk (bz (bw1 HB GE712) hg); have n5_ := Aside0.mk (bl (bm BK712) hg); have n6_ := Aside0.mk (bg (bm BK712) hg); clear BK712; clear HB; have BK712 := n0_; have HB := n1_; have BK713 := n2_; have GW713 := n3_; have GE713 := n4_; have NB712_713 := n5_; have NB713_712 := n6_; clear n0_ n1_ n2_ n3_ n4_ n5_ n6_; clear hb hbox hg; have hnb5 := NB712_713.out; have hnc5 := NB713_712.out; obtain ⟨hcz6_0, hcz6_1, hfz6_0, hfz6_1⟩ := b2 BK712; obtain ⟨hcz7_0, hcz7_1, hcz7_2, hfz7_0, hfz7_1, hfz7_2⟩ := b3 BK713))
 refine bodyPost_ret (results_cell_row rfl _ _ gb713 66 #[.int .i64 a0_0, .int .i64 a0_1, .int .i64 a1] (0, 0) _ rfl (by (with_reducible repeat (first | refine blk_drewN ?_ _ | refine blk_drew ?_ | refine blk_alloc ?_ _)); refine blk_put (cs := #[.int .i64 a0_0, .int .i64 a0_1, .int .i64 0]) ?_ 2 _ rfl; (with_reducible repeat (first | refine blk_drewN ?_ _ | refine blk_drew ?_ | refine blk_alloc ?_ _)); refine blk_put (cs := #[.int .i64 a0_0, .int .i64 0, .int .i64 0]) ?_ 1 _ rfl; (with_reducible repeat (first | refine blk_drewN ?_ _ | refine blk_drew ?_ | refine blk_alloc ?_ _)); refine blk_put (cs := #[.int .i64 0, .int .i64 0, .int .i64 0]) ?_ 0 _ rfl; (with_reducible repeat (first | refine blk_drewN ?_ _ | refine blk_drew ?_ | refine blk_alloc ?_ _)); exact BK713.out) Tryd.underlying66 rfl (by kernel_rfl)) rfl ?_
 exact ⟨by first | rfl | (simp [errW_none, errW_some] <;> rfl) | (simp [*, errW_none, errW_some] <;> rfl), bw2 HB GE712 GE713⟩
def macadamlaw04_crew.f (a0 : Int) (a1 : Int) (a2_0 : Int) (a2_1 : Int) : Option (Int × Int × Int × Int) := some (a0, a1, a2_0, a2_1)
set_option maxHeartbeats 8000000 in
set_option maxRecDepth 100000 in
theorem macadamlaw04_crew.calls (a0 : Int) (a1 : Int) (a2_0 : Int) (a2_1 : Int) (r1 : Int) (r2 : Int) (r3 : Int) (r4 : Int) (w : World) (h : macadamlaw04_crew.f a0 a1 a2_0 a2_1 = some (r1, r2, r3, r4)) :
  Calls Tryd.prog 89 #[.int .i64 a0, .int .i64 a1, .agg #[.int .i64 a2_0, .int .i64 a2_1]] w fun e w' => e = .returned (.agg #[.int .i64 r1, .int .i64 r2, .int .i64 r3, .int .i64 r4]) ∧ Below w.heap.size w w' := by
 have hu40 := Tryd.underlying40
 have hu63 := Tryd.underlying63
 have HB := Aside0.mk (Below.refl w.heap.size w)
 have H : (some (a0, a1, a2_0, a2_1)) = some (r1, r2, r3, r4) := h
 clear h
 simp only [Option.some.injEq, Prod.mk.injEq] at H
 obtain ⟨rfl, rfl, rfl, rfl⟩ := H
 go_enter Tryd.func89, Tryd.ntmps89
 go_wp2_with (first | ((with_reducible refine gate_dst (N := 5) rfl ?_); refine bx 5 #[.int .i64 a2_0, .int .i64 a2_1] 40 ?_; intro gb714 hg w4 hbox hb; have n0_ := Aside0.mk (below_step (bw HB) hb); have n1_ := Aside0.mk (hbox); have n2_ := Aside0.mk (bz (bw HB) hg); have n3_ := Aside0.mk (bz (bw HB) hg); clear HB; have HB := n0_; have BK714 := n1_; have GW714 := n2_; have GE714 := n3_; clear n0_ n1_ n2_ n3_; clear hb hbox hg) | ((with_reducible refine gate_dst (N := 6) rfl ?_); refine bx 6 #[.int .i64 0, .int .i64 0, .int .i64 0, .int .i64 0] 63 ?_; intro gb715 hg w5 hbox hb; have n0_ := Aside0.mk (blk_below (bm BK714) hb); have n1_ := Aside0.mk (below_step (bw1 HB GE714) hb); have n2_ := Aside0.mk (hbox); have n3_ := Aside0.mk (bz (bw1 HB GE714) hg); have n4_ := Aside0.mk (bz (bw1 HB GE714) hg); have n5_ := Aside0.mk (bl (bm BK714) hg); have n6_ := Aside0.mk (bg (bm BK714) hg); clear BK714; clear HB; have BK714 := n0_; have HB := n1_; have BK715 := n2_; have GW715 := n3_; have GE715 := n4_; have NB714_715 := n5_; have NB715_714 := n6_; clear n0_ n1_ n2_ n3_ n4_ n5_ n6_; clear hb hbox hg; have hnb6 := NB714_715.out; have hnc6 := NB715_714.out; obtain ⟨hcz7_0, hcz7_1, hfz7_0, hfz7_1⟩ := b2 BK714; obtain ⟨hcz8_0, hcz8_1, hcz8_2, hcz8_3, hfz8_0, hfz8_1, hfz8_2, hfz8_3⟩ := b4 BK715))
 refine bodyPost_ret (results_cell_row rfl _ _ gb715 63 #[.int .i64 a0, .int .i64 a1, .int .i64 a2_0, .int .i64 a2_1] (0, 0) _ rfl (by (with_reducible repeat (first | refine blk_drewN ?_ _ | refine blk_drew ?_ | refine blk_alloc ?_ _)); refine blk_put (cs := #[.int .i64 a0, .int .i64 a1, .int .i64 a2_0, .int .i64 0]) ?_ 3 _ rfl; (with_reducible repeat (first | refine blk_drewN ?_ _ | refine blk_drew ?_ | refine blk_alloc ?_ _)); refine blk_put (cs := #[.int .i64 a0, .int .i64 a1, .int .i64 0, .int .i64 0]) ?_ 2 _ rfl; (with_reducible repeat (first | refine blk_drewN ?_ _ | refine blk_drew ?_ | refine blk_alloc ?_ _)); refine blk_put (cs := #[.int .i64 a0, .int .i64 0, .int .i64 0, .int .i64 0]) ?_ 1 _ rfl; (with_reducible repeat (first | refine blk_drewN ?_ _ | refine blk_drew ?_ | refine blk_alloc ?_ _)); refine blk_put (cs := #[.int .i64 0, .int .i64 0, .int .i64 0, .int .i64 0]) ?_ 0 _ rfl; (with_reducible repeat (first | refine blk_drewN ?_ _ | refine blk_drew ?_ | refine blk_alloc ?_ _)); exact BK715.out) Tryd.underlying63 rfl (by kernel_rfl)) rfl ?_
 exact ⟨by first | rfl | (simp [errW_none, errW_some] <;> rfl) | (simp [*, errW_none, errW_some] <;> rfl), bw2 HB GE714 GE715⟩
def macadamlaw04_book.f (a0 : Int) (a1 : Int) : Option ((List (S66)) × (List (S63)) × Int) := (macadamref00_Reach.f 2 3).bind fun bt717 => ((macadamlaw04_mile.f bt717.1 bt717.2 0).bind fun bt719 => ((macadamref00_Reach.f 1 2).bind fun bt722 => ((macadamlaw04_mile.f bt722.1 bt722.2 1).bind fun bt724 => ((macadamref00_Just.f 2).bind fun bt727 => ((macadamlaw04_mile.f bt727.1 bt727.2 2).bind fun bt729 => ((macadamref00_Reach.f 1 2).bind fun bt735 => ((macadamlaw04_crew.f 0 1 bt735.1 bt735.2).bind fun bt737 => ((macadamref00_Just.f 2).bind fun bt741 => ((macadamlaw04_crew.f 1 a1 bt741.1 bt741.2).bind fun bt743 => (some ((([(⟨(⟨bt719.1, bt719.2.1⟩ : S40), bt719.2.2⟩ : S66), (⟨(⟨bt724.1, bt724.2.1⟩ : S40), bt724.2.2⟩ : S66), (⟨(⟨bt729.1, bt729.2.1⟩ : S40), bt729.2.2⟩ : S66)] : List (S66))), (([(⟨bt737.1, bt737.2.1, (⟨bt737.2.2.1, bt737.2.2.2⟩ : S40)⟩ : S63), (⟨bt743.1, bt743.2.1, (⟨bt743.2.2.1, bt743.2.2.2⟩ : S40)⟩ : S63)] : List (S63))), a0)))))))))))
set_option maxHeartbeats 8000000 in
set_option maxRecDepth 100000 in
theorem macadamlaw04_book.calls (a0 : Int) (a1 : Int) (r1 : List (S66)) (r2 : List (S63)) (r3 : Int) (w : World) (h : macadamlaw04_book.f a0 a1 = some (r1, r2, r3)) :
  Calls Tryd.prog 57 #[.int .i64 a0, .int .i64 a1] w fun e w' => ∃ v0_ v1_ : Value, e = .returned (.agg #[v0_, v1_, .int .i64 r3]) ∧ Kd.R k66 66 w' w.heap.size (fun _ => True) v0_ r1 ∧ Kd.R k63 63 w' w.heap.size (fun _ => True) v1_ r2 ∧ Below w.heap.size w w' := by
 have hu25 := Tryd.underlying25
 have HB := Aside0.mk (Below.refl w.heap.size w)
 have H : ((macadamref00_Reach.f 2 3).bind fun bt717 => ((macadamlaw04_mile.f bt717.1 bt717.2 0).bind fun bt719 => ((macadamref00_Reach.f 1 2).bind fun bt722 => ((macadamlaw04_mile.f bt722.1 bt722.2 1).bind fun bt724 => ((macadamref00_Just.f 2).bind fun bt727 => ((macadamlaw04_mile.f bt727.1 bt727.2 2).bind fun bt729 => ((macadamref00_Reach.f 1 2).bind fun bt735 => ((macadamlaw04_crew.f 0 1 bt735.1 bt735.2).bind fun bt737 => ((macadamref00_Just.f 2).bind fun bt741 => ((macadamlaw04_crew.f 1 a1 bt741.1 bt741.2).bind fun bt743 => (some ((([(⟨(⟨bt719.1, bt719.2.1⟩ : S40), bt719.2.2⟩ : S66), (⟨(⟨bt724.1, bt724.2.1⟩ : S40), bt724.2.2⟩ : S66), (⟨(⟨bt729.1, bt729.2.1⟩ : S40), bt729.2.2⟩ : S66)] : List (S66))), (([(⟨bt737.1, bt737.2.1, (⟨bt737.2.2.1, bt737.2.2.2⟩ : S40)⟩ : S63), (⟨bt743.1, bt743.2.1, (⟨bt743.2.2.1, bt743.2.2.2⟩ : S40)⟩ : S63)] : List (S63))), a0)))))))))))) = some (r1, r2, r3) := h
 clear h
 replace H := Option.bind_eq_some_iff.mp H
 obtain ⟨⟨t717, t718⟩, A30, H⟩ := H
 replace H : ((macadamlaw04_mile.f t717 t718 0).bind fun bt719 => ((macadamref00_Reach.f 1 2).bind fun bt722 => ((macadamlaw04_mile.f bt722.1 bt722.2 1).bind fun bt724 => ((macadamref00_Just.f 2).bind fun bt727 => ((macadamlaw04_mile.f bt727.1 bt727.2 2).bind fun bt729 => ((macadamref00_Reach.f 1 2).bind fun bt735 => ((macadamlaw04_crew.f 0 1 bt735.1 bt735.2).bind fun bt737 => ((macadamref00_Just.f 2).bind fun bt741 => ((macadamlaw04_crew.f 1 a1 bt741.1 bt741.2).bind fun bt743 => (some ((([(⟨(⟨bt719.1, bt719.2.1⟩ : S40), bt719.2.2⟩ : S66), (⟨(⟨bt724.1, bt724.2.1⟩ : S40), bt724.2.2⟩ : S66), (⟨(⟨bt729.1, bt729.2.1⟩ : S40), bt729.2.2⟩ : S66)] : List (S66))), (([(⟨bt737.1, bt737.2.1, (⟨bt737.2.2.1, bt737.2.2.2⟩ : S40)⟩ : S63), (⟨bt743.1, bt743.2.1, (⟨bt743.2.2.1, bt743.2.2.2⟩ : S40)⟩ : S63)] : List (S63))), a0))))))))))) = some (r1, r2, r3) := H
 have A3 := Aside0.mk A30
 clear A30
 replace H := Option.bind_eq_some_iff.mp H
 obtain ⟨⟨t719, t720, t721⟩, A40, H⟩ := H
 replace H : ((macadamref00_Reach.f 1 2).bind fun bt722 => ((macadamlaw04_mile.f bt722.1 bt722.2 1).bind fun bt724 => ((macadamref00_Just.f 2).bind fun bt727 => ((macadamlaw04_mile.f bt727.1 bt727.2 2).bind fun bt729 => ((macadamref00_Reach.f 1 2).bind fun bt735 => ((macadamlaw04_crew.f 0 1 bt735.1 bt735.2).bind fun bt737 => ((macadamref00_Just.f 2).bind fun bt741 => ((macadamlaw04_crew.f 1 a1 bt741.1 bt741.2).bind fun bt743 => (some ((([(⟨(⟨t719, t720⟩ : S40), t721⟩ : S66), (⟨(⟨bt724.1, bt724.2.1⟩ : S40), bt724.2.2⟩ : S66), (⟨(⟨bt729.1, bt729.2.1⟩ : S40), bt729.2.2⟩ : S66)] : List (S66))), (([(⟨bt737.1, bt737.2.1, (⟨bt737.2.2.1, bt737.2.2.2⟩ : S40)⟩ : S63), (⟨bt743.1, bt743.2.1, (⟨bt743.2.2.1, bt743.2.2.2⟩ : S40)⟩ : S63)] : List (S63))), a0)))))))))) = some (r1, r2, r3) := H
 have A4 := Aside0.mk A40
 clear A40
 replace H := Option.bind_eq_some_iff.mp H
 obtain ⟨⟨t722, t723⟩, A50, H⟩ := H
 replace H : ((macadamlaw04_mile.f t722 t723 1).bind fun bt724 => ((macadamref00_Just.f 2).bind fun bt727 => ((macadamlaw04_mile.f bt727.1 bt727.2 2).bind fun bt729 => ((macadamref00_Reach.f 1 2).bind fun bt735 => ((macadamlaw04_crew.f 0 1 bt735.1 bt735.2).bind fun bt737 => ((macadamref00_Just.f 2).bind fun bt741 => ((macadamlaw04_crew.f 1 a1 bt741.1 bt741.2).bind fun bt743 => (some ((([(⟨(⟨t719, t720⟩ : S40), t721⟩ : S66), (⟨(⟨bt724.1, bt724.2.1⟩ : S40), bt724.2.2⟩ : S66), (⟨(⟨bt729.1, bt729.2.1⟩ : S40), bt729.2.2⟩ : S66)] : List (S66))), (([(⟨bt737.1, bt737.2.1, (⟨bt737.2.2.1, bt737.2.2.2⟩ : S40)⟩ : S63), (⟨bt743.1, bt743.2.1, (⟨bt743.2.2.1, bt743.2.2.2⟩ : S40)⟩ : S63)] : List (S63))), a0))))))))) = some (r1, r2, r3) := H
 have A5 := Aside0.mk A50
 clear A50
 replace H := Option.bind_eq_some_iff.mp H
 obtain ⟨⟨t724, t725, t726⟩, A60, H⟩ := H
 replace H : ((macadamref00_Just.f 2).bind fun bt727 => ((macadamlaw04_mile.f bt727.1 bt727.2 2).bind fun bt729 => ((macadamref00_Reach.f 1 2).bind fun bt735 => ((macadamlaw04_crew.f 0 1 bt735.1 bt735.2).bind fun bt737 => ((macadamref00_Just.f 2).bind fun bt741 => ((macadamlaw04_crew.f 1 a1 bt741.1 bt741.2).bind fun bt743 => (some ((([(⟨(⟨t719, t720⟩ : S40), t721⟩ : S66), (⟨(⟨t724, t725⟩ : S40), t726⟩ : S66), (⟨(⟨bt729.1, bt729.2.1⟩ : S40), bt729.2.2⟩ : S66)] : List (S66))), (([(⟨bt737.1, bt737.2.1, (⟨bt737.2.2.1, bt737.2.2.2⟩ : S40)⟩ : S63), (⟨bt743.1, bt743.2.1, (⟨bt743.2.2.1, bt743.2.2.2⟩ : S40)⟩ : S63)] : List (S63))), a0)))))))) = some (r1, r2, r3) := H
 have A6 := Aside0.mk A60
 clear A60
 replace H := Option.bind_eq_some_iff.mp H
 obtain ⟨⟨t727, t728⟩, A70, H⟩ := H
 replace H : ((macadamlaw04_mile.f t727 t728 2).bind fun bt729 => ((macadamref00_Reach.f 1 2).bind fun bt735 => ((macadamlaw04_crew.f 0 1 bt735.1 bt735.2).bind fun bt737 => ((macadamref00_Just.f 2).bind fun bt741 => ((macadamlaw04_crew.f 1 a1 bt741.1 bt741.2).bind fun bt743 => (some ((([(⟨(⟨t719, t720⟩ : S40), t721⟩ : S66), (⟨(⟨t724, t725⟩ : S40), t726⟩ : S66), (⟨(⟨bt729.1, bt729.2.1⟩ : S40), bt729.2.2⟩ : S66)] : List (S66))), (([(⟨bt737.1, bt737.2.1, (⟨bt737.2.2.1, bt737.2.2.2⟩ : S40)⟩ : S63), (⟨bt743.1, bt743.2.1, (⟨bt743.2.2.1, bt743.2.2.2⟩ : S40)⟩ : S63)] : List (S63))), a0))))))) = some (r1, r2, r3) := H
 have A7 := Aside0.mk A70
 clear A70
 replace H := Option.bind_eq_some_iff.mp H
 obtain ⟨⟨t729, t730, t731⟩, A80, H⟩ := H
 replace H : ((macadamref00_Reach.f 1 2).bind fun bt735 => ((macadamlaw04_crew.f 0 1 bt735.1 bt735.2).bind fun bt737 => ((macadamref00_Just.f 2).bind fun bt741 => ((macadamlaw04_crew.f 1 a1 bt741.1 bt741.2).bind fun bt743 => (some ((([(⟨(⟨t719, t720⟩ : S40), t721⟩ : S66), (⟨(⟨t724, t725⟩ : S40), t726⟩ : S66), (⟨(⟨t729, t730⟩ : S40), t731⟩ : S66)] : List (S66))), (([(⟨bt737.1, bt737.2.1, (⟨bt737.2.2.1, bt737.2.2.2⟩ : S40)⟩ : S63), (⟨bt743.1, bt743.2.1, (⟨bt743.2.2.1, bt743.2.2.2⟩ : S40)⟩ : S63)] : List (S63))), a0)))))) = some (r1, r2, r3) := H
 have A8 := Aside0.mk A80
 clear A80
 obtain ⟨y732, hy732⟩ : ∃ y_ : List (S66), y_ = (([(⟨(⟨t719, t720⟩ : S40), t721⟩ : S66), (⟨(⟨t724, t725⟩ : S40), t726⟩ : S66), (⟨(⟨t729, t730⟩ : S40), t731⟩ : S66)] : List (S66))) := ⟨_, rfl⟩
 replace H : ((macadamref00_Reach.f 1 2).bind fun bt735 => ((macadamlaw04_crew.f 0 1 bt735.1 bt735.2).bind fun bt737 => ((macadamref00_Just.f 2).bind fun bt741 => ((macadamlaw04_crew.f 1 a1 bt741.1 bt741.2).bind fun bt743 => (some (y732, (([(⟨bt737.1, bt737.2.1, (⟨bt737.2.2.1, bt737.2.2.2⟩ : S40)⟩ : S63), (⟨bt743.1, bt743.2.1, (⟨bt743.2.2.1, bt743.2.2.2⟩ : S40)⟩ : S63)] : List (S63))), a0)))))) = some (r1, r2, r3) := by first | (rw [hy732]; with_reducible exact H) | (have H2_ := (Option.bind_some _ _).symm.trans H; rw [hy732]; with_reducible exact H2_) | (have H2_ := (Option.bind_some _ _).symm.trans H; with_reducible exact H2_) | with_reducible exact H | (rw [hy732]; exact H) | exact H
 have Ny732 := Aside0.mk hy732
 clear hy732
 replace H := Option.bind_eq_some_iff.mp H
 obtain ⟨⟨t735, t736⟩, A90, H⟩ := H
 replace H : ((macadamlaw04_crew.f 0 1 t735 t736).bind fun bt737 => ((macadamref00_Just.f 2).bind fun bt741 => ((macadamlaw04_crew.f 1 a1 bt741.1 bt741.2).bind fun bt743 => (some (y732, (([(⟨bt737.1, bt737.2.1, (⟨bt737.2.2.1, bt737.2.2.2⟩ : S40)⟩ : S63), (⟨bt743.1, bt743.2.1, (⟨bt743.2.2.1, bt743.2.2.2⟩ : S40)⟩ : S63)] : List (S63))), a0))))) = some (r1, r2, r3) := H
 have A9 := Aside0.mk A90
 clear A90
 replace H := Option.bind_eq_some_iff.mp H
 obtain ⟨⟨t737, t738, t739, t740⟩, A100, H⟩ := H
 replace H : ((macadamref00_Just.f 2).bind fun bt741 => ((macadamlaw04_crew.f 1 a1 bt741.1 bt741.2).bind fun bt743 => (some (y732, (([(⟨t737, t738, (⟨t739, t740⟩ : S40)⟩ : S63), (⟨bt743.1, bt743.2.1, (⟨bt743.2.2.1, bt743.2.2.2⟩ : S40)⟩ : S63)] : List (S63))), a0)))) = some (r1, r2, r3) := H
 have A10 := Aside0.mk A100
 clear A100
 replace H := Option.bind_eq_some_iff.mp H
 obtain ⟨⟨t741, t742⟩, A110, H⟩ := H
 replace H : ((macadamlaw04_crew.f 1 a1 t741 t742).bind fun bt743 => (some (y732, (([(⟨t737, t738, (⟨t739, t740⟩ : S40)⟩ : S63), (⟨bt743.1, bt743.2.1, (⟨bt743.2.2.1, bt743.2.2.2⟩ : S40)⟩ : S63)] : List (S63))), a0))) = some (r1, r2, r3) := H
 have A11 := Aside0.mk A110
 clear A110
 replace H := Option.bind_eq_some_iff.mp H
 obtain ⟨⟨t743, t744, t745, t746⟩, A120, H⟩ := H
 replace H : (some (y732, (([(⟨t737, t738, (⟨t739, t740⟩ : S40)⟩ : S63), (⟨t743, t744, (⟨t745, t746⟩ : S40)⟩ : S63)] : List (S63))), a0)) = some (r1, r2, r3) := H
 have A12 := Aside0.mk A120
 clear A120
 obtain ⟨y747, hy747⟩ : ∃ y_ : List (S63), y_ = (([(⟨t737, t738, (⟨t739, t740⟩ : S40)⟩ : S63), (⟨t743, t744, (⟨t745, t746⟩ : S40)⟩ : S63)] : List (S63))) := ⟨_, rfl⟩
 replace H : (some (y732, y747, a0)) = some (r1, r2, r3) := by first | (rw [hy747]; with_reducible exact H) | (have H2_ := (Option.bind_some _ _).symm.trans H; rw [hy747]; with_reducible exact H2_) | (have H2_ := (Option.bind_some _ _).symm.trans H; with_reducible exact H2_) | with_reducible exact H | (rw [hy747]; exact H) | exact H
 have Ny747 := Aside0.mk hy747
 clear hy747
 simp only [Option.some.injEq, Prod.mk.injEq] at H
 obtain ⟨rfl, rfl, rfl⟩ := H
 go_enter Tryd.func57, Tryd.ntmps57
 go_wp2_with (first | ((with_reducible refine gate_dst (N := 4) rfl ?_); refine bx 4 #[.slice none 0 0, .slice none 0 0, .int .i64 0] 25 ?_; intro gb716 hg w13 hbox hb; have n0_ := Aside0.mk (below_step (bw HB) hb); have n1_ := Aside0.mk (hbox); have n2_ := Aside0.mk (bz (bw HB) hg); have n3_ := Aside0.mk (bz (bw HB) hg); clear HB; have HB := n0_; have BK716 := n1_; have GW716 := n2_; have GE716 := n3_; clear n0_ n1_ n2_ n3_; clear hb hbox hg) | ((with_reducible refine gate_callee (f := 50) rfl ?_); refine gL (some 5) Tryd.func50 #[.int .i64 2, .int .i64 3] ?_; (with_reducible refine (macadamref00_Reach.calls 2 3 t717 t718 _ A3.out).mono ?_); rintro e w14 ⟨rfl, hb⟩; refine ⟨_, rfl, ?_⟩; have n0_ := Aside0.mk (blk_below (bm BK716) hb); have n1_ := Aside0.mk (below_step (bw1 HB GE716) hb); clear BK716; clear HB; have BK716 := n0_; have HB := n1_; clear n0_ n1_; (try clear hb); (try clear hb2); (try clear hk); (try clear hi)) | ((with_reducible refine gate_callee (f := 88) rfl ?_); refine gL (some 6) Tryd.func88 #[.agg #[.int .i64 t717, .int .i64 t718], .int .i64 0] ?_; (with_reducible refine (macadamlaw04_mile.calls t717 t718 0 t719 t720 t721 _ A4.out).mono ?_); rintro e w15 ⟨rfl, hb⟩; refine ⟨_, rfl, ?_⟩; have n0_ := Aside0.mk (blk_below (bm BK716) hb); have n1_ := Aside0.mk (below_step (bw1 HB GE716) hb); clear BK716; clear HB; have BK716 := n0_; have HB := n1_; clear n0_ n1_; (try clear hb); (try clear hb2); (try clear hk); (try clear hi)) | ((with_reducible refine gate_callee (f := 50) rfl ?_); refine gL (some 7) Tryd.func50 #[.int .i64 1, .int .i64 2] ?_; (with_reducible refine (macadamref00_Reach.calls 1 2 t722 t723 _ A5.out).mono ?_); rintro e w16 ⟨rfl, hb⟩; refine ⟨_, rfl, ?_⟩; have n0_ := Aside0.mk (blk_below (bm BK716) hb); have n1_ := Aside0.mk (below_step (bw1 HB GE716) hb); clear BK716; clear HB; have BK716 := n0_; have HB := n1_; clear n0_ n1_; (try clear hb); (try clear hb2); (try clear hk); (try clear hi)) | ((with_reducible refine gate_callee (f := 88) rfl ?_); refine gL (some 8) Tryd.func88 #[.agg #[.int .i64 t722, .int .i64 t723], .int .i64 1] ?_; (with_reducible refine (macadamlaw04_mile.calls t722 t723 1 t724 t725 t726 _ A6.out).mono ?_); rintro e w17 ⟨rfl, hb⟩; refine ⟨_, rfl, ?_⟩; have n0_ := Aside0.mk (blk_below (bm BK716) hb); have n1_ := Aside0.mk (below_step (bw1 HB GE716) hb); clear BK716; clear HB; have BK716 := n0_; have HB := n1_; clear n0_ n1_; (try clear hb); (try clear hb2); (try clear hk); (try clear hi)) | ((with_reducible refine gate_callee (f := 58) rfl ?_); refine gL (some 9) Tryd.func58 #[.int .i64 2] ?_; (with_reducible refine (macadamref00_Just.calls 2 t727 t728 _ A7.out).mono ?_); rintro e w18 ⟨rfl, hb⟩; refine ⟨_, rfl, ?_⟩; have n0_ := Aside0.mk (blk_below (bm BK716) hb); have n1_ := Aside0.mk (below_step (bw1 HB GE716) hb); clear BK716; clear HB; have BK716 := n0_; have HB := n1_; clear n0_ n1_; (try clear hb); (try clear hb2); (try clear hk); (try clear hi)) | ((with_reducible refine gate_callee (f := 88) rfl ?_); refine gL (some 10) Tryd.func88 #[.agg #[.int .i64 t727, .int .i64 t728], .int .i64 2] ?_; (with_reducible refine (macadamlaw04_mile.calls t727 t728 2 t729 t730 t731 _ A8.out).mono ?_); rintro e w19 ⟨rfl, hb⟩; refine ⟨_, rfl, ?_⟩; have n0_ := Aside0.mk (blk_below (bm BK716) hb); have n1_ := Aside0.mk (below_step (bw1 HB GE716) hb); clear BK716; clear HB; have BK716 := n0_; have HB := n1_; clear n0_ n1_; (try clear hb); (try clear hb2); (try clear hk); (try clear hi)) | ((with_reducible refine gate_dst (N := 11) rfl ?_); refine Kd.R_lit k66 _ 66 ?hg (N := 11) ?hd (xs := ([(⟨(⟨t719, t720⟩ : S40), t721⟩ : S66), (⟨(⟨t724, t725⟩ : S40), t726⟩ : S66), (⟨(⟨t729, t730⟩ : S40), t731⟩ : S66)] : List (S66))) (inner := [.int .i64 t719, .int .i64 t720, .int .i64 t721, .int .i64 t724, .int .i64 t725, .int .i64 t726, .int .i64 t729, .int .i64 t730, .int .i64 t731]) (ok := fun _ => True) (okp := fun _ => True) ?hr ?hp (fun _ hk => hk) trivial (Below.refl _ _) (Nat.le_refl _) (by simp) ?_; (case hd => rfl); (case hg => rfl); (case hr => first | (go_simp; done) | (go_simp; rfl)); (case hp => exact (Reps.c3 (show Kd.M k66 _ _ _ (⟨(⟨t719, t720⟩ : S40), t721⟩ : S66) [.int .i64 t719, .int .i64 t720, .int .i64 t721] from (k66_mkM _ _ _ (⟨(⟨t719, t720⟩ : S40), t721⟩ : S66) )) (Reps.c3 (show Kd.M k66 _ _ _ (⟨(⟨t724, t725⟩ : S40), t726⟩ : S66) [.int .i64 t724, .int .i64 t725, .int .i64 t726] from (k66_mkM _ _ _ (⟨(⟨t724, t725⟩ : S40), t726⟩ : S66) )) (Reps.c3 (show Kd.M k66 _ _ _ (⟨(⟨t729, t730⟩ : S40), t731⟩ : S66) [.int .i64 t729, .int .i64 t730, .int .i64 t731] from (k66_mkM _ _ _ (⟨(⟨t729, t730⟩ : S40), t731⟩ : S66) )) (Reps.none _ _))))); intro v733 w20 ho21 hb hg_ hnew_; clear hg_ hnew_; (first | rw [← Ny732.out] at ho21 | (simp only [Int.reduceToNat] at ho21; rw [← Ny732.out] at ho21)); have n0_ := Aside0.mk (Kd.R_lower ho21 (below_size (bw1 HB GE716))); have n1_ := Aside0.mk (blk_below (bm BK716) hb); have n2_ := Aside0.mk (below_step (bw1 HB GE716) hb); clear BK716; clear HB; have HO734 := n0_; have BK716 := n1_; have HB := n2_; clear n0_ n1_ n2_; clear hb ho21) | ((with_reducible refine gate_callee (f := 50) rfl ?_); refine gL (some 12) Tryd.func50 #[.int .i64 1, .int .i64 2] ?_; (with_reducible refine (macadamref00_Reach.calls 1 2 t735 t736 _ A9.out).mono ?_); rintro e w22 ⟨rfl, hb⟩; refine ⟨_, rfl, ?_⟩; have n0_ := Aside0.mk (Kd.R_below (by (with_reducible repeat (first | apply Kd.R_alloc | apply Kd.R_drewN | apply Kd.R_drew)); exact HO734.out) hb); have n1_ := Aside0.mk (blk_below (bm BK716) hb); have n2_ := Aside0.mk (below_step (bw1 HB GE716) hb); clear HO734; clear BK716; clear HB; have HO734 := n0_; have BK716 := n1_; have HB := n2_; clear n0_ n1_ n2_; (try clear hb); (try clear hb2); (try clear hk); (try clear hi)) | ((with_reducible refine gate_callee (f := 89) rfl ?_); refine gL (some 13) Tryd.func89 #[.int .i64 0, .int .i64 1, .agg #[.int .i64 t735, .int .i64 t736]] ?_; (with_reducible refine (macadamlaw04_crew.calls 0 1 t735 t736 t737 t738 t739 t740 _ A10.out).mono ?_); rintro e w23 ⟨rfl, hb⟩; refine ⟨_, rfl, ?_⟩; have n0_ := Aside0.mk (Kd.R_below (by (with_reducible repeat (first | apply Kd.R_alloc | apply Kd.R_drewN | apply Kd.R_drew)); exact HO734.out) hb); have n1_ := Aside0.mk (blk_below (bm BK716) hb); have n2_ := Aside0.mk (below_step (bw1 HB GE716) hb); clear HO734; clear BK716; clear HB; have HO734 := n0_; have BK716 := n1_; have HB := n2_; clear n0_ n1_ n2_; (try clear hb); (try clear hb2); (try clear hk); (try clear hi)) | ((with_reducible refine gate_callee (f := 58) rfl ?_); refine gL (some 15) Tryd.func58 #[.int .i64 2] ?_; (with_reducible refine (macadamref00_Just.calls 2 t741 t742 _ A11.out).mono ?_); rintro e w24 ⟨rfl, hb⟩; refine ⟨_, rfl, ?_⟩; have n0_ := Aside0.mk (Kd.R_below (by (with_reducible repeat (first | apply Kd.R_alloc | apply Kd.R_drewN | apply Kd.R_drew)); exact HO734.out) hb); have n1_ := Aside0.mk (blk_below (bm BK716) hb); have n2_ := Aside0.mk (below_step (bw1 HB GE716) hb); clear HO734; clear BK716; clear HB; have HO734 := n0_; have BK716 := n1_; have HB := n2_; clear n0_ n1_ n2_; (try clear hb); (try clear hb2); (try clear hk); (try clear hi)) | ((with_reducible refine gate_callee (f := 89) rfl ?_); refine gL (some 16) Tryd.func89 #[.int .i64 1, .int .i64 a1, .agg #[.int .i64 t741, .int .i64 t742]] ?_; (with_reducible refine (macadamlaw04_crew.calls 1 a1 t741 t742 t743 t744 t745 t746 _ A12.out).mono ?_); rintro e w25 ⟨rfl, hb⟩; refine ⟨_, rfl, ?_⟩; have n0_ := Aside0.mk (Kd.R_below (by (with_reducible repeat (first | apply Kd.R_alloc | apply Kd.R_drewN | apply Kd.R_drew)); exact HO734.out) hb); have n1_ := Aside0.mk (blk_below (bm BK716) hb); have n2_ := Aside0.mk (below_step (bw1 HB GE716) hb); clear HO734; clear BK716; clear HB; have HO734 := n0_; have BK716 := n1_; have HB := n2_; clear n0_ n1_ n2_; (try clear hb); (try clear hb2); (try clear hk); (try clear hi)) | ((with_reducible refine gate_dst (N := 17) rfl ?_); refine Kd.R_lit k63 _ 63 ?hg (N := 17) ?hd (xs := ([(⟨t737, t738, (⟨t739, t740⟩ : S40)⟩ : S63), (⟨t743, t744, (⟨t745, t746⟩ : S40)⟩ : S63)] : List (S63))) (inner := [.int .i64 t737, .int .i64 t738, .int .i64 t739, .int .i64 t740, .int .i64 t743, .int .i64 t744, .int .i64 t745, .int .i64 t746]) (ok := fun _ => True) (okp := fun _ => True) ?hr ?hp (fun _ hk => hk) trivial (Below.refl _ _) (Nat.le_refl _) (by simp) ?_; (case hd => rfl); (case hg => rfl); (case hr => first | (go_simp; done) | (go_simp; rfl)); (case hp => exact (Reps.c4 (show Kd.M k63 _ _ _ (⟨t737, t738, (⟨t739, t740⟩ : S40)⟩ : S63) [.int .i64 t737, .int .i64 t738, .int .i64 t739, .int .i64 t740] from (k63_mkM _ _ _ (⟨t737, t738, (⟨t739, t740⟩ : S40)⟩ : S63) )) (Reps.c4 (show Kd.M k63 _ _ _ (⟨t743, t744, (⟨t745, t746⟩ : S40)⟩ : S63) [.int .i64 t743, .int .i64 t744, .int .i64 t745, .int .i64 t746] from (k63_mkM _ _ _ (⟨t743, t744, (⟨t745, t746⟩ : S40)⟩ : S63) )) (Reps.none _ _)))); intro v748 w26 ho27 hb hg_ hnew_; clear hg_ hnew_; (first | rw [← Ny747.out] at ho27 | (simp only [Int.reduceToNat] at ho27; rw [← Ny747.out] at ho27)); have n0_ := Aside0.mk (Kd.R_below (by (with_reducible repeat (first | apply Kd.R_alloc | apply Kd.R_drewN | apply Kd.R_drew)); exact HO734.out) hb); have n1_ := Aside0.mk (Kd.R_lower ho27 (below_size (bw1 HB GE716))); have n2_ := Aside0.mk (blk_below (bm BK716) hb); have n3_ := Aside0.mk (below_step (bw1 HB GE716) hb); clear HO734; clear BK716; clear HB; have HO734 := n0_; have HO749 := n1_; have BK716 := n2_; have HB := n3_; clear n0_ n1_ n2_ n3_; clear hb ho27; obtain ⟨Ao28, co28, eo28⟩ := Kd.R_slice HO749.out; subst eo28; obtain ⟨Ao29, co29, eo29⟩ := Kd.R_slice HO734.out; subst eo29; obtain ⟨hcz30_0, hcz30_1, hcz30_2, hfz30_0, hfz30_1, hfz30_2⟩ := b3 BK716))
 refine bodyPost_ret (results_cell_row rfl _ _ gb716 25 #[.slice Ao29 y732.length co29, .slice Ao28 y747.length co28, .int .i64 a0] (0, 0) _ rfl (by (with_reducible repeat (first | refine blk_drewN ?_ _ | refine blk_drew ?_ | refine blk_alloc ?_ _)); refine blk_put (cs := #[.slice Ao29 y732.length co29, .slice Ao28 y747.length co28, .int .i64 0]) ?_ 2 _ rfl; (with_reducible repeat (first | refine blk_drewN ?_ _ | refine blk_drew ?_ | refine blk_alloc ?_ _)); refine blk_put (cs := #[.slice Ao29 y732.length co29, .slice none 0 0, .int .i64 0]) ?_ 1 _ rfl; (with_reducible repeat (first | refine blk_drewN ?_ _ | refine blk_drew ?_ | refine blk_alloc ?_ _)); refine blk_put (cs := #[.slice none 0 0, .slice none 0 0, .int .i64 0]) ?_ 0 _ rfl; (with_reducible repeat (first | refine blk_drewN ?_ _ | refine blk_drew ?_ | refine blk_alloc ?_ _)); exact BK716.out) Tryd.underlying25 rfl (by kernel_rfl)) rfl ?_
 exact ⟨_, _, by first | rfl | (simp [errW_none, errW_some] <;> rfl) | (simp [*, errW_none, errW_some] <;> rfl), by (with_reducible repeat (first | apply Kd.R_alloc | apply Kd.R_drewN | apply Kd.R_drew)); exact Kd.R_mono (Kd.R_far (p := ⟨gb716, 2, none⟩) (Kd.R_far (p := ⟨gb716, 1, none⟩) (Kd.R_far (p := ⟨gb716, 0, none⟩) (Kd.R_types HO734.out BK716.out (by decide)) (fun _ hk => hk.2) (.slice Ao29 y732.length co29)) (fun _ hk => hk.2) (.slice Ao28 y747.length co28)) (fun _ hk => hk.2) (.int .i64 a0)) (fun _ hk => trivial), by (with_reducible repeat (first | apply Kd.R_alloc | apply Kd.R_drewN | apply Kd.R_drew)); exact Kd.R_mono (Kd.R_far (p := ⟨gb716, 2, none⟩) (Kd.R_far (p := ⟨gb716, 1, none⟩) (Kd.R_far (p := ⟨gb716, 0, none⟩) (Kd.R_types HO749.out BK716.out (by decide)) (fun _ hk => hk.2) (.slice Ao29 y732.length co29)) (fun _ hk => hk.2) (.slice Ao28 y747.length co28)) (fun _ hk => hk.2) (.int .i64 a0)) (fun _ hk => trivial), bw1 HB GE716⟩
def macadamlaw04_own.f  : Option ((List (S66)) × (List (S63)) × Int) := (macadamlaw04_book.f 4 2).bind fun bt751 => (some (bt751.1, bt751.2.1, bt751.2.2))
set_option maxHeartbeats 8000000 in
set_option maxRecDepth 100000 in
theorem macadamlaw04_own.calls  (r1 : List (S66)) (r2 : List (S63)) (r3 : Int) (w : World) (h : macadamlaw04_own.f  = some (r1, r2, r3)) :
  Calls Tryd.prog 56 #[] w fun e w' => ∃ v0_ v1_ : Value, e = .returned (.agg #[v0_, v1_, .int .i64 r3]) ∧ Kd.R k66 66 w' w.heap.size (fun _ => True) v0_ r1 ∧ Kd.R k63 63 w' w.heap.size (fun _ => True) v1_ r2 ∧ Below w.heap.size w w' := by
 have hu25 := Tryd.underlying25
 have HB := Aside0.mk (Below.refl w.heap.size w)
 have H : ((macadamlaw04_book.f 4 2).bind fun bt751 => (some (bt751.1, bt751.2.1, bt751.2.2))) = some (r1, r2, r3) := h
 clear h
 replace H := Option.bind_eq_some_iff.mp H
 obtain ⟨⟨t751, t754, t757⟩, A10, H⟩ := H
 replace H : (some (t751, t754, t757)) = some (r1, r2, r3) := H
 have A1 := Aside0.mk A10
 clear A10
 simp only [Option.some.injEq, Prod.mk.injEq] at H
 obtain ⟨rfl, rfl, rfl⟩ := H
 go_enter Tryd.func56, Tryd.ntmps56
 go_wp2_with (first | ((with_reducible refine gate_dst (N := 0) rfl ?_); refine bx 0 #[.slice none 0 0, .slice none 0 0, .int .i64 0] 25 ?_; intro gb750 hg w2 hbox hb; have n0_ := Aside0.mk (below_step (bw HB) hb); have n1_ := Aside0.mk (hbox); have n2_ := Aside0.mk (bz (bw HB) hg); have n3_ := Aside0.mk (bz (bw HB) hg); clear HB; have HB := n0_; have BK750 := n1_; have GW750 := n2_; have GE750 := n3_; clear n0_ n1_ n2_ n3_; clear hb hbox hg) | ((with_reducible refine gate_callee (f := 57) rfl ?_); refine gL (some 1) Tryd.func57 #[.int .i64 4, .int .i64 2] ?_; (with_reducible refine (macadamlaw04_book.calls 4 2 t751 t754 t757 _ A1.out).mono ?_); rintro e w3 ⟨v752, v755, rfl, ho0, ho1, hb⟩; refine ⟨_, rfl, ?_⟩; have n0_ := Aside0.mk (Kd.R_lower ho0 (below_size (bw1 HB GE750))); have n1_ := Aside0.mk (Kd.R_lower ho1 (below_size (bw1 HB GE750))); have n2_ := Aside0.mk (blk_below (bm BK750) hb); have n3_ := Aside0.mk (below_step (bw1 HB GE750) hb); clear BK750; clear HB; have HO753 := n0_; have HO756 := n1_; have BK750 := n2_; have HB := n3_; clear n0_ n1_ n2_ n3_; (try clear hb); (try clear hb2); (try clear hk); (try clear hi); (try clear ho0); (try clear ho1); obtain ⟨Ao4, co4, eo4⟩ := Kd.R_slice HO753.out; subst eo4; obtain ⟨hcz5_0, hcz5_1, hcz5_2, hfz5_0, hfz5_1, hfz5_2⟩ := b3 BK750; obtain ⟨Ao6, co6, eo6⟩ := Kd.R_slice HO756.out; subst eo6))
 refine bodyPost_ret (results_cell_row rfl _ _ gb750 25 #[.slice Ao4 t751.length co4, .slice Ao6 t754.length co6, .int .i64 t757] (0, 0) _ rfl (by (with_reducible repeat (first | refine blk_drewN ?_ _ | refine blk_drew ?_ | refine blk_alloc ?_ _)); refine blk_put (cs := #[.slice Ao4 t751.length co4, .slice Ao6 t754.length co6, .int .i64 0]) ?_ 2 _ rfl; (with_reducible repeat (first | refine blk_drewN ?_ _ | refine blk_drew ?_ | refine blk_alloc ?_ _)); refine blk_put (cs := #[.slice Ao4 t751.length co4, .slice none 0 0, .int .i64 0]) ?_ 1 _ rfl; (with_reducible repeat (first | refine blk_drewN ?_ _ | refine blk_drew ?_ | refine blk_alloc ?_ _)); refine blk_put (cs := #[.slice none 0 0, .slice none 0 0, .int .i64 0]) ?_ 0 _ rfl; (with_reducible repeat (first | refine blk_drewN ?_ _ | refine blk_drew ?_ | refine blk_alloc ?_ _)); exact BK750.out) Tryd.underlying25 rfl (by kernel_rfl)) rfl ?_
 exact ⟨_, _, by first | rfl | (simp [errW_none, errW_some] <;> rfl) | (simp [*, errW_none, errW_some] <;> rfl), by (with_reducible repeat (first | apply Kd.R_alloc | apply Kd.R_drewN | apply Kd.R_drew)); exact Kd.R_mono (Kd.R_far (p := ⟨gb750, 2, none⟩) (Kd.R_far (p := ⟨gb750, 1, none⟩) (Kd.R_far (p := ⟨gb750, 0, none⟩) (Kd.R_types HO753.out BK750.out (by decide)) (fun _ hk => hk.2) (.slice Ao4 t751.length co4)) (fun _ hk => hk.2) (.slice Ao6 t754.length co6)) (fun _ hk => hk.2) (.int .i64 t757)) (fun _ hk => trivial), by (with_reducible repeat (first | apply Kd.R_alloc | apply Kd.R_drewN | apply Kd.R_drew)); exact Kd.R_mono (Kd.R_far (p := ⟨gb750, 2, none⟩) (Kd.R_far (p := ⟨gb750, 1, none⟩) (Kd.R_far (p := ⟨gb750, 0, none⟩) (Kd.R_types HO756.out BK750.out (by decide)) (fun _ hk => hk.2) (.slice Ao4 t751.length co4)) (fun _ hk => hk.2) (.slice Ao6 t754.length co6)) (fun _ hk => hk.2) (.int .i64 t757)) (fun _ hk => trivial), bw1 HB GE750⟩
def macadamlaw04_short.f  : Option ((List (S66)) × (List (S63)) × Int) := (macadamlaw04_book.f 3 2).bind fun bt759 => (some (bt759.1, bt759.2.1, bt759.2.2))
set_option maxHeartbeats 8000000 in
set_option maxRecDepth 100000 in
theorem macadamlaw04_short.calls  (r1 : List (S66)) (r2 : List (S63)) (r3 : Int) (w : World) (h : macadamlaw04_short.f  = some (r1, r2, r3)) :
  Calls Tryd.prog 59 #[] w fun e w' => ∃ v0_ v1_ : Value, e = .returned (.agg #[v0_, v1_, .int .i64 r3]) ∧ Kd.R k66 66 w' w.heap.size (fun _ => True) v0_ r1 ∧ Kd.R k63 63 w' w.heap.size (fun _ => True) v1_ r2 ∧ Below w.heap.size w w' := by
 have hu25 := Tryd.underlying25
 have HB := Aside0.mk (Below.refl w.heap.size w)
 have H : ((macadamlaw04_book.f 3 2).bind fun bt759 => (some (bt759.1, bt759.2.1, bt759.2.2))) = some (r1, r2, r3) := h
 clear h
 replace H := Option.bind_eq_some_iff.mp H
 obtain ⟨⟨t759, t762, t765⟩, A10, H⟩ := H
 replace H : (some (t759, t762, t765)) = some (r1, r2, r3) := H
 have A1 := Aside0.mk A10
 clear A10
 simp only [Option.some.injEq, Prod.mk.injEq] at H
 obtain ⟨rfl, rfl, rfl⟩ := H
 go_enter Tryd.func59, Tryd.ntmps59
 go_wp2_with (first | ((with_reducible refine gate_dst (N := 0) rfl ?_); refine bx 0 #[.slice none 0 0, .slice none 0 0, .int .i64 0] 25 ?_; intro gb758 hg w2 hbox hb; have n0_ := Aside0.mk (below_step (bw HB) hb); have n1_ := Aside0.mk (hbox); have n2_ := Aside0.mk (bz (bw HB) hg); have n3_ := Aside0.mk (bz (bw HB) hg); clear HB; have HB := n0_; have BK758 := n1_; have GW758 := n2_; have GE758 := n3_; clear n0_ n1_ n2_ n3_; clear hb hbox hg) | ((with_reducible refine gate_callee (f := 57) rfl ?_); refine gL (some 1) Tryd.func57 #[.int .i64 3, .int .i64 2] ?_; (with_reducible refine (macadamlaw04_book.calls 3 2 t759 t762 t765 _ A1.out).mono ?_); rintro e w3 ⟨v760, v763, rfl, ho0, ho1, hb⟩; refine ⟨_, rfl, ?_⟩; have n0_ := Aside0.mk (Kd.R_lower ho0 (below_size (bw1 HB GE758))); have n1_ := Aside0.mk (Kd.R_lower ho1 (below_size (bw1 HB GE758))); have n2_ := Aside0.mk (blk_below (bm BK758) hb); have n3_ := Aside0.mk (below_step (bw1 HB GE758) hb); clear BK758; clear HB; have HO761 := n0_; have HO764 := n1_; have BK758 := n2_; have HB := n3_; clear n0_ n1_ n2_ n3_; (try clear hb); (try clear hb2); (try clear hk); (try clear hi); (try clear ho0); (try clear ho1); obtain ⟨Ao4, co4, eo4⟩ := Kd.R_slice HO761.out; subst eo4; obtain ⟨hcz5_0, hcz5_1, hcz5_2, hfz5_0, hfz5_1, hfz5_2⟩ := b3 BK758; obtain ⟨Ao6, co6, eo6⟩ := Kd.R_slice HO764.out; subst eo6))
 refine bodyPost_ret (results_cell_row rfl _ _ gb758 25 #[.slice Ao4 t759.length co4, .slice Ao6 t762.length co6, .int .i64 t765] (0, 0) _ rfl (by (with_reducible repeat (first | refine blk_drewN ?_ _ | refine blk_drew ?_ | refine blk_alloc ?_ _)); refine blk_put (cs := #[.slice Ao4 t759.length co4, .slice Ao6 t762.length co6, .int .i64 0]) ?_ 2 _ rfl; (with_reducible repeat (first | refine blk_drewN ?_ _ | refine blk_drew ?_ | refine blk_alloc ?_ _)); refine blk_put (cs := #[.slice Ao4 t759.length co4, .slice none 0 0, .int .i64 0]) ?_ 1 _ rfl; (with_reducible repeat (first | refine blk_drewN ?_ _ | refine blk_drew ?_ | refine blk_alloc ?_ _)); refine blk_put (cs := #[.slice none 0 0, .slice none 0 0, .int .i64 0]) ?_ 0 _ rfl; (with_reducible repeat (first | refine blk_drewN ?_ _ | refine blk_drew ?_ | refine blk_alloc ?_ _)); exact BK758.out) Tryd.underlying25 rfl (by kernel_rfl)) rfl ?_
 exact ⟨_, _, by first | rfl | (simp [errW_none, errW_some] <;> rfl) | (simp [*, errW_none, errW_some] <;> rfl), by (with_reducible repeat (first | apply Kd.R_alloc | apply Kd.R_drewN | apply Kd.R_drew)); exact Kd.R_mono (Kd.R_far (p := ⟨gb758, 2, none⟩) (Kd.R_far (p := ⟨gb758, 1, none⟩) (Kd.R_far (p := ⟨gb758, 0, none⟩) (Kd.R_types HO761.out BK758.out (by decide)) (fun _ hk => hk.2) (.slice Ao4 t759.length co4)) (fun _ hk => hk.2) (.slice Ao6 t762.length co6)) (fun _ hk => hk.2) (.int .i64 t765)) (fun _ hk => trivial), by (with_reducible repeat (first | apply Kd.R_alloc | apply Kd.R_drewN | apply Kd.R_drew)); exact Kd.R_mono (Kd.R_far (p := ⟨gb758, 2, none⟩) (Kd.R_far (p := ⟨gb758, 1, none⟩) (Kd.R_far (p := ⟨gb758, 0, none⟩) (Kd.R_types HO764.out BK758.out (by decide)) (fun _ hk => hk.2) (.slice Ao4 t759.length co4)) (fun _ hk => hk.2) (.slice Ao6 t762.length co6)) (fun _ hk => hk.2) (.int .i64 t765)) (fun _ hk => trivial), bw1 HB GE758⟩
def macadamlaw04_far.f  : Option ((List (S66)) × (List (S63)) × Int) := (macadamlaw04_book.f 4 1).bind fun bt767 => (some (bt767.1, bt767.2.1, bt767.2.2))
set_option maxHeartbeats 8000000 in
set_option maxRecDepth 100000 in
theorem macadamlaw04_far.calls  (r1 : List (S66)) (r2 : List (S63)) (r3 : Int) (w : World) (h : macadamlaw04_far.f  = some (r1, r2, r3)) :
  Calls Tryd.prog 60 #[] w fun e w' => ∃ v0_ v1_ : Value, e = .returned (.agg #[v0_, v1_, .int .i64 r3]) ∧ Kd.R k66 66 w' w.heap.size (fun _ => True) v0_ r1 ∧ Kd.R k63 63 w' w.heap.size (fun _ => True) v1_ r2 ∧ Below w.heap.size w w' := by
 have hu25 := Tryd.underlying25
 have HB := Aside0.mk (Below.refl w.heap.size w)
 have H : ((macadamlaw04_book.f 4 1).bind fun bt767 => (some (bt767.1, bt767.2.1, bt767.2.2))) = some (r1, r2, r3) := h
 clear h
 replace H := Option.bind_eq_some_iff.mp H
 obtain ⟨⟨t767, t770, t773⟩, A10, H⟩ := H
 replace H : (some (t767, t770, t773)) = some (r1, r2, r3) := H
 have A1 := Aside0.mk A10
 clear A10
 simp only [Option.some.injEq, Prod.mk.injEq] at H
 obtain ⟨rfl, rfl, rfl⟩ := H
 go_enter Tryd.func60, Tryd.ntmps60
 go_wp2_with (first | ((with_reducible refine gate_dst (N := 0) rfl ?_); refine bx 0 #[.slice none 0 0, .slice none 0 0, .int .i64 0] 25 ?_; intro gb766 hg w2 hbox hb; have n0_ := Aside0.mk (below_step (bw HB) hb); have n1_ := Aside0.mk (hbox); have n2_ := Aside0.mk (bz (bw HB) hg); have n3_ := Aside0.mk (bz (bw HB) hg); clear HB; have HB := n0_; have BK766 := n1_; have GW766 := n2_; have GE766 := n3_; clear n0_ n1_ n2_ n3_; clear hb hbox hg) | ((with_reducible refine gate_callee (f := 57) rfl ?_); refine gL (some 1) Tryd.func57 #[.int .i64 4, .int .i64 1] ?_; (with_reducible refine (macadamlaw04_book.calls 4 1 t767 t770 t773 _ A1.out).mono ?_); rintro e w3 ⟨v768, v771, rfl, ho0, ho1, hb⟩; refine ⟨_, rfl, ?_⟩; have n0_ := Aside0.mk (Kd.R_lower ho0 (below_size (bw1 HB GE766))); have n1_ := Aside0.mk (Kd.R_lower ho1 (below_size (bw1 HB GE766))); have n2_ := Aside0.mk (blk_below (bm BK766) hb); have n3_ := Aside0.mk (below_step (bw1 HB GE766) hb); clear BK766; clear HB; have HO769 := n0_; have HO772 := n1_; have BK766 := n2_; have HB := n3_; clear n0_ n1_ n2_ n3_; (try clear hb); (try clear hb2); (try clear hk); (try clear hi); (try clear ho0); (try clear ho1); obtain ⟨Ao4, co4, eo4⟩ := Kd.R_slice HO769.out; subst eo4; obtain ⟨hcz5_0, hcz5_1, hcz5_2, hfz5_0, hfz5_1, hfz5_2⟩ := b3 BK766; obtain ⟨Ao6, co6, eo6⟩ := Kd.R_slice HO772.out; subst eo6))
 refine bodyPost_ret (results_cell_row rfl _ _ gb766 25 #[.slice Ao4 t767.length co4, .slice Ao6 t770.length co6, .int .i64 t773] (0, 0) _ rfl (by (with_reducible repeat (first | refine blk_drewN ?_ _ | refine blk_drew ?_ | refine blk_alloc ?_ _)); refine blk_put (cs := #[.slice Ao4 t767.length co4, .slice Ao6 t770.length co6, .int .i64 0]) ?_ 2 _ rfl; (with_reducible repeat (first | refine blk_drewN ?_ _ | refine blk_drew ?_ | refine blk_alloc ?_ _)); refine blk_put (cs := #[.slice Ao4 t767.length co4, .slice none 0 0, .int .i64 0]) ?_ 1 _ rfl; (with_reducible repeat (first | refine blk_drewN ?_ _ | refine blk_drew ?_ | refine blk_alloc ?_ _)); refine blk_put (cs := #[.slice none 0 0, .slice none 0 0, .int .i64 0]) ?_ 0 _ rfl; (with_reducible repeat (first | refine blk_drewN ?_ _ | refine blk_drew ?_ | refine blk_alloc ?_ _)); exact BK766.out) Tryd.underlying25 rfl (by kernel_rfl)) rfl ?_
 exact ⟨_, _, by first | rfl | (simp [errW_none, errW_some] <;> rfl) | (simp [*, errW_none, errW_some] <;> rfl), by (with_reducible repeat (first | apply Kd.R_alloc | apply Kd.R_drewN | apply Kd.R_drew)); exact Kd.R_mono (Kd.R_far (p := ⟨gb766, 2, none⟩) (Kd.R_far (p := ⟨gb766, 1, none⟩) (Kd.R_far (p := ⟨gb766, 0, none⟩) (Kd.R_types HO769.out BK766.out (by decide)) (fun _ hk => hk.2) (.slice Ao4 t767.length co4)) (fun _ hk => hk.2) (.slice Ao6 t770.length co6)) (fun _ hk => hk.2) (.int .i64 t773)) (fun _ hk => trivial), by (with_reducible repeat (first | apply Kd.R_alloc | apply Kd.R_drewN | apply Kd.R_drew)); exact Kd.R_mono (Kd.R_far (p := ⟨gb766, 2, none⟩) (Kd.R_far (p := ⟨gb766, 1, none⟩) (Kd.R_far (p := ⟨gb766, 0, none⟩) (Kd.R_types HO772.out BK766.out (by decide)) (fun _ hk => hk.2) (.slice Ao4 t767.length co4)) (fun _ hk => hk.2) (.slice Ao6 t770.length co6)) (fun _ hk => hk.2) (.int .i64 t773)) (fun _ hk => trivial), bw1 HB GE766⟩
end Go.Proofs.YtikfghnkbgdbgaaDoor.Q
end
section
namespace Go.Proofs.YtikfghnkbgdbgaaDoor.Q
open Go.RowKit Go.Proofs.YtikfghnkbgdbgaaDoorW.PrintWords Go.Proofs.YtikfghnkbgdbgaaDoorW.PrintLast Go.Proofs.YtikfghnkbgdbgaaDoorW.PrintMore
attribute [local go_sem] max2_int min2_int max_two min_two max_three min_three max_four min_four   -- for this text's walks alone
set_option linter.unusedVariables false
set_option linter.unusedSimpArgs false
set_option maxHeartbeats 8000000 in
set_option maxRecDepth 100000 in
theorem alone_aux (k : Nat) (A0_0 : Option Addr) (c0_0 : Nat) (l0_0 : List (S66)) (A0_1 : Option Addr) (c0_1 : Nat) (l0_1 : List (S63)) (a0_2 : Int) (a1 : Int) (r1 : List (S66)) (r2 : List (S63)) (r3 : Int) (w0 w : World) (hB : Below w0.heap.size w0 w) (hr0_0 : Kd.C k66 w0 A0_0 l0_0.length l0_0) (hc0_0 : l0_0.length ≤ c0_0) (h : macadamlaw04_alone.f k l0_0 l0_1 a0_2 a1 = some (r1, r2, r3)) :
  Calls Tryd.prog 55 #[.agg #[.slice A0_0 l0_0.length c0_0, .slice A0_1 l0_1.length c0_1, .int .i64 a0_2], .int .i64 a1] w fun e w' => ∃ v0_ : Value, e = .returned (.agg #[v0_, .slice A0_1 l0_1.length c0_1, .int .i64 r3]) ∧ Kd.R k66 66 w' w0.heap.size (fun k_ => (False ∨ w.heap.size ≤ k_)) v0_ r1 ∧ Below w0.heap.size w0 w' ∧ Kept w w' (fun k_ => False) := by
 have hu25 := Tryd.underlying25
 have HR0_0 := Aside0.mk hr0_0
 have HC0_0 := Aside0.mk hc0_0
 clear hr0_0 hc0_0
 have HO0_1 := Aside0.mk trivial
 have HK := Aside0.mk (Kept.refl w (fun k_ => False))
 have HW0 := Aside0.mk hB.size
 have HB := Aside0.mk hB
 clear hB
 have H : ((some (([] : List (S66)) : List (S66))).bind fun y623 => (if y623.length + l0_0.length < 5864062014805 then (macadamlaw04_alone.l0 k a1 0 (y623 ++ l0_0) l0_1 a0_2) else (none))) = some (r1, r2, r3) := h
 clear h
 obtain ⟨y623, hy623⟩ : ∃ y_ : List (S66), y_ = (([] : List (S66))) := ⟨_, rfl⟩
 replace H : (if y623.length + l0_0.length < 5864062014805 then (macadamlaw04_alone.l0 k a1 0 (y623 ++ l0_0) l0_1 a0_2) else (none)) = some (r1, r2, r3) := by first | (rw [hy623]; with_reducible exact H) | (have H2_ := (Option.bind_some _ _).symm.trans H; rw [hy623]; with_reducible exact H2_) | (have H2_ := (Option.bind_some _ _).symm.trans H; with_reducible exact H2_) | with_reducible exact H | (rw [hy623]; exact H) | exact H
 have Ny623 := Aside0.mk hy623
 clear hy623
 by_cases c3 : y623.length + l0_0.length < 5864062014805
 ·rw [if_pos c3] at H
  have LMc3 := Aside0.mk c3
  clear c3
  obtain ⟨y626, hy626⟩ : ∃ y_ : List (S66), y_ = (y623 ++ l0_0) := ⟨_, rfl⟩
  replace H : (macadamlaw04_alone.l0 k a1 0 y626 l0_1 a0_2) = some (r1, r2, r3) := by first | (rw [hy626]; with_reducible exact H) | (have H2_ := (Option.bind_some _ _).symm.trans H; rw [hy626]; with_reducible exact H2_) | (have H2_ := (Option.bind_some _ _).symm.trans H; with_reducible exact H2_) | with_reducible exact H | (rw [hy626]; exact H) | exact H
  have Ny626 := Aside0.mk hy626
  clear hy626
  have H' := Aside0.mk H
  clear H
  go_enter Tryd.func55, Tryd.ntmps55
  go_wp2_with (first | ((with_reducible refine gate_dst (N := 2) rfl ?_); refine bx 2 #[.slice A0_0 l0_0.length c0_0, .slice A0_1 l0_1.length c0_1, .int .i64 a0_2] 25 ?_; intro gb620 hg w5 hbox hb; have n0_ := Aside0.mk trivial; have n1_ := Aside0.mk (Kept.below (S := (fun k_ => False)) (by repeat (first | (with_reducible first | exact HK.out | apply Kept.alloc | apply Kept.drewN | apply Kept.drew) | exact HK.out)) hb); have n2_ := Aside0.mk (below_step (bw HB) hb); have n3_ := Aside0.mk (hbox); have n4_ := Aside0.mk ((by rw [hg]; exact (by first | exact HK.out.1 | exact (show Kept w _ (fun k_ => False) from by repeat (first | (with_reducible first | exact HK.out | apply Kept.alloc | apply Kept.drewN | apply Kept.drew) | exact HK.out)).1) : w.heap.size ≤ gb620)); have n5_ := Aside0.mk ((by rw [hg]; exact (below_size (bw HB)) : w0.heap.size ≤ gb620)); clear HO0_1; clear HK; clear HB; have HO0_1 := n0_; have HK := n1_; have HB := n2_; have BK620 := n3_; have GW620 := n4_; have GE620 := n5_; clear n0_ n1_ n2_ n3_ n4_ n5_; clear hb hbox hg) | ((with_reducible refine gate_dst (N := 4) rfl ?_); refine bx 4 #[.slice none 0 0, .slice none 0 0, .int .i64 0] 25 ?_; intro gb621 hg w6 hbox hb; have n0_ := Aside0.mk trivial; have n1_ := Aside0.mk (blk_below (bm BK620) hb); have n2_ := Aside0.mk (Kept.below (S := (fun k_ => False)) (by repeat (first | (with_reducible first | exact HK.out | apply Kept.alloc | apply Kept.drewN | apply Kept.drew | refine Kept.setCell ?_ (.inr GW620.out) _) | exact HK.out)) hb); have n3_ := Aside0.mk (below_step (bw1 HB GE620) hb); have n4_ := Aside0.mk (hbox); have n5_ := Aside0.mk ((by rw [hg]; exact (by first | exact HK.out.1 | exact (show Kept w _ (fun k_ => False) from by repeat (first | (with_reducible first | exact HK.out | apply Kept.alloc | apply Kept.drewN | apply Kept.drew | refine Kept.setCell ?_ (.inr GW620.out) _) | exact HK.out)).1) : w.heap.size ≤ gb621)); have n6_ := Aside0.mk ((by rw [hg]; exact (below_size (bw1 HB GE620)) : w0.heap.size ≤ gb621)); have n7_ := Aside0.mk (bl (bm BK620) hg); have n8_ := Aside0.mk (bg (bm BK620) hg); clear HO0_1; clear BK620; clear HK; clear HB; have HO0_1 := n0_; have BK620 := n1_; have HK := n2_; have HB := n3_; have BK621 := n4_; have GW621 := n5_; have GE621 := n6_; have NB620_621 := n7_; have NB621_620 := n8_; clear n0_ n1_ n2_ n3_ n4_ n5_ n6_ n7_ n8_; clear hb hbox hg; have hnb7 := NB620_621.out; have hnc7 := NB621_620.out; obtain ⟨hcz8_0, hcz8_1, hcz8_2, hfz8_0, hfz8_1, hfz8_2⟩ := b3 BK620) | ((with_reducible refine gate_dst (N := 5) rfl ?_); refine bx 5 #[.slice none 0 0, .slice none 0 0, .int .i64 0] 25 ?_; intro gb622 hg w9 hbox hb; have n0_ := Aside0.mk trivial; have n1_ := Aside0.mk (blk_below (bm BK620) hb); have n2_ := Aside0.mk (blk_below (bm BK621) hb); have n3_ := Aside0.mk (Kept.below (S := (fun k_ => False)) (by repeat (first | (with_reducible first | exact HK.out | apply Kept.alloc | apply Kept.drewN | apply Kept.drew | refine Kept.setCell ?_ (.inr GW620.out) _ | refine Kept.setCell ?_ (.inr GW621.out) _) | exact HK.out)) hb); have n4_ := Aside0.mk (below_step (bw2 HB GE620 GE621) hb); have n5_ := Aside0.mk (hbox); have n6_ := Aside0.mk ((by rw [hg]; exact (by first | exact HK.out.1 | exact (show Kept w _ (fun k_ => False) from by repeat (first | (with_reducible first | exact HK.out | apply Kept.alloc | apply Kept.drewN | apply Kept.drew | refine Kept.setCell ?_ (.inr GW620.out) _ | refine Kept.setCell ?_ (.inr GW621.out) _) | exact HK.out)).1) : w.heap.size ≤ gb622)); have n7_ := Aside0.mk ((by rw [hg]; exact (below_size (bw2 HB GE620 GE621)) : w0.heap.size ≤ gb622)); have n8_ := Aside0.mk (bl (bm BK620) hg); have n9_ := Aside0.mk (bg (bm BK620) hg); have n10_ := Aside0.mk (bl (bm BK621) hg); have n11_ := Aside0.mk (bg (bm BK621) hg); clear HO0_1; clear BK620; clear BK621; clear HK; clear HB; have HO0_1 := n0_; have BK620 := n1_; have BK621 := n2_; have HK := n3_; have HB := n4_; have BK622 := n5_; have GW622 := n6_; have GE622 := n7_; have NB620_622 := n8_; have NB622_620 := n9_; have NB621_622 := n10_; have NB622_621 := n11_; clear n0_ n1_ n2_ n3_ n4_ n5_ n6_ n7_ n8_ n9_ n10_ n11_; clear hb hbox hg; have hnb10 := NB622_620.out; have hnc10 := NB620_622.out; have hnb11 := NB622_621.out; have hnc11 := NB621_622.out; obtain ⟨hcz12_0, hcz12_1, hcz12_2, hfz12_0, hfz12_1, hfz12_2⟩ := b3 BK622) | ((with_reducible refine gate_dst (N := 8) rfl ?_); refine Kd.R_lit k66 _ 66 ?hg (N := 8) ?hd (xs := ([] : List (S66))) (inner := []) (ok := fun _ => True) (okp := fun _ => True) ?hr ?hp (fun _ hk => hk) trivial (Below.refl _ _) (Nat.le_refl _) (by simp) ?_; (case hd => rfl); (case hg => rfl); (case hr => first | (go_simp; done) | (go_simp; rfl)); (case hp => exact (Reps.none _ _)); intro v624 w13 ho14 hb hg_ hnew_; clear hg_ hnew_; (first | rw [← Ny623.out] at ho14 | (simp only [Int.reduceToNat] at ho14; rw [← Ny623.out] at ho14)); have n0_ := Aside0.mk trivial; have n1_ := Aside0.mk (Kd.R_lower (Kd.R_newM (M := fun k_ => (False ∨ w.heap.size ≤ k_)) ho14 (show Kept w _ (fun k_ => False) from by repeat (first | (with_reducible first | exact HK.out | apply Kept.alloc | apply Kept.drewN | apply Kept.drew | refine Kept.setCell ?_ (.inr GW620.out) _ | refine Kept.setCell ?_ (.inr GW621.out) _ | refine Kept.setCell ?_ (.inr GW622.out) _) | exact HK.out)).1 (fun k_ h_ => .inr h_)) (below_size (bw3 HB GE620 GE621 GE622))); have n2_ := Aside0.mk (blk_below (g := gb620) (o := .cells #[.slice A0_0 l0_0.length c0_0, .slice A0_1 l0_1.length c0_1, .int .i64 a0_2] 25 (0, 0)) (by (with_reducible repeat (first | refine blk_drewN ?_ _ | refine blk_drew ?_ | refine blk_alloc ?_ _)); refine blk_far ?_ NB620_622.out _; (with_reducible repeat (first | refine blk_drewN ?_ _ | refine blk_drew ?_ | refine blk_alloc ?_ _)); refine blk_far ?_ NB620_622.out _; (with_reducible repeat (first | refine blk_drewN ?_ _ | refine blk_drew ?_ | refine blk_alloc ?_ _)); refine blk_far ?_ NB620_622.out _; (with_reducible repeat (first | refine blk_drewN ?_ _ | refine blk_drew ?_ | refine blk_alloc ?_ _)); exact BK620.out) hb); have n3_ := Aside0.mk (blk_below (g := gb621) (o := .cells #[.slice none 0 0, .slice none 0 0, .int .i64 0] 25 (0, 0)) (by (with_reducible repeat (first | refine blk_drewN ?_ _ | refine blk_drew ?_ | refine blk_alloc ?_ _)); refine blk_far ?_ NB621_622.out _; (with_reducible repeat (first | refine blk_drewN ?_ _ | refine blk_drew ?_ | refine blk_alloc ?_ _)); refine blk_far ?_ NB621_622.out _; (with_reducible repeat (first | refine blk_drewN ?_ _ | refine blk_drew ?_ | refine blk_alloc ?_ _)); refine blk_far ?_ NB621_622.out _; (with_reducible repeat (first | refine blk_drewN ?_ _ | refine blk_drew ?_ | refine blk_alloc ?_ _)); exact BK621.out) hb); have n4_ := Aside0.mk (blk_below (g := gb622) (o := .cells #[.slice A0_0 l0_0.length c0_0, .slice A0_1 l0_1.length c0_1, .int .i64 a0_2] 25 (0, 0)) (by (with_reducible repeat (first | refine blk_drewN ?_ _ | refine blk_drew ?_ | refine blk_alloc ?_ _)); refine blk_put (cs := #[.slice A0_0 l0_0.length c0_0, .slice A0_1 l0_1.length c0_1, .int .i64 0]) ?_ 2 _ rfl; (with_reducible repeat (first | refine blk_drewN ?_ _ | refine blk_drew ?_ | refine blk_alloc ?_ _)); refine blk_put (cs := #[.slice A0_0 l0_0.length c0_0, .slice none 0 0, .int .i64 0]) ?_ 1 _ rfl; (with_reducible repeat (first | refine blk_drewN ?_ _ | refine blk_drew ?_ | refine blk_alloc ?_ _)); refine blk_put (cs := #[.slice none 0 0, .slice none 0 0, .int .i64 0]) ?_ 0 _ rfl; (with_reducible repeat (first | refine blk_drewN ?_ _ | refine blk_drew ?_ | refine blk_alloc ?_ _)); exact BK622.out) hb); have n5_ := Aside0.mk (Kept.below (S := (fun k_ => False)) (by repeat (first | (with_reducible first | exact HK.out | apply Kept.alloc | apply Kept.drewN | apply Kept.drew | refine Kept.setCell ?_ (.inr GW620.out) _ | refine Kept.setCell ?_ (.inr GW621.out) _ | refine Kept.setCell ?_ (.inr GW622.out) _) | exact HK.out)) hb); have n6_ := Aside0.mk (below_step (bw3 HB GE620 GE621 GE622) hb); clear HO0_1; clear BK620; clear BK621; clear BK622; clear HK; clear HB; have HO0_1 := n0_; have HO625 := n1_; have BK620 := n2_; have BK621 := n3_; have BK622 := n4_; have HK := n5_; have HB := n6_; clear n0_ n1_ n2_ n3_ n4_ n5_ n6_; clear hb ho14; obtain ⟨hcz15_0, hcz15_1, hcz15_2, hfz15_0, hfz15_1, hfz15_2⟩ := b3 BK620) | ((with_reducible refine gate_builtin (b := .append) (xs := #[.tmp 8, .tmp 10]) rfl ?_); at_builtin; refine Kd.R_append_rows k66 (w0 := w0) w0.heap.size rfl (.tmp 8) (.tmp 10) 22 66 (.agg #[(.int .i64 0), (.int .i64 0), (.int .i64 0)]) 24 rfl Tryd.underlying22 info66 rfl (by decide) (by omega) v624 y623 l0_0 _ _ _ (fun k_ => (False ∨ w.heap.size ≤ k_)) (fun _ => False) rfl rfl ?aO ?aR (fun _ _ h => h) (fun _ h => h.elim) ?aF ?aB ?aS ?aL ?_; (case aR => exact Kd.C_below HR0_0.out (by repeat (first | (with_reducible first | exact HB.out | apply below_alloc | apply pw_below_drewN | apply below_drew1 | refine below_set ?_ GE620.out | refine below_set ?_ GE621.out | refine below_set ?_ GE622.out) | exact HB.out))); (case aB => exact (bw3 HB GE620 GE621 GE622)); (case aF => exact (fun k_ hk => (.inr (Nat.le_trans (by first | exact HK.out.1 | exact (show Kept w _ (fun k_ => False) from by repeat (first | (with_reducible first | exact HK.out | apply Kept.alloc | apply Kept.drewN | apply Kept.drew | refine Kept.setCell ?_ (.inr GW620.out) _ | refine Kept.setCell ?_ (.inr GW621.out) _ | refine Kept.setCell ?_ (.inr GW622.out) _) | exact HK.out)).1) hk)))); (case aO => exact (by (with_reducible repeat (first | apply Kd.R_alloc | apply Kd.R_drewN | apply Kd.R_drew)); exact Kd.R_mono HO625.out (fun _ hk => hk.1))); (case aS => exact (below_size (bw3 HB GE620 GE621 GE622))); (case aL => have := LMc3.out; omega); intro v627 w16 ho hb hg hat; rw [← Ny626.out] at ho; have n0_ := Aside0.mk trivial; have n1_ := Aside0.mk (blk_grown (g := gb620) (o := .cells #[.slice A0_0 l0_0.length c0_0, .slice A0_1 l0_1.length c0_1, .int .i64 a0_2] 25 (0, 0)) (bm BK620) hg (Kd.R_ne HO625.out BK620.out (by decide))); have n2_ := Aside0.mk (blk_grown (g := gb621) (o := .cells #[.slice none 0 0, .slice none 0 0, .int .i64 0] 25 (0, 0)) (bm BK621) hg (Kd.R_ne HO625.out BK621.out (by decide))); have n3_ := Aside0.mk (blk_grown (g := gb622) (o := .cells #[.slice A0_0 l0_0.length c0_0, .slice A0_1 l0_1.length c0_1, .int .i64 a0_2] 25 (0, 0)) (bm BK622) hg (Kd.R_ne HO625.out BK622.out (by decide))); have n4_ := Aside0.mk (hb); have n5_ := Aside0.mk (Kept.of_grown (S := (fun k_ => False)) hg (by repeat (first | (with_reducible first | exact HK.out | apply Kept.alloc | apply Kept.drewN | apply Kept.drew | refine Kept.setCell ?_ (.inr GW620.out) _ | refine Kept.setCell ?_ (.inr GW621.out) _ | refine Kept.setCell ?_ (.inr GW622.out) _) | exact HK.out)) (fun k_ e_ => (HO625.out.1 k_ e_).1)); have n6_ := Aside0.mk (ho); clear HO0_1; clear BK620; clear BK621; clear BK622; clear HB; clear HK; clear HO625; have HO0_1 := n0_; have BK620 := n1_; have BK621 := n2_; have BK622 := n3_; have HB := n4_; have HK := n5_; have HO628 := n6_; clear n0_ n1_ n2_ n3_ n4_ n5_ n6_; clear ho hb hg hat; obtain ⟨Ao17, co17, eo17⟩ := Kd.R_slice HO628.out; subst eo17; obtain ⟨hcz18_0, hcz18_1, hcz18_2, hfz18_0, hfz18_1, hfz18_2⟩ := b3 BK622))
  go_loopg [6] k (fun kq v6 w' => ∃ (x6_1 : Int) (x623000_1 : List (S66)) (u623000 : Value), v6 = .int .i64 x6_1 ∧ Aside0 (macadamlaw04_alone.l0 kq a1 x6_1 x623000_1 l0_1 a0_2 = some (r1, r2, r3)) ∧ Aside0 (kq ≤ k) ∧ Aside0 True ∧ Aside0 (Kd.R k66 66 w' w0.heap.size (fun k_ => (False ∨ w.heap.size ≤ k_)) u623000 x623000_1) ∧ Aside0 True ∧ Aside0 (w'.heap[gb620]? = some (.cells #[(.slice A0_0 l0_0.length c0_0), (.slice A0_1 l0_1.length c0_1), .int .i64 a0_2] 25 (0, 0))) ∧ Aside0 (w'.heap[gb621]? = some (.cells #[(.slice none 0 0), (.slice none 0 0), .int .i64 0] 25 (0, 0))) ∧ Aside0 (w'.heap[gb622]? = some (.cells #[u623000, (.slice A0_1 l0_1.length c0_1), .int .i64 a0_2] 25 (0, 0))) ∧ Aside0 (Kept w w' (fun k_ => False)) ∧ Aside0 (Below w0.heap.size w0 w'))
  case atStart => exact ⟨(0), (y626), (.slice Ao17 y626.length co17), (by first | rfl | (simp; done) | (simp [*]; done)), H', ⟨Nat.le_refl _⟩, ⟨trivial⟩, ⟨by (with_reducible repeat (first | apply Kd.R_alloc | apply Kd.R_drewN | apply Kd.R_drew)); exact Kd.R_mono (Kd.R_far (p := ⟨gb622, 0, none⟩) (Kd.R_types HO628.out BK622.out (by decide)) (fun _ hk => hk.2) (.slice Ao17 y626.length co17)) (fun _ hk => hk.1)⟩, ⟨trivial⟩, ⟨by (with_reducible repeat (first | refine blk_drewN ?_ _ | refine blk_drew ?_ | refine blk_alloc ?_ _)); refine blk_far ?_ NB620_622.out _; (with_reducible repeat (first | refine blk_drewN ?_ _ | refine blk_drew ?_ | refine blk_alloc ?_ _)); exact BK620.out⟩, ⟨by (with_reducible repeat (first | refine blk_drewN ?_ _ | refine blk_drew ?_ | refine blk_alloc ?_ _)); refine blk_far ?_ NB621_622.out _; (with_reducible repeat (first | refine blk_drewN ?_ _ | refine blk_drew ?_ | refine blk_alloc ?_ _)); exact BK621.out⟩, ⟨by (with_reducible repeat (first | refine blk_drewN ?_ _ | refine blk_drew ?_ | refine blk_alloc ?_ _)); refine blk_put (cs := #[.slice A0_0 l0_0.length c0_0, .slice A0_1 l0_1.length c0_1, .int .i64 a0_2]) ?_ 0 _ rfl; (with_reducible repeat (first | refine blk_drewN ?_ _ | refine blk_drew ?_ | refine blk_alloc ?_ _)); exact BK622.out⟩, ⟨by repeat (first | (with_reducible first | exact HK.out | apply Kept.alloc | apply Kept.drewN | apply Kept.drew | refine Kept.setCell ?_ (.inr GW620.out) _ | refine Kept.setCell ?_ (.inr GW621.out) _ | refine Kept.setCell ?_ (.inr GW622.out) _) | exact HK.out)⟩, ⟨bw3 HB GE620 GE621 GE622⟩⟩
  case round =>
   clear H'
   try clear c1
   try clear p2
   try clear c3
   try clear c5
   try clear c7
   try clear c10
   try clear c11
   try clear hcz12_0
   try clear hcz12_1
   try clear hcz12_2
   try clear hcz15_0
   try clear hcz15_1
   try clear hcz15_2
   try clear hcz18_0
   try clear hcz18_1
   try clear hcz18_2
   try clear hcz8_0
   try clear hcz8_1
   try clear hcz8_2
   try clear hfz12_0
   try clear hfz12_1
   try clear hfz12_2
   try clear hfz15_0
   try clear hfz15_1
   try clear hfz15_2
   try clear hfz18_0
   try clear hfz18_1
   try clear hfz18_2
   try clear hfz8_0
   try clear hfz8_1
   try clear hfz8_2
   obtain ⟨x6_1, x623000_1, u623000, rfl, HA, HK1, HO_621001, HO_623000, HO_623001, BK620, BK621, BK622, HK, HB⟩ := hrel
   cases gk with
   | zero => exact absurd HA.out (by simp [macadamlaw04_alone.l0])
   | succ k1 =>
    have H := HA.out
    clear HA
    simp only [macadamlaw04_alone.l0] at H
    by_cases c19 : x6_1 < (x623000_1.length : Int)
    ·rw [if_pos c19] at H
     have c19b0 : decide (x6_1 < (x623000_1.length : Int)) = true := decide_eq_true c19
     clear c19
     by_cases c20 : x6_1 = a1
     ·rw [if_pos c20] at H
      have c20b0 : (x6_1 == a1) = true := beq_iff_eq.mpr c20
      have c20b1 : (x6_1 != a1) = false := bne_eq_false_iff_eq.mpr c20
      clear c20
      have H' := Aside0.mk H
      clear H
      have hnb21 := NB622_620.out
      have hnc21 := NB620_622.out
      have hnb22 := NB622_621.out
      have hnc22 := NB621_622.out
      obtain ⟨hcz23_0, hcz23_1, hcz23_2, hfz23_0, hfz23_1, hfz23_2⟩ := b3 BK622
      obtain ⟨Ao24, co24, eo24⟩ := Kd.R_slice HO_623000.out
      subst eo24
      go_wp2
      go_roundg k1
      case measure => have := HK1.out; omega
      case rel => exact ⟨(wrap64 (x6_1 + 1)), (x623000_1), (.slice Ao24 x623000_1.length co24), (by first | rfl | (simp; done) | (simp [*]; done)), H', ⟨by have := HK1.out; omega⟩, ⟨trivial⟩, ⟨by (with_reducible repeat (first | apply Kd.R_alloc | apply Kd.R_drewN | apply Kd.R_drew)); exact HO_623000.out⟩, ⟨trivial⟩, ⟨bm BK620⟩, ⟨bm BK621⟩, ⟨bm BK622⟩, ⟨by repeat (first | (with_reducible first | exact HK.out | apply Kept.alloc | apply Kept.drewN | apply Kept.drew | refine Kept.setCell ?_ (.inr GW620.out) _ | refine Kept.setCell ?_ (.inr GW621.out) _ | refine Kept.setCell ?_ (.inr GW622.out) _) | exact HK.out)⟩, ⟨bw3 HB GE620 GE621 GE622⟩⟩
     ·rw [if_neg c20] at H
      have c20b0 : (x6_1 == a1) = false := beq_eq_false_iff_ne.mpr c20
      have c20b1 : (x6_1 != a1) = true := bne_iff_ne.mpr c20
      by_cases c25 : 0 ≤ x6_1
      ·rw [if_pos c25] at H
       have c25b0 : decide (0 ≤ x6_1) = true := decide_eq_true c25
       clear c25
       obtain ⟨y629, hy629⟩ : ∃ y_ : List (S66), y_ = (x623000_1.set (x6_1 : Int).toNat (⟨(⟨(rd_T66 x623000_1 x6_1).f0.f0, (rd_T66 x623000_1 x6_1).f0.f1⟩ : S40), 15⟩ : S66)) := ⟨_, rfl⟩
       replace H : (macadamlaw04_alone.l0 k1 a1 (wrap64 (x6_1 + 1)) y629 l0_1 a0_2) = some (r1, r2, r3) := by first | (rw [hy629]; with_reducible exact H) | (have H2_ := (Option.bind_some _ _).symm.trans H; rw [hy629]; with_reducible exact H2_) | (have H2_ := (Option.bind_some _ _).symm.trans H; with_reducible exact H2_) | with_reducible exact H | (rw [hy629]; exact H) | exact H
       have Ny629 := Aside0.mk hy629
       clear hy629
       have H' := Aside0.mk H
       clear H
       have hnb27 := NB622_620.out
       have hnc27 := NB620_622.out
       have hnb28 := NB622_621.out
       have hnc28 := NB621_622.out
       obtain ⟨hcz29_0, hcz29_1, hcz29_2, hfz29_0, hfz29_1, hfz29_2⟩ := b3 BK622
       obtain ⟨Ao30, co30, eo30⟩ := Kd.R_slice HO_623000.out
       subst eo30
       have p26 : 0 ≤ (x6_1 : Int) := of_decide_eq_true (by first | (with_reducible assumption) | assumption)
       have q26 : (x6_1 : Int) < ((x623000_1.length : Int) : Int) := of_decide_eq_true (by first | (with_reducible assumption) | assumption)
       obtain ⟨go26, co26, eo26, gb26, gl26, cl26, HG26⟩ := Kd.R_form HO_623000.out (by omega)
       (first | cases eo26 | (injection eo26 with ea_ en_ ec_; (first | subst ea_ | (injection ea_ with ea_; subst ea_)); subst ec_; clear en_))
       have GB26 := Aside0.mk gb26
       have GG26 := Aside0.mk HG26
       clear gb26 gl26 HG26
       have HMgo26 := Aside0.mk (show (False ∨ w.heap.size ≤ go26) from (HO_623000.out.1 _ rfl))
       obtain ⟨ce26, hcl26, hM26, hcc26, hfr26⟩ := Kd.R_elem HO_623000.out z66 (x6_1 : Int) p26 q26
       obtain rfl := k66_openM hM26
       have hx26_0 : wr.cell? ⟨go26, (x6_1 : Int).toNat * 3, none⟩ = some (.int .i64 ((rd_T66 x623000_1 x6_1).f0.f0)) := hcc26 0 _ rfl
       have hx26_1 : wr.cell? ⟨go26, (x6_1 : Int).toNat * 3 + 1, none⟩ = some (.int .i64 ((rd_T66 x623000_1 x6_1).f0.f1)) := hcc26 1 _ rfl
       have hx26_2 : wr.cell? ⟨go26, (x6_1 : Int).toNat * 3 + 2, none⟩ = some (.int .i64 ((rd_T66 x623000_1 x6_1).f1)) := hcc26 2 _ rfl
       have hf26_0 : wr.frozen? ⟨go26, (x6_1 : Int).toNat * 3, none⟩ = false := hfr26 0
       have hf26_1 : wr.frozen? ⟨go26, (x6_1 : Int).toNat * 3 + 1, none⟩ = false := hfr26 1
       have hf26_2 : wr.frozen? ⟨go26, (x6_1 : Int).toNat * 3 + 2, none⟩ = false := hfr26 2
       clear hcl26 hcc26 hfr26 hM26
       replace p26 := eq_true p26
       replace q26 := eq_true q26
       have HX31 := Aside0.mk (show Kd.R k66 66 wr w0.heap.size (fun k_ => (False ∨ w.heap.size ≤ k_)) (.slice (some ⟨go26, 0, none⟩) x623000_1.length co30) x623000_1 from (by (with_reducible repeat (first | apply Kd.R_alloc | apply Kd.R_drewN | apply Kd.R_drew)); exact HO_623000.out))
       obtain ⟨ce31, hcl31, hM31, hcc31, hfr31⟩ := Kd.R_elem HX31.out z66 (x6_1 : Int) (of_decide_eq_true (by first | (with_reducible assumption) | assumption)) (by have h_ : (x6_1 : Int) < ((x623000_1.length : Int) : Int) := of_decide_eq_true (by first | (with_reducible assumption) | assumption); first | exact h_ | (have e_ := (Kd.R_reads' HO_623000.out).1; omega) | simpa using h_)
       obtain rfl := k66_openM hM31
       have HP31 := Kd.R_seg HX31.out (x6_1 : Int) (of_decide_eq_true (by first | (with_reducible assumption) | assumption)) (by have h_ : (x6_1 : Int) < ((x623000_1.length : Int) : Int) := of_decide_eq_true (by first | (with_reducible assumption) | assumption); first | exact h_ | (have e_ := (Kd.R_reads' HO_623000.out).1; omega) | simpa using h_) (seg := [.int .i64 15]) (j := 2) hcl31 hcc31 (show 3 ≤ 3 from by decide) (x' := (⟨(⟨(rd_T66 x623000_1 x6_1).f0.f0, (rd_T66 x623000_1 x6_1).f0.f1⟩ : S40), 15⟩ : S66)) (k66_mkM _ _ _ (⟨(⟨(rd_T66 x623000_1 x6_1).f0.f0, (rd_T66 x623000_1 x6_1).f0.f1⟩ : S40), 15⟩ : S66) ) (fun _ hk => hk)
       have hx31_2 := hcc31 2 _ rfl
       (try simp only [show (k66).sz = 3 from rfl, Nat.mul_one, Nat.add_zero] at hx31_2)
       have hf31_2 := hfr31 2
       (try simp only [show (k66).sz = 3 from rfl, Nat.mul_one, Nat.add_zero] at hf31_2)
       clear hcl31 hcc31 hfr31 hM31
       go_wp2_with (first | ((with_reducible refine gate_store (t := 3) (p := 27) rfl ?_); refine store_event (t := 3) (p := 27) (v := ?vo_w32) (w1 := (wr.setCell ⟨go26, (x6_1 : Int).toNat * 3 + 2, none⟩ (.int .i64 15))) ?hg ?ho ?hn ?hr ?_; (case ho => rfl); (case hg => rfl); (case hn => rfl); (case hr => first | (go_simp; done) | (go_simp; rfl)); intro w32 hw; have hg : wr.grownBy w32 (some go26) := (by rw [hw]; exact HP31.2); have hp_ : Kd.R k66 66 w32 w0.heap.size (fun k_ => (False ∨ w.heap.size ≤ k_)) (.slice (some ⟨go26, 0, none⟩) x623000_1.length co30) y629 := (by rw [hw, Ny629.out]; exact HP31.1); clear HP31; have n0_ := Aside0.mk trivial; have n1_ := Aside0.mk (hp_); have n2_ := Aside0.mk trivial; have n3_ := Aside0.mk (blk_grown (g := gb620) (o := .cells #[.slice A0_0 l0_0.length c0_0, .slice A0_1 l0_1.length c0_1, .int .i64 a0_2] 25 (0, 0)) (bm BK620) hg (Kd.R_ne HO_623000.out BK620.out (by decide))); have n4_ := Aside0.mk (blk_grown (g := gb621) (o := .cells #[.slice none 0 0, .slice none 0 0, .int .i64 0] 25 (0, 0)) (bm BK621) hg (Kd.R_ne HO_623000.out BK621.out (by decide))); have n5_ := Aside0.mk (blk_grown (g := gb622) (o := .cells #[.slice (some ⟨go26, 0, none⟩) x623000_1.length co30, .slice A0_1 l0_1.length c0_1, .int .i64 a0_2] 25 (0, 0)) (bm BK622) hg (Kd.R_ne HO_623000.out BK622.out (by decide))); have n6_ := Aside0.mk ((by rw [hw]; exact below_set (HB.out) GB26.out : Below w0.heap.size w0 w32)); have n7_ := Aside0.mk (Kept.of_grown (S := (fun k_ => False)) hg (by repeat (first | (with_reducible first | exact HK.out | apply Kept.alloc | apply Kept.drewN | apply Kept.drew | refine Kept.setCell ?_ (.inr GW620.out) _ | refine Kept.setCell ?_ (.inr GW621.out) _ | refine Kept.setCell ?_ (.inr GW622.out) _) | exact HK.out)) (fun k_ e_ => (HO_623000.out.1 k_ e_))); clear HO_621001; clear HO_623000; clear HO_623001; clear BK620; clear BK621; clear BK622; clear HB; clear HK; have HO_621001 := n0_; have HO_623000 := n1_; have HO_623001 := n2_; have BK620 := n3_; have BK621 := n4_; have BK622 := n5_; have HB := n6_; have HK := n7_; clear n0_ n1_ n2_ n3_ n4_ n5_ n6_ n7_; clear hg hw hp_))
       go_roundg k1
       case measure => have := HK1.out; omega
       case rel => exact ⟨(wrap64 (x6_1 + 1)), (y629), (.slice (some ⟨go26, 0, none⟩) x623000_1.length co30), (by first | rfl | (simp; done) | (simp [*]; done)), H', ⟨by have := HK1.out; omega⟩, ⟨trivial⟩, ⟨by (with_reducible repeat (first | apply Kd.R_alloc | apply Kd.R_drewN | apply Kd.R_drew)); exact HO_623000.out⟩, ⟨trivial⟩, ⟨bm BK620⟩, ⟨bm BK621⟩, ⟨bm BK622⟩, ⟨by repeat (first | (with_reducible first | exact HK.out | apply Kept.alloc | apply Kept.drewN | apply Kept.drew | refine Kept.setCell ?_ (.inr GW620.out) _ | refine Kept.setCell ?_ (.inr GW621.out) _ | refine Kept.setCell ?_ (.inr GW622.out) _) | exact HK.out)⟩, ⟨bw3 HB GE620 GE621 GE622⟩⟩
      ·rw [if_neg c25] at H
       exact absurd H (by simp)
    ·rw [if_neg c19] at H
     have c19b0 : decide (x6_1 < (x623000_1.length : Int)) = false := decide_eq_false c19
     clear c19
     simp only [Option.some.injEq, Prod.mk.injEq] at H
     obtain ⟨rfl, rfl, rfl⟩ := H
     have hnb33 := NB622_620.out
     have hnc33 := NB620_622.out
     have hnb34 := NB622_621.out
     have hnc34 := NB621_622.out
     obtain ⟨hcz35_0, hcz35_1, hcz35_2, hfz35_0, hfz35_1, hfz35_2⟩ := b3 BK622
     obtain ⟨Ao36, co36, eo36⟩ := Kd.R_slice HO_623000.out
     subst eo36
     have hnb37 := NB621_620.out
     have hnc37 := NB620_621.out
     obtain ⟨hcz38_0, hcz38_1, hcz38_2, hfz38_0, hfz38_1, hfz38_2⟩ := b3 BK621
     go_wp2
     refine bodyPost_ret (results_cell_row rfl _ _ gb621 25 #[.slice Ao36 x623000_1.length co36, .slice A0_1 l0_1.length c0_1, .int .i64 a0_2] (0, 0) _ rfl (by (with_reducible repeat (first | refine blk_drewN ?_ _ | refine blk_drew ?_ | refine blk_alloc ?_ _)); refine blk_put (cs := #[.slice Ao36 x623000_1.length co36, .slice A0_1 l0_1.length c0_1, .int .i64 0]) ?_ 2 _ rfl; (with_reducible repeat (first | refine blk_drewN ?_ _ | refine blk_drew ?_ | refine blk_alloc ?_ _)); refine blk_put (cs := #[.slice Ao36 x623000_1.length co36, .slice none 0 0, .int .i64 0]) ?_ 1 _ rfl; (with_reducible repeat (first | refine blk_drewN ?_ _ | refine blk_drew ?_ | refine blk_alloc ?_ _)); refine blk_put (cs := #[.slice none 0 0, .slice none 0 0, .int .i64 0]) ?_ 0 _ rfl; (with_reducible repeat (first | refine blk_drewN ?_ _ | refine blk_drew ?_ | refine blk_alloc ?_ _)); exact BK621.out) Tryd.underlying25 rfl (by kernel_rfl)) rfl ?_
     exact ⟨_, by first | rfl | (simp [errW_none, errW_some] <;> rfl) | (simp [*, errW_none, errW_some] <;> rfl), by (with_reducible repeat (first | apply Kd.R_alloc | apply Kd.R_drewN | apply Kd.R_drew)); exact Kd.R_mono (Kd.R_far (p := ⟨gb621, 2, none⟩) (Kd.R_far (p := ⟨gb621, 1, none⟩) (Kd.R_far (p := ⟨gb621, 0, none⟩) (Kd.R_types HO_623000.out BK621.out (by decide)) (fun _ hk => hk.2) (.slice Ao36 x623000_1.length co36)) (fun _ hk => hk.2) (.slice A0_1 l0_1.length c0_1)) (fun _ hk => hk.2) (.int .i64 a0_2)) (fun _ hk => hk.1), by repeat (first | (with_reducible first | exact HB.out | apply below_alloc | apply pw_below_drewN | apply below_drew1 | refine below_set ?_ GE620.out | refine below_set ?_ GE621.out | refine below_set ?_ GE622.out) | exact HB.out), by repeat (first | (with_reducible first | exact HK.out | apply Kept.alloc | apply Kept.drewN | apply Kept.drew | refine Kept.setCell ?_ (.inr GW620.out) _ | refine Kept.setCell ?_ (.inr GW621.out) _ | refine Kept.setCell ?_ (.inr GW622.out) _) | exact HK.out)⟩
 ·rw [if_neg c3] at H
  exact absurd H (by simp)
end Go.Proofs.YtikfghnkbgdbgaaDoor.Q
end
section
namespace Go.Proofs.YtikfghnkbgdbgaaDoor.Q
set_option linter.unusedSimpArgs false
set_option linter.unusedVariables false
open Go.RowKit Go.Proofs.YtikfghnkbgdbgaaDoorW.PrintWords Go.Proofs.YtikfghnkbgdbgaaDoorW.PrintLast Go.Proofs.YtikfghnkbgdbgaaDoorW.PrintMore
def aloneM (at_ : Int) (i : Nat) (x : M) : M := if (i : Int) = at_ then x else ⟨x.f0, 15⟩
def aloneL (ms : List M) (at_ : Int) : List M := ms.mapIdx (aloneM at_)
def aloneP (ms : List M) (at_ : Int) (k : Nat) : List M := ms.mapIdx (fun i x => if i < k then aloneM at_ i x else x)
theorem aloneP_len (ms : List M) (at_ : Int) (k : Nat) : (aloneP ms at_ k).length = ms.length := by simp [aloneP]
theorem aloneP_get (ms : List M) (at_ : Int) (k j : Nat) : (aloneP ms at_ k)[j]? = ms[j]?.map (fun x => if j < k then aloneM at_ j x else x) := by simp [aloneP, List.getElem?_mapIdx]
theorem aloneP_zero (ms : List M) (at_ : Int) : aloneP ms at_ 0 = ms := by
  apply List.ext_getElem?; intro j; rw [aloneP_get]; simp
theorem aloneP_all (ms : List M) (at_ : Int) : aloneP ms at_ ms.length = aloneL ms at_ := by
  apply List.ext_getElem?; intro j; rw [aloneP_get, aloneL, List.getElem?_mapIdx]
  by_cases h : j < ms.length
  · simp [h]
  · rw [List.getElem?_eq_none (by omega)]; rfl
theorem aloneP_same (ms : List M) (at_ : Int) (k : Nat) (h : (k : Int) = at_) : aloneP ms at_ (k + 1) = aloneP ms at_ k := by
  apply List.ext_getElem?; intro j; rw [aloneP_get, aloneP_get]
  cases ms[j]? with
  | none => rfl
  | some x =>
    simp only [Option.map_some, Option.some.injEq]
    by_cases h1 : j < k
    · rw [if_pos (by omega), if_pos h1]
    · by_cases h2 : j = k
      · subst h2; rw [if_pos (by omega), if_neg h1]; unfold aloneM; rw [if_pos h]
      · rw [if_neg (by omega), if_neg h1]
theorem aloneP_step (ms : List M) (at_ : Int) (k : Nat) (h : ¬ (k : Int) = at_) : (aloneP ms at_ k).set k ⟨(rd_T66 (aloneP ms at_ k) k).f0, 15⟩ = aloneP ms at_ (k + 1) := by
  apply List.ext_getElem?; intro j
  rw [List.getElem?_set, aloneP_get, aloneP_get, aloneP_len]
  by_cases hj : k = j
  · subst hj
    rw [if_pos rfl]
    by_cases hl : k < ms.length
    · rw [if_pos hl, List.getElem?_eq_getElem hl]
      simp only [Option.map_some, Option.some.injEq]
      rw [if_pos (by omega)]
      unfold aloneM
      rw [if_neg h]
      congr 1
      have : rd_T66 (aloneP ms at_ k) (k : Int) = ms[k] := by
        simp [rd_T66, List.getD_eq_getElem?_getD, aloneP_get, List.getElem?_eq_getElem hl]
      rw [this]
    · rw [if_neg hl, List.getElem?_eq_none (by omega)]; rfl
  · rw [if_neg hj]
    cases ms[j]? with
    | none => rfl
    | some x =>
      simp only [Option.map_some, Option.some.injEq]
      by_cases h1 : j < k
      · rw [if_pos h1, if_pos (by omega)]
      · rw [if_neg h1, if_neg (by omega)]
theorem alone_l0 (ms : List M) (gs : List G) (n at_ : Int) (hl : ms.length ≤ 9223372036854775806) (d : Nat) : ∀ (i : Nat), ms.length - i = d → i ≤ ms.length →
    Ev (fun k => macadamlaw04_alone.l0 k at_ i (aloneP ms at_ i) gs n) (aloneL ms at_, gs, n) := by
  induction d with
  | zero =>
    intro i hd hi
    obtain rfl : i = ms.length := by omega
    refine Ev.step (f := fun _ => some (aloneL ms at_, gs, n)) (fun k => ?_) (Ev.now _)
    simp only [macadamlaw04_alone.l0, aloneP_len]
    rw [if_neg (by omega), aloneP_all]
  | succ d ih =>
    intro i hd hi
    have hw : wrap64 ((i : Int) + 1) = ((i + 1 : Nat) : Int) := by unfold wrap64; omega
    by_cases h : (i : Int) = at_
    · refine Ev.step (fun k => ?_) (ih (i + 1) (by omega) (by omega))
      simp only [macadamlaw04_alone.l0, aloneP_len]
      rw [if_pos (by omega), if_pos h, hw, aloneP_same ms at_ i h]
    · refine Ev.step (fun k => ?_) (ih (i + 1) (by omega) (by omega))
      simp only [macadamlaw04_alone.l0, aloneP_len]
      rw [if_pos (by omega), if_neg h, if_pos (by omega), hw, ← aloneP_step ms at_ i h]
      rfl
theorem alone_ev (ms : List M) (gs : List G) (n at_ : Int) (hl : ms.length < 5864062014805) : Ev (fun k => macadamlaw04_alone.f k ms gs n at_) (aloneL ms at_, gs, n) := by
  have h := alone_l0 ms gs n at_ (by omega) ms.length 0 (by omega) (by omega)
  rw [aloneP_zero] at h
  refine Ev.congr (f := fun k => macadamlaw04_alone.l0 k at_ ((0 : Nat) : Int) ms gs n) (fun k => ?_) h
  unfold macadamlaw04_alone.f
  simp only [Option.bind_some, List.nil_append, List.length_nil]
  rw [if_pos (by omega)]
  rfl
def alone_given.f (ms : List M) (gs : List G) (n at_ : Int) : Option (List M × Int) := if ms.length < 5864062014805 then some (aloneL ms at_, n) else none
theorem alone_given.calls (A0_0 : Option Addr) (c0_0 : Nat) (l0_0 : List (M)) (A0_1 : Option Addr) (c0_1 : Nat) (l0_1 : List (G)) (a0_2 : Int) (a1 : Int) (r1 : List (M)) (r2 : Int) (w : World) (hr0_0 : Kd.C k66 w A0_0 l0_0.length l0_0) (hc0_0 : l0_0.length ≤ c0_0) (hr0_1 : Kd.C k63 w A0_1 l0_1.length l0_1) (hc0_1 : l0_1.length ≤ c0_1) (h : alone_given.f l0_0 l0_1 a0_2 a1 = some (r1, r2)) :
    Calls Tryd.prog 55 #[.agg #[.slice A0_0 l0_0.length c0_0, .slice A0_1 l0_1.length c0_1, .int .i64 a0_2], .int .i64 a1] w fun e w' => ∃ v0_ : Value, e = .returned (.agg #[v0_, .slice A0_1 l0_1.length c0_1, .int .i64 r2]) ∧ Kd.V k66 66 w' w.heap.size (fun k_ => (w.heap.size ≤ k_)) v0_ r1 ∧ Below w.heap.size w w' := by
  unfold alone_given.f at h
  by_cases hl : l0_0.length < 5864062014805
  · rw [if_pos hl] at h
    injection h with h
    injection h with h1 h2
    subst h1 h2
    obtain ⟨K, hK⟩ := Ev.rounds (alone_ev l0_0 l0_1 a0_2 a1 hl)
    refine (alone_aux K A0_0 c0_0 l0_0 A0_1 c0_1 l0_1 a0_2 a1 _ _ _ w w (Below.refl _ _) hr0_0 hc0_0 hK).mono ?_
    rintro e w' ⟨v, he, hR, hb, _⟩
    obtain ⟨A, c, hv, hlc, _⟩ := Kd.R_reads hR
    refine ⟨v, he, ⟨A, c, hv, hlc, ?_⟩, hb⟩
    rw [hv] at hR
    exact Kd.F_mono (Kd.R_F (Kd.R_bound hR)) (fun k hk => hk.2.1)
  · rw [if_neg hl] at h
    cases h
end Go.Proofs.YtikfghnkbgdbgaaDoor.Q
end
section
namespace Go.Proofs.YtikfghnkbgdbgaaDoor.Q
set_option linter.unusedSimpArgs false
set_option linter.unusedVariables false
open Go.RowKit Go.Proofs.YtikfghnkbgdbgaaDoorW.PrintWords Go.Proofs.YtikfghnkbgdbgaaDoorW.PrintLast Go.Proofs.YtikfghnkbgdbgaaDoorW.PrintMore
theorem okB_bounds {ms : List M} {gs : List G} {n : Int} (h : okB ms gs n = true) : (1 ≤ ms.length ∧ ms.length ≤ 4) ∧ (1 ≤ gs.length ∧ gs.length ≤ 2) ∧ (1 ≤ n ∧ n ≤ 4) := by
  simp only [okB, Bool.and_eq_true, decide_eq_true_eq] at h
  omega
theorem check_calls (ms : List M) (gs : List G) (A0 : Option Addr) (c0 : Nat) (A1 : Option Addr) (c1 : Nat) (n : Int) (r : Int) (w : World) (hr0 : Kd.C k66 w A0 ms.length ms) (hc0 : ms.length ≤ c0) (hr1 : Kd.C k63 w A1 gs.length gs) (hc1 : gs.length ≤ c1)
    (h : (if okB ms gs n = true then (0 : Int) else 40) = r) :
    Calls Tryd.prog 18 #[.agg #[.slice A0 ms.length c0, .slice A1 gs.length c1, .int .i64 n]] w fun e w' => e = .returned (.int .i64 r) ∧ Below w.heap.size w w' :=
  gang_Check.calls (ms.length + gs.length + 3) A0 c0 ms A1 c1 gs n r w hr0 hc0 hr1 hc1 (by rw [check_f ms gs n hr0.2.1 hr1.2.1, h])
set_option maxHeartbeats 4000000 in
set_option maxRecDepth 100000 in
theorem asked_bad (ms : List M) (gs : List G) (A0 : Option Addr) (c0 : Nat) (A1 : Option Addr) (c1 : Nat) (n : Int) (A2 : Option Addr) (c2 l2 : Nat) (w : World) (hr0 : Kd.C k66 w A0 ms.length ms) (hc0 : ms.length ≤ c0) (hr1 : Kd.C k63 w A1 gs.length gs) (hc1 : gs.length ≤ c1) (hok : okB ms gs n = false) :
    Calls Tryd.prog 61 #[.agg #[.slice A0 ms.length c0, .slice A1 gs.length c1, .int .i64 n], .slice A2 l2 c2] w fun e w' =>
      e = .returned (.tuple #[.agg #[.slice none 0 0, .slice none 0 0, .int .i64 0, .map none], .int .i64 40]) ∧ Below w.heap.size w w' := by
  have HR0 := Aside0.mk hr0
  have HR1 := Aside0.mk hr1
  have HO := Aside0.mk hok
  clear hr0 hr1 hok
  go_enter Tryd.func61, Tryd.ntmps61
  go_wp2_with (fail)
  have hB := ((Below.refl w.heap.size w).alloc (Nat.le_refl _) (.cells #[.slice A0 ms.length c0, .slice A1 gs.length c1, .int .i64 n] 25)).alloc (by simp) (.cells #[.slice none 0 0, .slice none 0 0, .int .i64 0, .map none] 86)
  refine (check_calls ms gs A0 c0 A1 c1 n 40 _ ?s1 hc0 ?s2 hc1 (by rw [HO.out]; rfl)).mono ?_
  case s1 => exact Kd.C_below HR0.out hB
  case s2 => exact Kd.C_below HR1.out hB
  rintro e w1 ⟨rfl, hb⟩
  have HB := Aside0.mk (below_then hB (by simp; omega) hb)
  have hg : w1.heap[w.heap.size + 1]? = some (.cells #[.slice none 0 0, .slice none 0 0, .int .i64 0, .map none] 86 (0, 0)) := (hb.block _ (by simp)).trans (by have := World.alloc_heap_new (w.alloc (.cells #[.slice A0 ms.length c0, .slice A1 gs.length c1, .int .i64 n] 25)) (.cells #[.slice none 0 0, .slice none 0 0, .int .i64 0, .map none] 86); rwa [World.size_alloc] at this)
  have HG := Aside0.mk hg
  have hs0 : w1.cell? ⟨w.heap.size + 1, 0, none⟩ = some (.slice none 0 0) := (blk_cell HG.out 0).trans rfl
  have hs1 : w1.cell? ⟨w.heap.size + 1, 1, none⟩ = some (.slice none 0 0) := (blk_cell HG.out 1).trans rfl
  have hs2 : w1.cell? ⟨w.heap.size + 1, 2, none⟩ = some (.int .i64 0) := (blk_cell HG.out 2).trans rfl
  have hs3 : w1.cell? ⟨w.heap.size + 1, 3, none⟩ = some (.map none) := (blk_cell HG.out 3).trans rfl
  have hf0 := blk_frozen HG.out 0
  have hf1 := blk_frozen HG.out 1
  have hf2 := blk_frozen HG.out 2
  have hf3 := blk_frozen HG.out 3
  clear hb hB hg
  go_wp2
  refine bodyPost_ret (v := .tuple #[.agg #[.slice none 0 0, .slice none 0 0, .int .i64 0, .map none], .int .i64 40]) (by simp [results, Tryd.results61, go_sem, hs0, hs1, hs2, hs3]) rfl ⟨rfl, ?_⟩
  exact (((HB.out.setCell (by simp) _).setCell (by simp) _).setCell (by simp) _).setCell (by simp) _
set_option maxHeartbeats 4000000 in
set_option maxRecDepth 100000 in
theorem asked_ok (ms : List M) (gs : List G) (A0 : Option Addr) (c0 : Nat) (A1 : Option Addr) (c1 : Nat) (n : Int) (A2 : Option Addr) (c2 : Nat) (p : List Wk) (w : World) (hr0 : Kd.C k66 w A0 ms.length ms) (hc0 : ms.length ≤ c0) (hr1 : Kd.C k63 w A1 gs.length gs) (hc1 : gs.length ≤ c1)
    (hr2 : Kd.C k59 w A2 p.length p) (hc2 : p.length ≤ c2) (hG : GV w) (hok : okB ms gs n = true) (q : Bool) (hq : planB ms gs n p = q) (E : Int) (hE : (if q = true then (0 : Int) else 41) = E) :
    Calls Tryd.prog 61 #[.agg #[.slice A0 ms.length c0, .slice A1 gs.length c1, .int .i64 n], .slice A2 p.length c2] w fun e w' =>
      ∃ b, e = .returned (.tuple #[.agg #[.slice A0 ms.length c0, .slice A1 gs.length c1, .int .i64 n, .map (some b)], .int .i64 E]) ∧ MapIs w' b (spotsL ms n.toNat) ∧ w.heap.size ≤ b ∧ Below w.heap.size w w' := by
  have hbd := okB_bounds hok
  have hm4 := hbd.1.2
  have hg2 := hbd.2.1.2
  have hn0 : 0 ≤ n := by omega
  have hn4 := hbd.2.2.2
  clear hbd
  have HR0 := Aside0.mk hr0
  have HR1 := Aside0.mk hr1
  have HR2 := Aside0.mk hr2
  have HG0 := Aside0.mk hG
  have HO := Aside0.mk hok
  clear hr0 hr1 hr2 hG hok
  go_enter Tryd.func61, Tryd.ntmps61
  go_wp2_with (fail)
  have hB := ((Below.refl w.heap.size w).alloc (Nat.le_refl _) (.cells #[.slice A0 ms.length c0, .slice A1 gs.length c1, .int .i64 n] 25)).alloc (by simp) (.cells #[.slice none 0 0, .slice none 0 0, .int .i64 0, .map none] 86)
  refine (check_calls ms gs A0 c0 A1 c1 n 0 _ ?s1 hc0 ?s2 hc1 (by rw [HO.out]; rfl)).mono ?_
  case s1 => exact Kd.C_below HR0.out hB
  case s2 => exact Kd.C_below HR1.out hB
  rintro e w1 ⟨rfl, hb⟩
  have HB := Aside0.mk (below_then hB (by simp; omega) hb)
  have HG := Aside0.mk ((hb.block (w.heap.size + 1) (by simp)).trans (show _ = some (Obj.cells #[.slice none 0 0, .slice none 0 0, .int .i64 0, .map none] 86 (0, 0)) by have := World.alloc_heap_new (w.alloc (.cells #[.slice A0 ms.length c0, .slice A1 gs.length c1, .int .i64 n] 25)) (.cells #[.slice none 0 0, .slice none 0 0, .int .i64 0, .map none] 86); rwa [World.size_alloc] at this))
  have hbx : w1.heap[w.heap.size]? = some (.cells #[.slice A0 ms.length c0, .slice A1 gs.length c1, .int .i64 n] 25 (0, 0)) := (hb.block _ (by simp; omega)).trans ((Below.heap_alloc _ _ _ (by simp)).trans (World.alloc_heap_new w _))
  have hs0 : w1.cell? ⟨w.heap.size, 0, none⟩ = some (.slice A0 ms.length c0) := (blk_cell hbx 0).trans rfl
  have hs1 : w1.cell? ⟨w.heap.size, 1, none⟩ = some (.slice A1 gs.length c1) := (blk_cell hbx 1).trans rfl
  have hs2 : w1.cell? ⟨w.heap.size, 2, none⟩ = some (.int .i64 n) := (blk_cell hbx 2).trans rfl
  clear hb hB hbx
  go_wp2_with (fail)
  refine (opened_calls ms gs A0 c0 A1 c1 n _ ?s3 ?s4 hm4 hn0 hn4).mono ?_
  case s3 => exact gv_below HG0.out HB.out
  case s4 => exact Kd.C_below HR0.out HB.out
  rintro e w2 ⟨b, rfl, hm, hlo, hb⟩
  have HM := Aside0.mk hm
  have HLO := Aside0.mk (Nat.le_trans HB.out.size hlo)
  have HB2 := Aside0.mk (below_then HB.out HB.out.size hb)
  have HG2 := Aside0.mk ((hb.block _ (Array.getElem?_eq_some_iff.1 HG.out).1).trans HG.out)
  clear hb hm hlo hs0 hs1 hs2 HG HB
  go_wp2_with (fail)
  have hB3 := HB2.out.alloc HB2.out.size (.cells #[.slice A0 ms.length c0, .slice A1 gs.length c1, .int .i64 n, .map (some b)] 86)
  refine (isPlan_calls ms gs A0 c0 A1 c1 n b A2 c2 p _ ?s5 ?s6 hc2 hn0 ?s7 ?s8 hg2 hm4).mono ?_
  case s5 => exact Kd.C_below HR1.out hB3
  case s6 => exact Kd.C_below HR2.out hB3
  case s7 => exact HM.out.below ((Below.refl _ w2).alloc (Nat.le_refl _) _)
  case s8 => exact gv_below HG0.out hB3
  rintro e w3 ⟨he, hb⟩
  rw [hq] at he
  subst he
  have HM3 := Aside0.mk ((HM.out.below ((Below.refl _ w2).alloc (Nat.le_refl _) _)).below hb)
  have HB3 := Aside0.mk (below_then hB3 hB3.size hb)
  have HG3 := Aside0.mk ((hb.block _ (by simp; have := (Array.getElem?_eq_some_iff.1 HG2.out).1; omega)).trans ((Below.heap_alloc _ _ _ (Array.getElem?_eq_some_iff.1 HG2.out).1).trans HG2.out))
  have hbx : w3.heap[w2.heap.size]? = some (.cells #[.slice A0 ms.length c0, .slice A1 gs.length c1, .int .i64 n, .map (some b)] 86 (0, 0)) := (hb.block _ (by simp)).trans (World.alloc_heap_new w2 _)
  have hz0 : w3.cell? ⟨w2.heap.size, 0, none⟩ = some (.slice A0 ms.length c0) := (blk_cell hbx 0).trans rfl
  have hz1 : w3.cell? ⟨w2.heap.size, 1, none⟩ = some (.slice A1 gs.length c1) := (blk_cell hbx 1).trans rfl
  have hz2 : w3.cell? ⟨w2.heap.size, 2, none⟩ = some (.int .i64 n) := (blk_cell hbx 2).trans rfl
  have hz3 : w3.cell? ⟨w2.heap.size, 3, none⟩ = some (.map (some b)) := (blk_cell hbx 3).trans rfl
  have hs0 : w3.cell? ⟨w.heap.size + 1, 0, none⟩ = some (.slice none 0 0) := (blk_cell HG3.out 0).trans rfl
  have hs1 : w3.cell? ⟨w.heap.size + 1, 1, none⟩ = some (.slice none 0 0) := (blk_cell HG3.out 1).trans rfl
  have hs2 : w3.cell? ⟨w.heap.size + 1, 2, none⟩ = some (.int .i64 0) := (blk_cell HG3.out 2).trans rfl
  have hs3 : w3.cell? ⟨w.heap.size + 1, 3, none⟩ = some (.map none) := (blk_cell HG3.out 3).trans rfl
  have hf0 := blk_frozen HG3.out 0
  have hf1 := blk_frozen HG3.out 1
  have hf2 := blk_frozen HG3.out 2
  have hf3 := blk_frozen HG3.out 3
  have HNE : Aside0 (b ≠ w.heap.size + 1) := ⟨fun e => by
    obtain ⟨es, cl, h1, _⟩ := HM3.out
    rw [e, HG3.out] at h1; cases h1⟩
  clear hb hB3 hbx
  have fin : Aside0 (∀ (W : World), W = (((w3.setCell ⟨w.heap.size + 1, 0, none⟩ (.slice A0 ms.length c0)).setCell ⟨w.heap.size + 1, 1, none⟩ (.slice A1 gs.length c1)).setCell ⟨w.heap.size + 1, 2, none⟩ (.int .i64 n)).setCell ⟨w.heap.size + 1, 3, none⟩ (.map (some b)) →
      MapIs W b (spotsL ms n.toNat) ∧ w.heap.size ≤ b ∧ Below w.heap.size w W) := ⟨fun W hW => by
    subst hW
    refine ⟨HM3.out.kept ?_, HLO.out, (((HB3.out.setCell (by simp) _).setCell (by simp) _).setCell (by simp) _).setCell (by simp) _⟩
    rw [Below.heap_setCell _ _ _ _ HNE.out, Below.heap_setCell _ _ _ _ HNE.out, Below.heap_setCell _ _ _ _ HNE.out, Below.heap_setCell _ _ _ _ HNE.out]⟩
  cases q with
  | true =>
    obtain rfl : (0 : Int) = E := by simpa using hE
    go_wp2
    refine bodyPost_ret (v := .tuple #[.agg #[.slice A0 ms.length c0, .slice A1 gs.length c1, .int .i64 n, .map (some b)], .int .i64 0]) (by simp [results, Tryd.results61, go_sem, hs0, hs1, hs2, hs3]) rfl ⟨b, rfl, fin.out _ rfl⟩
  | false =>
    obtain rfl : (41 : Int) = E := by simpa using hE
    go_wp2
    refine bodyPost_ret (v := .tuple #[.agg #[.slice A0 ms.length c0, .slice A1 gs.length c1, .int .i64 n, .map (some b)], .int .i64 41]) (by simp [results, Tryd.results61, go_sem, hs0, hs1, hs2, hs3]) rfl ⟨b, rfl, fin.out _ rfl⟩
end Go.Proofs.YtikfghnkbgdbgaaDoor.Q
end
section
namespace Go.Proofs.YtikfghnkbgdbgaaDoor.Q
set_option linter.unusedSimpArgs false
set_option linter.unusedVariables false
open Go.RowKit Go.Proofs.YtikfghnkbgdbgaaDoorW.PrintWords Go.Proofs.YtikfghnkbgdbgaaDoorW.PrintLast Go.Proofs.YtikfghnkbgdbgaaDoorW.PrintMore
theorem V_clip {α : Type} {d : Kd α} {e : Nat} {W : World} {base : Nat} {ok : Nat → Prop} {A : Option Addr} {n c : Nat} {xs : List α} (h : Kd.V d e W base ok (.slice A n c) xs) (c' : Nat) (hc : n ≤ c') : Kd.V d e W base ok (.slice A n c') xs := by
  obtain ⟨A', c1, hv, hl, hf⟩ := h
  injection hv with h1 h2 h3
  subst h1 h2
  exact ⟨A, c', rfl, hc, hf⟩
theorem R_clip {α : Type} {d : Kd α} {e : Nat} {w W : World} {A : Option Addr} {n c : Nat} {xs : List α} (h : d.R e W w.heap.size (fun _ => True) (.slice A n c) xs) : n = xs.length ∧ n ≤ c ∧ Kd.V d e W w.heap.size (fun k_ => w.heap.size ≤ k_) (.slice A n n) xs := by
  have hb := Kd.R_bound h
  have hv := Kd.Q_V (base' := w.heap.size) (Kd.Q_of_R (Kd.R_mono (ok' := fun k_ => w.heap.size ≤ k_) hb (fun k hk => hk.2.1)))
  have hr := Kd.V_reads' hv
  exact ⟨hr.1, hr.2.1, V_clip hv n (Nat.le_refl _)⟩
theorem R_ne_map {α : Type} {d : Kd α} {e base : Nat} {w : World} {ok : Nat → Prop} {v : Value} {xs : List α} {b : Nat} {l : Spots} (h : d.R e w base ok v xs) (hm : MapIs w b l) : some b ≠ v.ownBlock := by
  intro hk
  obtain ⟨_, _, ho, _⟩ := h
  obtain ⟨cells, hc⟩ := own_typed ho b hk.symm
  obtain ⟨es, cl, h1, _⟩ := hm
  rw [hc] at h1; cases h1
theorem BoxAt.grown {w wr w' : World} {A0 : Option Addr} {n0 c0 : Nat} {A1 : Option Addr} {n1 c1 : Nat} {n : Int} {b g : Nat} (h : BoxAt w wr A0 n0 c0 A1 n1 c1 n b g) {row : Option Nat} (hg : wr.grownBy w' row) (hne : some g ≠ row) (hb : Below w.heap.size w w') : BoxAt w w' A0 n0 c0 A1 n1 c1 n b g :=
  ⟨(hg.block _ (Array.getElem?_eq_some_iff.1 h.box).1 hne).trans h.box, hb⟩
theorem MapIs.grown {w w' : World} {b : Nat} {l : Spots} (h : MapIs w b l) {row : Option Nat} (hg : w.grownBy w' row) (hne : some b ≠ row) : MapIs w' b l := h.kept (hg.block _ h.lt hne)
theorem filter_snoc (f : Int → Bool) (k : Nat) : (upTo ((k + 1 : Nat) : Int)).filter f = (upTo (k : Int)).filter f ++ (if f k = true then [(k : Int)] else []) := by
  have : upTo ((k + 1 : Nat) : Int) = upTo (k : Int) ++ [(k : Int)] := by simp [upTo, List.range_succ]
  rw [this, List.filter_append]
  simp [List.filter_cons]
theorem filter_len (f : Int → Bool) (k : Nat) : ((upTo (k : Int)).filter f).length ≤ k := by
  refine Nat.le_trans (List.length_filter_le _ _) ?_
  simp [upTo]
set_option maxHeartbeats 4000000 in
set_option maxRecDepth 100000 in
theorem gang_Can.calls (A0_0 : Option Addr) (c0_0 : Nat) (l0_0 : List (M)) (A0_1 : Option Addr) (c0_1 : Nat) (l0_1 : List (G)) (a0_2 : Int) (a1 : Int) (a2 : Int) (r1 : List Int) (r2 : Int) (w : World) (hr0_0 : Kd.C k66 w A0_0 l0_0.length l0_0) (hc0_0 : l0_0.length ≤ c0_0) (hr0_1 : Kd.C k63 w A0_1 l0_1.length l0_1) (hc0_1 : l0_1.length ≤ c0_1) (hG : GV w) (h : gang_Can.f l0_0 l0_1 a0_2 a1 a2 = some (r1, r2)) :
    Calls Tryd.prog 15 #[.agg #[.slice A0_0 l0_0.length c0_0, .slice A0_1 l0_1.length c0_1, .int .i64 a0_2], .int .i64 a1, .int .i64 a2] w fun e w' => ∃ v0_ : Value, e = .returned (.tuple #[v0_, .int .i64 r2]) ∧ Kd.V (Kd.int .i64) 3 w' w.heap.size (fun k_ => (w.heap.size ≤ k_)) v0_ r1 ∧ Below w.heap.size w w' := by
  have HR0 := Aside0.mk hr0_0
  have HR1 := Aside0.mk hr0_1
  have HG0 := Aside0.mk hG
  have hl0 := hr0_0.2.1
  have hl1 := hr0_1.2.1
  have hB := (Below.refl w.heap.size w).alloc (Nat.le_refl _) (.cells #[.slice A0_0 l0_0.length c0_0, .slice A0_1 l0_1.length c0_1, .int .i64 a0_2] 25)
  have HB := Aside0.mk hB
  clear hr0_0 hr0_1 hG hB
  unfold gang_Can.f at h
  cases hok : okB l0_0 l0_1 a0_2 with
  | false =>
    have HO := Aside0.mk hok
    rw [hok, if_neg (by simp)] at h
    obtain ⟨rfl, rfl⟩ : [] = r1 ∧ 40 = r2 := by simpa using h
    clear hok h
    go_enter Tryd.func15, Tryd.ntmps15
    go_wp2_with (fail)
    refine (asked_bad l0_0 l0_1 A0_0 c0_0 A0_1 c0_1 a0_2 none 0 0 _ (Kd.C_below HR0.out HB.out) hc0_0 (Kd.C_below HR1.out HB.out) hc0_1 HO.out).mono ?_
    rintro e w1 ⟨rfl, hb⟩
    have HB1 := Aside0.mk (below_then HB.out HB.out.size hb)
    clear hb
    go_wp2
    go_ret2
    exact ⟨_, rfl, Kd.V_nil _ _ _ _ _, HB1.out.alloc HB1.out.size _⟩
  | true =>
    have HO := Aside0.mk hok
    rw [hok, if_pos rfl] at h
    clear hok
    have hbd := okB_bounds HO.out
    have hn0 : 0 ≤ a0_2 := by omega
    have hn4 : a0_2 ≤ 4 := by omega
    have hm4 := hbd.1.2
    have hg2 := hbd.2.1.2
    have hg1 := hbd.2.1.1
    have hm1 := hbd.1.1
    clear hbd
    have H := Aside0.mk h
    clear h
    go_enter Tryd.func15, Tryd.ntmps15
    go_wp2_with (fail)
    refine (asked_ok l0_0 l0_1 A0_0 c0_0 A0_1 c0_1 a0_2 none 0 [] _ (Kd.C_below HR0.out HB.out) hc0_0 (Kd.C_below HR1.out HB.out) hc0_1 ⟨rfl, by simp, fun h => by simp at h⟩ (Nat.le_refl _) (gv_below HG0.out HB.out) HO.out true rfl 0 rfl).mono ?_
    rintro e w1 ⟨b, rfl, hm, hlo, hb⟩
    have HM := Aside0.mk hm
    have hbx := (hb.block w.heap.size (by simp)).trans (World.alloc_heap_new w _)
    have HX := Aside0.mk hbx
    have HB1 := Aside0.mk (below_then HB.out HB.out.size hb)
    have hs0 : w1.cell? ⟨w.heap.size, 0, none⟩ = some (.slice A0_0 l0_0.length c0_0) := (blk_cell HX.out 0).trans rfl
    have hs1 : w1.cell? ⟨w.heap.size, 1, none⟩ = some (.slice A0_1 l0_1.length c0_1) := (blk_cell HX.out 1).trans rfl
    have hs2 : w1.cell? ⟨w.heap.size, 2, none⟩ = some (.int .i64 a0_2) := (blk_cell HX.out 2).trans rfl
    have hsl := (Array.getElem?_eq_some_iff.1 HX.out).1
    clear hb hm hlo hbx
    go_wp2_with (fail)
    cases hw1 : within a1 0 ((l0_1.length : Int) - 1) with
    | false =>
      have HW1 := Aside0.mk hw1
      have h41 : some (([] : List Int), (41 : Int)) = some (r1, r2) := by rw [← H.out, if_neg (by rw [HW1.out]; simp)]
      obtain ⟨rfl, rfl⟩ : [] = r1 ∧ 41 = r2 := by simpa using h41
      clear hw1 h41 H
      refine (within_calls _ _ _ false HW1.out _).mono ?_
      rintro e w2 ⟨rfl, hb⟩
      have HB2 := Aside0.mk (below_then (HB1.out.alloc HB1.out.size _) (by simp; have := HB1.out.size; omega) hb)
      clear hb hs0 hs1 hs2 hsl
      go_wp2
      go_ret2
      exact ⟨_, rfl, Kd.V_nil _ _ _ _ _, HB2.out⟩
    | true =>
      have HW1 := Aside0.mk hw1
      clear hw1
      refine (within_calls _ _ _ true HW1.out _).mono ?_
      rintro e w2 ⟨rfl, hb⟩
      have HB2 := Aside0.mk (below_then (HB1.out.alloc HB1.out.size _) (by simp; have := HB1.out.size; omega) hb)
      have HX2 := Aside0.mk ((hb.block w.heap.size (by simp; omega)).trans ((Below.heap_alloc _ _ _ hsl).trans HX.out))
      have HY2 := Aside0.mk ((hb.block w1.heap.size (by simp)).trans (World.alloc_heap_new w1 _))
      have HM2 := Aside0.mk ((HM.out.below ((Below.refl _ w1).alloc (Nat.le_refl _) _)).below hb)
      have hz0 : w2.cell? ⟨w.heap.size, 0, none⟩ = some (.slice A0_0 l0_0.length c0_0) := (blk_cell HX2.out 0).trans rfl
      have hz1 : w2.cell? ⟨w.heap.size, 1, none⟩ = some (.slice A0_1 l0_1.length c0_1) := (blk_cell HX2.out 1).trans rfl
      have hz2 : w2.cell? ⟨w.heap.size, 2, none⟩ = some (.int .i64 a0_2) := (blk_cell HX2.out 2).trans rfl
      clear hb hs0 hs1 hs2 hsl HM HB1 HX
      go_wp2_with (fail)
      cases hw2 : within a2 0 ((l0_0.length : Int) - 1) with
      | false =>
        have HW2 := Aside0.mk hw2
        have h41 : some (([] : List Int), (41 : Int)) = some (r1, r2) := by rw [← H.out, if_neg (by rw [HW2.out]; simp)]
        obtain ⟨rfl, rfl⟩ : [] = r1 ∧ 41 = r2 := by simpa using h41
        clear hw2 h41 H
        refine (within_calls _ _ _ false HW2.out _).mono ?_
        rintro e w3 ⟨rfl, hb⟩
        have HB3 := Aside0.mk (below_then HB2.out HB2.out.size hb)
        clear hb hz0 hz1 hz2
        go_wp2
        go_ret2
        exact ⟨_, rfl, Kd.V_nil _ _ _ _ _, HB3.out⟩
      | true =>
        have HW2 := Aside0.mk hw2
        have hr : some ((upTo a0_2).filter (fun i => canB l0_0 l0_1 a0_2 ⟨i, a1, a2⟩), (0 : Int)) = some (r1, r2) := by rw [← H.out, if_pos ⟨HW1.out, HW2.out⟩]
        obtain ⟨rfl, rfl⟩ : (upTo a0_2).filter (fun i => canB l0_0 l0_1 a0_2 ⟨i, a1, a2⟩) = r1 ∧ 0 = r2 := by simpa using hr
        clear hw2 hr H
        refine (within_calls _ _ _ true HW2.out _).mono ?_
        rintro e w3 ⟨rfl, hb⟩
        have HB3 := Aside0.mk (below_then HB2.out HB2.out.size hb)
        have HX3 := Aside0.mk ((hb.block w.heap.size (Array.getElem?_eq_some_iff.1 HX2.out).1).trans HX2.out)
        have HY3 := Aside0.mk (BoxAt.mk ((hb.block w1.heap.size (Array.getElem?_eq_some_iff.1 HY2.out).1).trans HY2.out) HB3.out)
        have HM3 := Aside0.mk (HM2.out.below hb)
        clear hz0 hz1 hz2
        have hz2 : w3.cell? ⟨w.heap.size, 2, none⟩ = some (.int .i64 a0_2) := (blk_cell HX3.out 2).trans rfl
        clear hb HM2 HY2 HX2 HB2
        obtain ⟨N, rfl⟩ := Int.eq_ofNat_of_zero_le hn0
        go_wp2
        clear hz2 HX3
        go_loopw [10, 38] (fun v10 v38 wr => ∃ k : Nat, k ≤ N ∧ v38 = .int .i64 k ∧ Aside0 (Kd.R (Kd.int .i64) 3 wr w.heap.size (fun _ => True) v10 ((upTo k).filter (fun i => canB l0_0 l0_1 N ⟨i, a1, a2⟩))) ∧
          Aside0 (MapIs wr b (spotsL l0_0 ((N : Int)).toNat)) ∧ Aside0 (BoxAt w wr A0_0 l0_0.length c0_0 A0_1 l0_1.length c0_1 N b w1.heap.size)) (fun _ v38 _ => N - (intOf v38).toNat)
        case atStart => exact ⟨0, Nat.zero_le _, rfl, ⟨Kd.R_nil _ _ _ _ _⟩, HM3, HY3⟩
        case round =>
          obtain ⟨k, hk, rfl, HR, HMr, HY⟩ := hrel
          by_cases hlt : k < N
          · have hy0 : wr.cell? ⟨w1.heap.size, 0, none⟩ = some (.slice A0_0 l0_0.length c0_0) := (blk_cell HY.out.box 0).trans rfl
            have hy1 : wr.cell? ⟨w1.heap.size, 1, none⟩ = some (.slice A0_1 l0_1.length c0_1) := (blk_cell HY.out.box 1).trans rfl
            have hy2 : wr.cell? ⟨w1.heap.size, 2, none⟩ = some (.int .i64 N) := (blk_cell HY.out.box 2).trans rfl
            have hy3 : wr.cell? ⟨w1.heap.size, 3, none⟩ = some (.map (some b)) := (blk_cell HY.out.box 3).trans rfl
            go_wp2_with (fail)
            refine (can_calls l0_0 l0_1 A0_0 c0_0 A0_1 c0_1 N b _ _ _ _ ?s1 hn0 ?s2 ?s3 hg2).mono ?_
            case s1 => exact Kd.C_below HR1.out HY.out.bel
            case s2 => exact HMr.out
            case s3 => exact gv_below HG0.out HY.out.bel
            rintro e w4 ⟨he, hb⟩
            have HY4 := Aside0.mk (HY.out.step hb)
            have HM4 := Aside0.mk (HMr.out.below hb)
            have HR4 := Aside0.mk (Kd.R_below HR.out hb)
            clear hb hy0 hy1 hy2 hy3
            have HF := Aside0.mk (filter_snoc (fun i => canB l0_0 l0_1 N ⟨i, a1, a2⟩) k)
            have hlen := filter_len (fun i => canB l0_0 l0_1 N ⟨i, a1, a2⟩) k
            cases hc : canB l0_0 l0_1 N ⟨(k : Int), a1, a2⟩ with
            | false =>
              rw [hc] at he
              subst he
              have HC := Aside0.mk hc
              clear hc hlen
              go_wp2
              go_roundw
              case rel => exact ⟨k + 1, by omega, by go_num, ⟨by rw [HF.out, if_neg (by rw [HC.out]; simp), List.append_nil]; exact HR4.out⟩, HM4, HY4⟩
              case measure => simp [intOf]; omega
            | true =>
              rw [hc] at he
              subst he
              have HC := Aside0.mk hc
              clear hc
              go_wp2_with (first | (at_builtin; refine Kd.R_append (Kd.int .i64) (w0 := w) w.heap.size rfl (.tmp 47) (.tmp 49) 28 3 (.int .i64 0) 8 rfl Tryd.underlying28 info3 rfl (by decide) (by omega) u10 ((upTo k).filter (fun i => canB l0_0 l0_1 N ⟨i, a1, a2⟩)) (k : Int) [.int .i64 k] (fun _ => True) (fun _ => False) rfl rfl ?aP (fun _ hk => hk.elim) ?aF ?aO ?aB ?aS ?aL ?_))
              case aP => exact rfl
              case aF => exact fun _ _ => trivial
              case aO => exact HR4.out
              case aB => exact HY4.out.bel
              case aS => exact HY4.out.bel.size
              case aL => omega
              intro v1 w5 ho hb hg hat
              have HM5 := Aside0.mk (HM4.out.grown hg (R_ne_map HR4.out HM4.out))
              have HY5 := Aside0.mk (HY4.out.grown hg (Kd.R_ne HR4.out HY4.out.box (by decide)) hb)
              have HR5 := Aside0.mk ho
              clear hlen hb hg hat ho
              go_wp2
              go_roundw
              case rel => exact ⟨k + 1, by omega, by go_num, ⟨by rw [HF.out, if_pos HC.out]; exact HR5.out⟩, HM5, HY5⟩
              case measure => simp [intOf]; omega
          · obtain rfl : k = N := by omega
            obtain ⟨A, c, hv⟩ := Kd.R_slice HR.out
            subst hv
            have hcl := R_clip HR.out
            have hcl1 := hcl.2.1
            have HCL := Aside0.mk hcl
            clear hcl
            go_wp2
            go_ret2
            exact ⟨_, rfl, HCL.out.2.2, HY.out.bel⟩
end Go.Proofs.YtikfghnkbgdbgaaDoor.Q
end
section
namespace Go.Proofs.YtikfghnkbgdbgaaDoor.Q
set_option linter.unusedSimpArgs false
set_option linter.unusedVariables false
open Go.RowKit Go.Proofs.YtikfghnkbgdbgaaDoorW.PrintWords Go.Proofs.YtikfghnkbgdbgaaDoorW.PrintLast Go.Proofs.YtikfghnkbgdbgaaDoorW.PrintMore
set_option maxHeartbeats 4000000 in
set_option maxRecDepth 100000 in
theorem gang_May.calls (A0_0 : Option Addr) (c0_0 : Nat) (l0_0 : List (M)) (A0_1 : Option Addr) (c0_1 : Nat) (l0_1 : List (G)) (a0_2 : Int) (A1 : Option Addr) (c1 : Nat) (l1 : List (Wk)) (r1 : Bool) (r2 : Int) (w : World) (hr0_0 : Kd.C k66 w A0_0 l0_0.length l0_0) (hc0_0 : l0_0.length ≤ c0_0) (hr0_1 : Kd.C k63 w A0_1 l0_1.length l0_1) (hc0_1 : l0_1.length ≤ c0_1) (hr1 : Kd.C k59 w A1 l1.length l1) (hc1 : l1.length ≤ c1) (hG : GV w) (h : gang_May.f l0_0 l0_1 a0_2 l1 = some (r1, r2)) :
    Calls Tryd.prog 20 #[.agg #[.slice A0_0 l0_0.length c0_0, .slice A0_1 l0_1.length c0_1, .int .i64 a0_2], .slice A1 l1.length c1] w fun e w' => e = .returned (.tuple #[.bool r1, .int .i64 r2]) ∧ Below w.heap.size w w' := by
  have HR0 := Aside0.mk hr0_0
  have HR1 := Aside0.mk hr0_1
  have HR2 := Aside0.mk hr1
  have HG0 := Aside0.mk hG
  have hB := (Below.refl w.heap.size w).alloc (Nat.le_refl _) (.cells #[.slice A0_0 l0_0.length c0_0, .slice A0_1 l0_1.length c0_1, .int .i64 a0_2] 25)
  have HB := Aside0.mk hB
  clear hr0_0 hr0_1 hr1 hG hB
  unfold gang_May.f at h
  cases hok : okB l0_0 l0_1 a0_2 with
  | false =>
    have HO := Aside0.mk hok
    rw [hok, if_neg (by simp)] at h
    obtain ⟨rfl, rfl⟩ : false = r1 ∧ 40 = r2 := by simpa using h
    clear hok h
    go_enter Tryd.func20, Tryd.ntmps20
    go_wp2_with (fail)
    refine (asked_bad l0_0 l0_1 A0_0 c0_0 A0_1 c0_1 a0_2 A1 c1 _ _ (Kd.C_below HR0.out HB.out) hc0_0 (Kd.C_below HR1.out HB.out) hc0_1 HO.out).mono ?_
    rintro e w1 ⟨rfl, hb⟩
    have HB1 := Aside0.mk (below_then HB.out HB.out.size hb)
    clear hb
    go_wp2
    go_ret2
    exact ⟨rfl, HB1.out.alloc HB1.out.size _⟩
  | true =>
    have HO := Aside0.mk hok
    rw [hok, if_pos rfl] at h
    clear hok
    cases hq : planB l0_0 l0_1 a0_2 l1 with
    | true =>
      have HQ := Aside0.mk hq
      rw [hq] at h
      obtain ⟨rfl, rfl⟩ : true = r1 ∧ 0 = r2 := by simpa using h
      clear hq h
      go_enter Tryd.func20, Tryd.ntmps20
      go_wp2_with (fail)
      refine (asked_ok l0_0 l0_1 A0_0 c0_0 A0_1 c0_1 a0_2 A1 c1 l1 _ (Kd.C_below HR0.out HB.out) hc0_0 (Kd.C_below HR1.out HB.out) hc0_1 (Kd.C_below HR2.out HB.out) hc1 (gv_below HG0.out HB.out) HO.out true HQ.out 0 rfl).mono ?_
      rintro e w1 ⟨b, rfl, _, _, hb⟩
      have HB1 := Aside0.mk (below_then HB.out HB.out.size hb)
      clear hb
      go_wp2
      go_ret2
      exact ⟨rfl, HB1.out.alloc HB1.out.size _⟩
    | false =>
      have HQ := Aside0.mk hq
      rw [hq] at h
      obtain ⟨rfl, rfl⟩ : false = r1 ∧ 0 = r2 := by simpa using h
      clear hq h
      go_enter Tryd.func20, Tryd.ntmps20
      go_wp2_with (fail)
      refine (asked_ok l0_0 l0_1 A0_0 c0_0 A0_1 c0_1 a0_2 A1 c1 l1 _ (Kd.C_below HR0.out HB.out) hc0_0 (Kd.C_below HR1.out HB.out) hc0_1 (Kd.C_below HR2.out HB.out) hc1 (gv_below HG0.out HB.out) HO.out false HQ.out 41 rfl).mono ?_
      rintro e w1 ⟨b, rfl, _, _, hb⟩
      have HB1 := Aside0.mk (below_then HB.out HB.out.size hb)
      clear hb
      go_wp2
      go_ret2
      exact ⟨rfl, HB1.out.alloc HB1.out.size _⟩
end Go.Proofs.YtikfghnkbgdbgaaDoor.Q
end
section
namespace Go.Proofs.YtikfghnkbgdbgaaDoor.Q
set_option linter.unusedSimpArgs false
set_option linter.unusedVariables false
structure Fair (ms : List M) (gs : List G) (n : Int) (p : List Wk) : Prop where
  can : ∀ j, j < p.length → canB ms gs n (W3 p j) = true
  len : p.length ≤ 8
theorem planFrom_all {ms : List M} {gs : List G} {n : Int} : ∀ (r had : List Wk), planFrom ms gs n had r = true →
    (∀ j, j < r.length → canB ms gs n (W3 r j) = true) ∧ (∀ j k, j < k → k < r.length → behindB (W3 r j) (W3 r k) = true) ∧ (∀ y ∈ had, ∀ k, k < r.length → behindB y (W3 r k) = true)
  | [], had, _ => ⟨fun j h => absurd h (by simp), fun j k _ h => absurd h (by simp), fun y _ k h => absurd h (by simp)⟩
  | x :: r, had, h => by
    simp only [planFrom, Bool.and_eq_true] at h
    obtain ⟨⟨h1, h2⟩, h3⟩ := h
    obtain ⟨i1, i2, i3⟩ := planFrom_all r (had ++ [x]) h3
    have e0 : W3 (x :: r) 0 = x := rfl
    have es : ∀ j, W3 (x :: r) (j + 1) = W3 r j := fun j => by simp [W3, rd_T59]
    refine ⟨fun j hj => ?_, fun j k hjk hk => ?_, fun y hy k hk => ?_⟩
    · cases j with
      | zero => exact h1
      | succ j => rw [es]; exact i1 j (by simpa using hj)
    · cases k with
      | zero => omega
      | succ k =>
        rw [es]
        cases j with
        | zero => exact i3 x (by simp) k (by simpa using hk)
        | succ j => rw [es]; exact i2 j k (by omega) (by simpa using hk)
    · cases k with
      | zero => exact List.all_eq_true.1 h2 y hy
      | succ k => rw [es]; exact i3 y (by simp [hy]) k (by simpa using hk)
theorem behind_lt {ms : List M} {gs : List G} {n : Int} {x y : Wk} (hx : canB ms gs n x = true) (hy : canB ms gs n y = true) (hg : gs.length ≤ 2) (h : behindB y x = true) : 2 * y.f0 + y.f1 < 2 * x.f0 + x.f1 := by
  have bx := canB_bounds hx
  have by_ := canB_bounds hy
  simp only [behindB, Bool.not_eq_true', Bool.or_eq_false_iff, Bool.and_eq_false_iff, decide_eq_false_iff_not] at h
  obtain ⟨h1, h2⟩ := h
  rcases h2 with h2 | h2
  · omega
  · omega
theorem plan_fair {ms : List M} {gs : List G} {n : Int} {p : List Wk} (h : planB ms gs n p = true) (hg : gs.length ≤ 2) (hn : n ≤ 4) : Fair ms gs n p := by
  obtain ⟨h1, h2, _⟩ := planFrom_all p [] h
  have key : ∀ k : Nat, k < p.length → (k : Int) ≤ 2 * (W3 p k).f0 + (W3 p k).f1 := by
    intro k
    induction k with
    | zero => intro hk; have := canB_bounds (h1 0 hk); omega
    | succ k ih =>
      intro hk
      have := ih (by omega)
      have := behind_lt (h1 (k + 1) hk) (h1 k (by omega)) hg (h2 k (k + 1) (by omega) hk)
      omega
  refine ⟨h1, ?_⟩
  cases hl : p.length with
  | zero => omega
  | succ m =>
    have a := key m (by omega)
    have b := canB_bounds (h1 m (by omega))
    omega
def oneAt (gs : List G) (hi : Bool) (m : Int) (y : Wk) : Int := if y.f2 = m then (if hi = true then (rd_T63 gs y.f1).f2.f1 else (rd_T63 gs y.f1).f2.f0) else 0
theorem doneAt_cons (gs : List G) (hi : Bool) (m : Int) (y : Wk) (r : List Wk) : doneAt gs hi m (y :: r) = oneAt gs hi m y + doneAt gs hi m r := rfl
theorem doneAt_snoc (gs : List G) (hi : Bool) (m : Int) (y : Wk) : ∀ r : List Wk, doneAt gs hi m (r ++ [y]) = doneAt gs hi m r + oneAt gs hi m y
  | [] => by simp [doneAt_cons, doneAt]
  | z :: r => by rw [List.cons_append, doneAt_cons, doneAt_cons, doneAt_snoc gs hi m y r]; omega
theorem doneAt_take (gs : List G) (hi : Bool) (m : Int) (p : List Wk) (k : Nat) (hk : k < p.length) : doneAt gs hi m (p.take (k + 1)) = doneAt gs hi m (p.take k) + oneAt gs hi m (W3 p k) := by
  rw [take_W3 p k hk, doneAt_snoc]
theorem gang_works {ms : List M} {gs : List G} {n : Int} (h : okB ms gs n = true) (i : Int) (h0 : 0 ≤ i) (h1 : i < gs.length) : 1 ≤ (rd_T63 gs i).f2.f0 ∧ (rd_T63 gs i).f2.f0 ≤ (rd_T63 gs i).f2.f1 ∧ (rd_T63 gs i).f2.f1 ≤ 3 := by
  simp only [okB, Bool.and_eq_true] at h
  have hg := h.2
  obtain ⟨j, rfl⟩ := Int.eq_ofNat_of_zero_le h0
  have hj : j < gs.length := by omega
  have hx : rd_T63 gs j = gs[j] := by simp [rd_T63, List.getD_eq_getElem?_getD, List.getElem?_eq_getElem hj]
  have := List.all_eq_true.1 hg gs[j] (List.getElem_mem hj)
  rw [hx]
  simp only [spanB, Bool.and_eq_true, decide_eq_true_eq] at this
  omega
theorem oneAt_bd {ms : List M} {gs : List G} {n : Int} (h : okB ms gs n = true) (hi : Bool) (m : Int) {y : Wk} (hy : canB ms gs n y = true) : 0 ≤ oneAt gs hi m y ∧ oneAt gs hi m y ≤ 3 := by
  have b := canB_bounds hy
  have w := gang_works h y.f1 b.2.1.1 b.2.1.2
  unfold oneAt
  split
  · split <;> omega
  · omega
theorem doneAt_bd {ms : List M} {gs : List G} {n : Int} (h : okB ms gs n = true) {p : List Wk} (hf : Fair ms gs n p) (hi : Bool) (m : Int) (k : Nat) (hk : k ≤ p.length) : 0 ≤ doneAt gs hi m (p.take k) ∧ doneAt gs hi m (p.take k) ≤ 3 * k := by
  induction k with
  | zero => simp [doneAt]
  | succ k ih =>
    have i := ih (by omega)
    have o := oneAt_bd h hi m (hf.can k (by omega))
    rw [doneAt_take gs hi m p k (by omega)]
    omega
end Go.Proofs.YtikfghnkbgdbgaaDoor.Q
end
section
namespace Go.Proofs.YtikfghnkbgdbgaaDoorW.PrintLast
section
variable {P : Program} {ops : Array Oper} {Q : Exit → Act → World → Prop}
theorem goesT_ {oi : Oper} {N : Option Tmp} {a : Act} {w : World} {K : Act → World → Prop} {f : FuncId} {fn : Func} {c : Operand} {ags : Array Operand} {ts : Array TypeId} (hf : P.funcs[f]? = some fn) (hname : (fn.name == "runtime.NumGoroutine") = false) (hb : fn.body.isSome = true) (args : Array Value)
    (hw : Region.wanted oi (yielded ops a.tmps) = true) (hN : oi.dst = N) (hop : oi.op = .call { callee := .value c, args := ags, argTypes := ts }) (hc : a.eval c = .func (.func f) #[] #[]) (hargs : ags.map a.eval = args)
    (h : Calls P f args w fun e w' => ∃ v, e = .returned v ∧ K (a.put N v) w') : if Region.wanted oi (yielded ops a.tmps) = true then Oper.wp P oi a w K Q else K (a.put N undef) w := by
  refine call_ f args hw hN ?_ h
  have he := enters_ hf hname hb args w
  unfold execOp
  simp [hop, resolve, Deferred.ofValue, invoke, hc, hargs, he]
end
end Go.Proofs.YtikfghnkbgdbgaaDoorW.PrintLast
end
section
namespace Go.Proofs.YtikfghnkbgdbgaaDoor.Q
set_option linter.unusedSimpArgs false
set_option linter.unusedVariables false
open Go.RowKit Go.Proofs.YtikfghnkbgdbgaaDoorW.PrintWords Go.Proofs.YtikfghnkbgdbgaaDoorW.PrintLast Go.Proofs.YtikfghnkbgdbgaaDoorW.PrintMore
def DoneIs (w : World) (g : Nat) (d0 d1 d2 d3 : Int) : Prop := w.heap[g]? = some (.cells #[.int .i64 d0, .int .i64 d1, .int .i64 d2, .int .i64 d3] 97 (0, 0))
def pick4 (d0 d1 d2 d3 : Int) (m : Int) : Int := if m = 0 then d0 else if m = 1 then d1 else if m = 2 then d2 else d3
theorem DoneIs.cell {w : World} {g : Nat} {d0 d1 d2 d3 : Int} (h : DoneIs w g d0 d1 d2 d3) (m : Int) (h0 : 0 ≤ m) (h4 : m < 4) : w.cell? ⟨g, m.toNat, none⟩ = some (.int .i64 (pick4 d0 d1 d2 d3 m)) ∧ w.frozen? ⟨g, m.toNat, none⟩ = false := by
  refine ⟨?_, blk_frozen h _⟩
  rw [blk_cell h]
  obtain rfl | rfl | rfl | rfl : m = 0 ∨ m = 1 ∨ m = 2 ∨ m = 3 := by omega
  all_goals rfl
theorem DoneIs.set {w : World} {g : Nat} {d0 d1 d2 d3 : Int} (h : DoneIs w g d0 d1 d2 d3) (m v : Int) (h0 : 0 ≤ m) (h4 : m < 4) :
    DoneIs (w.setCell ⟨g, m.toNat, none⟩ (.int .i64 v)) g (if m = 0 then v else d0) (if m = 1 then v else d1) (if m = 2 then v else d2) (if m = 3 then v else d3) := by
  unfold DoneIs
  rw [blk_set h]
  obtain rfl | rfl | rfl | rfl : m = 0 ∨ m = 1 ∨ m = 2 ∨ m = 3 := by omega
  all_goals rfl
set_option maxHeartbeats 4000000 in
set_option maxRecDepth 100000 in
theorem undone_calls (w : World) : Calls Tryd.prog 94 #[] w fun e w' => e = .returned (.agg #[.int .i64 0, .int .i64 0, .int .i64 0, .int .i64 0]) ∧ Below w.heap.size w w' := by
  go_enter Tryd.func94, Tryd.ntmps94
  go_wp2
  refine bodyPost_ret (v := .agg #[.int .i64 0, .int .i64 0, .int .i64 0, .int .i64 0]) (by simp [results, Tryd.results94, go_sem]) rfl ⟨rfl, ?_⟩
  exact ((Below.refl _ w).alloc (Nat.le_refl _) _).alloc (by simp) _
theorem DoneIs.next {ms : List M} {gs : List G} {n : Int} {p : List Wk} (hok : okB ms gs n = true) (hf : Fair ms gs n p) (hi : Bool) {k : Nat} (hk : k < p.length) {w : World} {g : Nat}
    (h : DoneIs w g (doneAt gs hi 0 (p.take k)) (doneAt gs hi 1 (p.take k)) (doneAt gs hi 2 (p.take k)) (doneAt gs hi 3 (p.take k))) (s : Int) (hs : s = if hi = true then (rd_T63 gs (rd_T59 p k).f1).f2.f1 else (rd_T63 gs (rd_T59 p k).f1).f2.f0) (h4 : (rd_T59 p k).f2 < 4) :
    DoneIs (w.setCell ⟨g, (rd_T59 p k).f2.toNat, none⟩ (.int .i64 (wrap64 (pick4 (doneAt gs hi 0 (p.take k)) (doneAt gs hi 1 (p.take k)) (doneAt gs hi 2 (p.take k)) (doneAt gs hi 3 (p.take k)) (rd_T59 p k).f2 + s)))) g
      (doneAt gs hi 0 (p.take (k + 1))) (doneAt gs hi 1 (p.take (k + 1))) (doneAt gs hi 2 (p.take (k + 1))) (doneAt gs hi 3 (p.take (k + 1))) := by
  have h0 : 0 ≤ (rd_T59 p k).f2 := (canB_bounds (hf.can k hk)).2.2.1
  have hs2 : oneAt gs hi (rd_T59 p k).f2 (W3 p k) = s := by rw [hs]; simp [oneAt, W3]
  have hl := hf.len
  have hp : pick4 (doneAt gs hi 0 (p.take k)) (doneAt gs hi 1 (p.take k)) (doneAt gs hi 2 (p.take k)) (doneAt gs hi 3 (p.take k)) (rd_T59 p k).f2 = doneAt gs hi (rd_T59 p k).f2 (p.take k) := by
    unfold pick4
    split
    · rename_i q; rw [q]
    · split
      · rename_i q; rw [q]
      · split
        · rename_i q; rw [q]
        · rw [show (rd_T59 p k).f2 = 3 by omega]
  have hb := doneAt_bd hok hf hi (rd_T59 p k).f2 (k + 1) hk
  rw [doneAt_take gs hi _ p k hk, hs2] at hb
  rw [hp, show wrap64 (doneAt gs hi (rd_T59 p k).f2 (p.take k) + s) = doneAt gs hi (rd_T59 p k).f2 (p.take k) + s by unfold wrap64; omega]
  have := h.set (rd_T59 p k).f2 (doneAt gs hi (rd_T59 p k).f2 (p.take k) + s) h0 h4
  have key : ∀ m : Int, (if (rd_T59 p k).f2 = m then doneAt gs hi (rd_T59 p k).f2 (p.take k) + s else doneAt gs hi m (p.take k)) = doneAt gs hi m (p.take (k + 1)) := by
    intro m
    rw [doneAt_take gs hi m p k hk, ← hs2]
    split
    · rename_i q; rw [q]
    · rename_i q; simp [oneAt, W3, q]
  rw [key, key, key, key] at this
  exact this
def X_works : Nat := 0
def X_works.T5 : Bool × List (List Nat × List Nat) := (true, [([], []), ([0], [0]), ([1], [1]), ([2], [2]), ([], []), ([4], [4]), ([5], [5]), ([], []), ([7], [7]), ([8], [8]), ([], []), ([10], [10]), ([9, 11], [9, 11]), ([12], [12]), ([6, 13], [6, 13]), ([3, 14], [3, 14]), ([1, 0, 1, 2, 3, 4, 5, 6, 7, 8, 9, 10, 11, 12, 13, 14, 15], [1]), ([16, 15, 14, 0, 1, 2, 3, 4, 5, 6, 7, 8, 9, 10, 11, 12, 13, 14, 15], [15, 16])])
def X_works.B5 : List Nat := [0, 1, 3, 7, 0, 16, 48, 0, 128, 384, 0, 1024, 3968, 8064, 16368, 32767, 65535, 131071]
theorem X_works.tab5 : rtab .any (opsOf Tryd.f75 5) = X_works.T5 := by kernel_rfl
theorem X_works.bits5 : waitsOk X_works.T5.2 X_works.B5 = true := by kernel_rfl
set_option maxHeartbeats 4000000 in
set_option maxRecDepth 100000 in
theorem least_calls (x0 x1 x2 x3 : Int) (w : World) : Calls Tryd.prog 137 #[.agg #[.int .i64 x0, .int .i64 x1, .int .i64 x2, .int .i64 x3]] w fun e w' => e = .returned (.int .i64 x2) ∧ Below w.heap.size w w' := by
  go_enter Tryd.func137, Tryd.ntmps137
  go_wp2
  refine bodyPost_ret (v := .int .i64 x2) (by simp [results, Tryd.results137, go_sem]) rfl ⟨rfl, ?_⟩
  exact ((Below.refl _ w).alloc (Nat.le_refl _) _)
set_option maxHeartbeats 4000000 in
set_option maxRecDepth 100000 in
theorem most_calls (x0 x1 x2 x3 : Int) (w : World) : Calls Tryd.prog 139 #[.agg #[.int .i64 x0, .int .i64 x1, .int .i64 x2, .int .i64 x3]] w fun e w' => e = .returned (.int .i64 x3) ∧ Below w.heap.size w w' := by
  go_enter Tryd.func139, Tryd.ntmps139
  go_wp2
  refine bodyPost_ret (v := .int .i64 x3) (by simp [results, Tryd.results139, go_sem]) rfl ⟨rfl, ?_⟩
  exact ((Below.refl _ w).alloc (Nat.le_refl _) _)
set_option maxHeartbeats 4000000 in
set_option maxRecDepth 100000 in
theorem works_calls (ms : List M) (gs : List G) (A0 : Option Addr) (c0 : Nat) (A1 : Option Addr) (c1 : Nat) (n : Int) (b : Nat) (A2 : Option Addr) (c2 : Nat) (p : List Wk) (w : World) (hr1 : Kd.C k63 w A1 gs.length gs) (hr2 : Kd.C k59 w A2 p.length p) (hG : GV w) (hok : okB ms gs n = true) (hf : Fair ms gs n p) (e : Int) (hi : Bool) (he : e = if hi = true then 1 else 0) :
    Calls Tryd.prog 75 #[.agg #[.slice A0 ms.length c0, .slice A1 gs.length c1, .int .i64 n, .map (some b)], .slice A2 p.length c2, .int .i64 e] w fun e w' =>
      e = .returned (.agg #[.int .i64 (doneAt gs hi 0 p), .int .i64 (doneAt gs hi 1 p), .int .i64 (doneAt gs hi 2 p), .int .i64 (doneAt gs hi 3 p)]) ∧ Below w.heap.size w w' := by
  have HR1 := Aside0.mk hr1
  have HR2 := Aside0.mk hr2
  have HG := Aside0.mk hG
  have HO := Aside0.mk hok
  have HF := Aside0.mk hf
  have hpl := hf.len
  have hbd := okB_bounds hok
  have hm4 := hbd.1.2
  clear hr1 hr2 hG hok hf hbd
  have hh : (e = 1 ∧ hi = true) ∨ (e = 0 ∧ hi = false) := by cases hi <;> simp_all
  clear he
  rcases hh with ⟨rfl, hh⟩ | ⟨rfl, hh⟩
  all_goals
    have HH := Aside0.mk hh
    clear hh
    go_enter Tryd.func75, Tryd.ntmps75
    go_wp2_with (fail)
    have hB := ((Below.refl w.heap.size w).alloc (Nat.le_refl _) (.cells #[.slice A0 ms.length c0, .slice A1 gs.length c1, .int .i64 n, .map (some b)] 86)).alloc (by simp) (.cells #[.int .i64 0, .int .i64 0, .int .i64 0, .int .i64 0] 97)
    refine (undone_calls _).mono ?_
    rintro e1 w1 ⟨rfl, hb⟩
    have HB1 := Aside0.mk (below_then hB (by simp; omega) hb)
    have HX1 := Aside0.mk ((hb.block w.heap.size (by simp; omega)).trans ((Below.heap_alloc _ _ _ (by simp)).trans (World.alloc_heap_new w _)))
    have HR := Aside0.mk ((hb.block (w.heap.size + 1) (by simp)).trans (show _ = some (Obj.cells #[.int .i64 0, .int .i64 0, .int .i64 0, .int .i64 0] 97 (0, 0)) by have := World.alloc_heap_new (w.alloc (.cells #[.slice A0 ms.length c0, .slice A1 gs.length c1, .int .i64 n, .map (some b)] 86)) (.cells #[.int .i64 0, .int .i64 0, .int .i64 0, .int .i64 0] 97); rwa [World.size_alloc] at this))
    have HRl := Aside0.mk (Nat.lt_of_lt_of_le (show w.heap.size + 1 < w.heap.size + 1 + 1 by omega) (show w.heap.size + 1 + 1 ≤ w1.heap.size by have := hb.size; simpa using this))
    clear hb hB
    go_wp2
    go_loopw [13] (fun v13 wr => ∃ k : Nat, k ≤ p.length ∧ v13 = .int .i64 k ∧ Aside0 (DoneIs wr w1.heap.size (doneAt gs hi 0 (p.take k)) (doneAt gs hi 1 (p.take k)) (doneAt gs hi 2 (p.take k)) (doneAt gs hi 3 (p.take k))) ∧
      Aside0 (wr.heap[w.heap.size + 1]? = some (Obj.cells #[.int .i64 0, .int .i64 0, .int .i64 0, .int .i64 0] 97 (0, 0))) ∧ Aside0 (BoxAt w wr A0 ms.length c0 A1 gs.length c1 n b w.heap.size)) (fun v13 _ => p.length - (intOf v13).toNat)
    case atStart => exact ⟨0, Nat.zero_le _, rfl, ⟨World.alloc_heap_new w1 _⟩, ⟨blk_alloc HR.out _⟩, ⟨⟨blk_alloc HX1.out _, HB1.out.alloc HB1.out.size _⟩⟩⟩
    case round =>
      obtain ⟨k, hk, rfl, HD, HR', HX⟩ := hrel
      by_cases hlt : k < p.length
      · obtain ⟨ad, hA2, hx0, hx1, hx2⟩ := at_T59 (Kd.C_below HR2.out HX.out.bel) (k : Int) (by omega) (by omega)
        have HA2 := Aside0.mk hA2
        rw [Int.toNat_natCast] at hx0 hx1 hx2
        subst hA2
        clear HA2
        have hxb := canB_bounds (HF.out.can k hlt)
        have hg0 : 0 ≤ (rd_T59 p k).f1 := hxb.2.1.1
        have hg1 : (rd_T59 p k).f1 < gs.length := hxb.2.1.2
        have hm0 : 0 ≤ (rd_T59 p k).f2 := hxb.2.2.1
        have hm1 : (rd_T59 p k).f2 < 4 := Int.lt_of_lt_of_le hxb.2.2.2 (by omega)
        clear hxb
        go_wp2
        clear hx0 hx1 hx2
        obtain ⟨ag, hA1, hy0, hy1, hy2, hy3⟩ := at_T63 (Kd.C_below HR1.out HX.out.bel) (rd_T59 p k).f1 hg0 hg1
        subst hA1
        have hd := HD.out.cell (rd_T59 p k).f2 hm0 hm1
        have hd0 := hd.1
        have hd1 := hd.2
        have hgl : w1.heap.size < wr.heap.size := (Array.getElem?_eq_some_iff.1 HD.out).1
        have hgl2 : w.heap.size < wr.heap.size := (Array.getElem?_eq_some_iff.1 HX.out.box).1
        have hb0 : wr.cell? ⟨w.heap.size, 0, none⟩ = some (.slice A0 ms.length c0) := (blk_cell HX.out.box 0).trans rfl
        have hb1 : wr.cell? ⟨w.heap.size, 1, none⟩ = some (.slice (some ag) gs.length c1) := (blk_cell HX.out.box 1).trans rfl
        have hgv := gv_below HG.out HX.out.bel
        have hv0 := hgv.2.2.1
        have hv1 := hgv.2.2.2
        have hvl : 1 < wr.heap.size := World.block_lt_of_cell? wr _ hv0
        clear hd hgv
        have hC : (World.heap (wr.alloc (.cells #[.int .i64 (rd_T59 p k).f0, .int .i64 (rd_T59 p k).f1, .int .i64 (rd_T59 p k).f2] 59)))[wr.heap.size]? = some (.cells #[.int .i64 (rd_T59 p k).f0, .int .i64 (rd_T59 p k).f1, .int .i64 (rd_T59 p k).f2] 59 (0, 0)) := World.alloc_heap_new _ _
        have bl := ((Below.refl wr.heap.size wr).alloc (Nat.le_refl _) (.cells #[.int .i64 (rd_T59 p k).f0, .int .i64 (rd_T59 p k).f1, .int .i64 (rd_T59 p k).f2] 59)).drew
        have HC := Aside0.mk (show (wr.alloc (.cells #[.int .i64 (rd_T59 p k).f0, .int .i64 (rd_T59 p k).f1, .int .i64 (rd_T59 p k).f2] 59)).drew.heap[wr.heap.size]? = some (.cells #[.int .i64 (rd_T59 p k).f0, .int .i64 (rd_T59 p k).f1, .int .i64 (rd_T59 p k).f2] 59 (0, 0)) from hC)
        have HDD := Aside0.mk (show DoneIs _ _ _ _ _ _ from (bl.block _ hgl).trans HD.out)
        have HXX := Aside0.mk (HX.out.step bl)
        have HRR := Aside0.mk ((bl.block _ (Array.getElem?_eq_some_iff.1 HR'.out).1).trans HR'.out)
        have HGG := Aside0.mk (gv_below HG.out HXX.out.bel)
        have F5 := Aside0.mk ((bl.cell (World.block_lt_of_cell? _ _ hy0)).trans hy0)
        have F6 := Aside0.mk ((bl.cell (World.block_lt_of_cell? _ _ hy1)).trans hy1)
        have F7 := Aside0.mk ((bl.cell (World.block_lt_of_cell? _ _ hy2)).trans hy2)
        have F8 := Aside0.mk ((bl.cell (World.block_lt_of_cell? _ _ hy3)).trans hy3)
        clear bl hC hy0 hy1 hy2 hy3
        refine start_ (n := 18) (S := fun w' => w'.cell? ⟨wr.heap.size, 2, none⟩ = some (.int .i64 (rd_T59 p k).f2) ∧ w'.cell? ⟨wr.heap.size, 1, none⟩ = some (.int .i64 (rd_T59 p k).f1) ∧ w'.cell? ⟨w1.heap.size, (rd_T59 p k).f2.toNat, none⟩ = some (.int .i64 (pick4 (doneAt gs hi 0 (p.take k)) (doneAt gs hi 1 (p.take k)) (doneAt gs hi 2 (p.take k)) (doneAt gs hi 3 (p.take k)) (rd_T59 p k).f2)) ∧ w'.cell? ⟨1, 0, none⟩ = some (.func (.func 137) #[] #[]) ∧ w'.cell? ⟨1, 1, none⟩ = some (.func (.func 139) #[] #[]) ∧ w'.cell? ⟨w.heap.size, 1, none⟩ = some (.slice (some ag) gs.length c1) ∧ w'.cell? (ag.add ((rd_T59 p k).f1.toNat * 4)) = some (.int .i64 (rd_T63 gs (rd_T59 p k).f1).f0) ∧ w'.cell? ⟨(ag.add ((rd_T59 p k).f1.toNat * 4)).block, (ag.add ((rd_T59 p k).f1.toNat * 4)).off + 1, none⟩ = some (.int .i64 (rd_T63 gs (rd_T59 p k).f1).f1) ∧ w'.cell? ⟨(ag.add ((rd_T59 p k).f1.toNat * 4)).block, (ag.add ((rd_T59 p k).f1.toNat * 4)).off + 2, none⟩ = some (.int .i64 (rd_T63 gs (rd_T59 p k).f1).f2.f0) ∧ w'.cell? ⟨(ag.add ((rd_T59 p k).f1.toNat * 4)).block, (ag.add ((rd_T59 p k).f1.toNat * 4)).off + 3, none⟩ = some (.int .i64 (rd_T63 gs (rd_T59 p k).f1).f2.f1)) (ds := [17]) (bs 18 0) (by kernel_rfl) rfl rfl ⟨(blk_cell HC.out 2).trans rfl, (blk_cell HC.out 1).trans rfl, (HDD.out.cell (rd_T59 p k).f2 hm0 hm1).1, HGG.out.2.2.1, HGG.out.2.2.2, (blk_cell HXX.out.box 1).trans rfl, F5.out, F6.out, F7.out, F8.out⟩ (fun hHeld => ?_)
        refine with_tabW X_works.tab5 X_works.bits5 (fun HT_ HW_ => ?_)
        generalize (wr.alloc (.cells #[.int .i64 (rd_T59 p k).f0, .int .i64 (rd_T59 p k).f1, .int .i64 (rd_T59 p k).f2] 59)).drew = w5 at HC HDD HXX HRR HGG F5 F6 F7 F8 hHeld ⊢
        refine pu HT_ 0 (some 17) (bs 18 1) ?_
        refine pu HT_ 4 (some 21) (bs 18 17) ?_
        refine pu HT_ 5 (some 22) (bs 18 49) ?_
        refine pu HT_ 7 (some 24) (bs 18 177) ?_
        refine pu HT_ 8 (some 25) (bs 18 433) ?_
        refine pu HT_ 10 (some 27) (bs 18 1457) ?_
        refine tk10 HT_ HW_ hHeld 1 (some 18) (bs 18 1459) ?_
        refine pu HT_ 2 (some 19) (bs 18 1463) ?_
        refine tk10 HT_ HW_ hHeld 3 (some 20) (bs 18 1471) ?_
        refine tk10 HT_ HW_ hHeld 6 (some 23) (bs 18 1535) ?_
        refine tk10 HT_ HW_ hHeld 9 (some 26) (bs 18 2047) ?_
        refine tk10 HT_ HW_ hHeld 11 (some 28) (bs 18 4095) ?_
        refine pu HT_ 12 (some 29) (bs 18 8191) ?_
        refine tk10 HT_ HW_ hHeld 13 (some 30) (bs 18 16383) ?_
        refine on HT_ 14 (some 31) (bs 18 32767) (fun K hK => ?_)
        first
          | refine goesT_ Tryd.func139 (by kernel_rfl) rfl #[.agg #[.int .i64 (rd_T63 gs (rd_T59 p k).f1).f0, .int .i64 (rd_T63 gs (rd_T59 p k).f1).f1, .int .i64 (rd_T63 gs (rd_T59 p k).f1).f2.f0, .int .i64 (rd_T63 gs (rd_T59 p k).f1).f2.f1]] (by rfl) rfl rfl (by rfl) (by (try simp only [List.map_toArray, List.map_cons, List.map_nil]); rfl) ?_
            with_reducible refine (most_calls _ _ _ _ _).mono ?_
          | refine goesT_ Tryd.func137 (by kernel_rfl) rfl #[.agg #[.int .i64 (rd_T63 gs (rd_T59 p k).f1).f0, .int .i64 (rd_T63 gs (rd_T59 p k).f1).f1, .int .i64 (rd_T63 gs (rd_T59 p k).f1).f2.f0, .int .i64 (rd_T63 gs (rd_T59 p k).f1).f2.f1]] (by rfl) rfl rfl (by rfl) (by (try simp only [List.map_toArray, List.map_cons, List.map_nil]); rfl) ?_
            with_reducible refine (least_calls _ _ _ _ _).mono ?_
        rintro e w6 ⟨rfl, hb⟩
        refine ⟨_, rfl, ?_⟩
        replace HC := Aside0.mk ((hb.block _ (Array.getElem?_eq_some_iff.1 HC.out).1).trans HC.out)
        replace HDD := Aside0.mk (show DoneIs _ _ _ _ _ _ from (hb.block _ (Array.getElem?_eq_some_iff.1 HDD.out).1).trans HDD.out)
        replace HRR := Aside0.mk ((hb.block _ (Array.getElem?_eq_some_iff.1 HRR.out).1).trans HRR.out)
        replace HXX := Aside0.mk (HXX.out.step hb)
        replace HGG := Aside0.mk (gv_below HGG.out hb)
        replace F5 := Aside0.mk ((hb.cell (World.block_lt_of_cell? _ _ F5.out)).trans F5.out)
        replace F6 := Aside0.mk ((hb.cell (World.block_lt_of_cell? _ _ F6.out)).trans F6.out)
        replace F7 := Aside0.mk ((hb.cell (World.block_lt_of_cell? _ _ F7.out)).trans F7.out)
        replace F8 := Aside0.mk ((hb.cell (World.block_lt_of_cell? _ _ F8.out)).trans F8.out)
        clear hb
        refine hK.out _ _ ⟨(blk_cell HC.out 2).trans rfl, (blk_cell HC.out 1).trans rfl, (HDD.out.cell (rd_T59 p k).f2 hm0 hm1).1, HGG.out.2.2.1, HGG.out.2.2.2, (blk_cell HXX.out.box 1).trans rfl, F5.out, F6.out, F7.out, F8.out⟩ (fun hHeld => ?_)
        clear hK K
        refine nm 31 ?_
        refine pu HT_ 15 (some 32) (bs 18 65535) ?_
        refine pu HT_ 16 (some 33) (bs 18 131071) ?_
        refine last_ (i := 17) (N := none) (bs 18 262143) rfl rfl (one_of HT_.out (by kernel_rfl)) (by decide) (fun K hK => ?_)
        have hs1 := HDD.out.cell (rd_T59 p k).f2 hm0 hm1
        have hs2 := hs1.1
        have hs3 := hs1.2
        clear hs1
        refine skip_ (w1 := ?_) (by rfl) rfl ?_ ?_
        rotate_left
        · go_simp
          rfl
        refine hK.out _ _ ?_
        clear hK K
        refine done_ (done_of HT_.out (by kernel_rfl)) ?_
        go_wp2
        go_roundw
        case rel =>
          refine ⟨k + 1, by omega, by go_num, ⟨?_⟩, ⟨?_⟩, ⟨?_⟩⟩
          · exact HDD.out.next HO.out HF.out hi hlt _ (by rw [HH.out]; rfl) hm1
          · exact blk_far HRR.out (Nat.ne_of_lt HRl.out) _
          · exact ⟨blk_far HXX.out.box (Nat.ne_of_lt (Nat.lt_of_succ_lt HRl.out)) _, HXX.out.bel.setCell (Nat.le_of_lt (Nat.lt_of_succ_lt HRl.out)) _⟩
        case measure => simp [intOf]; omega
      · obtain rfl : k = p.length := by omega
        have hD := HD.out
        rw [List.take_length] at hD
        have q0 := (blk_cell hD 0).trans rfl
        have q1 := (blk_cell hD 1).trans rfl
        have q2 := (blk_cell hD 2).trans rfl
        have q3 := (blk_cell hD 3).trans rfl
        have r0 := (blk_cell HR'.out 0).trans rfl
        have r1 := (blk_cell HR'.out 1).trans rfl
        have r2 := (blk_cell HR'.out 2).trans rfl
        have r3 := (blk_cell HR'.out 3).trans rfl
        have rf0 := blk_frozen HR'.out 0
        have rf1 := blk_frozen HR'.out 1
        have rf2 := blk_frozen HR'.out 2
        have rf3 := blk_frozen HR'.out 3
        clear hD
        go_wp2
        have hB := below_set (j := 3) (v := .int .i64 (doneAt gs hi 3 p)) (below_set (j := 2) (v := .int .i64 (doneAt gs hi 2 p)) (below_set (j := 1) (v := .int .i64 (doneAt gs hi 1 p)) (below_set (j := 0) (v := .int .i64 (doneAt gs hi 0 p)) HX.out.bel (Nat.le_succ _)) (Nat.le_succ _)) (Nat.le_succ _)) (Nat.le_succ w.heap.size)
        have BF := blk_set (blk_set (blk_set (blk_set HR'.out 0 (.int .i64 (doneAt gs hi 0 p))) 1 (.int .i64 (doneAt gs hi 1 p))) 2 (.int .i64 (doneAt gs hi 2 p))) 3 (.int .i64 (doneAt gs hi 3 p))
        clear r0 r1 r2 r3 rf0 rf1 rf2 rf3 q0 q1 q2 q3
        generalize World.setCell (World.setCell (World.setCell (World.setCell wr _ _) _ _) _ _) _ _ = wz at hB BF ⊢
        have z0 := (blk_cell BF 0).trans rfl
        have z1 := (blk_cell BF 1).trans rfl
        have z2 := (blk_cell BF 2).trans rfl
        have z3 := (blk_cell BF 3).trans rfl
        refine bodyPost_ret (v := .agg #[.int .i64 (doneAt gs hi 0 p), .int .i64 (doneAt gs hi 1 p), .int .i64 (doneAt gs hi 2 p), .int .i64 (doneAt gs hi 3 p)]) (by simp [results, Tryd.results75, go_sem, z0, z1, z2, z3]) rfl ⟨rfl, hB⟩
end Go.Proofs.YtikfghnkbgdbgaaDoor.Q
end
section
namespace Go.Proofs.YtikfghnkbgdbgaaDoor.Q
set_option linter.unusedSimpArgs false
set_option linter.unusedVariables false
open Go.RowKit Go.Proofs.YtikfghnkbgdbgaaDoorW.PrintWords Go.Proofs.YtikfghnkbgdbgaaDoorW.PrintLast Go.Proofs.YtikfghnkbgdbgaaDoorW.PrintMore
theorem askedE_ok {ms : List M} {gs : List G} {n : Int} {p : List Wk} (h : askedE ms gs n p = 0) : okB ms gs n = true ∧ planB ms gs n p = true := by
  unfold askedE at h
  split at h
  · rename_i h1
    split at h
    · exact ⟨h1, by assumption⟩
    · omega
  · omega
theorem asked_any (ms : List M) (gs : List G) (A0 : Option Addr) (c0 : Nat) (A1 : Option Addr) (c1 : Nat) (n : Int) (A2 : Option Addr) (c2 : Nat) (p : List Wk) (w : World) (hr0 : Kd.C k66 w A0 ms.length ms) (hc0 : ms.length ≤ c0) (hr1 : Kd.C k63 w A1 gs.length gs) (hc1 : gs.length ≤ c1)
    (hr2 : Kd.C k59 w A2 p.length p) (hc2 : p.length ≤ c2) (hG : GV w) :
    Calls Tryd.prog 61 #[.agg #[.slice A0 ms.length c0, .slice A1 gs.length c1, .int .i64 n], .slice A2 p.length c2] w fun e w' =>
      ∃ B0 n0 d0 B1 n1 d1 m bm E, e = .returned (.tuple #[.agg #[.slice B0 n0 d0, .slice B1 n1 d1, .int .i64 m, .map bm], .int .i64 E]) ∧ E = askedE ms gs n p ∧
        (E = 0 → ∃ b, (A0 = B0 ∧ ms.length = n0 ∧ c0 = d0) ∧ (A1 = B1 ∧ gs.length = n1 ∧ c1 = d1) ∧ n = m ∧ some b = bm ∧ MapIs w' b (spotsL ms n.toNat) ∧ w.heap.size ≤ b) ∧ Below w.heap.size w w' := by
  cases hok : okB ms gs n with
  | false =>
    refine (asked_bad ms gs A0 c0 A1 c1 n A2 c2 p.length w hr0 hc0 hr1 hc1 hok).mono ?_
    rintro e w' ⟨rfl, hb⟩
    exact ⟨_, _, _, _, _, _, _, _, _, rfl, by simp [askedE, hok], fun h => absurd h (by decide), hb⟩
  | true =>
    cases hq : planB ms gs n p with
    | true =>
      refine (asked_ok ms gs A0 c0 A1 c1 n A2 c2 p w hr0 hc0 hr1 hc1 hr2 hc2 hG hok true hq 0 rfl).mono ?_
      rintro e w' ⟨b, rfl, hm, hl, hb⟩
      exact ⟨_, _, _, _, _, _, _, _, _, rfl, by simp [askedE, hok, hq], fun _ => ⟨b, ⟨rfl, rfl, rfl⟩, ⟨rfl, rfl, rfl⟩, rfl, rfl, hm, hl⟩, hb⟩
    | false =>
      refine (asked_ok ms gs A0 c0 A1 c1 n A2 c2 p w hr0 hc0 hr1 hc1 hr2 hc2 hG hok false hq 41 rfl).mono ?_
      rintro e w' ⟨b, rfl, hm, hl, hb⟩
      exact ⟨_, _, _, _, _, _, _, _, _, rfl, by simp [askedE, hok, hq], fun h => absurd h (by decide), hb⟩
end Go.Proofs.YtikfghnkbgdbgaaDoor.Q
end
section
namespace Go.Proofs.YtikfghnkbgdbgaaDoor.Q
set_option linter.unusedSimpArgs false
set_option linter.unusedVariables false
open Go.RowKit Go.Proofs.YtikfghnkbgdbgaaDoorW.PrintWords Go.Proofs.YtikfghnkbgdbgaaDoorW.PrintLast Go.Proofs.YtikfghnkbgdbgaaDoorW.PrintMore
theorem pick_done (gs : List G) (hi : Bool) (p : List Wk) (m : Int) (h0 : 0 ≤ m) (h4 : m < 4) : pick4 (doneAt gs hi 0 p) (doneAt gs hi 1 p) (doneAt gs hi 2 p) (doneAt gs hi 3 p) m = doneAt gs hi m p := by
  obtain rfl | rfl | rfl | rfl : m = 0 ∨ m = 1 ∨ m = 2 ∨ m = 3 := by omega
  all_goals rfl
set_option maxRecDepth 100000 in
theorem index4 (d0 d1 d2 d3 m : Int) (h0 : 0 ≤ m) (h4 : m < 4) : ∀ w : World, Sem.run Tryd.prog (Instr.index 97 (.agg #[Value.int .i64 d0, .int .i64 d1, .int .i64 d2, .int .i64 d3]) (.int .i64 m)) w = .ok (.int .i64 (pick4 d0 d1 d2 d3 m)) w := by
  intro w
  obtain rfl | rfl | rfl | rfl : m = 0 ∨ m = 1 ∨ m = 2 ∨ m = 3 := by omega
  all_goals
    go_simp
    rfl
def X_Done : Nat := 0
def X_Done.T6 : Bool × List (List Nat × List Nat) := (true, [([], []), ([], []), ([0, 1], [0, 1]), ([], []), ([2, 3], [2, 3]), ([], []), ([], []), ([5, 6, 2], [5, 6]), ([], []), ([7, 8], [7, 8]), ([4, 9], [4, 9]), ([10, 7, 0, 1, 2, 3, 4, 5, 6, 7, 8, 9, 10], [10]), ([11, 0, 1, 2, 3, 4, 5, 6, 7, 8, 9, 10, 11], [])])
def X_Done.B6 : List Nat := [0, 0, 3, 0, 15, 0, 0, 103, 0, 487, 1023, 2047, 4095]
theorem X_Done.tab6 : rtab .any (opsOf Tryd.f25 6) = X_Done.T6 := by kernel_rfl
theorem X_Done.bits6 : waitsOk X_Done.T6.2 X_Done.B6 = true := by kernel_rfl
set_option maxRecDepth 100000 in
set_option maxHeartbeats 2000000 in
theorem gang_Done.calls (A0_0 : Option Addr) (c0_0 : Nat) (l0_0 : List (M)) (A0_1 : Option Addr) (c0_1 : Nat) (l0_1 : List (G)) (a0_2 : Int) (A1 : Option Addr) (c1 : Nat) (l1 : List (Wk)) (a2 : Int) (r1 : Int) (r2 : Int) (r3 : Int) (w : World) (hr0_0 : Kd.C k66 w A0_0 l0_0.length l0_0) (hc0_0 : l0_0.length ≤ c0_0) (hr0_1 : Kd.C k63 w A0_1 l0_1.length l0_1) (hc0_1 : l0_1.length ≤ c0_1) (hr1 : Kd.C k59 w A1 l1.length l1) (hc1 : l1.length ≤ c1) (hG : GV w) (h : gang_Done.f l0_0 l0_1 a0_2 l1 a2 = some (r1, r2, r3)) :
    Calls Tryd.prog 25 #[.agg #[.slice A0_0 l0_0.length c0_0, .slice A0_1 l0_1.length c0_1, .int .i64 a0_2], .slice A1 l1.length c1, .int .i64 a2] w fun e w' => e = .returned (.tuple #[.agg #[.int .i64 r1, .int .i64 r2], .int .i64 r3]) ∧ Below w.heap.size w w' := by
  have HR0 := Aside0.mk hr0_0
  have HR1 := Aside0.mk hr0_1
  have HR2 := Aside0.mk hr1
  have HG0 := Aside0.mk hG
  have H := Aside0.mk h
  have hB := ((Below.refl w.heap.size w).alloc (Nat.le_refl _) (.cells #[.slice A0_0 l0_0.length c0_0, .slice A0_1 l0_1.length c0_1, .int .i64 a0_2] 25)).alloc (by simp) (.cells #[.int .i64 0, .int .i64 0] 40)
  have HB := Aside0.mk hB
  have hx := (Below.heap_alloc (w.alloc (.cells #[.slice A0_0 l0_0.length c0_0, .slice A0_1 l0_1.length c0_1, .int .i64 a0_2] 25)) (.cells #[.int .i64 0, .int .i64 0] 40) w.heap.size (by simp)).trans (World.alloc_heap_new w _)
  have HX := Aside0.mk hx
  have hy := World.alloc_heap_new (w.alloc (.cells #[.slice A0_0 l0_0.length c0_0, .slice A0_1 l0_1.length c0_1, .int .i64 a0_2] 25)) (.cells #[.int .i64 0, .int .i64 0] 40)
  rw [World.size_alloc] at hy
  have HY := Aside0.mk hy
  clear hr0_0 hr0_1 hr1 hG hB h hx hy
  go_enter Tryd.func25, Tryd.ntmps25
  go_wp2_with (fail)
  refine (asked_any l0_0 l0_1 A0_0 c0_0 A0_1 c0_1 a0_2 A1 c1 l1 _ (Kd.C_below HR0.out HB.out) hc0_0 (Kd.C_below HR1.out HB.out) hc0_1 (Kd.C_below HR2.out HB.out) hc1 (gv_below HG0.out HB.out)).mono ?_
  rintro e w1 ⟨B0, n0, d0, B1, n1, d1, m, bm, E, rfl, hE, hs, hb⟩
  have HB1 := Aside0.mk (below_then HB.out HB.out.size hb)
  have HX1 := Aside0.mk ((hb.block _ (by simp; omega)).trans HX.out)
  have HY1 := Aside0.mk ((hb.block _ (by simp)).trans HY.out)
  clear hb
  by_cases hE0 : E = 0
  · obtain ⟨b, ⟨rfl, rfl, rfl⟩, ⟨rfl, rfl, rfl⟩, rfl, rfl, hm, hl⟩ := hs hE0
    have HM := Aside0.mk hm
    subst hE0
    have HE := Aside0.mk hE
    clear hm hl hs hE
    have hx0 := (blk_cell HX1.out 0).trans rfl
    have hok := (askedE_ok HE.out.symm).1
    have hbd := okB_bounds hok
    have hm4 := hbd.1.2
    have hg2 := hbd.2.1.2
    have hn4 : a0_2 ≤ 4 := by omega
    have hxl := (Array.getElem?_eq_some_iff.1 HX1.out).1
    have hyl := (Array.getElem?_eq_some_iff.1 HY1.out).1
    clear hok hbd
    go_wp2_with (fail)
    cases hw : within a2 0 ((l0_0.length : Int) - 1) with
    | false =>
      have HW := Aside0.mk hw
      have h41 : some ((0 : Int), (0 : Int), (41 : Int)) = some (r1, r2, r3) := by rw [← H.out]; unfold gang_Done.f; rw [if_pos HE.out.symm, if_neg (by rw [HW.out]; simp)]
      obtain ⟨rfl, rfl, rfl⟩ : 0 = r1 ∧ 0 = r2 ∧ 41 = r3 := by simpa using h41
      refine (within_calls _ _ _ false hw _).mono ?_
      clear hw h41
      rintro e w2 ⟨rfl, hb⟩
      have HB2 := Aside0.mk (below_then (HB1.out.alloc HB1.out.size _) (by simp; have := HB1.out.size; omega) hb)
      have HY2 := Aside0.mk ((hb.block (w.heap.size + 1) (by simp; omega)).trans ((Below.heap_alloc _ _ _ hyl).trans HY1.out))
      clear hb hx0 hxl hyl
      have hy0 := (blk_cell HY2.out 0).trans rfl
      have hy1 := (blk_cell HY2.out 1).trans rfl
      have hy2 := blk_frozen HY2.out 0
      have hy3 := blk_frozen HY2.out 1
      go_wp2
      have hB := below_set (j := 1) (v := .int .i64 0) (below_set (j := 0) (v := .int .i64 0) HB2.out (Nat.le_succ _)) (Nat.le_succ w.heap.size)
      have BF := blk_set (blk_set HY2.out 0 (.int .i64 0)) 1 (.int .i64 0)
      clear hy0 hy1 hy2 hy3
      generalize World.setCell (World.setCell w2 _ _) _ _ = wz at hB BF ⊢
      have z0 := (blk_cell BF 0).trans rfl
      have z1 := (blk_cell BF 1).trans rfl
      exact bodyPost_ret (v := .tuple #[.agg #[.int .i64 0, .int .i64 0], .int .i64 41]) (by simp [results, Tryd.results25, go_sem, z0, z1]) rfl ⟨rfl, hB⟩
    | true =>
      have HW := Aside0.mk hw
      have h0 : some (doneAt l0_1 false a2 l1, doneAt l0_1 true a2 l1, (0 : Int)) = some (r1, r2, r3) := by rw [← H.out]; unfold gang_Done.f; rw [if_pos HE.out.symm, if_pos HW.out]
      obtain ⟨rfl, rfl, rfl⟩ : doneAt l0_1 false a2 l1 = r1 ∧ doneAt l0_1 true a2 l1 = r2 ∧ 0 = r3 := by simpa using h0
      have ha : 0 ≤ a2 ∧ a2 < 4 := by simp only [within, Bool.and_eq_true, decide_eq_true_eq] at hw; omega
      have ha0 := ha.1
      have ha4 := ha.2
      refine (within_calls _ _ _ true hw _).mono ?_
      clear hw h0 ha
      rintro e w2 ⟨rfl, hb⟩
      have HB2 := Aside0.mk (below_then (HB1.out.alloc HB1.out.size _) (by simp; have := HB1.out.size; omega) hb)
      have HY2 := Aside0.mk ((hb.block (w.heap.size + 1) (by simp; omega)).trans ((Below.heap_alloc _ _ _ hyl).trans HY1.out))
      have HZ2 := Aside0.mk (BoxAt.mk ((hb.block w1.heap.size (by simp)).trans (World.alloc_heap_new w1 _)) HB2.out)
      have HM2 := Aside0.mk ((HM.out.below ((Below.refl _ w1).alloc (Nat.le_refl _) _)).below hb)
      clear hb hx0 hxl hyl
      go_wp2_with (fail)
      replace HZ2 := Aside0.mk (HZ2.out.step (Below.refl _ w2).drew)
      replace HY2 := Aside0.mk (show w2.drew.heap[w.heap.size + 1]? = _ from HY2.out)
      clear HB2 HM2
      have e0 := index4 (doneAt l0_1 false 0 l1) (doneAt l0_1 false 1 l1) (doneAt l0_1 false 2 l1) (doneAt l0_1 false 3 l1) a2 ha0 ha4
      have e1 := index4 (doneAt l0_1 true 0 l1) (doneAt l0_1 true 1 l1) (doneAt l0_1 true 2 l1) (doneAt l0_1 true 3 l1) a2 ha0 ha4
      rw [pick_done _ _ _ _ ha0 ha4] at e0 e1
      refine start_ (n := 13) (S := fun w' => w'.cell? ⟨w1.heap.size, 0, none⟩ = some (.slice A0_0 l0_0.length c0_0) ∧ w'.cell? ⟨w1.heap.size, 1, none⟩ = some (.slice A0_1 l0_1.length c0_1) ∧ w'.cell? ⟨w1.heap.size, 2, none⟩ = some (.int .i64 a0_2) ∧ w'.cell? ⟨w1.heap.size, 3, none⟩ = some (.map (some b))) (ds := [11]) (bs 13 0) (by kernel_rfl) rfl rfl ⟨(blk_cell HZ2.out.box 0).trans rfl, (blk_cell HZ2.out.box 1).trans rfl, (blk_cell HZ2.out.box 2).trans rfl, (blk_cell HZ2.out.box 3).trans rfl⟩ (fun hHeld => ?_)
      refine with_tabW X_Done.tab6 X_Done.bits6 (fun HT_ HW_ => ?_)
      generalize w2.drew = w3 at HY2 HZ2 hHeld ⊢
      refine pu HT_ 1 (some 29) (bs 13 2) ?_
      refine pu HT_ 3 (some 31) (bs 13 10) ?_
      refine pu HT_ 6 (some 34) (bs 13 74) ?_
      refine pu HT_ 8 (some 36) (bs 13 330) ?_
      refine tk4 HT_ HW_ hHeld 0 (some 28) (bs 13 331) ?_
      refine tk4 HT_ HW_ hHeld 5 (some 33) (bs 13 363) ?_
      refine on HT_ 2 (some 30) (bs 13 367) (fun K hK => ?_)
      refine goes_ Tryd.func75 (by kernel_rfl) rfl #[.agg #[.slice A0_0 l0_0.length c0_0, .slice A0_1 l0_1.length c0_1, .int .i64 a0_2, .map (some b)], .slice A1 l1.length c1, .int .i64 0] (by rfl) rfl rfl (by (try simp only [List.map_toArray, List.map_cons, List.map_nil]); first | done | rfl) ?_
      with_reducible refine (works_calls l0_0 l0_1 A0_0 c0_0 A0_1 c0_1 a0_2 b A1 c1 l1 _ (Kd.C_below HR1.out HZ2.out.bel) (Kd.C_below HR2.out HZ2.out.bel) (gv_below HG0.out HZ2.out.bel) (askedE_ok HE.out.symm).1 (plan_fair (askedE_ok HE.out.symm).2 hg2 hn4) 0 false rfl).mono ?_
      rintro e w4 ⟨rfl, hb⟩
      refine ⟨_, rfl, ?_⟩
      replace HY2 := Aside0.mk ((hb.block _ (Array.getElem?_eq_some_iff.1 HY2.out).1).trans HY2.out)
      replace HZ2 := Aside0.mk (HZ2.out.step hb)
      clear hb
      refine hK.out _ _ ⟨(blk_cell HZ2.out.box 0).trans rfl, (blk_cell HZ2.out.box 1).trans rfl, (blk_cell HZ2.out.box 2).trans rfl, (blk_cell HZ2.out.box 3).trans rfl⟩ (fun hHeld => ?_)
      clear hK K
      refine nm 30 ?_
      refine tk4 HT_ HW_ hHeld 4 (some 32) (bs 13 383) ?_
      refine on HT_ 7 (some 35) (bs 13 511) (fun K hK => ?_)
      refine goes_ Tryd.func75 (by kernel_rfl) rfl #[.agg #[.slice A0_0 l0_0.length c0_0, .slice A0_1 l0_1.length c0_1, .int .i64 a0_2, .map (some b)], .slice A1 l1.length c1, .int .i64 1] (by rfl) rfl rfl (by (try simp only [List.map_toArray, List.map_cons, List.map_nil]); first | done | rfl) ?_
      with_reducible refine (works_calls l0_0 l0_1 A0_0 c0_0 A0_1 c0_1 a0_2 b A1 c1 l1 _ (Kd.C_below HR1.out HZ2.out.bel) (Kd.C_below HR2.out HZ2.out.bel) (gv_below HG0.out HZ2.out.bel) (askedE_ok HE.out.symm).1 (plan_fair (askedE_ok HE.out.symm).2 hg2 hn4) 1 true rfl).mono ?_
      rintro e w4 ⟨rfl, hb⟩
      refine ⟨_, rfl, ?_⟩
      replace HY2 := Aside0.mk ((hb.block _ (Array.getElem?_eq_some_iff.1 HY2.out).1).trans HY2.out)
      replace HZ2 := Aside0.mk (HZ2.out.step hb)
      clear hb
      refine hK.out _ _ ⟨(blk_cell HZ2.out.box 0).trans rfl, (blk_cell HZ2.out.box 1).trans rfl, (blk_cell HZ2.out.box 2).trans rfl, (blk_cell HZ2.out.box 3).trans rfl⟩ (fun hHeld => ?_)
      clear hK K
      refine nm 35 ?_
      refine tk4 HT_ HW_ hHeld 9 (some 37) (bs 13 1023) ?_
      refine pu HT_ 10 (some 38) (bs 13 2047) ?_
      refine last_ (i := 11) (N := none) (bs 13 4095) rfl rfl (one_of HT_.out (by kernel_rfl)) (by decide) (fun K hK => ?_)
      have hy0 := (blk_cell HY2.out 0).trans rfl
      have hy1 := (blk_cell HY2.out 1).trans rfl
      have hy2 := blk_frozen HY2.out 0
      have hy3 := blk_frozen HY2.out 1
      refine skip_ (w1 := ?_) (by rfl) rfl ?_ ?_
      rotate_left
      · go_simp
        rfl
      refine hK.out _ _ ?_
      clear hK K
      refine pu HT_ 12 (some 7) (bs 13 8191) ?_
      refine done_ (done_of HT_.out (by kernel_rfl)) ?_
      clear hy0 hy1 hy2 hy3 e0 e1 hHeld
      have hB := below_set (j := 1) (v := .int .i64 (doneAt l0_1 true a2 l1)) (below_set (j := 0) (v := .int .i64 (doneAt l0_1 false a2 l1)) HZ2.out.bel (Nat.le_succ _)) (Nat.le_succ w.heap.size)
      have BF := blk_set (blk_set HY2.out 0 (.int .i64 (doneAt l0_1 false a2 l1))) 1 (.int .i64 (doneAt l0_1 true a2 l1))
      go_wp2
      generalize World.setCell (World.setCell w4 _ _) _ _ = wz at hB BF ⊢
      have z0 := (blk_cell BF 0).trans rfl
      have z1 := (blk_cell BF 1).trans rfl
      exact bodyPost_ret (v := .tuple #[.agg #[.int .i64 (doneAt l0_1 false a2 l1), .int .i64 (doneAt l0_1 true a2 l1)], .int .i64 0]) (by simp [results, Tryd.results25, go_sem, z0, z1]) rfl ⟨rfl, hB⟩
  · have HE := Aside0.mk hE
    have hE1 : (E == 0) = false := beq_eq_false_iff_ne.2 hE0
    have hE2 : (E != 0) = true := bne_iff_ne.2 hE0
    have HE0 := Aside0.mk hE0
    have h41 : some ((0 : Int), (0 : Int), E) = some (r1, r2, r3) := by rw [← H.out]; unfold gang_Done.f; rw [if_neg (by rw [← hE]; exact hE0), ← hE]
    obtain ⟨rfl, rfl, rfl⟩ : 0 = r1 ∧ 0 = r2 ∧ E = r3 := by simpa using h41
    clear hE hs hE0 h41
    have hyl := (Array.getElem?_eq_some_iff.1 HY1.out).1
    have hy0 := (blk_cell HY1.out 0).trans rfl
    have hy1 := (blk_cell HY1.out 1).trans rfl
    have hy2 := blk_frozen HY1.out 0
    have hy3 := blk_frozen HY1.out 1
    go_wp2
    have hB := (below_set (j := 1) (v := .int .i64 0) (below_set (j := 0) (v := .int .i64 0) HB1.out (Nat.le_succ _)) (Nat.le_succ w.heap.size))
    have BF := blk_set (blk_set HY1.out 0 (.int .i64 0)) 1 (.int .i64 0)
    clear hy0 hy1 hy2 hy3 hyl
    generalize World.setCell (World.setCell w1 _ _) _ _ = wz at hB BF ⊢
    have z0 := (blk_cell (blk_alloc BF (.cells #[.slice B0 n0 d0, .slice B1 n1 d1, .int .i64 m, .map bm] 86)) 0).trans rfl
    have z1 := (blk_cell (blk_alloc BF (.cells #[.slice B0 n0 d0, .slice B1 n1 d1, .int .i64 m, .map bm] 86)) 1).trans rfl
    exact bodyPost_ret (v := .tuple #[.agg #[.int .i64 0, .int .i64 0], .int .i64 E]) (by simp [results, Tryd.results25, go_sem, z0, z1]) rfl ⟨rfl, hB.alloc hB.size _⟩
end Go.Proofs.YtikfghnkbgdbgaaDoor.Q
end
